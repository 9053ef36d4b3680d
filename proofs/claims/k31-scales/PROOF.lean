import PyProof.Rows.All
import Wide.All
import OpenK.AllK
import Wide.FinOn
import HandS.ForMost
import HandS.Exc
import HandS.Wide
import HandS.IsInst
import HandS.Conv
import HandS.RevRange
import HandS.More
import HandS.TryOnly
import HandS.ExcOwn
import HandS.ExcIs
import HandS.ExcField
import HandS.ExcInit
import HandS.WordsExc
import HandS.ClsMeth
import PySem.Challenge.RW_swapbook_k31_scales
set_option Elab.async false
set_option linter.all false
set_option maxRecDepth 100000
set_option maxHeartbeats 4000000
/-! # A typed layer over the hand layer: values of Python told as Lean data, heaps hidden -/
namespace G
open PySem L2

/-- what is fixed through a proof: the written part, the classes' addresses -/
class Ctx where
  K : PySem.W.Frag
  cls : Nat → Addr

theorem same_tup {K : PySem.W.Frag} {H H' : Hp} {a : Addr} {xs : List V} (e : Same H H') (h : SqT K H a xs) : SqT K H' a xs := by
  rcases h with h | h
  · left
    rcases h with h | ⟨o, h⟩
    · exact .inl (e _ _ h)
    · exact .inr ⟨o, e _ _ h⟩
  · exact .inr h

section
variable [Γ : Ctx]
/-- Lean data as Python data: what value, in which heap, tells it -/
class Enc (α : Type) where
  rep : Hp → V → α → Prop
  mono : ∀ {H H' : Hp} {v : V} {a : α}, Same H H' → rep H v a → rep H' v a
/-- what value tells the data -/
abbrev rep {α : Type} [Enc α] : Hp → V → α → Prop := Enc.rep
/-- data that no heap bears -/
class Scal (α : Type) where
  toV : α → V
instance (priority := high) encScal {α : Type} [Scal α] : Enc α where
  rep := fun _ v a => v = Scal.toV a
  mono := fun _ h => h
instance : Scal Int := ⟨V.int⟩
instance : Scal Bool := ⟨V.bl⟩
instance : Scal Str := ⟨V.str⟩
instance : Scal Unit := ⟨fun _ => V.non⟩

theorem paired_mono {α β : Type} {F F' : α → β → Prop} (h : ∀ a b, F a b → F' a b) : ∀ {xs : List α} {ys : List β}, Paired F xs ys → Paired F' xs ys
  | _, _, .nil => .nil
  | _, _, .cons r t => .cons (h _ _ r) (paired_mono h t)

instance encList {α : Type} [Enc α] : Enc (List α) where
  rep := fun H v l => ∃ p xs, v = .ref p ∧ SqL Γ.K H p xs ∧ Paired (rep H) xs l
  mono := fun e ⟨p, xs, h1, h2, h3⟩ => ⟨p, xs, h1, e.seq h2, paired_mono (fun _ _ r => Enc.mono e r) h3⟩
instance encPair {α β : Type} [Enc α] [Enc β] : Enc (α × β) where
  rep := fun H v c => ∃ p x y, v = .ref p ∧ SqT Γ.K H p [x, y] ∧ rep H x c.1 ∧ rep H y c.2
  mono := fun e ⟨p, x, y, h1, h2, h3, h4⟩ => ⟨p, x, y, h1, same_tup e h2, Enc.mono e h3, Enc.mono e h4⟩
/-- tuples of three -/
structure T3 (α β γ : Type) where
  a : α
  b : β
  c : γ
instance encT3 {α β γ : Type} [Enc α] [Enc β] [Enc γ] : Enc (T3 α β γ) where
  rep := fun H v c => ∃ p x y z, v = .ref p ∧ SqT Γ.K H p [x, y, z] ∧ rep H x c.a ∧ rep H y c.b ∧ rep H z c.c
  mono := fun e ⟨p, x, y, z, h1, h2, h3, h4, h5⟩ => ⟨p, x, y, z, h1, same_tup e h2, Enc.mono e h3, Enc.mono e h4, Enc.mono e h5⟩
/-- None, or a thing that is never None -/
class NotNone (α : Type) [Enc α] : Prop where
  nn : ∀ {H : Hp} {v : V} {a : α}, rep H v a → v ≠ .non
instance encOpt {α : Type} [Enc α] : Enc (Option α) where
  rep := fun H v o => match o with
    | none => v = .non
    | some a => rep H v a
  mono := fun {H H' v a} e h => by
    cases a with
    | none => exact h
    | some a => exact Enc.mono e h
instance : NotNone Int := ⟨fun h => by cases h; exact V.noConfusion⟩
instance : NotNone Bool := ⟨fun h => by cases h; exact V.noConfusion⟩
instance : NotNone Str := ⟨fun h => by cases h; exact V.noConfusion⟩
instance {α : Type} [Enc α] : NotNone (List α) := ⟨fun ⟨_, _, h, _⟩ => by rw [h]; exact V.noConfusion⟩
instance {α β : Type} [Enc α] [Enc β] : NotNone (α × β) := ⟨fun ⟨_, _, _, h, _⟩ => by rw [h]; exact V.noConfusion⟩

/-- heaps grow: S, the part that stays for good, within H -/
structure Grow (S H S' H' : Hp) : Prop where
  s : Same S S'
  h : Same H H'
  i : Same S' H'
  n : ∀ q, S' q ≠ none → S q ≠ none ∨ H q = none
theorem Grow.refl {S H : Hp} (i : Same S H) : Grow S H S H := ⟨Same.refl _, Same.refl _, i, fun _ h => .inl h⟩
theorem Grow.trans {S H S1 H1 S2 H2 : Hp} (a : Grow S H S1 H1) (b : Grow S1 H1 S2 H2) : Grow S H S2 H2 :=
  ⟨a.s.trans b.s, a.h.trans b.h, b.i, fun q h => by
    rcases b.n q h with h | h
    · exact a.n q h
    · exact .inr (a.h.free h)⟩
theorem Grow.off {S H S' H' : Hp} (g : Grow S H S' H') {q : Addr} {o : HO} (h1 : S q = none) (h2 : H q = some o) : S' q = none := by
  cases e : S' q with
  | none => rfl
  | some u =>
    rcases g.n q (by rw [e]; simp) with h | h
    · exact absurd h1 h
    · rw [h2] at h; cases h

/-- two heaps as one, the first one ahead -/
def un (B S : Hp) : Hp := fun q => match B q with
  | some o => some o
  | none => S q
theorem un_l {B S : Hp} : Same B (un B S) := fun q o h => by
  show (match B q with | some o => some o | none => S q) = some o
  rw [h]
theorem un_mono {B S S' : Hp} (h : Same S S') : Same (un B S) (un B S') := fun q o e => by
  have e' : (match B q with | some o => some o | none => S q) = some o := e
  show (match B q with | some o => some o | none => S' q) = some o
  cases c : B q with
  | some u => rw [c] at e'; exact e'
  | none => rw [c] at e'; exact h _ _ e'
theorem un_in {B S H : Hp} (h : Same B H) (h' : Same S H) : Same (un B S) H := fun q o e => by
  have e' : (match B q with | some o => some o | none => S q) = some o := e
  cases c : B q with
  | some u =>
    rw [c] at e'
    have e2 : some u = some o := e'
    cases e2
    exact h _ _ c
  | none => rw [c] at e'; exact h' _ _ e'
theorem un_r {B S H : Hp} (h : Same B H) (h' : Same S H) : Same S (un B S) := fun q o e => by
  show (match B q with | some o => some o | none => S q) = some o
  cases c : B q with
  | some u =>
    have e1 := h _ _ c
    rw [h' _ _ e] at e1
    exact e1.symm
  | none => exact e
/-- new and for good; for good; as it stands now -/
inductive Md
  | nw
  | fg
  | nu
def hm (m : Md) (B S H : Hp) : Hp := match m with
  | .nw => S
  | .fg => un B S
  | .nu => H
theorem hm_in {m : Md} {B S H : Hp} (h : Same B H) (h' : Same S H) : Same (hm m B S H) H := by
  cases m with
  | nw => exact h'
  | fg => exact un_in h h'
  | nu => exact Same.refl _
theorem hm_g {m : Md} {B S S' H H' : Hp} (h : Same S S') (h' : Same H H') : Same (hm m B S H) (hm m B S' H') := by
  cases m with
  | nw => exact h
  | fg => exact un_mono h
  | nu => exact h'
/-- what is told of a slot: F its own objects (written by nobody else) -/
structure Sl where
  P : Hp → Hp → Hp → V → List Addr → Prop
  mono : ∀ {B S S' H H' : Hp} {v : V} {F : List Addr}, Same S S' → Same H H' → P B S H v F → P B S' H' v F
/-- data -/
def tl (m : Md) {α : Type} [Enc α] (a : α) : Sl := ⟨fun B S H v F => rep (hm m B S H) v a ∧ F = [], fun e e' h => ⟨Enc.mono (hm_g e e') h.1, h.2⟩⟩
/-- new data that stay for good; data that stay for good; data as they stand now -/
abbrev sh {α : Type} [Enc α] (a : α) : Sl := tl .nw a
abbrev st {α : Type} [Enc α] (a : α) : Sl := tl .fg a
abbrev bo {α : Type} [Enc α] (a : α) : Sl := tl .nu a
/-- a list of one's own, its items new or not, for good -/
def own (n : Bool) {α : Type} [Enc α] (l : List α) : Sl :=
  ⟨fun B S H v F => ∃ p xs, v = .ref p ∧ F = [p] ∧ H p = some (.lst xs) ∧ Paired (rep (if n = true then S else un B S)) xs l,
   fun {B S S' H H' v F} e e' ⟨p, xs, h1, h2, h3, h4⟩ => ⟨p, xs, h1, h2, e' _ _ h3, paired_mono (fun _ _ r => Enc.mono (by cases n; exact un_mono e; exact e) r) h4⟩⟩
abbrev ow {α : Type} [Enc α] (l : List α) : Sl := own true l
abbrev os {α : Type} [Enc α] (l : List α) : Sl := own false l
def nmd (n : Bool) : Md := if n = true then .nw else .fg
abbrev En := List (Option Sl)
/-- the slots hold what is told. B: what of the entry's heap H0 stays for good; S: what is new and stays for good -/
structure Ev (B H0 : Hp) (ρ : En) (S H : Hp) (σ : St) (Fs : Nat → List Addr) : Prop where
  bh : Same B H0
  hh : Same H0 H
  i : Same S H
  nw : ∀ q, S q ≠ none → H0 q = none
  len : ρ.length = σ.length
  sl : ∀ (i : Nat) (s : Sl), ρ[i]? = some (some s) → ∃ v : V, σ[i]? = some (some v) ∧ s.P B S H v (Fs i)
  fr : ∀ (i : Nat) (q : Addr), q ∈ Fs i → S q = none ∧ H0 q = none ∧ ∃ o, H q = some o
  ap : ∀ (i j : Nat) (q : Addr), q ∈ Fs i → q ∈ Fs j → i = j
theorem Ev.b {B H0 : Hp} {ρ : En} {S H : Hp} {σ : St} {Fs : Nat → List Addr} (e : Ev B H0 ρ S H σ Fs) : Same B H := e.bh.trans e.hh
theorem Ev.grow {B H0 : Hp} {ρ : En} {S H S' H' : Hp} {σ : St} {Fs : Nat → List Addr} (e : Ev B H0 ρ S H σ Fs) (g : Grow S H S' H') : Ev B H0 ρ S' H' σ Fs :=
  ⟨e.bh, e.hh.trans g.h, g.i, fun q hq => (g.n q hq).elim (e.nw q) fun h => e.hh.free h, e.len, fun i s h => let ⟨v, h1, h2⟩ := e.sl i s h; ⟨v, h1, s.mono g.s g.h h2⟩,
   fun i q h => let ⟨h1, h2, o, h3⟩ := e.fr i q h; ⟨g.off h1 h3, h2, o, g.h _ _ h3⟩, e.ap⟩
theorem set_get {α : Type} {l : List α} {i j : Nat} {a x : α} (h : (l.set i a)[j]? = some x) : (j = i ∧ x = a) ∨ (j ≠ i ∧ l[j]? = some x) := by
  by_cases c : j = i
  · subst c
    left
    refine ⟨rfl, ?_⟩
    by_cases hl : j < l.length
    · rw [List.getElem?_set_self hl] at h
      exact (Option.some.inj h).symm
    · rw [List.getElem?_eq_none (by rw [List.length_set]; omega)] at h
      cases h
  · right
    rw [List.getElem?_set_ne (Ne.symm c)] at h
    exact ⟨c, h⟩
/-- a slot is stored -/
theorem Ev.put {B H0 : Hp} {ρ : En} {S H S' H' : Hp} {σ : St} {Fs : Nat → List Addr} {i : Nat} {s : Sl} {v : V} {F : List Addr} (e : Ev B H0 ρ S H σ Fs) (g : Grow S H S' H') (hi : i < ρ.length) (p : s.P B S' H' v F)
    (hF : ∀ q ∈ F, H q = none ∧ S' q = none) (hA : ∀ q ∈ F, ∃ o, H' q = some o) : Ev B H0 (ρ.set i (some s)) S' H' (σ.set i (some v)) (fun j => if j = i then F else Fs j) := by
  have e' := e.grow g
  refine ⟨e'.bh, e'.hh, e'.i, e'.nw, by rw [List.length_set, List.length_set]; exact e.len, fun j s' h => ?_, fun j q h => ?_, fun j k q h1 h2 => ?_⟩
  · rcases set_get h with ⟨rfl, hs⟩ | ⟨hj, h⟩
    · have hs' : s' = s := Option.some.inj hs
      subst hs'
      refine ⟨v, List.getElem?_set_self (by rw [← e.len]; exact hi), ?_⟩
      rw [if_pos rfl]
      exact p
    · obtain ⟨u, h1, h2⟩ := e'.sl j s' h
      refine ⟨u, by rw [List.getElem?_set_ne (Ne.symm hj)]; exact h1, ?_⟩
      rw [if_neg hj]
      exact h2
  · by_cases c : j = i
    · rw [if_pos c] at h
      exact ⟨(hF q h).2, e.hh.free (hF q h).1, hA q h⟩
    · rw [if_neg c] at h
      exact e'.fr j q h
  · by_cases c : j = i
    · rw [if_pos c] at h1
      by_cases c2 : k = i
      · rw [c, c2]
      · rw [if_neg c2] at h2
        obtain ⟨_, _, o, ho⟩ := e.fr k q h2
        rw [(hF q h1).1] at ho
        cases ho
    · rw [if_neg c] at h1
      by_cases c2 : k = i
      · rw [if_pos c2] at h2
        obtain ⟨_, _, o, ho⟩ := e.fr j q h1
        rw [(hF q h2).1] at ho
        cases ho
      · rw [if_neg c2] at h2
        exact e.ap j k q h1 h2
/-- slots are forgotten -/
theorem Ev.drop {B H0 : Hp} {ρ : En} {S H : Hp} {σ : St} {Fs : Nat → List Addr} (e : Ev B H0 ρ S H σ Fs) (i : Nat) : Ev B H0 (ρ.set i none) S H σ Fs := by
  refine ⟨e.bh, e.hh, e.i, e.nw, by rw [List.length_set]; exact e.len, fun j s h => ?_, e.fr, e.ap⟩
  rcases set_get h with ⟨_, hs⟩ | ⟨_, hs⟩
  · cases hs
  · exact e.sl j s hs
/-- every owned object of s stands -/
def Sl.Al (s : Sl) : Prop := ∀ {B S H : Hp} {v : V} {F : List Addr}, s.P B S H v F → ∀ q ∈ F, ∃ o, H q = some o
theorem tl_al {m : Md} {α : Type} [Enc α] {a : α} : (tl m a).Al := fun h q hq => by rw [h.2] at hq; cases hq
theorem own_al {n : Bool} {α : Type} [Enc α] {l : List α} : (own n l).Al := fun ⟨p, xs, _, h2, h3, _⟩ q hq => by
  rw [h2] at hq
  cases List.mem_singleton.mp hq
  exact ⟨_, h3⟩

/-! ### expressions -/
/-- the reading t tells r -/
def DR (ρ : En) (t : TE) (r : Sl) : Prop := ∀ (B H0 S H : Hp) (σ : St) (Fs : Nat → List Addr) (Q : VK), Ev B H0 ρ S H σ Fs →
  (∀ v S' H' F, Grow S H S' H' → r.P B S' H' v F → (∀ q ∈ F, H q = none ∧ S' q = none) → Q v H') → t σ H Q
/-- .. a bool that a test makes -/
def DT (ρ : En) (t : TT) (b : Bool) : Prop := ∀ (B H0 S H : Hp) (σ : St) (Fs : Nat → List Addr) (Q : Bool → Hp → Prop), Ev B H0 ρ S H σ Fs →
  (∀ S' H', Grow S H S' H' → Q b H') → t σ H Q
/-- arguments -/
def DA (ρ : En) (t : TA) (rs : List Sl) : Prop := ∀ (B H0 S H : Hp) (σ : St) (Fs : Nat → List Addr) (Q : List V → Hp → Prop), Ev B H0 ρ S H σ Fs →
  (∀ vs S' H', Grow S H S' H' → Paired (fun (s : Sl) v => s.P B S' H' v []) rs vs → Q vs H') → t σ H Q

variable {ρ : En} {α β γ : Type} {m m' : Md} {n : Bool}
theorem dr_var [Enc α] {i : Nat} {a : α} (h : ρ[i]? = some (some (tl m a))) : DR ρ (tVar i) (tl m a) := fun B H0 S H σ Fs Q e k => by
  obtain ⟨v, h1, h2⟩ := e.sl i _ h
  exact ⟨v, h1, k v S H [] (Grow.refl e.i) ⟨h2.1, rfl⟩ (fun q h => nomatch h)⟩
theorem own_in {B S H : Hp} (h : Same B H) (h' : Same S H) : Same (if n = true then S else un B S) H := by
  cases n with
  | true => exact h'
  | false => exact un_in h h'
theorem own_bo [Enc α] {l : List α} {B S H : Hp} {v : V} {F : List Addr} (h : Same B H) (g : Same S H) (p : (own n l).P B S H v F) : (bo l).P B S H v [] := by
  obtain ⟨p, xs, h1, h2, h3, h4⟩ := p
  exact ⟨⟨p, xs, h1, SqL.of h3, paired_mono (fun _ _ r => Enc.mono (own_in h g) r) h4⟩, rfl⟩
theorem dr_varo [Enc α] {i : Nat} {l : List α} (h : ρ[i]? = some (some (own n l))) : DR ρ (tVar i) (bo l) := fun B H0 S H σ Fs Q e k => by
  obtain ⟨v, h1, h2⟩ := e.sl i _ h
  exact ⟨v, h1, k v S H [] (Grow.refl e.i) (own_bo e.b e.i h2) (fun q h => nomatch h)⟩
theorem dr_const [Scal α] {a : α} {v : V} (h : v = Scal.toV a := by rfl) : DR ρ (tC v) (sh a) := fun B H0 S H σ Fs Q e k =>
  k v S H [] (Grow.refl e.i) ⟨h, rfl⟩ (fun q h => nomatch h)
/-- weaker tellings -/
theorem dr_bo [Enc α] {t : TE} {a : α} (h : DR ρ t (tl m a)) : DR ρ t (bo a) := fun B H0 S H σ Fs Q e k =>
  h B H0 S H σ Fs Q e fun v S' H' F g p hF => k v S' H' F g ⟨Enc.mono (hm_in (e.b.trans g.h) g.i) p.1, p.2⟩ hF
theorem dr_st [Enc α] {t : TE} {a : α} (h : DR ρ t (sh a)) : DR ρ t (st a) := fun B H0 S H σ Fs Q e k =>
  h B H0 S H σ Fs Q e fun v S' H' F g p hF => k v S' H' F g ⟨Enc.mono (un_r (e.b.trans g.h) g.i) p.1, p.2⟩ hF
theorem dr_flat [Scal α] {t : TE} {a : α} (h : DR ρ t (tl m a)) : DR ρ t (tl m' a) := fun B H0 S H σ Fs Q e k =>
  h B H0 S H σ Fs Q e fun v S' H' F g p hF => k v S' H' F g ⟨p.1, p.2⟩ hF
theorem dr_eq {t : TE} {r r' : Sl} (h : DR ρ t r) (e : r = r') : DR ρ t r' := e ▸ h
theorem grow_add {S H S' H' : Hp} {p : Addr} {o : HO} (g : Grow S H S' H') (h1 : H' p = some o) (h2 : H p = none) (h3 : S' p = none) : Grow S H (upd S' p o) H' :=
  ⟨g.s.trans fun b u hb => by rw [upd_ne (ne_of_none hb h3)]; exact hb, g.h, fun b u hb => by
    by_cases c : b = p
    · subst c
      rw [upd_same] at hb
      cases hb
      exact h1
    · rw [upd_ne c] at hb
      exact g.i _ _ hb, fun q hq => by
    by_cases c : q = p
    · subst c
      exact .inr h2
    · rw [upd_ne c] at hq
      exact g.n q hq⟩
theorem same_upd {S : Hp} {p : Addr} {o : HO} (h : S p = none) : Same S (upd S p o) := fun b u hb => by
  rw [upd_ne (ne_of_none hb h)]
  exact hb
theorem un_at {B S : Hp} {p : Addr} {o : HO} (h : B p = none) (h' : S p = some o) : un B S p = some o := by
  show (match B p with | some o => some o | none => S p) = some o
  rw [h]
  exact h'
/-- a list of one's own as data -/
theorem own_tl [Enc α] {l : List α} {B S H : Hp} {v : V} {F : List Addr} (h : (own n l).P B S H v F) (hF : ∀ q ∈ F, S q = none ∧ B q = none) : ∃ p o, F = [p] ∧ H p = some o ∧ (tl (nmd n) l).P B (upd S p o) H v [] := by
  obtain ⟨p, xs, h1, h2, h3, h4⟩ := h
  have hp := hF p (by rw [h2]; exact List.mem_singleton.mpr rfl)
  refine ⟨p, _, h2, h3, ⟨p, xs, h1, ?_, ?_⟩, rfl⟩
  · cases n with
    | true => exact SqL.of upd_same
    | false => exact SqL.of (un_at hp.2 upd_same)
  · refine paired_mono (fun _ _ r => Enc.mono ?_ r) h4
    cases n with
    | true => exact same_upd hp.1
    | false => exact un_mono (same_upd hp.1)
theorem dr_frz [Enc α] {t : TE} {l : List α} (h : DR ρ t (own n l)) : DR ρ t (tl (nmd n) l) := fun B H0 S H σ Fs Q e k =>
  h B H0 S H σ Fs Q e fun v S' H' F g p hF => by
    obtain ⟨q, o, h1, h2, h3⟩ := own_tl p fun q hq => ⟨(hF q hq).2, e.b.free (hF q hq).1⟩
    have hq := hF q (by rw [h1]; exact List.mem_singleton.mpr rfl)
    exact k v (upd S' q o) H' [] (grow_add g h2 hq.1 hq.2) h3 (fun q h => nomatch h)
theorem dr_owbo [Enc α] {t : TE} {l : List α} (h : DR ρ t (own n l)) : DR ρ t (bo l) := dr_bo (dr_frz h)

/-! arguments -/
theorem da_nil : DA ρ tNil [] := fun B H0 S H σ Fs Q e k => k [] S H (Grow.refl e.i) .nil
theorem da_cons {ta : TE} {tr : TA} {r : Sl} {rs : List Sl} (h1 : DR ρ ta r) (hr : ∀ {B S H v F}, r.P B S H v F → F = []) (h2 : DA ρ tr rs) : DA ρ (tCons ta tr) (r :: rs) := fun B H0 S H σ Fs Q e k =>
  h1 B H0 S H σ Fs _ e fun v S1 H1 F g1 p1 _ => h2 B H0 S1 H1 σ Fs _ (e.grow g1) fun vs S2 H2 g2 p2 =>
    k (v :: vs) S2 H2 (g1.trans g2) (.cons (r.mono g2.s g2.h (hr p1 ▸ p1)) p2)
theorem da_sh [Enc α] {ta : TE} {tr : TA} {a : α} {rs : List Sl} (h1 : DR ρ ta (tl m a)) (h2 : DA ρ tr rs) : DA ρ (tCons ta tr) (tl m a :: rs) := da_cons h1 (fun h => h.2) h2

/-- two in a row -/
theorem dr2 {ta tb : TE} {ra rb : Sl} (ha : DR ρ ta ra) (hb : DR ρ tb rb) {B H0 S H : Hp} {σ : St} {Fs : Nat → List Addr} {K : V → V → Hp → Prop} (e : Ev B H0 ρ S H σ Fs) (hra : ∀ {B S H v F}, ra.P B S H v F → F = []) (hrb : ∀ {B S H v F}, rb.P B S H v F → F = [])
    (k : ∀ x y S' H', Grow S H S' H' → ra.P B S' H' x [] → rb.P B S' H' y [] → K x y H') : ta σ H fun x H1 => tb σ H1 fun y H2 => K x y H2 :=
  ha B H0 S H σ Fs _ e fun v S1 H1 F g1 p1 _ => hb B H0 S1 H1 σ Fs _ (e.grow g1) fun w S2 H2 F' g2 p2 _ =>
    k v w S2 H2 (g1.trans g2) (ra.mono g2.s g2.h (hra p1 ▸ p1)) (hrb p2 ▸ p2)
/-- where an operation stands: B and S within the heap -/
structure Std (B S H : Hp) : Prop where
  b : Same B H
  i : Same S H
theorem dr_op {r : R2} {ta tb : TE} {ra rb rc : Sl} (hra : ∀ {B S H v F}, ra.P B S H v F → F = []) (hrb : ∀ {B S H v F}, rb.P B S H v F → F = []) (ha : DR ρ ta ra) (hb : DR ρ tb rb)
    (k : ∀ B S H x y (Q : VK), Std B S H → ra.P B S H x [] → rb.P B S H y [] → (∀ v S' H' F, Grow S H S' H' → rc.P B S' H' v F → (∀ q ∈ F, H q = none ∧ S' q = none) → Q v H') → r x y H Q) : DR ρ (tOp r ta tb) rc :=
  fun B H0 S H σ Fs Q e q => dr2 ha hb e hra hrb fun x y S' H' g p1 p2 => k B S' H' x y Q ⟨e.b.trans g.h, g.i⟩ p1 p2 fun v S2 H2 F g2 p hF => q v S2 H2 F (g.trans g2) p fun a ha =>
    ⟨g.h.free (hF a ha).1, (hF a ha).2⟩
theorem tlF [Enc α] {a : α} {B S H : Hp} {v : V} {F : List Addr} (h : (tl m a).P B S H v F) : F = [] := h.2
/-- ints in, a bool or an int out -/
theorem dr_ii [Scal γ] {C : Int → Int → Prop} {g : Int → Int → V} {ta tb : TE} {x y : Int} {z : γ} (ha : DR ρ ta (tl m x)) (hb : DR ρ tb (tl m' y)) (hc : C x y) (hz : g x y = Scal.toV z) : DR ρ (tOp (rI C g) ta tb) (sh z) :=
  dr_op tlF tlF ha hb fun B S H u v Q i p1 p2 k => ⟨x, y, p1.1, p2.1, hc, k _ S H [] (Grow.refl i.i) ⟨hz, rfl⟩ (fun q h => nomatch h)⟩
theorem dr_ii0 [Scal γ] {g : Int → Int → V} {ta tb : TE} {x y : Int} {z : γ} (ha : DR ρ ta (tl m x)) (hb : DR ρ tb (tl m' y)) (hz : g x y = Scal.toV z) : DR ρ (tOp (rI0 g) ta tb) (sh z) :=
  dr_op tlF tlF ha hb fun B S H u v Q i p1 p2 k => ⟨x, y, p1.1, p2.1, k _ S H [] (Grow.refl i.i) ⟨hz, rfl⟩ (fun q h => nomatch h)⟩
variable {ta tb : TE} {x y : Int}
theorem dr_add (ha : DR ρ ta (tl m x)) (hb : DR ρ tb (tl m' y)) : DR ρ (tOp (rI0 fun i j => .int (i + j)) ta tb) (sh (x + y)) := dr_ii0 ha hb rfl
theorem dr_sub (ha : DR ρ ta (tl m x)) (hb : DR ρ tb (tl m' y)) : DR ρ (tOp (rI0 fun i j => .int (i - j)) ta tb) (sh (x - y)) := dr_ii0 ha hb rfl
theorem dr_mul {C : Int → Int → Prop} (ha : DR ρ ta (tl m x)) (hb : DR ρ tb (tl m' y)) (hc : C x y) : DR ρ (tOp (rI C fun i j => .int (i * j)) ta tb) (sh (x * y)) := dr_ii ha hb hc rfl
theorem dr_fdiv {C : Int → Int → Prop} (ha : DR ρ ta (tl m x)) (hb : DR ρ tb (tl m' y)) (hc : C x y) : DR ρ (tOp (rI C fun i j => .int (i.fdiv j)) ta tb) (sh (x.fdiv y)) := dr_ii ha hb hc rfl
theorem dr_fmod {C : Int → Int → Prop} (ha : DR ρ ta (tl m x)) (hb : DR ρ tb (tl m' y)) (hc : C x y) : DR ρ (tOp (rI C fun i j => .int (i.fmod j)) ta tb) (sh (x.fmod y)) := dr_ii ha hb hc rfl
theorem dr_lt (ha : DR ρ ta (tl m x)) (hb : DR ρ tb (tl m' y)) : DR ρ (tOp (rI0 fun i j => .bl (decide (i < j))) ta tb) (sh (decide (x < y))) := dr_ii0 ha hb rfl
theorem dr_le (ha : DR ρ ta (tl m x)) (hb : DR ρ tb (tl m' y)) : DR ρ (tOp (rI0 fun i j => .bl (decide (i ≤ j))) ta tb) (sh (decide (x ≤ y))) := dr_ii0 ha hb rfl
theorem dr_gt (ha : DR ρ ta (tl m x)) (hb : DR ρ tb (tl m' y)) : DR ρ (tOp (rI0 fun i j => .bl (decide (j < i))) ta tb) (sh (decide (y < x))) := dr_ii0 ha hb rfl
theorem dr_ge (ha : DR ρ ta (tl m x)) (hb : DR ρ tb (tl m' y)) : DR ρ (tOp (rI0 fun i j => .bl (decide (j ≤ i))) ta tb) (sh (decide (y ≤ x))) := dr_ii0 ha hb rfl
end
end G

namespace G
open PySem L2
section
variable [Γ : Ctx] {ρ : En} {α β γ δ : Type} {m m' : Md} {n : Bool}
/-! ### tests -/
theorem dt_of {t : TE} {b : Bool} (h : DR ρ t (tl m b)) : DT ρ (tTest t) b := fun B H0 S H σ Fs Q e k =>
  h B H0 S H σ Fs _ e fun v S' H' F g p _ => ⟨b, p.1, k S' H' g⟩
theorem dt_ofB {t : TE} {b : Bool} (h : DR ρ t (tl m b)) : DT ρ (tB t) b := fun B H0 S H σ Fs Q e k =>
  h B H0 S H σ Fs _ e fun v S' H' F g p _ => ⟨b, p.1, k S' H' g⟩
theorem dt_and {t u : TT} {b c : Bool} (h1 : DT ρ t b) (h2 : b = true → DT ρ u c) : DT ρ (tAnd t u) (b && c) := fun B H0 S H σ Fs Q e k =>
  h1 B H0 S H σ Fs _ e fun S' H' g => by
    cases b with
    | true => exact h2 rfl B H0 S' H' σ Fs _ (e.grow g) fun S2 H2 g2 => k S2 H2 (g.trans g2)
    | false => exact k S' H' g
theorem dt_or {t u : TT} {b c : Bool} (h1 : DT ρ t b) (h2 : b = false → DT ρ u c) : DT ρ (tOr t u) (b || c) := fun B H0 S H σ Fs Q e k =>
  h1 B H0 S H σ Fs _ e fun S' H' g => by
    cases b with
    | false => exact h2 rfl B H0 S' H' σ Fs _ (e.grow g) fun S2 H2 g2 => k S2 H2 (g.trans g2)
    | true => exact k S' H' g
theorem dt_not {t : TT} {b : Bool} (h : DT ρ t b) : DT ρ (tNot t) (!b) := fun B H0 S H σ Fs Q e k => h B H0 S H σ Fs _ e k
theorem dt_yes : DT ρ tYes true := fun B H0 S H σ Fs Q e k => k S H (Grow.refl e.i)
/-! .. as values -/
theorem dr_and {ta tb : TE} {b c : Bool} (h1 : DR ρ ta (tl m b)) (h2 : b = true → DR ρ tb (sh c)) : DR ρ (tAndV ta tb) (sh (b && c)) := fun B H0 S H σ Fs Q e k =>
  h1 B H0 S H σ Fs _ e fun v S' H' F g p _ => ⟨b, p.1, by
    cases b with
    | true => exact h2 rfl B H0 S' H' σ Fs _ (e.grow g) fun w S2 H2 F2 g2 p2 hF => k w S2 H2 F2 (g.trans g2) p2 fun q hq => ⟨g.h.free (hF q hq).1, (hF q hq).2⟩
    | false => exact k _ S' H' [] g ⟨rfl, rfl⟩ (fun q h => nomatch h)⟩
theorem dr_or {ta tb : TE} {b c : Bool} (h1 : DR ρ ta (tl m b)) (h2 : b = false → DR ρ tb (sh c)) : DR ρ (tOrV ta tb) (sh (b || c)) := fun B H0 S H σ Fs Q e k =>
  h1 B H0 S H σ Fs _ e fun v S' H' F g p _ => ⟨b, p.1, by
    cases b with
    | false => exact h2 rfl B H0 S' H' σ Fs _ (e.grow g) fun w S2 H2 F2 g2 p2 hF => k w S2 H2 F2 (g.trans g2) p2 fun q hq => ⟨g.h.free (hF q hq).1, (hF q hq).2⟩
    | true => exact k _ S' H' [] g ⟨rfl, rfl⟩ (fun q h => nomatch h)⟩
theorem dr_not {t : TE} {b : Bool} (h : DR ρ t (tl m b)) : DR ρ (tNotV t) (sh (!b)) := fun B H0 S H σ Fs Q e k =>
  h B H0 S H σ Fs _ e fun v S' H' F g p _ => ⟨b, p.1, k _ S' H' [] g ⟨rfl, rfl⟩ (fun q h => nomatch h)⟩
theorem dr_if {c : TT} {ta tb : TE} {b : Bool} {r : Sl} (h : DT ρ c b) (h1 : b = true → DR ρ ta r) (h2 : b = false → DR ρ tb r) : DR ρ (tIf c ta tb) r := fun B H0 S H σ Fs Q e k =>
  h B H0 S H σ Fs _ e fun S' H' g => by
    have go : ∀ {t : TE}, DR ρ t r → t σ H' Q := fun ht => ht B H0 S' H' σ Fs Q (e.grow g) fun w S2 H2 F2 g2 p2 hF => k w S2 H2 F2 (g.trans g2) p2 fun q hq => ⟨g.h.free (hF q hq).1, (hF q hq).2⟩
    cases b with
    | true => exact go (h1 rfl)
    | false => exact go (h2 rfl)
/-- a result that no heap bears, out of arguments -/
theorem dr_cb {r : List V → Hp → VK → Prop} {t : TA} {rs : List Sl} {rc : Sl} (ha : DA ρ t rs)
    (k : ∀ B S H vs (Q : VK), Std B S H → Paired (fun (s : Sl) v => s.P B S H v []) rs vs → (∀ v S' H' F, Grow S H S' H' → rc.P B S' H' v F → (∀ q ∈ F, H q = none ∧ S' q = none) → Q v H') → r vs H Q) : DR ρ (tCB r t) rc :=
  fun B H0 S H σ Fs Q e q => ha B H0 S H σ Fs _ e fun vs S' H' g p => k B S' H' vs Q ⟨e.b.trans g.h, g.i⟩ p fun v S2 H2 F g2 p hF => q v S2 H2 F (g.trans g2) p fun a ha =>
    ⟨g.h.free (hF a ha).1, (hF a ha).2⟩
theorem pr1 {F : Sl → V → Prop} {s : Sl} {vs : List V} (h : Paired F [s] vs) : ∃ v, vs = [v] ∧ F s v := by
  cases h with
  | cons r t =>
    cases t
    exact ⟨_, rfl, r⟩
theorem pr2 {F : Sl → V → Prop} {s s' : Sl} {vs : List V} (h : Paired F [s, s'] vs) : ∃ v w, vs = [v, w] ∧ F s v ∧ F s' w := by
  cases h with
  | cons r t =>
    obtain ⟨w, rfl, q⟩ := pr1 t
    exact ⟨_, w, rfl, r, q⟩
theorem pr3 {F : Sl → V → Prop} {s s' s'' : Sl} {vs : List V} (h : Paired F [s, s', s''] vs) : ∃ v w x, vs = [v, w, x] ∧ F s v ∧ F s' w ∧ F s'' x := by
  cases h with
  | cons r t =>
    obtain ⟨w, x, rfl, q⟩ := pr2 t
    exact ⟨_, w, x, rfl, r, q⟩
theorem paired_len {α β : Type} {F : α → β → Prop} : ∀ {xs : List α} {ys : List β}, Paired F xs ys → xs.length = ys.length
  | _, _, .nil => rfl
  | _, _, .cons _ t => by rw [List.length_cons, List.length_cons, paired_len t]
theorem paired_at {α β : Type} {F : α → β → Prop} : ∀ {xs : List α} {ys : List β} {i : Nat} {y : β}, Paired F xs ys → ys[i]? = some y → ∃ x, xs[i]? = some x ∧ F x y
  | _, _, _, _, .nil, e => by simp at e
  | _, _, 0, _, .cons r _, e => by simp at e; subst e; exact ⟨_, rfl, r⟩
  | _, _, i + 1, y, .cons _ t, e => by
    obtain ⟨u, h1, h2⟩ := paired_at (i := i) (y := y) t (by simpa using e)
    exact ⟨u, by simpa using h1, h2⟩
theorem paired_snoc {α β : Type} {F : α → β → Prop} {x : α} {y : β} (r : F x y) : ∀ {xs : List α} {ys : List β}, Paired F xs ys → Paired F (xs ++ [x]) (ys ++ [y])
  | _, _, .nil => .cons r .nil
  | _, _, .cons q t => .cons q (paired_snoc r t)
theorem paired_app {α β : Type} {F : α → β → Prop} : ∀ {xs xs' : List α} {ys ys' : List β}, Paired F xs ys → Paired F xs' ys' → Paired F (xs ++ xs') (ys ++ ys')
  | _, _, _, _, .nil, h => h
  | _, _, _, _, .cons q t, h => .cons q (paired_app t h)
theorem paired_set {α β : Type} {F : α → β → Prop} {x : α} {y : β} (r : F x y) : ∀ {xs : List α} {ys : List β} (i : Nat), Paired F xs ys → Paired F (xs.set i x) (ys.set i y)
  | _, _, _, .nil => .nil
  | _, _, 0, .cons _ t => .cons r t
  | _, _, i + 1, .cons q t => .cons q (paired_set r i t)
theorem paired_take {α β : Type} {F : α → β → Prop} : ∀ {xs : List α} {ys : List β} (n : Nat), Paired F xs ys → Paired F (xs.take n) (ys.take n)
  | _, _, 0, _ => .nil
  | _, _, _ + 1, .nil => .nil
  | _, _, n + 1, .cons r t => .cons r (paired_take n t)
theorem paired_drop {α β : Type} {F : α → β → Prop} : ∀ {xs : List α} {ys : List β} (n : Nat), Paired F xs ys → Paired F (xs.drop n) (ys.drop n)
  | _, _, 0, r => r
  | _, _, _ + 1, .nil => .nil
  | _, _, n + 1, .cons r t => paired_drop n t
theorem paired_scal [Scal α] {H : Hp} : ∀ {xs : List V} {l : List α}, Paired (rep H) xs l → xs = l.map Scal.toV
  | _, _, .nil => rfl
  | _, _, .cons r t => by rw [List.map_cons, ← paired_scal t]; exact congrArg (· :: _) r
theorem scal_paired [Scal α] {H : Hp} : ∀ (l : List α), Paired (rep H) (l.map Scal.toV) l
  | [] => .nil
  | _ :: l => .cons rfl (scal_paired l)
/-- a list of scalars is told by itself -/
theorem own_any [Scal α] {n' : Bool} {l : List α} {B B' S S' H : Hp} {v : V} {F : List Addr} (h : (own n l).P B S H v F) : (own n' l).P B' S' H v F := by
  obtain ⟨p, xs, h1, h2, h3, h4⟩ := h
  exact ⟨p, xs, h1, h2, h3, by rw [paired_scal h4]; exact scal_paired l⟩

/-! ### lists -/
/-- a seq of whatever standing, as a list that is read -/
theorem bo_seq [Enc α] {l : List α} {B S H : Hp} {v : V} {F : List Addr} (h : (bo l).P B S H v F) : ∃ p xs, v = .ref p ∧ SqL Γ.K H p xs ∧ Paired (rep H) xs l := h.1
theorem dr_len [Enc α] {K : PySem.W.Frag} {ta : TE} {l : List α} (hK : K = Γ.K) (h : DR ρ ta (bo l)) : DR ρ (tCB (fun xs H Q => ∃ p ys, xs = [.ref p] ∧ (SqL K H p ys ∨ SqT K H p ys) ∧ Q (.int ys.length) H) (tCons ta tNil)) (sh (l.length : Int)) :=
  dr_cb (da_sh h da_nil) fun B S H vs Q i p k => by
    obtain ⟨v, rfl, q⟩ := pr1 p
    obtain ⟨a, xs, rfl, hs, hp⟩ := bo_seq q
    refine ⟨a, xs, rfl, .inl (hK ▸ hs), ?_⟩
    rw [paired_len hp]
    exact k _ S H [] (Grow.refl i.i) ⟨rfl, rfl⟩ (fun q h => nomatch h)
theorem dr_abs {ta : TE} {x : Int} (h : DR ρ ta (tl m x)) : DR ρ (tCB (fun xs H Q => ∃ i, xs = [.int i] ∧ Q (.int (if i < 0 then -i else i)) H) (tCons ta tNil)) (sh (if x < 0 then -x else x)) :=
  dr_cb (da_sh h da_nil) fun B S H vs Q i p k => by
    obtain ⟨v, rfl, q⟩ := pr1 p
    exact ⟨x, by rw [q.1]; rfl, k _ S H [] (Grow.refl i.i) ⟨rfl, rfl⟩ (fun q h => nomatch h)⟩
theorem dr_max2 {ta tb : TE} {x y : Int} (h : DR ρ ta (tl m x)) (h' : DR ρ tb (tl m' y)) : DR ρ (tCB (fun xs H Q => ∃ i j, xs = [.int i, .int j] ∧ Q (.int (if j > i then j else i)) H) (tCons ta (tCons tb tNil))) (sh (max x y)) :=
  dr_cb (da_sh h (da_sh h' da_nil)) fun B S H vs Q i p k => by
    obtain ⟨v, w, rfl, q, q'⟩ := pr2 p
    refine ⟨x, y, by rw [q.1, q'.1]; rfl, ?_⟩
    have e : (if y > x then y else x) = max x y := by rw [Int.max_def]; split <;> split <;> omega
    rw [e]
    exact k _ S H [] (Grow.refl i.i) ⟨rfl, rfl⟩ (fun q h => nomatch h)
theorem dr_min2 {ta tb : TE} {x y : Int} (h : DR ρ ta (tl m x)) (h' : DR ρ tb (tl m' y)) : DR ρ (tCB (fun xs H Q => ∃ i j, xs = [.int i, .int j] ∧ Q (.int (if j < i then j else i)) H) (tCons ta (tCons tb tNil))) (sh (min x y)) :=
  dr_cb (da_sh h (da_sh h' da_nil)) fun B S H vs Q i p k => by
    obtain ⟨v, w, rfl, q, q'⟩ := pr2 p
    refine ⟨x, y, by rw [q.1, q'.1]; rfl, ?_⟩
    have e : (if y < x then y else x) = min x y := by rw [Int.min_def]; split <;> split <;> omega
    rw [e]
    exact k _ S H [] (Grow.refl i.i) ⟨rfl, rfl⟩ (fun q h => nomatch h)
theorem dr_intb {ta : TE} {b : Bool} (h : DR ρ ta (tl m b)) : DR ρ (tCB (fun xs H Q => (∃ i, xs = [.int i] ∧ Q (.int i) H) ∨ ∃ k, xs = [.bl k] ∧ Q (.int (if k then 1 else 0)) H) (tCons ta tNil)) (sh (if b then (1 : Int) else 0)) :=
  dr_cb (da_sh h da_nil) fun B S H vs Q i p k => by
    obtain ⟨v, rfl, q⟩ := pr1 p
    exact .inr ⟨b, by rw [q.1]; rfl, k _ S H [] (Grow.refl i.i) ⟨rfl, rfl⟩ (fun q h => nomatch h)⟩
/-- a new list of what came -/
theorem new_own [Enc α] {B S H : Hp} {l : List α} {xs : List V} {Q : VK} (i : Same S H) (hp : Paired (rep (if n = true then S else un B S)) xs l)
    (k : ∀ v S' H' F, Grow S H S' H' → (own n l).P B S' H' v F → (∀ q ∈ F, H q = none ∧ S' q = none) → Q v H') (d : Addr) (hd : H d = none) : Q (.ref d) (upd H d (.lst xs)) :=
  k _ S _ [d] ⟨Same.refl _, same_upd hd, i.trans (same_upd hd), fun _ h => .inl h⟩ ⟨d, xs, rfl, rfl, upd_same, hp⟩ fun q hq => by
    cases List.mem_singleton.mp hq
    exact ⟨hd, i.free hd⟩
theorem nmd_hp {B S H : Hp} : hm (nmd n) B S H = if n = true then S else un B S := by
  cases n <;> rfl
theorem nmd_in {B S H : Hp} (h : Std B S H) : Same (if n = true then S else un B S) H := own_in h.b h.i
theorem own_g {B S S' : Hp} (h : Same S S') : Same (if n = true then S else un B S) (if n = true then S' else un B S') := by
  cases n with
  | true => exact h
  | false => exact un_mono h
/-- list(xs) -/
theorem dr_list [Enc α] {K : PySem.W.Frag} {ta : TE} {l : List α} (hK : K = Γ.K) (h : DR ρ ta (tl (nmd n) l)) : DR ρ (tCB (fun xs H Q => ∃ p ys, xs = [.ref p] ∧ (SqL K H p ys ∨ SqT K H p ys) ∧ ∀ l, H l = none → Q (.ref l) (upd H l (.lst ys))) (tCons ta tNil)) (own n l) :=
  dr_cb (da_sh h da_nil) fun B S H vs Q i p k => by
    obtain ⟨v, rfl, q⟩ := pr1 p
    obtain ⟨⟨a, xs, rfl, hs, hp⟩, _⟩ := q
    rw [nmd_hp] at hs hp
    exact ⟨a, xs, rfl, .inl (hK ▸ (nmd_in i).seq hs), fun d hd => new_own i.i hp k d hd⟩
theorem scalP [Scal α] {H H' : Hp} {xs : List V} {l : List α} (h : Paired (rep H) xs l) : Paired (rep H') xs l := by
  rw [paired_scal h]
  exact scal_paired l
theorem dr_listb [Scal α] {K : PySem.W.Frag} {ta : TE} {l : List α} (hK : K = Γ.K) (h : DR ρ ta (bo l)) : DR ρ (tCB (fun xs H Q => ∃ p ys, xs = [.ref p] ∧ (SqL K H p ys ∨ SqT K H p ys) ∧ ∀ l, H l = none → Q (.ref l) (upd H l (.lst ys))) (tCons ta tNil)) (ow l) :=
  dr_cb (da_sh h da_nil) fun B S H vs Q i p k => by
    obtain ⟨v, rfl, q⟩ := pr1 p
    obtain ⟨a, xs, rfl, hs, hp⟩ := bo_seq q
    exact ⟨a, xs, rfl, .inl (hK ▸ hs), fun d hd => new_own i.i (scalP hp) k d hd⟩
theorem paired_args [Enc α] {B S H : Hp} : ∀ {l : List α} {vs : List V}, Paired (fun (s : Sl) v => s.P B S H v []) (l.map (tl m)) vs → Paired (rep (hm m B S H)) vs l
  | [], _, .nil => .nil
  | _ :: _, _, .cons r t => .cons r.1 (paired_args t)
theorem dr_lst [Enc α] {t : TA} {l : List α} (h : DA ρ t (l.map (tl (nmd n)))) (hl : l.length ≤ sizeLine) : DR ρ (tLst t) (own n l) := fun B H0 S H σ Fs Q e k =>
  h B H0 S H σ Fs _ e fun vs S' H' g p => by
    have hp := paired_args p
    rw [nmd_hp] at hp
    refine ⟨by rw [paired_len hp]; exact hl, fun d hd => new_own g.i hp (fun v S2 H2 F g2 p2 hF => k v S2 H2 F (g.trans g2) p2 fun q hq => ⟨g.h.free (hF q hq).1, (hF q hq).2⟩) d hd⟩
/-- a new tuple, kept for good -/
theorem new_tup {B S H : Hp} {xs : List V} {Q : VK} {r : Sl} (i : Std B S H) (d : Addr) (hd : H d = none) (hr : r.P B (upd S d (.tup xs)) (upd H d (.tup xs)) (.ref d) [])
    (k : ∀ v S' H' F, Grow S H S' H' → r.P B S' H' v F → (∀ q ∈ F, H q = none ∧ S' q = none) → Q v H') : Q (.ref d) (upd H d (.tup xs)) := by
  refine k _ (upd S d (.tup xs)) _ [] ⟨same_upd (i.i.free hd), same_upd hd, fun b u hb => ?_, fun q hq => ?_⟩ hr (fun q h => nomatch h)
  · by_cases c : b = d
    · subst c
      rw [upd_same] at hb ⊢
      exact hb
    · rw [upd_ne c] at hb ⊢
      exact i.i _ _ hb
  · by_cases c : q = d
    · subst c
      exact .inr hd
    · rw [upd_ne c] at hq
      exact .inl hq
theorem tup_at {B S H : Hp} {xs : List V} (i : Std B S H) {d : Addr} (hd : H d = none) : SqT Γ.K (hm (nmd n) B (upd S d (.tup xs)) (upd H d (.tup xs))) d xs := by
  cases n with
  | true => exact SqT.of upd_same
  | false => exact SqT.of (un_at (i.b.free hd) upd_same)
theorem tup_g {B S H : Hp} {xs : List V} (i : Std B S H) {d : Addr} (hd : H d = none) : Same (hm m B S H) (hm m B (upd S d (.tup xs)) (upd H d (.tup xs))) := hm_g (same_upd (i.i.free hd)) (same_upd hd)
/-- a pair -/
theorem dr_tup2 [Enc α] [Enc β] {ta tb : TE} {a : α} {b : β} (h1 : DR ρ ta (tl (nmd n) a)) (h2 : DR ρ tb (tl (nmd n) b)) : DR ρ (tTup (tCons ta (tCons tb tNil))) (tl (nmd n) (a, b)) := fun B H0 S H σ Fs Q e k =>
  da_sh h1 (da_sh h2 da_nil) B H0 S H σ Fs _ e fun vs S' H' g p => by
    obtain ⟨v, w, rfl, q1, q2⟩ := pr2 p
    have i : Std B S' H' := ⟨e.b.trans g.h, g.i⟩
    refine ⟨(by show 2 ≤ sizeLine; decide), fun d hd => new_tup (r := tl (nmd n) (a, b)) i d hd ⟨⟨d, v, w, rfl, tup_at i hd, Enc.mono (tup_g i hd) q1.1, Enc.mono (tup_g i hd) q2.1⟩, rfl⟩ fun v S2 H2 F g2 p2 hF => k v S2 H2 F (g.trans g2) p2 fun q hq => ⟨g.h.free (hF q hq).1, (hF q hq).2⟩⟩
theorem dr_tup3 [Enc α] [Enc β] [Enc γ] {ta tb tc : TE} {a : α} {b : β} {c : γ} (h1 : DR ρ ta (tl (nmd n) a)) (h2 : DR ρ tb (tl (nmd n) b)) (h3 : DR ρ tc (tl (nmd n) c)) : DR ρ (tTup (tCons ta (tCons tb (tCons tc tNil)))) (tl (nmd n) (T3.mk a b c)) := fun B H0 S H σ Fs Q e k =>
  da_sh h1 (da_sh h2 (da_sh h3 da_nil)) B H0 S H σ Fs _ e fun vs S' H' g p => by
    obtain ⟨v, w, x, rfl, q1, q2, q3⟩ := pr3 p
    have i : Std B S' H' := ⟨e.b.trans g.h, g.i⟩
    refine ⟨(by show 3 ≤ sizeLine; decide), fun d hd => new_tup (r := tl (nmd n) (T3.mk a b c)) i d hd ⟨⟨d, v, w, x, rfl, tup_at i hd, Enc.mono (tup_g i hd) q1.1, Enc.mono (tup_g i hd) q2.1, Enc.mono (tup_g i hd) q3.1⟩, rfl⟩ fun v S2 H2 F g2 p2 hF => k v S2 H2 F (g.trans g2) p2 fun q hq => ⟨g.h.free (hF q hq).1, (hF q hq).2⟩⟩
/-- xs[i] -/
theorem atI_rep {F : V → α → Prop} {xs : List V} {l : List α} {i : Int} {a : α} (hp : Paired F xs l) (h : atI l i = some a) : ∃ v, atI xs i = some v ∧ F v a := by
  unfold atI at h ⊢
  rw [paired_len hp]
  cases e : ixN l.length i with
  | none => rw [e] at h; cases h
  | some j =>
    rw [e] at h
    exact paired_at hp h
theorem dr_ix [Enc α] {K : PySem.W.Frag} {ta tb : TE} {l : List α} {i : Int} {a : α} (hK : K = Γ.K) (h : DR ρ ta (tl m l)) (hi : DR ρ tb (tl m' i)) (ha : atI l i = some a) : DR ρ (tOp (rIxL K) ta tb) (tl m a) :=
  dr_op tlF tlF h hi fun B S H x y Q s p1 p2 k => by
    obtain ⟨⟨p, xs, rfl, hs, hp⟩, _⟩ := p1
    obtain ⟨v, hv, r⟩ := atI_rep hp ha
    exact ⟨p, xs, i, v, rfl, p2.1, hK ▸ (hm_in s.b s.i).seq hs, hv, k v S H [] (Grow.refl s.i) ⟨r, rfl⟩ (fun q h => nomatch h)⟩
/-- xs[i], xs one's own list: the item stays for good -/
theorem dr_ixo [Enc α] {K : PySem.W.Frag} {j : Nat} {tb : TE} {l : List α} {i : Int} {a : α} (hK : K = Γ.K) (h : ρ[j]? = some (some (own n l))) (hi : DR ρ tb (tl m' i)) (ha : atI l i = some a) : DR ρ (tOp (rIxL K) (tVar j) tb) (tl (nmd n) a) :=
  fun B H0 S H σ Fs Q e k => by
    obtain ⟨v, h1, h2⟩ := e.sl j _ h
    refine ⟨v, h1, hi B H0 S H σ Fs _ e fun w S' H' F g p _ => ?_⟩
    obtain ⟨p', xs, rfl, _, h4, hp⟩ := h2
    obtain ⟨u, hu, r⟩ := atI_rep hp ha
    exact ⟨p', xs, i, u, rfl, p.1, hK ▸ SqL.of (g.h _ _ h4), hu, k u S' H' [] g ⟨by rw [nmd_hp]; exact Enc.mono (own_g g.s) r, rfl⟩ (fun q h => nomatch h)⟩
/-- slices -/
def DP (ρ : En) (t : TO) (o : Option Int) : Prop := ∀ (B H0 S H : Hp) (σ : St) (Fs : Nat → List Addr) (Q : Option Int → Hp → Prop), Ev B H0 ρ S H σ Fs →
  (∀ S' H', Grow S H S' H' → Q o H') → t σ H Q
theorem dp_none : DP ρ tNoPart none := fun B H0 S H σ Fs Q e k => k S H (Grow.refl e.i)
theorem dp_some {t : TE} {i : Int} (h : DR ρ t (tl m i)) : DP ρ (tPart t) (some i) := fun B H0 S H σ Fs Q e k =>
  h B H0 S H σ Fs _ e fun v S' H' F g p _ => ⟨i, p.1, k S' H' g⟩
/-- xs[lo:hi] -/
def cut {α : Type} (xs : List α) (lo hi : Option Int) : List α := (xs.drop (HT.sIx xs.length 0 lo)).take (HT.sIx xs.length xs.length hi - HT.sIx xs.length 0 lo)
theorem cut_rep {F : V → α → Prop} {xs : List V} {l : List α} (hp : Paired F xs l) (lo hi : Option Int) : Paired F (cutV xs lo hi) (cut l lo hi) := by
  unfold cutV cut
  rw [paired_len hp]
  exact paired_take _ (paired_drop _ hp)
theorem dr_sl [Enc α] {K : PySem.W.Frag} {ta : TE} {tl1 tr : TO} {l : List α} {lo hi : Option Int} (hK : K = Γ.K) (h : DR ρ ta (tl (nmd n) l)) (h1 : DP ρ tl1 lo) (h2 : DP ρ tr hi) : DR ρ (tSl (rSlL K) ta tl1 tr) (own n (cut l lo hi)) := fun B H0 S H σ Fs Q e k =>
  h B H0 S H σ Fs _ e fun v S1 H1 F g1 p1 _ => h1 B H0 S1 H1 σ Fs _ (e.grow g1) fun S2 H2 g2 => h2 B H0 S2 H2 σ Fs _ (e.grow (g1.trans g2)) fun S3 H3 g3 => by
    obtain ⟨⟨p, xs, rfl, hs, hp⟩, _⟩ := p1
    have g := g1.trans (g2.trans g3)
    have hs3 := (hm_in (m := nmd n) (e.b.trans g.h) g.i).seq ((hm_g (m := nmd n) (B := B) (g2.trans g3).s (g2.trans g3).h).seq hs)
    have hp3 := paired_mono (fun _ _ r => Enc.mono (hm_g (m := nmd n) (B := B) (g2.trans g3).s (g2.trans g3).h) r) hp
    rw [nmd_hp] at hp3
    refine ⟨p, xs, rfl, hK ▸ hs3, fun d hd => new_own (l := cut l lo hi) g.i (cut_rep hp3 lo hi) (fun v S2 H2 F g2 p2 hF => k v S2 H2 F (g.trans g2) p2 fun q hq => ⟨g.h.free (hF q hq).1, (hF q hq).2⟩) d hd⟩
theorem dr_slb [Scal α] {K : PySem.W.Frag} {ta : TE} {tl1 tr : TO} {l : List α} {lo hi : Option Int} (hK : K = Γ.K) (h : DR ρ ta (bo l)) (h1 : DP ρ tl1 lo) (h2 : DP ρ tr hi) : DR ρ (tSl (rSlL K) ta tl1 tr) (ow (cut l lo hi)) := fun B H0 S H σ Fs Q e k =>
  h B H0 S H σ Fs _ e fun v S1 H1 F g1 p1 _ => h1 B H0 S1 H1 σ Fs _ (e.grow g1) fun S2 H2 g2 => h2 B H0 S2 H2 σ Fs _ (e.grow (g1.trans g2)) fun S3 H3 g3 => by
    obtain ⟨p, xs, rfl, hs, hp⟩ := bo_seq p1
    have g := g1.trans (g2.trans g3)
    refine ⟨p, xs, rfl, hK ▸ ((g2.h.trans g3.h).seq hs), fun d hd => new_own (n := true) (l := cut l lo hi) g.i (cut_rep (F := rep S3) (scalP hp) lo hi) (fun v S2 H2 F g2 p2 hF => k v S2 H2 F (g.trans g2) p2 fun q hq => ⟨g.h.free (hF q hq).1, (hF q hq).2⟩) d hd⟩
/-- xs + ys -/
def rCatG (K : PySem.W.Frag) : R2 := fun x y H Q => ∃ l b xs zs, x = .ref l ∧ y = .ref b ∧ SqL K H l xs ∧ SqL K H b zs ∧ xs.length + zs.length ≤ sizeLine ∧ ∀ p, H p = none → Q (.ref p) (upd H p (.lst (xs ++ zs)))
theorem op_catG {X : Cx} : OpR X (binaryOp .Add) (rCatG X.K) := by
  intro pins s σ H x y v u Q I rx ry h
  obtain ⟨l, b, xs, zs, rfl, rfl, hH, hB, hz, q⟩ := h
  cases rx
  cases ry
  obtain ⟨its, r, ⟨⟨cls, dd, data, sl⟩, n, ho, hc, hd, hs⟩, z⟩ := I.list hH
  obtain ⟨its2, r2, ⟨⟨cls2, dd2, data2, sl2⟩, n2, ho2, hc2, hd2, hs2⟩, z2⟩ := I.list hB
  simp only at hc hd hs hc2 hd2 hs2
  subst hc hd hs hc2 hd2 hs2
  have hl := r.length
  have hl2 := r2.length
  have ea : its.toArray ++ its2.toArray = (its ++ its2).toArray := by simp
  refine PySem.concat_meets ⟨_, ho, rfl⟩ ⟨_, ho2, rfl⟩ PySem.noFill_list_add PySem.seq_list_add PySem.F.slot_list_add PySem.F.entry_list_add (PySem.F.args_list_add_2 _ _) (PyProof.Rows.list_addW l b its.toArray its2.toArray n n2 none none sl sl2 (by rw [List.size_toArray, List.size_toArray]; omega)) ⟨ho, ho2, ?_⟩
  rw [ea]
  exact ⟨.ref _, _, I.lnew (t' := s.toks) (r.append r2) (by rw [List.length_append]; omega), rfl, q _ I.fresh⟩
theorem dr_cat [Enc α] {K : PySem.W.Frag} {ta tb : TE} {l l' : List α} (hK : K = Γ.K) (h : DR ρ ta (tl (nmd n) l)) (h' : DR ρ tb (tl (nmd n) l')) (hl : l.length + l'.length ≤ sizeLine) : DR ρ (tOp (rCatG K) ta tb) (own n (l ++ l')) :=
  dr_op tlF tlF h h' fun B S H x y Q i p1 p2 k => by
    obtain ⟨⟨p, xs, rfl, hs, hp⟩, _⟩ := p1
    obtain ⟨⟨p', xs', rfl, hs', hp'⟩, _⟩ := p2
    rw [nmd_hp] at hs hp hs' hp'
    exact ⟨p, p', xs, xs', rfl, rfl, hK ▸ (nmd_in i).seq hs, hK ▸ (nmd_in i).seq hs', by rw [paired_len hp, paired_len hp']; exact hl, fun d hd => new_own i.i (paired_app hp hp') k d hd⟩
theorem dr_catb [Scal α] {K : PySem.W.Frag} {ta tb : TE} {l l' : List α} (hK : K = Γ.K) (h : DR ρ ta (bo l)) (h' : DR ρ tb (bo l')) (hl : l.length + l'.length ≤ sizeLine) : DR ρ (tOp (rCatG K) ta tb) (ow (l ++ l')) :=
  dr_op tlF tlF h h' fun B S H x y Q i p1 p2 k => by
    obtain ⟨p, xs, rfl, hs, hp⟩ := bo_seq p1
    obtain ⟨p', xs', rfl, hs', hp'⟩ := bo_seq p2
    exact ⟨p, p', xs, xs', rfl, rfl, hK ▸ hs, hK ▸ hs', by rw [paired_len hp, paired_len hp']; exact hl, fun d hd => new_own (n := true) i.i (paired_app (scalP hp) (scalP hp')) k d hd⟩
theorem paired_flat {F : V → α → Prop} {xs : List V} {l : List α} (h : Paired F xs l) : ∀ k : Nat, Paired F (List.replicate k xs).flatten (List.replicate k l).flatten
  | 0 => .nil
  | k + 1 => by
    rw [List.replicate_succ, List.replicate_succ, List.flatten_cons, List.flatten_cons]
    exact paired_app h (paired_flat h k)
/-- [..] * k, of a list just made -/
theorem dr_rep [Enc α] {ta tb : TE} {l : List α} {k : Int} (h : DR ρ ta (own n l)) (h' : DR ρ tb (tl m k)) (h1 : -(2 ^ 63) ≤ k) (h2 : k < 2 ^ 63) (hl : l.length * k.toNat ≤ sizeLine) : DR ρ (tOp rRep ta tb) (own n (List.replicate k.toNat l).flatten) := fun B H0 S H σ Fs Q e kk =>
  h B H0 S H σ Fs _ e fun v S1 H1 F g1 p1 hF => h' B H0 S1 H1 σ Fs _ (e.grow g1) fun w S2 H2 F2 g2 p2 _ => by
    obtain ⟨p, xs, rfl, hf, hs, hp⟩ := p1
    have g := g1.trans g2
    refine ⟨p, k, xs, rfl, p2.1, g2.h _ _ hs, h1, h2, by rw [paired_len hp]; exact hl, fun d hd => new_own g.i (paired_flat (paired_mono (fun _ _ r => Enc.mono (own_g g2.s) r) hp) k.toNat) (fun v S2 H2 F g2 p2 hF => kk v S2 H2 F (g.trans g2) p2 fun q hq => ⟨g.h.free (hF q hq).1, (hF q hq).2⟩) d hd⟩
/-- sum, any, all, max, min of lists -/
theorem map_int (l : List Int) : l.map Scal.toV = l.map V.int := rfl
theorem dr_sum {K : PySem.W.Frag} {ta : TE} {l : List Int} (hK : K = Γ.K) (h : DR ρ ta (bo l)) : DR ρ (tCB (rSum K) (tCons ta tNil)) (sh l.sum) :=
  dr_cb (da_sh h da_nil) fun B S H vs Q i p k => by
    obtain ⟨v, rfl, q⟩ := pr1 p
    obtain ⟨a, xs, rfl, hs, hp⟩ := bo_seq q
    rw [paired_scal hp] at hs
    exact ⟨a, l, rfl, hK ▸ hs, k _ S H [] (Grow.refl i.i) ⟨rfl, rfl⟩ (fun q h => nomatch h)⟩
theorem dr_any {K : PySem.W.Frag} {ta : TE} {l : List Bool} (hK : K = Γ.K) (h : DR ρ ta (bo l)) : DR ρ (tCB (rAny K) (tCons ta tNil)) (sh (l.any id)) :=
  dr_cb (da_sh h da_nil) fun B S H vs Q i p k => by
    obtain ⟨v, rfl, q⟩ := pr1 p
    obtain ⟨a, xs, rfl, hs, hp⟩ := bo_seq q
    rw [paired_scal hp] at hs
    exact ⟨a, l, rfl, hK ▸ hs, k _ S H [] (Grow.refl i.i) ⟨rfl, rfl⟩ (fun q h => nomatch h)⟩
theorem dr_all {K : PySem.W.Frag} {ta : TE} {l : List Bool} (hK : K = Γ.K) (h : DR ρ ta (bo l)) : DR ρ (tCB (rAll K) (tCons ta tNil)) (sh (l.all id)) :=
  dr_cb (da_sh h da_nil) fun B S H vs Q i p k => by
    obtain ⟨v, rfl, q⟩ := pr1 p
    obtain ⟨a, xs, rfl, hs, hp⟩ := bo_seq q
    rw [paired_scal hp] at hs
    exact ⟨a, l, rfl, hK ▸ hs, k _ S H [] (Grow.refl i.i) ⟨rfl, rfl⟩ (fun q h => nomatch h)⟩
end
end G

namespace G
open PySem L2
section
variable [Γ : Ctx] {ρ : En} {α β γ δ ι : Type} {m m' mA : Md} {n n' : Bool}
/-! ### what a loop walks -/
/-- an iterator walks items, as long as the heap A stands and what stays stays -/
structure Ivs (J : It) (B S1 A : Hp) (items : List Sl) : Prop where
  len : items.length ≤ sizeLine
  go : ∀ {S H : Hp}, Same S1 S → Same A H → Std B S H → ∀ {i : Nat} {s : Sl}, items[i]? = some s → J.go i H ∧ ∀ x H', J.yld i H x H' → Grow S H S H' ∧ s.P B S H' x []
  stop : ∀ {S H : Hp}, Same S1 S → Same A H → Std B S H → J.stop items.length H
/-- mA: fg, the source stays for good; nu, it stands now -/
def DI (mA : Md) (ρ : En) (wi : TI) (items : List Sl) : Prop := ∀ (B H0 S H : Hp) (σ : St) (Fs : Nat → List Addr) (R : It → Hp → Prop), Ev B H0 ρ S H σ Fs →
  (∀ J S' H', Grow S H S' H' → Ivs J B S' (hm mA B S' H') items → R J H') → wi σ H R
theorem keep_hm {B S1 H1 S H : Hp} (c : m = .nu → mA = .nu) (e1 : Same S1 S) (e2 : Same (hm mA B S1 H1) H) : Same (hm m B S1 H1) (hm m B S H) := by
  cases m with
  | nw => exact e1
  | fg => exact un_mono e1
  | nu =>
    rw [c rfl] at e2
    exact e2
theorem map_at {α β : Type} {f : α → β} {l : List α} {i : Nat} {b : β} (h : (l.map f)[i]? = some b) : ∃ a, l[i]? = some a ∧ f a = b := by
  rw [List.getElem?_map] at h
  cases e : l[i]? with
  | none => rw [e] at h; cases h
  | some a =>
    rw [e] at h
    exact ⟨a, rfl, Option.some.inj h⟩
theorem paired_at' {α β : Type} {F : α → β → Prop} : ∀ {xs : List α} {ys : List β} {i : Nat} {x : α}, Paired F xs ys → xs[i]? = some x → ∃ y, ys[i]? = some y ∧ F x y
  | _, _, _, _, .nil, e => by simp at e
  | _, _, 0, _, .cons r _, e => by simp at e; subst e; exact ⟨_, rfl, r⟩
  | _, _, i + 1, x, .cons _ t, e => by
    obtain ⟨u, h1, h2⟩ := paired_at' (i := i) (x := x) t (by simpa using e)
    exact ⟨u, by simpa using h1, h2⟩
/-- a list that is read is no longer than lists are -/
def tL (K : PySem.W.Frag) (t : TE) : TE := fun σ H Q => t σ H fun v H1 => (∀ a xs, v = .ref a → SqL K H1 a xs → xs.length ≤ sizeLine) → Q v H1
theorem pe_lok {X : Cx} {e : Expr} {t : TE} (h : PE X e t) : PE X e (tL X.K t) := ⟨fun pins s σ H Q I q => thn (h.run pins s σ H _ I q) fun v s1 ⟨x, H1, I1, r1, q1⟩ => ⟨x, H1, I1, r1, q1 fun a xs _ hq => by
  obtain ⟨_, _, _, z⟩ := I1.list hq
  exact z⟩⟩
/-- over a list -/
theorem di_list [Enc α] {K : PySem.W.Frag} {t : TE} {l : List α} (hK : K = Γ.K) (c : m = .nu → mA = .nu) (h : DR ρ t (tl m l)) : DI mA ρ (iList K (tL K t)) (l.map (tl m)) := fun B H0 S H σ Fs R e k =>
  h B H0 S H σ Fs _ e fun v S' H' F g p _ hz => by
    obtain ⟨⟨a, xs, rfl, hs, hp⟩, _⟩ := p
    have hs' := (hm_in (m := m) (e.b.trans g.h) g.i).seq hs
    refine ⟨a, rfl, ⟨xs, hK ▸ hs'⟩, k _ S' H' g ⟨by rw [List.length_map, ← paired_len hp]; exact hz a xs rfl (hK ▸ hs'), fun {S1 H1} e1 e2 e3 {i s} hi => ?_, fun {S1 H1} e1 e2 e3 => ?_⟩⟩
    · obtain ⟨b, hb, rfl⟩ := map_at hi
      obtain ⟨x, hx, r⟩ := paired_at hp hb
      have hk := keep_hm (m := m) (mA := mA) c e1 e2
      have hq := (hm_in (m := m) e3.b e3.i).seq (hk.seq hs)
      refine ⟨⟨xs, x, hK ▸ hq, hx⟩, fun y H2 ⟨q1, q2⟩ => ?_⟩
      subst q1
      have := q2 xs (hK ▸ hq)
      rw [hx] at this
      cases this
      exact ⟨Grow.refl e3.i, Enc.mono hk r, rfl⟩
    · exact ⟨xs, hK ▸ (hm_in (m := m) e3.b e3.i).seq ((keep_hm (m := m) (mA := mA) c e1 e2).seq hs), by rw [List.length_map, ← paired_len hp]; exact Nat.le_refl _⟩
theorem nmd_ne (h : nmd n = .nu) : mA = .nu := by cases n <;> cases h
theorem di_fg [Enc α] {K : PySem.W.Frag} {t : TE} {l : List α} (hK : K = Γ.K) (h : DR ρ t (tl (nmd n) l)) : DI .fg ρ (iList K (tL K t)) (l.map (tl (nmd n))) := di_list hK nmd_ne h
theorem di_nu [Enc α] {K : PySem.W.Frag} {t : TE} {l : List α} (hK : K = Γ.K) (h : DR ρ t (tl m l)) : DI .nu ρ (iList K (tL K t)) (l.map (tl m)) := di_list hK (fun _ => rfl) h
theorem DI.imp {wi : TI} {xs : List ι} {f f' : ι → Sl} (h : DI mA ρ wi (xs.map f)) (hi : ∀ x B S H v, (f x).P B S H v [] → (f' x).P B S H v []) : DI mA ρ wi (xs.map f') := fun B H0 S H σ Fs R e k =>
  h B H0 S H σ Fs R e fun J S' H' g w => k J S' H' g ⟨by have := w.len; rw [List.length_map] at this ⊢; exact this, fun {S1 H1} e1 e2 e3 {i s} hs => by
    obtain ⟨b, hb, rfl⟩ := map_at hs
    obtain ⟨g1, g2⟩ := w.go e1 e2 e3 (i := i) (s := f b) (by rw [List.getElem?_map, hb]; rfl)
    exact ⟨g1, fun x H' y => ⟨(g2 x H' y).1, hi _ _ _ _ _ (g2 x H' y).2⟩⟩, fun {S1 H1} e1 e2 e3 => by
      have := w.stop e1 e2 e3
      rw [List.length_map] at this ⊢
      exact this⟩
/-- over a list of scalars -/
theorem di_sc [Scal α] {K : PySem.W.Frag} {t : TE} {l : List α} (hK : K = Γ.K) (h : DR ρ t (tl m l)) : DI .nu ρ (iList K (tL K t)) (l.map sh) := (di_nu hK h).imp fun _ _ _ _ _ p => ⟨p.1, rfl⟩
theorem di_scf [Scal α] {K : PySem.W.Frag} {t : TE} {l : List α} (hK : K = Γ.K) (h : DR ρ t (tl (nmd n) l)) : DI .fg ρ (iList K (tL K t)) (l.map sh) := (di_fg hK h).imp fun _ _ _ _ _ p => ⟨p.1, rfl⟩
/-- over a range -/
theorem itr_walks {B S1 A : Hp} {lo : Int} {n : Nat} (hn : n ≤ sizeLine) : Ivs (Itr lo n) B S1 A ((List.range n).map fun (k : Nat) => sh (lo + (k : Int))) :=
  ⟨by rw [List.length_map, List.length_range]; exact hn, fun {S H} e1 e2 e3 {i s} hi => by
    obtain ⟨b, hb, rfl⟩ := map_at hi
    have hl : i < n := by
      have := (List.getElem?_eq_some_iff.mp hb).1
      rw [List.length_range] at this
      exact this
    have eb : b = i := by
      have := (List.getElem?_eq_some_iff.mp hb).2
      rw [List.getElem_range] at this
      exact this.symm
    subst eb
    exact ⟨hl, fun x H' ⟨q1, q2⟩ => by subst q1; exact ⟨Grow.refl e3.i, q2, rfl⟩⟩,
   fun {S H} e1 e2 e3 => by rw [List.length_map, List.length_range]; exact Nat.le_refl n⟩
theorem di_range1 {ta : TE} {k : Int} (h : DR ρ ta (tl m k)) (h1 : -(2 ^ 62) ≤ k) (h2 : k ≤ 16777216) : DI mA ρ (iRng1 (tCons ta tNil)) ((List.range k.toNat).map fun (j : Nat) => sh ((j : Nat) : Int)) := fun B H0 S H σ Fs R e kk =>
  da_sh h da_nil B H0 S H σ Fs _ e fun vs S' H' g p => by
    obtain ⟨v, rfl, q⟩ := pr1 p
    refine ⟨k, by rw [q.1]; rfl, h1, by omega, kk _ S' H' g ?_⟩
    have w := itr_walks (B := B) (S1 := S') (A := hm mA B S' H') (lo := 0) (n := k.toNat) (by rw [sizeLine_eq]; omega)
    have ef : (fun j : Nat => sh (0 + (j : Int))) = fun j : Nat => sh ((j : Nat) : Int) := by funext j; rw [Int.zero_add]
    rw [ef] at w
    exact w
theorem di_range2 {ta tb : TE} {j k : Int} (h : DR ρ ta (tl m j)) (h' : DR ρ tb (tl m' k)) (h1 : -(2 ^ 62) ≤ j ∧ j < 2 ^ 62 ∧ -(2 ^ 62) ≤ k ∧ k < 2 ^ 62) (h2 : k - j ≤ 16777216) : DI mA ρ (iRng2 (tCons ta (tCons tb tNil))) ((List.range (k - j).toNat).map fun (i : Nat) => sh (j + (i : Int))) := fun B H0 S H σ Fs R e kk =>
  da_sh h (da_sh h' da_nil) B H0 S H σ Fs _ e fun vs S' H' g p => by
    obtain ⟨v, w, rfl, q, q'⟩ := pr2 p
    exact ⟨j, k, by rw [q.1, q'.1]; rfl, h1, kk _ S' H' g (itr_walks (by rw [sizeLine_eq]; omega))⟩
/-- pairs that are taken apart at once -/
def pr (s s' : Sl) : Sl := ⟨fun B S H v F => F = [] ∧ ∃ T x y, v = .ref T ∧ SqT Γ.K H T [x, y] ∧ s.P B S H x [] ∧ s'.P B S H y [], fun e e' ⟨h0, T, x, y, h1, h2, h3, h4⟩ => ⟨h0, T, x, y, h1, same_tup e' h2, s.mono e e' h3, s'.mono e e' h4⟩⟩
theorem pair_pr [Enc α] [Enc β] {a : α} {b : β} {B S H : Hp} {v : V} {F : List Addr} (hb : Same B H) (i : Same S H) (h : (tl m (a, b)).P B S H v F) : (pr (tl m a) (tl m b)).P B S H v F := by
  obtain ⟨⟨p, x, y, h1, h2, h3, h4⟩, hF⟩ := h
  exact ⟨hF, p, x, y, h1, same_tup (hm_in hb i) h2, ⟨h3, rfl⟩, ⟨h4, rfl⟩⟩
/-- enumerate -/
theorem di_enum [Enc α] {K : PySem.W.Frag} {t : TE} {l : List α} (hK : K = Γ.K) (c : m = .nu → mA = .nu) (h : DR ρ t (tl m l)) : DI mA ρ (iEnum K (tCons (tL K t) tNil)) (l.zipIdx.map fun p => pr (sh ((p.2 : Nat) : Int)) (tl m p.1)) := fun B H0 S H σ Fs R e k =>
  h B H0 S H σ Fs _ e fun v S' H' F g q _ hz => by
    obtain ⟨⟨a, xs, rfl, hs, hp⟩, _⟩ := q
    have hs' := (hm_in (m := m) (e.b.trans g.h) g.i).seq hs
    refine ⟨a, xs, rfl, hK ▸ hs', k _ S' H' g ⟨by rw [List.length_map, List.length_zipIdx, ← paired_len hp]; exact hz a xs rfl (hK ▸ hs'), fun {S1 H1} e1 e2 e3 {i s} hi => ?_, fun {S1 H1} e1 e2 e3 => ?_⟩⟩
    · obtain ⟨⟨b, j⟩, hb, rfl⟩ := map_at hi
      rw [List.getElem?_zipIdx] at hb
      cases hl : l[i]? with
      | none => rw [hl] at hb; cases hb
      | some d =>
        rw [hl] at hb
        simp only [Option.map_some, Option.some.injEq, Prod.mk.injEq] at hb
        obtain ⟨rfl, rfl⟩ := hb
        obtain ⟨x, hx, r⟩ := paired_at hp hl
        have hk := keep_hm (m := m) (mA := mA) c e1 e2
        have hq := (hm_in (m := m) e3.b e3.i).seq (hk.seq hs)
        refine ⟨⟨xs, x, hK ▸ hq, hx⟩, fun y H2 ⟨T, x', q0, qa, q2, q3⟩ => ?_⟩
        have := q3 xs (hK ▸ hq)
        rw [hx] at this
        cases this
        subst q2
        refine ⟨⟨Same.refl _, same_upd qa, e3.i.trans (same_upd qa), fun _ h => .inl h⟩, rfl, T, _, _, q0, SqT.of upd_same, ⟨by rw [Nat.zero_add]; rfl, rfl⟩, ?_, rfl⟩
        exact Enc.mono (hm_g (Same.refl _) (same_upd qa)) (Enc.mono hk r)
    · exact ⟨xs, hK ▸ (hm_in (m := m) e3.b e3.i).seq ((keep_hm (m := m) (mA := mA) c e1 e2).seq hs), by rw [List.length_map, List.length_zipIdx, ← paired_len hp]; exact Nat.le_refl _⟩
/-- zip -/
theorem di_zip [Enc α] [Enc β] {K : PySem.W.Frag} {ta tb : TE} {l : List α} {l' : List β} (hK : K = Γ.K) (c : m = .nu → mA = .nu) (c' : m' = .nu → mA = .nu) (h : DR ρ ta (tl m l)) (h' : DR ρ tb (tl m' l')) : DI mA ρ (iZip K (tCons (tL K ta) (tCons tb tNil))) ((l.zip l').map fun p => pr (tl m p.1) (tl m' p.2)) := fun B H0 S H σ Fs R e k =>
  h B H0 S H σ Fs _ e fun v S1 H1 F g1 qa _ hz => h' B H0 S1 H1 σ Fs _ (e.grow g1) fun w S' H' F' g2 q' _ => by
    have g := g1.trans g2
    have hin := fun {mm : Md} => hm_in (m := mm) (e.b.trans g.h) g.i
    obtain ⟨⟨a, xs, rfl, hs1, hp1⟩, _⟩ := qa
    have hz' := hz a xs rfl (hK ▸ (hm_in (m := m) (e.b.trans g1.h) g1.i).seq hs1)
    have hs := (hm_g (m := m) (B := B) g2.s g2.h).seq hs1
    have hp := paired_mono (fun _ _ r => Enc.mono (hm_g (m := m) (B := B) g2.s g2.h) r) hp1
    obtain ⟨⟨b, ys, rfl, hs', hp'⟩, _⟩ := q'
    refine ⟨a, b, xs, ys, rfl, hK ▸ hin.seq hs, hK ▸ hin.seq hs', k _ S' H' g ⟨by rw [List.length_map, List.length_zip, ← paired_len hp]; exact Nat.le_trans (Nat.min_le_left _ _) hz', fun {S1 H1} e1 e2 e3 {i s} hi => ?_, fun {S1 H1} e1 e2 e3 => ?_⟩⟩
    · obtain ⟨⟨d, d'⟩, hb, rfl⟩ := map_at hi
      have hzz : l[i]? = some d ∧ l'[i]? = some d' := by
        rw [List.getElem?_zip_eq_some] at hb
        exact hb
      obtain ⟨x, hx, r⟩ := paired_at hp hzz.1
      obtain ⟨y, hy, r'⟩ := paired_at hp' hzz.2
      have hk := keep_hm (m := m) (mA := mA) c e1 e2
      have hk' := keep_hm (m := m') (mA := mA) c' e1 e2
      have hq := (hm_in (m := m) e3.b e3.i).seq (hk.seq hs)
      have hq' := (hm_in (m := m') e3.b e3.i).seq (hk'.seq hs')
      refine ⟨⟨xs, ys, x, y, hK ▸ hq, hK ▸ hq', hx, hy⟩, fun z H2 ⟨T, x', y', q0, qb, q2, q3, q4⟩ => ?_⟩
      have z1 := q3 xs (hK ▸ hq)
      rw [hx] at z1
      cases z1
      have z2 := q4 ys (hK ▸ hq')
      rw [hy] at z2
      cases z2
      subst q2
      refine ⟨⟨Same.refl _, same_upd qb, e3.i.trans (same_upd qb), fun _ h => .inl h⟩, rfl, T, _, _, q0, SqT.of upd_same, ⟨?_, rfl⟩, ?_, rfl⟩
      · exact Enc.mono (hm_g (Same.refl _) (same_upd qb)) (Enc.mono hk r)
      · exact Enc.mono (hm_g (Same.refl _) (same_upd qb)) (Enc.mono hk' r')
    · refine ⟨xs, ys, hK ▸ (hm_in (m := m) e3.b e3.i).seq ((keep_hm (m := m) (mA := mA) c e1 e2).seq hs), hK ▸ (hm_in (m := m') e3.b e3.i).seq ((keep_hm (m := m') (mA := mA) c' e1 e2).seq hs'), ?_⟩
      rw [List.length_map, List.length_zip, paired_len hp, paired_len hp']
      rcases Nat.le_total l.length l'.length with c | c
      · left; omega
      · right; omega
/-- reversed(range(n)) -/
theorem di_revrange {ta : TE} {j : Int} (h : DR ρ ta (tl m j)) (h1 : -(2 ^ 62) ≤ j) (h2 : j ≤ 16777216) : DI mA ρ (iRevR (tRg1 ta)) ((List.range j.toNat).reverse.map fun (k : Nat) => sh ((k : Nat) : Int)) := fun B H0 S H σ Fs R e kk =>
  h B H0 S H σ Fs _ e fun v S' H' F g p _ => by
    refine ⟨j, p.1, (by decide), (by decide), h1, by omega, kk _ S' H' g ⟨by rw [List.length_map, List.length_reverse, List.length_range, sizeLine_eq]; omega, fun {S1 H1} e1 e2 e3 {i s} hi => ?_, fun {S1 H1} e1 e2 e3 => ?_⟩⟩
    · obtain ⟨b, hb, rfl⟩ := map_at hi
      have hl : i < j.toNat := by
        have := (List.getElem?_eq_some_iff.mp hb).1
        rw [List.length_reverse, List.length_range] at this
        exact this
      rw [List.getElem?_reverse (by rw [List.length_range]; exact hl), List.length_range, List.getElem?_range (by omega)] at hb
      have eb := Option.some.inj hb
      subst eb
      refine ⟨(by show i < (j - 0).toNat; omega), fun x H' ⟨q1, q2⟩ => ?_⟩
      subst q1
      refine ⟨Grow.refl e3.i, ?_, rfl⟩
      rw [q2]
      show V.int _ = V.int _
      congr 1
      have hN : ((j - 0).toNat : Int) = j := by omega
      rw [hN]
      omega
    · rw [List.length_map, List.length_reverse, List.length_range]
      show (j - 0).toNat ≤ j.toNat
      omega
/-! ### targets -/
def DG (ρ : En) (s : Sl) (g : TG) (ρ' : En) : Prop := ∀ (B H0 S H : Hp) (σ : St) (Fs : Nat → List Addr) (v : V) (Q : St → Hp → Prop), Ev B H0 ρ S H σ Fs → s.P B S H v [] →
  (∀ σ' Fs', Ev B H0 ρ' S H σ' Fs' → Q σ' H) → g v σ H Q
theorem dg_name {s : Sl} {i : Nat} (hi : i < ρ.length) : DG ρ s (gName i) (ρ.set i (some s)) := fun B H0 S H σ Fs v Q e p k =>
  k _ _ (e.put (Grow.refl e.i) hi p (fun q h => nomatch h) (fun q h => nomatch h))
theorem dg_pr {K : PySem.W.Frag} {s s' : Sl} {i j : Nat} (hK : K = Γ.K) (hi : i < ρ.length) (hj : j < ρ.length) : DG ρ (pr s s') (gTup K 2 (gCons (gName i) (gCons (gName j) gNil))) ((ρ.set i (some s)).set j (some s')) := fun B H0 S H σ Fs v Q e p k => by
  obtain ⟨_, T, x, y, rfl, h2, h3, h4⟩ := p
  have e1 := e.put (Grow.refl e.i) hi h3 (fun q h => nomatch h) (fun q h => nomatch h)
  have e2 := e1.put (i := j) (Grow.refl e.i) (by rw [List.length_set]; exact hj) h4 (fun q h => nomatch h) (fun q h => nomatch h)
  exact ⟨T, [x, y], rfl, hK ▸ h2, rfl, x, [y], rfl, y, [], rfl, rfl, k _ _ e2⟩
theorem dg_pair [Enc α] [Enc β] {K : PySem.W.Frag} {a : α} {b : β} {i j : Nat} (hK : K = Γ.K) (hi : i < ρ.length) (hj : j < ρ.length) : DG ρ (tl m (a, b)) (gTup K 2 (gCons (gName i) (gCons (gName j) gNil))) ((ρ.set i (some (tl m a))).set j (some (tl m b))) := fun B H0 S H σ Fs v Q e p k =>
  dg_pr hK hi hj B H0 S H σ Fs v Q e (pair_pr e.b e.i p) k
theorem dg_t3 [Enc α] [Enc β] [Enc γ] {K : PySem.W.Frag} {c : T3 α β γ} {i j l : Nat} (hK : K = Γ.K) (hi : i < ρ.length) (hj : j < ρ.length) (hl : l < ρ.length) :
    DG ρ (tl m c) (gTup K 3 (gCons (gName i) (gCons (gName j) (gCons (gName l) gNil)))) (((ρ.set i (some (tl m c.a))).set j (some (tl m c.b))).set l (some (tl m c.c))) := fun B H0 S H σ Fs v Q e p k => by
  obtain ⟨⟨T, x, y, z, rfl, h2, h3, h4, h5⟩, _⟩ := p
  have e1 := e.put (s := tl m c.a) (Grow.refl e.i) hi ⟨h3, rfl⟩ (fun q h => nomatch h) (fun q h => nomatch h)
  have e2 := e1.put (i := j) (s := tl m c.b) (Grow.refl e.i) (by rw [List.length_set]; exact hj) ⟨h4, rfl⟩ (fun q h => nomatch h) (fun q h => nomatch h)
  have e3 := e2.put (i := l) (s := tl m c.c) (Grow.refl e.i) (by rw [List.length_set, List.length_set]; exact hl) ⟨h5, rfl⟩ (fun q h => nomatch h) (fun q h => nomatch h)
  exact ⟨T, [x, y, z], rfl, hK ▸ (same_tup (hm_in e.b e.i) h2), rfl, x, [y, z], rfl, y, [z], rfl, z, [], rfl, rfl, k _ _ e3⟩
/-! ### comprehensions -/
def wipeE (ρ : En) : List Nat → En
  | [] => ρ
  | v :: vs => (wipeE ρ vs).set v none
theorem Ev.drop2 {B H0 : Hp} {S H : Hp} {σ : St} {Fs : Nat → List Addr} (e : Ev B H0 ρ S H σ Fs) (i : Nat) : Ev B H0 (ρ.set i none) S H (σ.set i none) Fs := by
  refine ⟨e.bh, e.hh, e.i, e.nw, by rw [List.length_set, List.length_set]; exact e.len, fun j s h => ?_, e.fr, e.ap⟩
  rcases set_get h with ⟨_, hs⟩ | ⟨hj, hs⟩
  · cases hs
  · obtain ⟨v, h1, h2⟩ := e.sl j s hs
    exact ⟨v, by rw [List.getElem?_set_ne (Ne.symm hj)]; exact h1, h2⟩
theorem Ev.wipe {B H0 : Hp} {S H : Hp} {σ : St} {Fs : Nat → List Addr} (e : Ev B H0 ρ S H σ Fs) : ∀ vs : List Nat, Ev B H0 (wipeE ρ vs) S H (L2.wipe σ vs) Fs
  | [] => e
  | v :: vs => (e.wipe vs).drop2 v
/-- a target stores into the block's own names alone -/
def GV (g : TG) (vs : List Nat) : Prop := ∀ (v : V) (σ : St) (H : Hp) (Q : St → Hp → Prop), g v σ H Q → g v σ H fun σ' H' => L2.wipe σ' vs = L2.wipe σ vs ∧ Q σ' H'
theorem wipe_at {σ : St} {i : Nat} : ∀ {vs : List Nat}, (L2.wipe σ vs)[i]? = if i ∈ vs ∧ i < σ.length then some none else σ[i]?
  | [] => by rw [if_neg (by simp)]; rfl
  | v :: vs => by
    show ((L2.wipe σ vs).set v none)[i]? = _
    rw [List.getElem?_set, L2.wipe_length, wipe_at (vs := vs)]
    by_cases c : v = i
    · subst c
      rw [if_pos rfl]
      by_cases hl : v < σ.length
      · rw [if_pos hl, if_pos ⟨List.mem_cons_self, hl⟩]
      · rw [if_neg hl, if_neg (fun h => hl h.2), List.getElem?_eq_none (by omega)]
    · rw [if_neg c]
      by_cases hm : i ∈ vs ∧ i < σ.length
      · rw [if_pos hm, if_pos ⟨List.mem_cons_of_mem _ hm.1, hm.2⟩]
      · rw [if_neg hm, if_neg]
        rintro ⟨h1, h2⟩
        rcases List.mem_cons.mp h1 with h | h
        · exact c h.symm
        · exact hm ⟨h, h2⟩
theorem wipe_set {σ : St} {i : Nat} {x : Option V} {vs : List Nat} (h : i ∈ vs) : L2.wipe (σ.set i x) vs = L2.wipe σ vs := by
  apply List.ext_getElem?
  intro j
  rw [wipe_at, wipe_at, List.length_set]
  by_cases c : j ∈ vs ∧ j < σ.length
  · rw [if_pos c, if_pos c]
  · rw [if_neg c, if_neg c]
    by_cases e : i = j
    · subst e
      have hl : ¬ i < σ.length := fun z => c ⟨h, z⟩
      rw [List.getElem?_eq_none (by rw [List.length_set]; omega), List.getElem?_eq_none (by omega)]
    · rw [List.getElem?_set_ne e]
theorem wipe_idem {σ : St} {vs : List Nat} : L2.wipe (L2.wipe σ vs) vs = L2.wipe σ vs := by
  apply List.ext_getElem?
  intro j
  rw [wipe_at, L2.wipe_length]
  by_cases c : j ∈ vs ∧ j < σ.length
  · rw [if_pos c, wipe_at, if_pos c]
  · rw [if_neg c]
theorem gv_name {i : Nat} {vs : List Nat} (h : i ∈ vs) : GV (gName i) vs := fun v σ H Q q => ⟨wipe_set h, q⟩
theorem gv_two {K : PySem.W.Frag} {i j : Nat} {vs : List Nat} (h : i ∈ vs) (h' : j ∈ vs) : GV (gTup K 2 (gCons (gName i) (gCons (gName j) gNil))) vs := fun v σ H Q q => by
  obtain ⟨a, xs, e1, e2, e3, x, r, e4, y, r', e5, e6, q⟩ := q
  exact ⟨a, xs, e1, e2, e3, x, r, e4, y, r', e5, e6, by show L2.wipe _ _ = _; rw [wipe_set h', wipe_set h], q⟩
/-- the list so far, told by f of the items so far -/
structure Lc (n : Bool) (B S H : Hp) (D : Addr) (Sn Hn : Hp) (l : List α) [Enc α] : Prop where
  g : Grow S H Sn Hn
  d : Sn D = none
  at_ : ∃ acc, Hn D = some (.lst acc) ∧ Paired (rep (if n = true then Sn else un B Sn)) acc l
theorem lc_put {S H Sn Hn : Hp} {D : Addr} {xs : List V} (g : Grow S H Sn Hn) (hD : H D = none) (hd : Sn D = none) : Grow S H Sn (upd Hn D (.lst xs)) :=
  ⟨g.s, fun b o hb => by rw [upd_ne (ne_of_none hb hD)]; exact g.h _ _ hb, fun b o hb => by rw [upd_ne (ne_of_none hb hd)]; exact g.i _ _ hb, g.n⟩
theorem dr_lc [Enc β] {wi : TI} {g : TG} {tt : TT} {te : TE} {vs : List Nat} {xs : List ι} {fs : ι → Sl} {ρx : ι → En} {p : ι → Bool} {f : ι → β} (hi : DI .nu ρ wi (xs.map fs)) (hv : GV g vs)
    (hg : ∀ x ∈ xs, DG (wipeE ρ vs) (fs x) g (ρx x)) (ht : ∀ x ∈ xs, DT (ρx x) tt (p x)) (he : ∀ x ∈ xs, p x = true → DR (ρx x) te (tl (nmd n) (f x))) : DR ρ (tLc wi g tt te vs) (own n ((xs.filter p).map f)) := fun B H0 S H σ Fs Q e k =>
  hi B H0 S H σ Fs _ e fun J S1 H1 g1 w D hD => by
    have e1 := e.grow g1
    have hl : xs.length ≤ sizeLine := by have := w.len; rw [List.length_map] at this; exact this
    refine ⟨fun i m Hn => m = xs.length - i ∧ i ≤ xs.length ∧ ∃ Sn, Lc n B S1 H1 D Sn Hn (((xs.take i).filter p).map f), ⟨xs.length, by simp, Nat.zero_le _, S1, ⟨⟨Same.refl _, same_upd hD, g1.i.trans (same_upd hD), fun _ h => .inl h⟩, g1.i.free hD, [], upd_same, .nil⟩⟩, ?_⟩
    rintro i m Hn ⟨rfl, hin, Sn, ⟨gn, dn, acc, ha, hp⟩⟩
    have sn : Std B Sn Hn := ⟨e1.b.trans gn.h, gn.i⟩
    have el : acc.length = (((xs.take i).filter p).map f).length := paired_len hp
    have el2 : (((xs.take i).filter p).map f).length ≤ i := by
      rw [List.length_map]
      exact Nat.le_trans (List.length_filter_le _ _) (by rw [List.length_take]; exact Nat.min_le_left _ _)
    by_cases hlt : i < xs.length
    · right
      have hx : xs[i]? = some xs[i] := List.getElem?_eq_getElem hlt
      obtain ⟨q1, q2⟩ := w.go gn.s gn.h sn (i := i) (s := fs xs[i]) (by rw [List.getElem?_map, hx]; rfl)
      have hm : xs[i] ∈ xs := List.getElem_mem hlt
      have et : xs.take (i + 1) = xs.take i ++ [xs[i]] := by rw [List.take_succ_eq_append_getElem hlt]
      refine ⟨q1, fun H' => ∃ Sn, Lc n B S1 H1 D Sn H' (((xs.take (i + 1)).filter p).map f), fun H' ⟨Sn', h'⟩ => ⟨xs.length - (i + 1), by omega, rfl, hlt, Sn', h'⟩, fun y H' hy => ?_⟩
      obtain ⟨g2, p2⟩ := q2 y H' hy
      have e2 : Ev B H0 (wipeE ρ vs) Sn H' (L2.wipe σ vs) Fs := (e1.grow (gn.trans g2)).wipe vs
      have h0 := hv y (L2.wipe σ vs) H' _ (hg _ hm B H0 Sn H' _ Fs y (fun σ2 H2 => tt σ2 H2 fun b H3 => if b = true then te σ2 H3 fun y H4 => ∃ acc, H4 D = some (.lst acc) ∧ acc.length < sizeLine ∧ (∃ Sn, Lc n B S1 H1 D Sn (upd H4 D (.lst (acc ++ [y]))) (((xs.take (i + 1)).filter p).map f)) else ∃ Sn, Lc n B S1 H1 D Sn H3 (((xs.take (i + 1)).filter p).map f)) e2 p2 fun σ' Fs' e3 =>
        ht _ hm B H0 Sn H' σ' Fs' _ e3 fun S4 H4 g4 => ?_)
      · simp only [wipe_idem] at h0
        exact h0
      · have g3 := g2.trans g4
        have hD2 := g3.h _ _ ha
        have d4 : S4 D = none := g3.off dn ha
        cases ep : p xs[i] with
        | false =>
          rw [if_neg Bool.false_ne_true]
          refine ⟨S4, gn.trans g3, d4, acc, hD2, ?_⟩
          rw [et, List.filter_append, List.filter_cons_of_neg (by rw [ep]; exact Bool.false_ne_true), List.filter_nil, List.append_nil]
          exact paired_mono (fun _ _ r => Enc.mono (own_g g3.s) r) hp
        | true =>
          rw [if_pos rfl]
          refine he _ hm ep B H0 S4 H4 σ' Fs' _ (e3.grow g4) fun z S5 H5 F g5 p5 _ => ?_
          have g6 := g3.trans g5
          have hD3 := g6.h _ _ ha
          have d5 : S5 D = none := g6.off dn ha
          refine ⟨acc, hD3, by omega, S5, lc_put (gn.trans g6) hD d5, d5, _, upd_same, ?_⟩
          rw [et, List.filter_append, List.filter_cons_of_pos ep, List.filter_nil, List.map_append]
          have p5' := p5.1
          rw [nmd_hp] at p5'
          exact paired_snoc p5' (paired_mono (fun _ _ r => Enc.mono (own_g g6.s) r) hp)
    · have ei : i = xs.length := by omega
      subst ei
      left
      refine ⟨by have := w.stop gn.s gn.h sn; rw [List.length_map] at this; exact this, ?_⟩
      rw [List.take_length] at hp
      exact k (.ref D) Sn Hn [D] (g1.trans gn) ⟨D, acc, rfl, rfl, ha, hp⟩ fun q hq => by
        cases List.mem_singleton.mp hq
        exact ⟨g1.h.free hD, dn⟩
theorem dr_lc0 [Enc β] {wi : TI} {g : TG} {te : TE} {vs : List Nat} {xs : List ι} {fs : ι → Sl} {ρx : ι → En} {f : ι → β} (hi : DI .nu ρ wi (xs.map fs)) (hv : GV g vs)
    (hg : ∀ x ∈ xs, DG (wipeE ρ vs) (fs x) g (ρx x)) (he : ∀ x ∈ xs, DR (ρx x) te (tl (nmd n) (f x))) : DR ρ (tLc wi g tYes te vs) (own n (xs.map f)) := by
  have h := dr_lc (p := fun _ => true) hi hv hg (fun _ _ => dt_yes) (fun x hx _ => he x hx)
  rw [List.filter_eq_self.mpr (fun _ _ => rfl)] at h
  exact h
end
end G

namespace G
open PySem L2
section
variable [Γ : Ctx] {ρ ρ' : En} {α β γ δ ι : Type} {m m' : Md} {n : Bool}
/-! ### statements -/
/-- what is wanted behind a statement -/
structure Wn where
  nx : En → Prop
  rt : En → Sl → Prop
def DS (ρ : En) (t : TS) (W : Wn) : Prop := ∀ (B H0 S H : Hp) (σ : St) (Fs : Nat → List Addr) (D : Ends), Ev B H0 ρ S H σ Fs →
  (∀ ρ' S' H' σ' Fs', W.nx ρ' → Same S S' → Ev B H0 ρ' S' H' σ' Fs' → D.nx σ' H') →
  (∀ ρ' r S' H' σ' Fs' v F, W.rt ρ' r → Ev B H0 ρ' S' H' σ' Fs' → r.P B S' H' v F → (∀ q ∈ F, H0 q = none ∧ S' q = none) → D.rt v H') → t D σ H
variable {W : Wn}
theorem ds_next (h : W.nx ρ) : DS ρ tNext W := fun B H0 S H σ Fs D e k1 k2 => k1 ρ S H σ Fs h (Same.refl _) e
theorem ds_seq {t u : TS} (h : DS ρ t { W with nx := fun ρ' => DS ρ' u W }) : DS ρ (tSeq t u) W := fun B H0 S H σ Fs D e k1 k2 =>
  h B H0 S H σ Fs { D with nx := u D } e (fun ρ' S' H' σ' Fs' hu es e' => hu B H0 S' H' σ' Fs' D e' (fun ρ2 S2 H2 σ2 Fs2 w s2 e2 => k1 ρ2 S2 H2 σ2 Fs2 w (es.trans s2) e2) k2) k2
theorem ds_thru {t u : TS} (h : DS ρ t { W with nx := fun ρ' => DS ρ' u W }) : DS ρ (tThru t u) W := ds_seq h
/-- x = e -/
theorem ds_set {te : TE} {i : Nat} {r : Sl} (h : DR ρ te r) (ha : r.Al) (hi : i < ρ.length) (k : W.nx (ρ.set i (some r))) : DS ρ (tAsg te (gName i)) W := fun B H0 S H σ Fs D e k1 k2 =>
  h B H0 S H σ Fs _ e fun v S' H' F g p hF => k1 _ _ _ _ _ k g.s (e.put g hi p hF (ha p))
theorem ds_settl [Enc α] {te : TE} {i : Nat} {a : α} (h : DR ρ te (tl m a)) (hi : i < ρ.length) (k : W.nx (ρ.set i (some (tl m a)))) : DS ρ (tAsg te (gName i)) W := ds_set h tl_al hi k
theorem ds_setow [Enc α] {te : TE} {i : Nat} {l : List α} (h : DR ρ te (own n l)) (hi : i < ρ.length) (k : W.nx (ρ.set i (some (own n l)))) : DS ρ (tAsg te (gName i)) W := ds_set h own_al hi k
/-- a, b = e -/
theorem ds_asg {te : TE} {g : TG} {r : Sl} {ρ' : En} (h : DR ρ te r) (hr : ∀ {B S H v F}, r.P B S H v F → F = []) (hg : DG ρ r g ρ') (k : W.nx ρ') : DS ρ (tAsg te g) W := fun B H0 S H σ Fs D e k1 k2 =>
  h B H0 S H σ Fs _ e fun v S' H' F g2 p hF => hg B H0 S' H' σ Fs v _ (e.grow g2) (hr p ▸ p) fun σ' Fs' e' => k1 _ _ _ _ _ k g2.s e'
/-- a, b = x, y, stored at once -/
theorem ds_par [Enc α] [Enc β] {i j : Nat} {ta tb : TE} {a : α} {b : β} (h1 : DR ρ ta (tl m a)) (h2 : DR ρ tb (tl m' b)) (hi : i < ρ.length) (hj : j < ρ.length) (k : W.nx ((ρ.set i (some (tl m a))).set j (some (tl m' b)))) : DS ρ (tPar i j (tCons ta (tCons tb tNil))) W := fun B H0 S H σ Fs D e k1 k2 =>
  da_sh h1 (da_sh h2 da_nil) B H0 S H σ Fs _ e fun vs S' H' g p => by
    obtain ⟨v, w, rfl, q1, q2⟩ := pr2 p
    have e1 := e.put (i := i) (s := tl m a) g hi q1 (fun q h => nomatch h) (fun q h => nomatch h)
    have e2 := e1.put (i := j) (s := tl m' b) (Grow.refl g.i) (by rw [List.length_set]; exact hj) q2 (fun q h => nomatch h) (fun q h => nomatch h)
    exact ⟨v, w, rfl, k1 _ _ _ _ _ k g.s e2⟩
theorem ds_ret {te : TE} {r : Sl} (h : DR ρ te r) (k : W.rt ρ r) : DS ρ (tRet te) W := fun B H0 S H σ Fs D e k1 k2 =>
  h B H0 S H σ Fs _ e fun v S' H' F g p hF => k2 ρ r S' H' σ Fs v F k (e.grow g) p fun q hq => ⟨e.hh.free (hF q hq).1, (hF q hq).2⟩
/-- return x, x one's own list -/
theorem ds_reto [Enc α] {i : Nat} {l : List α} (h : ρ[i]? = some (some (own n l))) (k : W.rt ρ (own n l)) : DS ρ (tRet (tVar i)) W := fun B H0 S H σ Fs D e k1 k2 => by
  obtain ⟨v, h1, h2⟩ := e.sl i _ h
  exact ⟨v, h1, k2 ρ _ S H σ Fs v (Fs i) k e h2 fun q hq => ⟨(e.fr i q hq).2.1, (e.fr i q hq).1⟩⟩
theorem ds_retN (k : W.rt ρ (sh ())) : DS ρ tRetN W := fun B H0 S H σ Fs D e k1 k2 => k2 ρ _ S H σ Fs .non [] k e ⟨rfl, rfl⟩ (fun q h => nomatch h)
theorem ds_drop {te : TE} {r : Sl} (h : DR ρ te r) (k : W.nx ρ) : DS ρ (tDrop te) W := fun B H0 S H σ Fs D e k1 k2 =>
  h B H0 S H σ Fs _ e fun v S' H' F g p hF => k1 _ _ _ _ _ k g.s (e.grow g)
theorem ds_if {c : TT} {t u : TS} {b : Bool} (hc : DT ρ c b) (h1 : b = true → DS ρ t W) (h2 : b = false → DS ρ u W) : DS ρ (tIfS c t u) W := fun B H0 S H σ Fs D e k1 k2 =>
  hc B H0 S H σ Fs _ e fun S' H' g => by
    cases b with
    | true => exact h1 rfl B H0 S' H' σ Fs D (e.grow g) (fun ρ2 S2 H2 σ2 Fs2 w s2 e2 => k1 ρ2 S2 H2 σ2 Fs2 w (g.s.trans s2) e2) k2
    | false => exact h2 rfl B H0 S' H' σ Fs D (e.grow g) (fun ρ2 S2 H2 σ2 Fs2 w s2 e2 => k1 ρ2 S2 H2 σ2 Fs2 w (g.s.trans s2) e2) k2
theorem ds_ifp {c : TT} {t u : TS} {p : Prop} [Decidable p] (hc : DT ρ c (decide p)) (h1 : p → DS ρ t W) (h2 : ¬ p → DS ρ u W) : DS ρ (tIfS c t u) W :=
  ds_if hc (fun h => h1 (of_decide_eq_true h)) (fun h => h2 (of_decide_eq_false h))
/-! ### forgetting and freezing -/
def Le (ρ ρ' : En) : Prop := ∀ B H0 S H σ Fs, Ev B H0 ρ S H σ Fs → ∃ S' Fs', Same S S' ∧ Ev B H0 ρ' S' H σ Fs'
theorem Le.refl (ρ : En) : Le ρ ρ := fun _ _ S _ _ Fs e => ⟨S, Fs, Same.refl _, e⟩
theorem Le.trans {ρ1 ρ2 ρ3 : En} (a : Le ρ1 ρ2) (b : Le ρ2 ρ3) : Le ρ1 ρ3 := fun B H0 S H σ Fs e => let ⟨_, _, s1, e'⟩ := a B H0 S H σ Fs e; let ⟨S2, F2, s2, e2⟩ := b _ _ _ _ _ _ e'; ⟨S2, F2, s1.trans s2, e2⟩
theorem le_drop (i : Nat) : Le ρ (ρ.set i none) := fun _ _ S _ _ Fs e => ⟨S, Fs, Same.refl _, e.drop i⟩
theorem le_eq {ρ ρ' : En} (h : ρ = ρ') : Le ρ ρ' := h ▸ Le.refl _
/-- a slot's own list stays as it is from now on -/
theorem le_frz [Enc α] {i : Nat} {l : List α} (h : ρ[i]? = some (some (own n l))) : Le ρ (ρ.set i (some (tl (nmd n) l))) := fun B H0 S H σ Fs e => by
  obtain ⟨v, h1, h2⟩ := e.sl i _ h
  have hF := fun q hq => e.fr i q hq
  obtain ⟨p, o, f1, f2, f3⟩ := own_tl h2 fun q hq => ⟨(hF q hq).1, e.bh.free (hF q hq).2.1⟩
  have hp := hF p (by rw [f1]; exact List.mem_singleton.mpr rfl)
  have hin : Same (upd S p o) H := fun b u hb => by
    by_cases c : b = p
    · subst c
      rw [upd_same] at hb
      cases hb
      exact f2
    · rw [upd_ne c] at hb
      exact e.i _ _ hb
  have hs : Same S (upd S p o) := same_upd hp.1
  refine ⟨upd S p o, fun j => if j = i then [] else Fs j, hs, e.bh, e.hh, hin, fun q hq => ?_, by rw [List.length_set]; exact e.len, fun j s h => ?_, fun j q h => ?_, fun j k q h1 h2 => ?_⟩
  · by_cases c : q = p
    · subst c
      exact hp.2.1
    · rw [upd_ne c] at hq
      exact e.nw q hq
  · rcases set_get h with ⟨rfl, hs⟩ | ⟨hj, h⟩
    · have hs' : s = tl (nmd n) l := Option.some.inj hs
      subst hs'
      refine ⟨v, h1, ?_⟩
      rw [if_pos rfl]
      exact f3
    · obtain ⟨u, q1, q2⟩ := e.sl j s h
      refine ⟨u, q1, ?_⟩
      rw [if_neg hj]
      exact s.mono hs (Same.refl _) q2
  · by_cases c : j = i
    · rw [if_pos c] at h
      cases h
    · rw [if_neg c] at h
      obtain ⟨z1, z2, z3⟩ := e.fr j q h
      refine ⟨?_, z2, z3⟩
      rw [upd_ne]
      · exact z1
      · rintro rfl
        exact c (e.ap j i q h (by rw [f1]; exact List.mem_singleton.mpr rfl))
  · by_cases c : j = i
    · rw [if_pos c] at h1
      cases h1
    · rw [if_neg c] at h1
      by_cases c2 : k = i
      · rw [if_pos c2] at h2
        cases h2
      · rw [if_neg c2] at h2
        exact e.ap j k q h1 h2
theorem ds_le {t : TS} (h : Le ρ ρ') (k : DS ρ' t W) : DS ρ t W := fun B H0 S H σ Fs D e k1 k2 =>
  let ⟨S', Fs', s1, e'⟩ := h B H0 S H σ Fs e
  k B H0 S' H σ Fs' D e' (fun ρ2 S2 H2 σ2 Fs2 w s2 e2 => k1 ρ2 S2 H2 σ2 Fs2 w (s1.trans s2) e2) k2
theorem ds_frz [Enc α] {t : TS} {i : Nat} {l : List α} (h : ρ[i]? = some (some (own n l))) (k : DS (ρ.set i (some (tl (nmd n) l))) t W) : DS ρ t W := ds_le (le_frz h) k
theorem ds_fgt {t : TS} (i : Nat) (k : DS (ρ.set i none) t W) : DS ρ t W := ds_le (le_drop i) k
theorem nx_le {W : Wn} {N : En → Prop} (h : Le ρ ρ') (k : N ρ') : (fun ρ1 => ∃ ρ2, Le ρ1 ρ2 ∧ N ρ2) ρ := ⟨ρ', h, k⟩
/-! ### loops. E: the slots behind i turns -/
theorem ds_for {wi : TI} {g : TG} {tb : TS} {xs : List ι} {fs : ι → Sl} (E : Nat → En) (hi : DI .fg ρ wi (xs.map fs)) (h0 : Le ρ (E 0))
    (hs : ∀ i x, xs[i]? = some x → xs.length ≤ sizeLine → ∃ ρx, DG (E i) (fs x) g ρx ∧ DS ρx tb { W with nx := fun ρ' => Le ρ' (E (i + 1)) }) (hd : W.nx (E xs.length)) : DS ρ (tFor wi g tb) W := fun B H0 S H σ Fs D e k1 k2 =>
  hi B H0 S H σ Fs _ e fun J S1 H1 g1 w => by
    obtain ⟨S0, Fs0, s0, e0⟩ := h0 B H0 S1 H1 σ Fs (e.grow g1)
    refine ⟨fun i m σ H => m = xs.length - i ∧ i ≤ xs.length ∧ ∃ S Fs, Same S1 S ∧ Ev B H0 (E i) S H σ Fs, ⟨xs.length, by simp, Nat.zero_le _, S0, Fs0, s0, e0⟩, ?_⟩
    rintro i m σ2 H2 ⟨rfl, hin, S2, Fs2, s2, e2⟩
    by_cases hlt : i < xs.length
    · right
      have hx : xs[i]? = some xs[i] := List.getElem?_eq_getElem hlt
      obtain ⟨q1, q2⟩ := w.go s2 (un_in e2.b (s2.trans e2.i)) ⟨e2.b, e2.i⟩ (i := i) (s := fs xs[i]) (by rw [List.getElem?_map, hx]; rfl)
      refine ⟨q1, fun σ H => i + 1 ≤ xs.length ∧ ∃ S Fs, Same S1 S ∧ Ev B H0 (E (i + 1)) S H σ Fs, fun σ' H' ⟨hle, h'⟩ => ⟨xs.length - (i + 1), by omega, rfl, hle, h'⟩, fun y H' hy => ?_⟩
      obtain ⟨g2, p2⟩ := q2 y H' hy
      obtain ⟨ρx, d1, d2⟩ := hs i xs[i] hx (by have := w.len; rw [List.length_map] at this; exact this)
      refine d1 B H0 S2 H' σ2 Fs2 y _ (e2.grow g2) p2 fun σ3 Fs3 e3 => ?_
      refine d2 B H0 S2 H' σ3 Fs3 _ e3 (fun ρ' S4 H4 σ4 Fs4 hle s4 e4 => ?_) k2
      obtain ⟨S5, Fs5, s5, e5⟩ := hle B H0 S4 H4 σ4 Fs4 e4
      exact ⟨hlt, S5, Fs5, s2.trans (s4.trans s5), e5⟩
    · have ei : i = xs.length := by omega
      subst ei
      left
      refine ⟨by have := w.stop s2 (un_in e2.b (s2.trans e2.i)) ⟨e2.b, e2.i⟩; rw [List.length_map] at this; exact this, k1 _ _ _ _ _ hd (g1.s.trans s2) e2⟩
/-- .. the slots told by a state that the turns step -/
theorem ds_fold {wi : TI} {g : TG} {tb : TS} {τ : Type} {xs : List ι} {fs : ι → Sl} (E : τ → En) (J : Nat → τ → Prop) (step : τ → ι → τ) (s0 : τ) (hi : DI .fg ρ wi (xs.map fs)) (h0 : Le ρ (E s0)) (j0 : J 0 s0)
    (hs : ∀ i x s, xs[i]? = some x → J i s → J (i + 1) (step s x) ∧ (xs.length ≤ sizeLine → ∃ ρx, DG (E s) (fs x) g ρx ∧ DS ρx tb { W with nx := fun ρ' => Le ρ' (E (step s x)) })) (hd : J xs.length (xs.foldl step s0) → W.nx (E (xs.foldl step s0))) : DS ρ (tFor wi g tb) W := by
  have hJ : ∀ i, i ≤ xs.length → J i ((xs.take i).foldl step s0) := by
    intro i
    induction i with
    | zero => intro _; exact j0
    | succ i ih =>
      intro hle
      have hx : xs[i]? = some xs[i] := List.getElem?_eq_getElem (by omega)
      rw [List.take_succ_eq_append_getElem (by omega), List.foldl_append]
      exact (hs i _ _ hx (ih (by omega))).1
  refine ds_for (fun i => E ((xs.take i).foldl step s0)) hi h0 (fun i x hx hz => ?_) ?_
  · have hlt : i < xs.length := (List.getElem?_eq_some_iff.mp hx).1
    obtain ⟨_, hq⟩ := hs i x _ hx (hJ i (by omega))
    obtain ⟨ρx, d1, d2⟩ := hq hz
    refine ⟨ρx, d1, ?_⟩
    have ex : xs[i] = x := (List.getElem?_eq_some_iff.mp hx).2
    have et : (xs.take (i + 1)).foldl step s0 = step ((xs.take i).foldl step s0) x := by
      rw [List.take_succ_eq_append_getElem hlt, List.foldl_append, ex]
      rfl
    rw [et]
    exact d2
  · have := hd (by have := hJ xs.length (Nat.le_refl _); rw [List.take_length] at this; exact this)
    show W.nx (E _)
    rw [List.take_length]
    exact this
/-- .. by what holds behind each turn -/
theorem ds_forI {wi : TI} {g : TG} {tb : TS} {xs : List ι} {fs : ι → Sl} (J : Nat → En → Prop) (hi : DI .fg ρ wi (xs.map fs)) (h0 : ∃ ρ0, Le ρ ρ0 ∧ J 0 ρ0)
    (hs : ∀ i x ρi, xs[i]? = some x → J i ρi → xs.length ≤ sizeLine → ∃ ρx, DG ρi (fs x) g ρx ∧ DS ρx tb { W with nx := fun ρ' => ∃ ρ1, Le ρ' ρ1 ∧ J (i + 1) ρ1 }) (hd : ∀ ρn, J xs.length ρn → W.nx ρn) : DS ρ (tFor wi g tb) W := fun B H0 S H σ Fs D e k1 k2 =>
  hi B H0 S H σ Fs _ e fun J1 S1 H1 g1 w => by
    obtain ⟨ρ0, hle, j0⟩ := h0
    obtain ⟨S0, Fs0, s0, e0⟩ := hle B H0 S1 H1 σ Fs (e.grow g1)
    refine ⟨fun i m σ H => m = xs.length - i ∧ i ≤ xs.length ∧ ∃ ρi S Fs, J i ρi ∧ Same S1 S ∧ Ev B H0 ρi S H σ Fs, ⟨xs.length, by simp, Nat.zero_le _, ρ0, S0, Fs0, j0, s0, e0⟩, ?_⟩
    rintro i m σ2 H2 ⟨rfl, hin, ρi, S2, Fs2, ji, s2, e2⟩
    by_cases hlt : i < xs.length
    · right
      have hx : xs[i]? = some xs[i] := List.getElem?_eq_getElem hlt
      obtain ⟨q1, q2⟩ := w.go s2 (un_in e2.b (s2.trans e2.i)) ⟨e2.b, e2.i⟩ (i := i) (s := fs xs[i]) (by rw [List.getElem?_map, hx]; rfl)
      refine ⟨q1, fun σ H => i + 1 ≤ xs.length ∧ ∃ ρi S Fs, J (i + 1) ρi ∧ Same S1 S ∧ Ev B H0 ρi S H σ Fs, fun σ' H' ⟨hle, h'⟩ => ⟨xs.length - (i + 1), by omega, rfl, hle, h'⟩, fun y H' hy => ?_⟩
      obtain ⟨g2, p2⟩ := q2 y H' hy
      obtain ⟨ρx, d1, d2⟩ := hs i xs[i] ρi hx ji (by have := w.len; rw [List.length_map] at this; exact this)
      refine d1 B H0 S2 H' σ2 Fs2 y _ (e2.grow g2) p2 fun σ3 Fs3 e3 => ?_
      refine d2 B H0 S2 H' σ3 Fs3 _ e3 (fun ρ' S4 H4 σ4 Fs4 ⟨ρ1, hle, j1⟩ s4 e4 => ?_) k2
      obtain ⟨S5, Fs5, s5, e5⟩ := hle B H0 S4 H4 σ4 Fs4 e4
      exact ⟨hlt, ρ1, S5, Fs5, j1, s2.trans (s4.trans s5), e5⟩
    · have ei : i = xs.length := by omega
      subst ei
      left
      refine ⟨by have := w.stop s2 (un_in e2.b (s2.trans e2.i)) ⟨e2.b, e2.i⟩; rw [List.length_map] at this; exact this, k1 _ _ _ _ _ (hd _ ji) (g1.s.trans s2) e2⟩
/-- while, by a state and a measure -/
theorem ds_while {c : TT} {tb : TS} {τ : Type} (E : τ → En) (J : τ → Prop) (μ : τ → Nat) (s0 : τ) (h0 : Le ρ (E s0)) (j0 : J s0) (b : τ → Bool)
    (hc : ∀ s, J s → DT (E s) c (b s)) (hs : ∀ s, J s → b s = true → DS (E s) tb { W with nx := fun ρ' => ∃ s', J s' ∧ μ s' < μ s ∧ Le ρ' (E s') }) (hd : ∀ s, J s → b s = false → W.nx (E s)) : DS ρ (tWhile c tb) W := fun B H0 S H σ Fs D e k1 k2 => by
  obtain ⟨S0, Fs0, q0, e0⟩ := h0 B H0 S H σ Fs e
  refine ⟨fun m σ H => ∃ s S' Fs, m = μ s ∧ J s ∧ Same S S' ∧ Ev B H0 (E s) S' H σ Fs, ⟨_, s0, S0, Fs0, rfl, j0, q0, e0⟩, ?_⟩
  rintro m σ2 H2 ⟨s, S2, Fs2, rfl, js, q2, e2⟩
  refine hc s js B H0 S2 H2 σ2 Fs2 _ e2 fun S3 H3 g3 => ?_
  cases hb : b s with
  | true =>
    rw [if_pos rfl]
    refine ⟨fun σ H => ∃ s' S' Fs, μ s' < μ s ∧ J s' ∧ Same S S' ∧ Ev B H0 (E s') S' H σ Fs, fun σ' H' ⟨s', S', Fs', h1, h2, h3, h4⟩ => ⟨_, h1, s', S', Fs', rfl, h2, h3, h4⟩, ?_⟩
    refine hs s js hb B H0 S3 H3 σ2 Fs2 _ (e2.grow g3) (fun ρ' S4 H4 σ4 Fs4 ⟨s', h1, h2, hle⟩ s4 e4 => ?_) k2
    obtain ⟨S5, Fs5, s5, e5⟩ := hle B H0 S4 H4 σ4 Fs4 e4
    exact ⟨s', S5, Fs5, h2, h1, q2.trans (g3.s.trans (s4.trans s5)), e5⟩
  | false =>
    rw [if_neg Bool.false_ne_true]
    exact k1 _ _ _ _ _ (hd s js hb) (q2.trans g3.s) (e2.grow g3)
end
end G

namespace G
open PySem L2
open PyProof.Rows (envOfC)
/-! ### operators on ints of any size -/
theorem op_mulK {X : Cx} : OpR X (binaryOp .Mult) (rI IntMulOk fun i j => .int (i * j)) := opI fun _ _ _ _ _ _ _ hc q => PyProof.Rows.mul_int q hc
theorem op_fdivK {X : Cx} : OpR X (binaryOp .FloorDiv) (rI (fun i j => j ≠ 0 ∧ Builtin.divisionGoesByPylong i j = false) fun i j => .int (i.fdiv j)) := opI fun _ _ _ _ _ _ _ hc q => PyProof.Rows.floordiv_int hc.1 q (.inl hc.2)
section
variable [Γ : Ctx] {ρ ρ' : En} {α β γ δ ε ι : Type} {W : Wn} {m m' : Md} {n n' : Bool}
theorem dr_div {C : Int → Int → Prop} {ta tb : TE} {x y : Int} (ha : DR ρ ta (tl m x)) (hb : DR ρ tb (tl m' y)) (hc : C x y) : DR ρ (tOp (rI C fun i j => .int (i / j)) ta tb) (sh (x / y)) := dr_ii ha hb hc rfl
theorem dr_mod {C : Int → Int → Prop} {ta tb : TE} {x y : Int} (ha : DR ρ ta (tl m x)) (hb : DR ρ tb (tl m' y)) (hc : C x y) : DR ρ (tOp (rI C fun i j => .int (i % j)) ta tb) (sh (x % y)) := dr_ii ha hb hc rfl
theorem dr_pow {C : Int → Int → Prop} {ta tb : TE} {x y : Int} (ha : DR ρ ta (tl m x)) (hb : DR ρ tb (tl m' y)) (hc : C x y) : DR ρ (tOp (rI C fun i j => .int (i ^ j.toNat)) ta tb) (sh (x ^ y.toNat)) := dr_ii ha hb hc rfl
theorem dr_neg {ta : TE} {x : Int} (ha : DR ρ ta (tl m x)) : DR ρ (tUn (rU fun i => .int (-i)) ta) (sh (-x)) := fun B H0 S H σ Fs Q e k =>
  ha B H0 S H σ Fs _ e fun v S' H' F g p _ => ⟨x, p.1, k _ S' H' [] g ⟨rfl, rfl⟩ (fun q h => nomatch h)⟩
/-! ### stores into one's own lists -/
def Solid (s : Sl) : Prop := ∀ {B S H H' : Hp} {v : V} {F : List Addr}, (∀ q ∈ F, H' q = H q) → s.P B S H v F → s.P B S H' v F
theorem solid_tl [Enc α] {a : α} : Solid (tl (nmd n) a) := fun _ h => by
  cases n with
  | true => exact h
  | false => exact h
theorem solid_ow [Enc α] {l : List α} : Solid (own n l) := fun k ⟨p, xs, h1, h2, h3, h4⟩ => ⟨p, xs, h1, h2, by rw [k p (by rw [h2]; exact List.mem_singleton.mpr rfl)]; exact h3, h4⟩
/-- the slots that a store leaves -/
inductive Sd : En → En → Prop
  | nil : Sd [] []
  | non {a b} : Sd a b → Sd (none :: a) (none :: b)
  | keep {s a b} : Solid s → Sd a b → Sd (some s :: a) (some s :: b)
  | lose {s a b} : Sd a b → Sd (some s :: a) (none :: b)
theorem sd_sh [Enc α] {x : α} {a b : En} (h : Sd a b) : Sd (some (sh x) :: a) (some (sh x) :: b) := .keep (solid_tl (n := true)) h
theorem sd_st [Enc α] {x : α} {a b : En} (h : Sd a b) : Sd (some (st x) :: a) (some (st x) :: b) := .keep (solid_tl (n := false)) h
theorem sd_ow [Enc α] {x : List α} {a b : En} (h : Sd a b) : Sd (some (own n x) :: a) (some (own n x) :: b) := .keep solid_ow h
theorem Sd.len : ∀ {a b : En}, Sd a b → a.length = b.length
  | _, _, .nil => rfl
  | _, _, .non h => by rw [List.length_cons, List.length_cons, h.len]
  | _, _, .keep _ h => by rw [List.length_cons, List.length_cons, h.len]
  | _, _, .lose h => by rw [List.length_cons, List.length_cons, h.len]
theorem Sd.at_ : ∀ {a b : En} {i : Nat} {s : Sl}, Sd a b → b[i]? = some (some s) → a[i]? = some (some s) ∧ Solid s
  | _, _, 0, s, .keep h _, e => by
    simp only [List.getElem?_cons_zero, Option.some.injEq] at e ⊢
    subst e
    exact ⟨rfl, h⟩
  | _, _, 0, s, .non _, e => by simp at e
  | _, _, 0, s, .lose _, e => by simp at e
  | _, _, i + 1, s, .keep _ h, e => by simp only [List.getElem?_cons_succ] at e ⊢; exact h.at_ e
  | _, _, i + 1, s, .non h, e => by simp only [List.getElem?_cons_succ] at e ⊢; exact h.at_ e
  | _, _, i + 1, s, .lose h, e => by simp only [List.getElem?_cons_succ] at e ⊢; exact h.at_ e
/-- slot i's own list is written -/
theorem Ev.mut [Enc β] {B H0 S H : Hp} {σ : St} {Fs : Nat → List Addr} {i : Nat} {l' : List β} {p : Addr} {ys : List V} (e : Ev B H0 ρ S H σ Fs) (hs : Sd ρ ρ') (h1 : σ[i]? = some (some (.ref p))) (hF : Fs i = [p])
    (hp : Paired (rep (if n = true then S else un B S)) ys l') : Ev B H0 (ρ'.set i (some (own n l'))) S (upd H p (.lst ys)) σ Fs := by
  have hpf := e.fr i p (by rw [hF]; exact List.mem_singleton.mpr rfl)
  refine ⟨e.bh, fun b o hb => by rw [upd_ne (ne_of_none hb hpf.2.1)]; exact e.hh _ _ hb, fun b o hb => by rw [upd_ne (ne_of_none hb hpf.1)]; exact e.i _ _ hb, e.nw, by rw [List.length_set, ← hs.len]; exact e.len, fun j s h => ?_, fun j q h => ?_, e.ap⟩
  · rcases set_get h with ⟨rfl, hs⟩ | ⟨hj, hs'⟩
    · have hs' : s = own n l' := Option.some.inj hs
      subst hs'
      exact ⟨_, h1, p, ys, rfl, hF, upd_same, hp⟩
    · obtain ⟨h2, h3⟩ := hs.at_ hs'
      obtain ⟨v, h4, h5⟩ := e.sl j s h2
      refine ⟨v, h4, h3 (fun q hq => ?_) h5⟩
      rw [upd_ne]
      rintro rfl
      exact hj (e.ap j i q hq (by rw [hF]; exact List.mem_singleton.mpr rfl))
  · obtain ⟨z1, z2, o, z3⟩ := e.fr j q h
    by_cases c : q = p
    · subst c
      exact ⟨z1, z2, _, upd_same⟩
    · exact ⟨z1, z2, o, by rw [upd_ne c]; exact z3⟩
/-- x.append(e) -/
theorem ds_append [Enc α] {K : PySem.W.Frag} {i : Nat} {l : List α} {a : α} {te : TE} (hK : K = Γ.K) (hs : Sd ρ ρ') (h : ρ[i]? = some (some (own n l))) (he : DR ρ te (tl (nmd n) a)) (hl : l.length < sizeLine) (k : W.nx (ρ'.set i (some (own n (l ++ [a]))))) :
    DS ρ (tDrop (tBM K "list" rAppend (tVar i) (tCons te tNil))) W := fun B H0 S H σ Fs D e k1 k2 => by
  obtain ⟨v, h1, p, xs, rfl, hF, h3, h4⟩ := e.sl i _ h
  refine ⟨_, h1, .inl ⟨rfl, _, SqL.of h3⟩, he B H0 S H σ Fs _ e fun u S' H' F g q _ => ?_⟩
  have e' := e.grow g
  have h4' := paired_mono (fun _ _ r => Enc.mono (own_g (n := n) (B := B) g.s) r) h4
  have q' := q.1
  rw [nmd_hp] at q'
  refine ⟨p, xs, u, rfl, rfl, g.h _ _ h3, by rw [paired_len h4]; exact hl, ?_⟩
  exact k1 _ _ _ _ _ k g.s (e'.mut hs h1 hF (paired_snoc q' h4'))
/-- x[k] = e -/
theorem ds_setix [Enc α] {i : Nat} {l : List α} {a : α} {q : Int} {j : Nat} {te tk : TE} (hs : Sd ρ ρ') (h : ρ[i]? = some (some (own n l))) (he : DR ρ te (tl (nmd n) a)) (hk : DR ρ tk (tl m q)) (hj : ixN l.length q = some j) (k : W.nx (ρ'.set i (some (own n (l.set j a))))) :
    DS ρ (tAsg te (gSub (tVar i) tk rSetL)) W := fun B H0 S H σ Fs D e k1 k2 => by
  obtain ⟨v, h1, p, xs, rfl, hF, h3, h4⟩ := e.sl i _ h
  refine he B H0 S H σ Fs _ e fun u S1 H1 F g1 qa _ => ?_
  refine ⟨_, h1, hk B H0 S1 H1 σ Fs _ (e.grow g1) fun w S2 H2 F2 g2 q2 _ => ?_⟩
  have g := g1.trans g2
  have e' := e.grow g
  have h4' := paired_mono (fun _ _ r => Enc.mono (own_g (n := n) (B := B) g.s) r) h4
  have q' := qa.1
  rw [nmd_hp] at q'
  refine ⟨p, xs, q, j, rfl, q2.1, g.h _ _ h3, by rw [paired_len h4]; exact hj, ?_⟩
  exact k1 _ _ _ _ _ k g.s (e'.mut hs h1 hF (paired_set (Enc.mono (own_g (n := n) (B := B) g2.s) q') j h4'))
/-! ### defs and calls -/
/-- what a def is asked: pre; what it hands back -/
structure Wf where
  pre : Prop
  r : Sl
def Fin (w : Wf) (B H : Hp) (Q : VK) : Prop := w.pre ∧ ∀ (S' H' : Hp) (u : V) (F : List Addr), Grow (fun _ => none) H S' H' → w.r.P B S' H' u F → (∀ q ∈ F, H q = none ∧ S' q = none) → Q u H'
theorem Grow.freeF {S H S' H' : Hp} (g : Grow S H S' H') {F : List Addr} {S2 : Hp} (h : ∀ q ∈ F, H' q = none ∧ S2 q = none) : ∀ q ∈ F, H q = none ∧ S2 q = none := fun q hq => ⟨g.h.free (h q hq).1, (h q hq).2⟩
theorem pr4 {F : Sl → V → Prop} {s s' s'' s3 : Sl} {vs : List V} (h : Paired F [s, s', s'', s3] vs) : ∃ v w x y, vs = [v, w, x, y] ∧ F s v ∧ F s' w ∧ F s'' x ∧ F s3 y := by
  cases h with
  | cons r t =>
    obtain ⟨w, x, y, rfl, q⟩ := pr3 t
    exact ⟨_, w, x, y, rfl, r, q⟩
theorem pr5 {F : Sl → V → Prop} {s s' s'' s3 s4 : Sl} {vs : List V} (h : Paired F [s, s', s'', s3, s4] vs) : ∃ v w x y z, vs = [v, w, x, y, z] ∧ F s v ∧ F s' w ∧ F s'' x ∧ F s3 y ∧ F s4 z := by
  cases h with
  | cons r t =>
    obtain ⟨w, x, y, z, rfl, q⟩ := pr4 t
    exact ⟨_, w, x, y, z, rfl, r, q⟩
variable {E : XK}
/-- what a result is worth to a caller that hands in what stands now -/
def Reb (r r' : Sl) : Prop := ∀ {B B' S H : Hp} {v : V} {F : List Addr}, Same B H → Same S H → r.P B S H v F → r'.P B' S H v F
theorem reb_own [Enc α] {l : List α} : Reb (ow l) (ow l) := fun _ _ h => h
theorem reb_scl [Scal α] {l : List α} : Reb (own n l) (ow l) := fun _ _ h => own_any h
theorem reb_sh [Enc α] {a : α} : Reb (sh a) (sh a) := fun _ _ h => h
theorem reb_sc [Scal α] {a : α} : Reb (tl m a) (sh a) := fun _ _ h => h
theorem reb_bo [Enc α] {a : α} : Reb (tl m a) (bo a) := fun h h' p => ⟨Enc.mono (hm_in h h') p.1, p.2⟩
/-- the callee's new part beside one's own -/
theorem un_new {S H S' H' : Hp} (i : Same S H) (g : Grow (fun _ => none) H S' H') : Same S' (un S S') := fun q o h => by
  have : S q = none := by
    rcases g.n q (by rw [h]; simp) with z | z
    · exact absurd rfl z
    · exact i.free z
  exact un_at this h
theorem grow_un {S H S' H' : Hp} (i : Same S H) (g : Grow (fun _ => none) H S' H') : Grow S H (un S S') H' :=
  ⟨un_l, g.h, un_in (i.trans g.h) g.i, fun q hq => by
    cases c : S q with
    | some o => exact .inl (by simp)
    | none =>
      right
      have : S' q ≠ none := by
        intro z
        apply hq
        show (match S q with | some o => some o | none => S' q) = none
        rw [c]
        exact z
      rcases g.n q this with z | z
      · exact absurd rfl z
      · exact z⟩
theorem fr_un {S H S' : Hp} (i : Same S H) {F : List Addr} (h : ∀ q ∈ F, H q = none ∧ S' q = none) : ∀ q ∈ F, H q = none ∧ un S S' q = none := fun q hq => ⟨(h q hq).1, by
  show (match S q with | some o => some o | none => S' q) = none
  rw [i.free (h q hq).1]
  exact (h q hq).2⟩
theorem fin_nu {B H0 S H S1 H1 : Hp} {σ : St} {Fs : Nat → List Addr} {w : Wf} {r : Sl} {Q : VK} (hr : Reb w.r r) (e : Ev B H0 ρ S H σ Fs) (g : Grow S H S1 H1)
    (k : ∀ v S' H' F, Grow S H S' H' → r.P B S' H' v F → (∀ q ∈ F, H q = none ∧ S' q = none) → Q v H') :
    ∀ (S' H' : Hp) (u : V) (F : List Addr), Grow (fun _ => none) H1 S' H' → w.r.P H1 S' H' u F → (∀ q ∈ F, H1 q = none ∧ S' q = none) → Q u H' := fun S' H' u F g2 p hF =>
  k u (un S1 S') H' F (g.trans (grow_un g.i g2)) (hr (B := H1) g2.h (un_in (g.i.trans g2.h) g2.i) (w.r.mono (un_new g.i g2) (Same.refl _) p)) (g.freeF (fr_un g.i hF))
/-- a result that says the same beside another new part -/
def NoB (r : Sl) : Prop := ∀ {B S S' H : Hp} {v : V} {F : List Addr}, Same B H → Same S H → Same S' H → r.P (un B S) S' H v F → r.P B (un S S') H v F
theorem un_un {B S S' : Hp} : un (un B S) S' = un B (un S S') := by
  funext q
  show (match un B S q with | some o => some o | none => S' q) = (match B q with | some o => some o | none => un S S' q)
  cases c : B q with
  | some o =>
    rw [show un B S q = some o from un_l q o c]
  | none =>
    have : un B S q = S q := by
      show (match B q with | some o => some o | none => S q) = S q
      rw [c]
    rw [this]
    rfl
theorem nob_tl [Enc α] {a : α} : NoB (tl (nmd n) a) := fun h h1 h2 p => by
  cases n with
  | true => exact ⟨Enc.mono (un_r h1 h2) p.1, p.2⟩
  | false =>
    have p' := p.1
    show rep (un _ _) _ _ ∧ _
    rw [← un_un]
    exact ⟨p', p.2⟩
theorem nob_own [Enc α] {l : List α} : NoB (own n l) := fun h h1 h2 ⟨p, xs, e1, e2, e3, e4⟩ => ⟨p, xs, e1, e2, e3, by
  cases n with
  | true => exact paired_mono (fun _ _ r => Enc.mono (un_r h1 h2) r) e4
  | false =>
    have e4' := e4
    show Paired (rep (un _ _)) _ _
    rw [← un_un]
    exact e4'⟩
theorem fin_fg {B H0 S H S1 H1 : Hp} {σ : St} {Fs : Nat → List Addr} {w : Wf} {Q : VK} (hr : NoB w.r) (e : Ev B H0 ρ S H σ Fs) (g : Grow S H S1 H1)
    (k : ∀ v S' H' F, Grow S H S' H' → w.r.P B S' H' v F → (∀ q ∈ F, H q = none ∧ S' q = none) → Q v H') :
    ∀ (S' H' : Hp) (u : V) (F : List Addr), Grow (fun _ => none) H1 S' H' → w.r.P (un B S1) S' H' u F → (∀ q ∈ F, H1 q = none ∧ S' q = none) → Q u H' := fun S' H' u F g2 p hF =>
  k u (un S1 S') H' F (g.trans (grow_un g.i g2)) (hr ((e.b.trans g.h).trans g2.h) (g.i.trans g2.h) g2.i p) (g.freeF (fr_un g.i hF))
theorem nmd_fg {B S H : Hp} (h : Std B S H) : Same (hm (nmd n) B S H) (un B S) := by
  cases n with
  | true => exact un_r h.b h.i
  | false => exact Same.refl _
def sp1 [Enc α] (f : α → Wf) : Sp := fun vs H Q _ => ∃ (B : Hp) (v1 : V) (a : α), vs = [v1] ∧ Same B H ∧ (rep B v1 a) ∧ Fin (f a) B H Q
theorem dr_call1 [Enc α] {m1 : Md} {f : α → Wf} {a : α} {t : TA} {r : Sl} (h : DA ρ t [tl m1 a]) (hp : (f a).pre) (hr : Reb (f a).r r) : DR ρ (tCall (sp1 f) [] E t) r := fun B H0 S H σ Fs Q e k =>
  h B H0 S H σ Fs _ e fun vs S' H' g p => by
    obtain ⟨v1, rfl, q1⟩ := pr1 p
    exact ⟨H', v1, a, rfl, Same.refl _, Enc.mono (hm_in (e.b.trans g.h) g.i) q1.1, hp, fin_nu hr e g k⟩
theorem dr_callf1 [Enc α] {n1 : Bool} {f : α → Wf} {a : α} {t : TA} (h : DA ρ t [tl (nmd n1) a]) (hp : (f a).pre) (hN : NoB (f a).r) : DR ρ (tCall (sp1 f) [] E t) (f a).r := fun B H0 S H σ Fs Q e k =>
  h B H0 S H σ Fs _ e fun vs S' H' g p => by
    obtain ⟨v1, rfl, q1⟩ := pr1 p
    exact ⟨un B S', v1, a, rfl, un_in (e.b.trans g.h) g.i, Enc.mono (nmd_fg ⟨e.b.trans g.h, g.i⟩) q1.1, hp, fin_fg hN e g k⟩
def sp2 [Enc α] [Enc β] (f : α → β → Wf) : Sp := fun vs H Q _ => ∃ (B : Hp) (v1 v2 : V) (a : α) (b : β), vs = [v1, v2] ∧ Same B H ∧ (rep B v1 a ∧ rep B v2 b) ∧ Fin (f a b) B H Q
theorem dr_call2 [Enc α] [Enc β] {m1 m2 : Md} {f : α → β → Wf} {a : α} {b : β} {t : TA} {r : Sl} (h : DA ρ t [tl m1 a, tl m2 b]) (hp : (f a b).pre) (hr : Reb (f a b).r r) : DR ρ (tCall (sp2 f) [] E t) r := fun B H0 S H σ Fs Q e k =>
  h B H0 S H σ Fs _ e fun vs S' H' g p => by
    obtain ⟨v1, v2, rfl, q1, q2⟩ := pr2 p
    exact ⟨H', v1, v2, a, b, rfl, Same.refl _, ⟨Enc.mono (hm_in (e.b.trans g.h) g.i) q1.1, Enc.mono (hm_in (e.b.trans g.h) g.i) q2.1⟩, hp, fin_nu hr e g k⟩
theorem dr_callf2 [Enc α] [Enc β] {n1 n2 : Bool} {f : α → β → Wf} {a : α} {b : β} {t : TA} (h : DA ρ t [tl (nmd n1) a, tl (nmd n2) b]) (hp : (f a b).pre) (hN : NoB (f a b).r) : DR ρ (tCall (sp2 f) [] E t) (f a b).r := fun B H0 S H σ Fs Q e k =>
  h B H0 S H σ Fs _ e fun vs S' H' g p => by
    obtain ⟨v1, v2, rfl, q1, q2⟩ := pr2 p
    exact ⟨un B S', v1, v2, a, b, rfl, un_in (e.b.trans g.h) g.i, ⟨Enc.mono (nmd_fg ⟨e.b.trans g.h, g.i⟩) q1.1, Enc.mono (nmd_fg ⟨e.b.trans g.h, g.i⟩) q2.1⟩, hp, fin_fg hN e g k⟩
def sp3 [Enc α] [Enc β] [Enc γ] (f : α → β → γ → Wf) : Sp := fun vs H Q _ => ∃ (B : Hp) (v1 v2 v3 : V) (a : α) (b : β) (c : γ), vs = [v1, v2, v3] ∧ Same B H ∧ (rep B v1 a ∧ rep B v2 b ∧ rep B v3 c) ∧ Fin (f a b c) B H Q
theorem dr_call3 [Enc α] [Enc β] [Enc γ] {m1 m2 m3 : Md} {f : α → β → γ → Wf} {a : α} {b : β} {c : γ} {t : TA} {r : Sl} (h : DA ρ t [tl m1 a, tl m2 b, tl m3 c]) (hp : (f a b c).pre) (hr : Reb (f a b c).r r) : DR ρ (tCall (sp3 f) [] E t) r := fun B H0 S H σ Fs Q e k =>
  h B H0 S H σ Fs _ e fun vs S' H' g p => by
    obtain ⟨v1, v2, v3, rfl, q1, q2, q3⟩ := pr3 p
    exact ⟨H', v1, v2, v3, a, b, c, rfl, Same.refl _, ⟨Enc.mono (hm_in (e.b.trans g.h) g.i) q1.1, Enc.mono (hm_in (e.b.trans g.h) g.i) q2.1, Enc.mono (hm_in (e.b.trans g.h) g.i) q3.1⟩, hp, fin_nu hr e g k⟩
theorem dr_callf3 [Enc α] [Enc β] [Enc γ] {n1 n2 n3 : Bool} {f : α → β → γ → Wf} {a : α} {b : β} {c : γ} {t : TA} (h : DA ρ t [tl (nmd n1) a, tl (nmd n2) b, tl (nmd n3) c]) (hp : (f a b c).pre) (hN : NoB (f a b c).r) : DR ρ (tCall (sp3 f) [] E t) (f a b c).r := fun B H0 S H σ Fs Q e k =>
  h B H0 S H σ Fs _ e fun vs S' H' g p => by
    obtain ⟨v1, v2, v3, rfl, q1, q2, q3⟩ := pr3 p
    exact ⟨un B S', v1, v2, v3, a, b, c, rfl, un_in (e.b.trans g.h) g.i, ⟨Enc.mono (nmd_fg ⟨e.b.trans g.h, g.i⟩) q1.1, Enc.mono (nmd_fg ⟨e.b.trans g.h, g.i⟩) q2.1, Enc.mono (nmd_fg ⟨e.b.trans g.h, g.i⟩) q3.1⟩, hp, fin_fg hN e g k⟩
def sp4 [Enc α] [Enc β] [Enc γ] [Enc δ] (f : α → β → γ → δ → Wf) : Sp := fun vs H Q _ => ∃ (B : Hp) (v1 v2 v3 v4 : V) (a : α) (b : β) (c : γ) (d : δ), vs = [v1, v2, v3, v4] ∧ Same B H ∧ (rep B v1 a ∧ rep B v2 b ∧ rep B v3 c ∧ rep B v4 d) ∧ Fin (f a b c d) B H Q
theorem dr_call4 [Enc α] [Enc β] [Enc γ] [Enc δ] {m1 m2 m3 m4 : Md} {f : α → β → γ → δ → Wf} {a : α} {b : β} {c : γ} {d : δ} {t : TA} {r : Sl} (h : DA ρ t [tl m1 a, tl m2 b, tl m3 c, tl m4 d]) (hp : (f a b c d).pre) (hr : Reb (f a b c d).r r) : DR ρ (tCall (sp4 f) [] E t) r := fun B H0 S H σ Fs Q e k =>
  h B H0 S H σ Fs _ e fun vs S' H' g p => by
    obtain ⟨v1, v2, v3, v4, rfl, q1, q2, q3, q4⟩ := pr4 p
    exact ⟨H', v1, v2, v3, v4, a, b, c, d, rfl, Same.refl _, ⟨Enc.mono (hm_in (e.b.trans g.h) g.i) q1.1, Enc.mono (hm_in (e.b.trans g.h) g.i) q2.1, Enc.mono (hm_in (e.b.trans g.h) g.i) q3.1, Enc.mono (hm_in (e.b.trans g.h) g.i) q4.1⟩, hp, fin_nu hr e g k⟩
theorem dr_callf4 [Enc α] [Enc β] [Enc γ] [Enc δ] {n1 n2 n3 n4 : Bool} {f : α → β → γ → δ → Wf} {a : α} {b : β} {c : γ} {d : δ} {t : TA} (h : DA ρ t [tl (nmd n1) a, tl (nmd n2) b, tl (nmd n3) c, tl (nmd n4) d]) (hp : (f a b c d).pre) (hN : NoB (f a b c d).r) : DR ρ (tCall (sp4 f) [] E t) (f a b c d).r := fun B H0 S H σ Fs Q e k =>
  h B H0 S H σ Fs _ e fun vs S' H' g p => by
    obtain ⟨v1, v2, v3, v4, rfl, q1, q2, q3, q4⟩ := pr4 p
    exact ⟨un B S', v1, v2, v3, v4, a, b, c, d, rfl, un_in (e.b.trans g.h) g.i, ⟨Enc.mono (nmd_fg ⟨e.b.trans g.h, g.i⟩) q1.1, Enc.mono (nmd_fg ⟨e.b.trans g.h, g.i⟩) q2.1, Enc.mono (nmd_fg ⟨e.b.trans g.h, g.i⟩) q3.1, Enc.mono (nmd_fg ⟨e.b.trans g.h, g.i⟩) q4.1⟩, hp, fin_fg hN e g k⟩
def sp5 [Enc α] [Enc β] [Enc γ] [Enc δ] [Enc ε] (f : α → β → γ → δ → ε → Wf) : Sp := fun vs H Q _ => ∃ (B : Hp) (v1 v2 v3 v4 v5 : V) (a : α) (b : β) (c : γ) (d : δ) (e : ε), vs = [v1, v2, v3, v4, v5] ∧ Same B H ∧ (rep B v1 a ∧ rep B v2 b ∧ rep B v3 c ∧ rep B v4 d ∧ rep B v5 e) ∧ Fin (f a b c d e) B H Q
theorem dr_call5 [Enc α] [Enc β] [Enc γ] [Enc δ] [Enc ε] {m1 m2 m3 m4 m5 : Md} {f : α → β → γ → δ → ε → Wf} {a : α} {b : β} {c : γ} {d : δ} {z : ε} {t : TA} {r : Sl} (h : DA ρ t [tl m1 a, tl m2 b, tl m3 c, tl m4 d, tl m5 z]) (hp : (f a b c d z).pre) (hr : Reb (f a b c d z).r r) : DR ρ (tCall (sp5 f) [] E t) r := fun B H0 S H σ Fs Q e k =>
  h B H0 S H σ Fs _ e fun vs S' H' g p => by
    obtain ⟨v1, v2, v3, v4, v5, rfl, q1, q2, q3, q4, q5⟩ := pr5 p
    exact ⟨H', v1, v2, v3, v4, v5, a, b, c, d, z, rfl, Same.refl _, ⟨Enc.mono (hm_in (e.b.trans g.h) g.i) q1.1, Enc.mono (hm_in (e.b.trans g.h) g.i) q2.1, Enc.mono (hm_in (e.b.trans g.h) g.i) q3.1, Enc.mono (hm_in (e.b.trans g.h) g.i) q4.1, Enc.mono (hm_in (e.b.trans g.h) g.i) q5.1⟩, hp, fin_nu hr e g k⟩
theorem dr_callf5 [Enc α] [Enc β] [Enc γ] [Enc δ] [Enc ε] {n1 n2 n3 n4 n5 : Bool} {f : α → β → γ → δ → ε → Wf} {a : α} {b : β} {c : γ} {d : δ} {z : ε} {t : TA} (h : DA ρ t [tl (nmd n1) a, tl (nmd n2) b, tl (nmd n3) c, tl (nmd n4) d, tl (nmd n5) z]) (hp : (f a b c d z).pre) (hN : NoB (f a b c d z).r) : DR ρ (tCall (sp5 f) [] E t) (f a b c d z).r := fun B H0 S H σ Fs Q e k =>
  h B H0 S H σ Fs _ e fun vs S' H' g p => by
    obtain ⟨v1, v2, v3, v4, v5, rfl, q1, q2, q3, q4, q5⟩ := pr5 p
    exact ⟨un B S', v1, v2, v3, v4, v5, a, b, c, d, z, rfl, un_in (e.b.trans g.h) g.i, ⟨Enc.mono (nmd_fg ⟨e.b.trans g.h, g.i⟩) q1.1, Enc.mono (nmd_fg ⟨e.b.trans g.h, g.i⟩) q2.1, Enc.mono (nmd_fg ⟨e.b.trans g.h, g.i⟩) q3.1, Enc.mono (nmd_fg ⟨e.b.trans g.h, g.i⟩) q4.1, Enc.mono (nmd_fg ⟨e.b.trans g.h, g.i⟩) q5.1⟩, hp, fin_fg hN e g k⟩
/-- the slots at the entry -/
def ent (N : List Str) (xs : List Sl) : En := xs.map some ++ List.replicate (N.length - xs.length) none
theorem ev_ent {B H : Hp} {N : List Str} {xs : List Sl} {vs : List V} (i : Same B H) (hp : Paired (fun (s : Sl) v => s.P B (fun _ => none) H v []) xs vs) : Ev B H (ent N xs) (fun _ => none) H (start N vs) fun _ => [] := by
  refine ⟨i, Same.refl _, (fun q o h => nomatch h), (fun q h => absurd rfl h), ?_, fun j s h => ?_, (fun _ q h => nomatch h), (fun _ _ q h => nomatch h)⟩
  · unfold ent L2.start
    rw [List.length_append, List.length_append, List.length_map, List.length_map, List.length_replicate, List.length_replicate, paired_len hp]
  · unfold ent at h
    unfold L2.start
    by_cases c : j < xs.length
    · rw [List.getElem?_append_left (by rw [List.length_map]; exact c), List.getElem?_map] at h
      rw [List.getElem?_append_left (by rw [List.length_map, ← paired_len hp]; exact c), List.getElem?_map]
      cases e : xs[j]? with
      | none => rw [e] at h; cases h
      | some s' =>
        rw [e] at h
        have es : s' = s := Option.some.inj (Option.some.inj h)
        subst es
        obtain ⟨v, hv, r⟩ := paired_at' hp e
        exact ⟨v, by rw [hv]; rfl, r⟩
    · rw [List.getElem?_append_right (by rw [List.length_map]; omega), List.getElem?_replicate] at h
      split at h
      · cases h
      · cases h
theorem ent_st [Enc α] {B H : Hp} {v : V} {a : α} (h : rep B v a) : (st a).P B (fun _ => none) H v [] := ⟨Enc.mono un_l h, rfl⟩
theorem run_body {N : List Str} {xs : List Sl} {vs : List V} {B H : Hp} {t : TS} {w : Wf} {Q : VK} (i : Same B H) (hp : Paired (fun (s : Sl) v => s.P B (fun _ => none) H v []) xs vs) (hf : Fin w B H Q)
    (h : w.pre → DS (ent N xs) t ⟨fun _ => w.r = sh (), fun _ r => r = w.r⟩) : t { nx := fun _ H' => Q .non H', rt := Q } (start N vs) H := by
  obtain ⟨pre, k⟩ := hf
  have fin : ∀ {ρ' S' H' σ' Fs'}, Ev B H ρ' S' H' σ' Fs' → Grow (fun _ => none) H S' H' := fun e' => ⟨(fun q o h => nomatch h), e'.hh, e'.i, fun q hq => .inr (e'.nw q hq)⟩
  refine h pre B H _ H (start N vs) _ _ (ev_ent i hp) (fun ρ' S' H' σ' Fs' hr _ e' => ?_) (fun ρ' r S' H' σ' Fs' v F hr e' p hF => ?_)
  · exact k S' H' .non [] (fin e') (by rw [hr]; exact ⟨rfl, rfl⟩) (fun q h => nomatch h)
  · subst hr
    exact k S' H' v F (fin e') p hF
section
variable {P : Program} {w : World} {mg : Str → Option Value} {base : Heap} {x qual : Str} {stm : Stmt} {f : Addr} {fd : FuncData} {N : List Str} {k : Nat} {p1 p2 p3 p4 p5 : Str}
/-- a body, in whatever frame it runs -/
def Body (P : Program) (w : World) (mg : Str → Option Value) (base : Heap) (qual : Str) (stm : Stmt) (f : Addr) (N : List Str) (k : Nat) (R : TS → Prop) : Prop :=
  ∀ (cdv : Value) (A : Around) (outer : List Env) (s : Shared) (H : Hp) (E : XK), Room k (A.deeper (envOfC qual (defScope stm) s.heap.objs.size f cdv)) →
    ∃ t, PSs (cxOf CX0 P w Γ.K mg base N qual (defScope stm) f cdv A outer s H E).nox (defBody stm) t ∧ R t
theorem fn1 [Enc α] {spec : α → Wf} (F : Fun Γ.K x qual stm f fd) (S : FnScope N [p1] (defScope stm))
    (b : Body P w mg base qual stm f N k fun t => ∀ a, (spec a).pre → DS (ent N [st a]) t ⟨fun _ => (spec a).r = sh (), fun _ r => r = (spec a).r⟩) : FnOk P w Γ.K mg base CX0 (k + 1) f fd [p1] (sp1 spec) := by
  refine F.ok S (fun vs H Q E h => ?_) (fun cdv A outer s H vs Q E hr h => ?_)
  · obtain ⟨_, _, _, rfl, _⟩ := h
    rfl
  · obtain ⟨t, h1, h2⟩ := b cdv A outer s H E hr
    obtain ⟨B, v, a, rfl, i, r, hf⟩ := h
    exact ⟨t, h1, run_body (xs := [st a]) i (.cons (ent_st r) .nil) hf (h2 a)⟩
theorem fn2 [Enc α] [Enc β] {spec : α → β → Wf} (F : Fun Γ.K x qual stm f fd) (S : FnScope N [p1, p2] (defScope stm))
    (b : Body P w mg base qual stm f N k fun t => ∀ a b, (spec a b).pre → DS (ent N [st a, st b]) t ⟨fun _ => (spec a b).r = sh (), fun _ r => r = (spec a b).r⟩) : FnOk P w Γ.K mg base CX0 (k + 1) f fd [p1, p2] (sp2 spec) := by
  refine F.ok S (fun vs H Q E h => ?_) (fun cdv A outer s H vs Q E hr h => ?_)
  · obtain ⟨_, _, _, _, _, rfl, _⟩ := h
    rfl
  · obtain ⟨t, h1, h2⟩ := b cdv A outer s H E hr
    obtain ⟨B, v, v', a, b, rfl, i, ⟨r, r'⟩, hf⟩ := h
    exact ⟨t, h1, run_body (xs := [st a, st b]) i (.cons (ent_st r) (.cons (ent_st r') .nil)) hf (h2 a b)⟩
theorem fn3 [Enc α] [Enc β] [Enc γ] {spec : α → β → γ → Wf} (F : Fun Γ.K x qual stm f fd) (S : FnScope N [p1, p2, p3] (defScope stm))
    (b : Body P w mg base qual stm f N k fun t => ∀ a b c, (spec a b c).pre → DS (ent N [st a, st b, st c]) t ⟨fun _ => (spec a b c).r = sh (), fun _ r => r = (spec a b c).r⟩) : FnOk P w Γ.K mg base CX0 (k + 1) f fd [p1, p2, p3] (sp3 spec) := by
  refine F.ok S (fun vs H Q E h => ?_) (fun cdv A outer s H vs Q E hr h => ?_)
  · obtain ⟨_, _, _, _, _, _, _, rfl, _⟩ := h
    rfl
  · obtain ⟨t, h1, h2⟩ := b cdv A outer s H E hr
    obtain ⟨B, v, v', v'', a, b, c, rfl, i, ⟨r, r', r''⟩, hf⟩ := h
    exact ⟨t, h1, run_body (xs := [st a, st b, st c]) i (.cons (ent_st r) (.cons (ent_st r') (.cons (ent_st r'') .nil))) hf (h2 a b c)⟩
theorem fn4 [Enc α] [Enc β] [Enc γ] [Enc δ] {spec : α → β → γ → δ → Wf} (F : Fun Γ.K x qual stm f fd) (S : FnScope N [p1, p2, p3, p4] (defScope stm))
    (b : Body P w mg base qual stm f N k fun t => ∀ a b c d, (spec a b c d).pre → DS (ent N [st a, st b, st c, st d]) t ⟨fun _ => (spec a b c d).r = sh (), fun _ r => r = (spec a b c d).r⟩) : FnOk P w Γ.K mg base CX0 (k + 1) f fd [p1, p2, p3, p4] (sp4 spec) := by
  refine F.ok S (fun vs H Q E h => ?_) (fun cdv A outer s H vs Q E hr h => ?_)
  · obtain ⟨_, _, _, _, _, _, _, _, _, rfl, _⟩ := h
    rfl
  · obtain ⟨t, h1, h2⟩ := b cdv A outer s H E hr
    obtain ⟨B, v, v', v'', v3, a, b, c, d, rfl, i, ⟨r, r', r'', r3⟩, hf⟩ := h
    exact ⟨t, h1, run_body (xs := [st a, st b, st c, st d]) i (.cons (ent_st r) (.cons (ent_st r') (.cons (ent_st r'') (.cons (ent_st r3) .nil)))) hf (h2 a b c d)⟩
theorem fn5 [Enc α] [Enc β] [Enc γ] [Enc δ] [Enc ε] {spec : α → β → γ → δ → ε → Wf} (F : Fun Γ.K x qual stm f fd) (S : FnScope N [p1, p2, p3, p4, p5] (defScope stm))
    (b : Body P w mg base qual stm f N k fun t => ∀ a b c d e, (spec a b c d e).pre → DS (ent N [st a, st b, st c, st d, st e]) t ⟨fun _ => (spec a b c d e).r = sh (), fun _ r => r = (spec a b c d e).r⟩) : FnOk P w Γ.K mg base CX0 (k + 1) f fd [p1, p2, p3, p4, p5] (sp5 spec) := by
  refine F.ok S (fun vs H Q E h => ?_) (fun cdv A outer s H vs Q E hr h => ?_)
  · obtain ⟨_, _, _, _, _, _, _, _, _, _, _, rfl, _⟩ := h
    rfl
  · obtain ⟨t, h1, h2⟩ := b cdv A outer s H E hr
    obtain ⟨B, v, v', v'', v3, v4, a, b, c, d, e, rfl, i, ⟨r, r', r'', r3, r4⟩, hf⟩ := h
    exact ⟨t, h1, run_body (xs := [st a, st b, st c, st d, st e]) i (.cons (ent_st r) (.cons (ent_st r') (.cons (ent_st r'') (.cons (ent_st r3) (.cons (ent_st r4) .nil))))) hf (h2 a b c d e)⟩
end
end
end G

namespace G
open PySem L2
/-! ### the item at a place -/
def nth {α : Type} [Inhabited α] (l : List α) (i : Int) : α := (atI l i).getD default
theorem atI_nth {α : Type} [Inhabited α] {l : List α} {i : Int} (h : -(l.length : Int) ≤ i) (h' : i < l.length) : atI l i = some (nth l i) := by
  have : ∃ a, atI l i = some a := by
    unfold atI ixN
    by_cases c : 0 ≤ i
    · rw [if_pos c, if_pos h']
      exact ⟨l[i.toNat], by show l[i.toNat]? = _; exact List.getElem?_eq_getElem (by omega)⟩
    · rw [if_neg c, if_pos h]
      exact ⟨l[(i + l.length).toNat]'(by omega), by show l[(i + l.length).toNat]? = _; exact List.getElem?_eq_getElem (by omega)⟩
  obtain ⟨a, e⟩ := this
  unfold nth
  rw [e]
  rfl
theorem nth_nat {α : Type} [Inhabited α] {l : List α} {k : Nat} : nth l (k : Int) = l.getD k default := by
  unfold nth atI ixN
  rw [if_pos (by omega)]
  by_cases c : (k : Int) < l.length
  · rw [if_pos c]
    show (l[(k : Int).toNat]?).getD _ = _
    rw [Int.toNat_natCast, List.getD_eq_getElem?_getD]
  · rw [if_neg c, List.getD_eq_getElem?_getD, List.getElem?_eq_none (by omega)]
    rfl
section
variable [Γ : Ctx] {ρ ρ' : En} {α β γ δ ε ι : Type} {W : Wn} {m m' : Md} {n n' : Bool}
/-! ### == of scalars -/
theorem dec_congr {p q : Prop} [Decidable p] [Decidable q] (h : p ↔ q) : decide p = decide q := by
  by_cases c : p
  · rw [decide_eq_true c, decide_eq_true (h.mp c)]
  · rw [decide_eq_false c, decide_eq_false (fun z => c (h.mpr z))]
class Sc2 (α : Type) extends Scal α where
  de : DecidableEq α
  sc : ∀ a b : α, scal (Scal.toV a) (Scal.toV b) = true
  inj : ∀ a b : α, Scal.toV a = Scal.toV b ↔ a = b
instance : Sc2 Int := ⟨inferInstance, fun _ _ => rfl, fun a b => ⟨fun h => by injection h, fun h => by rw [h]⟩⟩
instance : Sc2 Bool := ⟨inferInstance, fun _ _ => rfl, fun a b => ⟨fun h => by injection h, fun h => by rw [h]⟩⟩
instance : Sc2 Str := ⟨inferInstance, fun _ _ => rfl, fun a b => ⟨fun h => by injection h, fun h => by rw [h]⟩⟩
theorem dr_eq2 {ta tb : TE} [Sc2 α] [DecidableEq α] {x y : α} (ha : DR ρ ta (tl m x)) (hb : DR ρ tb (tl m' y)) : DR ρ (tOp rEq ta tb) (sh (decide (x = y))) :=
  dr_op tlF tlF ha hb fun B S H u v Q i p1 p2 k => by
    have e1 : u = Scal.toV x := p1.1
    have e2 : v = Scal.toV y := p2.1
    subst e1 e2
    refine ⟨Sc2.sc x y, ?_⟩
    rw [dec_congr (Sc2.inj x y)]
    exact k _ S H [] (Grow.refl i.i) ⟨rfl, rfl⟩ (fun q h => nomatch h)
theorem dr_ne2 {ta tb : TE} [Sc2 α] [DecidableEq α] {x y : α} (ha : DR ρ ta (tl m x)) (hb : DR ρ tb (tl m' y)) : DR ρ (tOp rNe ta tb) (sh (decide (x ≠ y))) :=
  dr_op tlF tlF ha hb fun B S H u v Q i p1 p2 k => by
    have e1 : u = Scal.toV x := p1.1
    have e2 : v = Scal.toV y := p2.1
    subst e1 e2
    refine ⟨Sc2.sc x y, ?_⟩
    rw [dec_congr (Sc2.inj x y), ← decide_not]
    exact k _ S H [] (Grow.refl i.i) ⟨rfl, rfl⟩ (fun q h => nomatch h)
/-! ### == of data at any depth -/
class EqD (α : Type) [Enc α] where
  toD : α → PyData
  dn : Nat
  dp : ∀ {H : Hp} {v : V} {a : α}, rep H v a → Dp Γ.K H v (toD a)
  lay : ∀ a : α, (toD a).canLay0 = true
  dep : ∀ a : α, (toD a).depth ≤ dn
  eqv : ∀ a b : α, PyData.eqv (toD a) (toD b) = true ↔ a = b
instance : EqD Int where
  toD := .int
  dn := 0
  dp := fun h => by cases h; exact .int _
  lay := fun _ => rfl
  dep := fun _ => Nat.le_refl _
  eqv := fun a b => by
    show (a == b) = true ↔ _
    exact beq_iff_eq
instance : EqD Bool where
  toD := .bool
  dn := 0
  dp := fun h => by cases h; exact .bl _
  lay := fun _ => rfl
  dep := fun _ => Nat.le_refl _
  eqv := fun a b => by
    show (a == b) = true ↔ _
    exact beq_iff_eq
theorem dpAll [Enc α] [EqD α] {H : Hp} : ∀ {xs : List V} {l : List α}, Paired (rep H) xs l → DpAll Γ.K H xs (l.map EqD.toD)
  | _, _, .nil => .nil
  | _, _, .cons r t => .cons (EqD.dp r) (dpAll t)
theorem layAll [Enc α] [EqD α] : ∀ l : List α, PyData.canLayAll0 (l.map EqD.toD) = true
  | [] => rfl
  | a :: l => by
    show (PyData.canLay0 _ && PyData.canLayAll0 _) = true
    rw [EqD.lay a, layAll l]
    rfl
theorem depAll [Enc α] [EqD α] : ∀ l : List α, PyData.depthAll (l.map EqD.toD) ≤ EqD.dn α
  | [] => Nat.zero_le _
  | a :: l => Nat.max_le.mpr ⟨EqD.dep a, depAll l⟩
theorem eqvAll [Enc α] [EqD α] : ∀ l l' : List α, PyData.eqvAll (l.map EqD.toD) (l'.map EqD.toD) = true ↔ l = l'
  | [], [] => ⟨fun _ => rfl, fun _ => rfl⟩
  | [], _ :: _ => ⟨fun h => (by cases h), fun h => (by cases h)⟩
  | _ :: _, [] => ⟨fun h => (by cases h), fun h => (by cases h)⟩
  | a :: l, b :: l' => by
    show (PyData.eqv _ _ && PyData.eqvAll _ _) = true ↔ _
    rw [Bool.and_eq_true, EqD.eqv a b, eqvAll l l']
    simp
instance [Enc α] [EqD α] : EqD (List α) where
  toD := fun l => .list (l.map EqD.toD)
  dn := EqD.dn α + 1
  dp := fun ⟨p, xs, h1, h2, h3⟩ => by
    rw [h1]
    exact .lst h2 (dpAll h3)
  lay := fun l => layAll l
  dep := fun l => Nat.succ_le_succ (depAll l)
  eqv := fun l l' => eqvAll l l'
theorem shaped_of [Enc α] [EqD α] (a : α) (h : EqD.dn α ≤ 64) : SeqAt.shaped (EqD.toD a) = true := by
  unfold SeqAt.shaped
  rw [EqD.lay a, decide_eq_true (Nat.le_trans (EqD.dep a) h)]
  rfl
theorem dr_eqd {K : PySem.W.Frag} {ta tb : TE} [Enc α] [EqD α] [DecidableEq α] {x y : α} (hK : K = Γ.K) (ha : DR ρ ta (tl m x)) (hb : DR ρ tb (tl m' y)) (h : EqD.dn α ≤ 64 := by exact Nat.le_of_ble_eq_true rfl) : DR ρ (tOp (rEqD K) ta tb) (sh (decide (x = y))) :=
  dr_op tlF tlF ha hb fun B S H u v Q i p1 p2 k => by
    subst hK
    refine ⟨_, _, EqD.dp (Enc.mono (hm_in i.b i.i) p1.1), EqD.dp (Enc.mono (hm_in i.b i.i) p2.1), shaped_of x h, shaped_of y h, ?_⟩
    refine k _ S H [] (Grow.refl i.i) ⟨?_, rfl⟩ (fun q h => nomatch h)
    show V.bl _ = V.bl _
    congr 1
    rw [Bool.eq_iff_iff, EqD.eqv x y, decide_eq_true_iff]
theorem dr_ned {K : PySem.W.Frag} {ta tb : TE} [Enc α] [EqD α] [DecidableEq α] {x y : α} (hK : K = Γ.K) (ha : DR ρ ta (tl m x)) (hb : DR ρ tb (tl m' y)) (h : EqD.dn α ≤ 64 := by exact Nat.le_of_ble_eq_true rfl) : DR ρ (tOp (rNeD K) ta tb) (sh (decide (x ≠ y))) :=
  dr_op tlF tlF ha hb fun B S H u v Q i p1 p2 k => by
    subst hK
    refine ⟨_, _, EqD.dp (Enc.mono (hm_in i.b i.i) p1.1), EqD.dp (Enc.mono (hm_in i.b i.i) p2.1), shaped_of x h, shaped_of y h, ?_⟩
    refine k _ S H [] (Grow.refl i.i) ⟨?_, rfl⟩ (fun q h => nomatch h)
    show V.bl _ = V.bl _
    congr 1
    rw [decide_not]
    congr 1
    rw [Bool.eq_iff_iff, EqD.eqv x y, decide_eq_true_iff]
/-! ### None, isinstance -/
theorem dr_none [Enc α] : DR ρ (tC .non) (tl m (none : Option α)) := fun B H0 S H σ Fs Q e k => k _ S H [] (Grow.refl e.i) ⟨rfl, rfl⟩ (fun q h => nomatch h)
theorem dr_some [Enc α] {t : TE} {a : α} (h : DR ρ t (tl m a)) : DR ρ t (tl m (some a)) := fun B H0 S H σ Fs Q e k => h B H0 S H σ Fs Q e fun v S' H' F g p hF => k v S' H' F g ⟨p.1, p.2⟩ hF
theorem is_none [Enc α] [NotNone α] {H : Hp} {v : V} {o : Option α} (h : rep H v o) : decide (v = .non) = o.isNone := by
  cases o with
  | none => exact decide_eq_true h
  | some a => exact decide_eq_false (NotNone.nn (a := a) (show rep H v a from h))
theorem dr_isN [Enc α] [NotNone α] {ta : TE} {o : Option α} (h : DR ρ ta (tl m o)) : DR ρ (tIsN ta) (sh o.isNone) := fun B H0 S H σ Fs Q e k =>
  h B H0 S H σ Fs _ e fun v S' H' F g p _ => k _ S' H' [] g ⟨by rw [is_none p.1]; rfl, rfl⟩ (fun q h => nomatch h)
theorem dr_notN [Enc α] [NotNone α] {ta : TE} {o : Option α} (h : DR ρ ta (tl m o)) : DR ρ (tNotN ta) (sh o.isSome) := fun B H0 S H σ Fs Q e k =>
  h B H0 S H σ Fs _ e fun v S' H' F g p _ => k _ S' H' [] g ⟨by rw [is_none p.1]; cases o <;> rfl, rfl⟩ (fun q h => nomatch h)
/-- what type(x) is -/
class TyE (α : Type) [Enc α] where
  ty : String
  tx : ∀ {H : Hp} {v : V} {a : α}, rep H v a → TyX Γ.K H v (.type ty)
instance : TyE Int := ⟨"int", fun h => by cases h; exact .base (.int _)⟩
instance : TyE Bool := ⟨"bool", fun h => by cases h; exact .base (.bl _)⟩
instance [Enc α] : TyE (List α) := ⟨"list", fun ⟨p, xs, h1, h2, _⟩ => by
  subst h1
  rcases h2 with (h | ⟨o, h⟩) | ⟨o, its, n, h, hc, _⟩
  · exact .base (.lst h)
  · exact .base (.frz h)
  · exact .kList h hc⟩
instance : TyE Str := ⟨"str", fun h => by cases h; exact .base (.str _)⟩
theorem dr_isi [Enc α] [TyE α] {K : PySem.W.Frag} {ta tc : TE} {a : α} {nm : String} {b : Bool} (hK : K = Γ.K) (h : DR ρ ta (tl m a)) (hc : tc = tC (.ty nm)) (hb : kitB (TyE.ty α) nm = some b) : DR ρ (tCB (rIsi K) (tCons ta (tCons tc tNil))) (sh b) := fun B H0 S H σ Fs Q e k =>
  h B H0 S H σ Fs _ e fun v S' H' F g p _ => by
    subst hc hK
    exact ⟨v, .ty nm, .type (TyE.ty α), .type nm, b, rfl, .ty nm, TyE.tx (Enc.mono (hm_in (e.b.trans g.h) g.i) p.1), kit_ty hb, k _ S' H' [] g ⟨rfl, rfl⟩ (fun q h => nomatch h)⟩
/-! ### slots by places -/
def setE (ρ : En) : List (Nat × Sl) → En
  | [] => ρ
  | (i, s) :: r => setE (ρ.set i (some s)) r
/-- s tells all that s' tells, of no object of one's own -/
def SlLe (s s' : Sl) : Prop := ∀ {B S H : Hp} {v : V} {F : List Addr}, Same B H → Same S H → s.P B S H v F → s'.P B S H v F
inductive LeL : En → En → Prop
  | nil : LeL [] []
  | keep {s s' : Sl} {a b : En} : s = s' → LeL a b → LeL (some s :: a) (some s' :: b)
  | weak {s s' : Sl} {a b : En} : SlLe s s' → LeL a b → LeL (some s :: a) (some s' :: b)
  | drop {x : Option Sl} {a b : En} : LeL a b → LeL (x :: a) (none :: b)
theorem le_st [Enc α] {a a' : α} (h : a = a') : SlLe (sh a) (st a') := fun h1 h2 p => h ▸ ⟨Enc.mono (un_r h1 h2) p.1, p.2⟩
theorem le_bo [Enc α] {a a' : α} (h : a = a') : SlLe (tl m a) (bo a') := fun h1 h2 p => h ▸ ⟨Enc.mono (hm_in h1 h2) p.1, p.2⟩
theorem LeL.at_ : ∀ {a b : En} {i : Nat} {s' : Sl}, LeL a b → b[i]? = some (some s') → ∃ s, a[i]? = some (some s) ∧ SlLe s s'
  | _, _, 0, s, .keep h _, e => by
    simp only [List.getElem?_cons_zero, Option.some.injEq] at e ⊢
    subst h e
    exact ⟨_, rfl, fun _ _ p => p⟩
  | _, _, 0, s, .weak h _, e => by
    simp only [List.getElem?_cons_zero, Option.some.injEq] at e ⊢
    subst e
    exact ⟨_, rfl, h⟩
  | _, _, 0, s, .drop _, e => by simp at e
  | _, _, i + 1, s, .keep _ h, e => by simp only [List.getElem?_cons_succ] at e ⊢; exact h.at_ e
  | _, _, i + 1, s, .weak _ h, e => by simp only [List.getElem?_cons_succ] at e ⊢; exact h.at_ e
  | _, _, i + 1, s, .drop h, e => by simp only [List.getElem?_cons_succ] at e ⊢; exact h.at_ e
theorem LeL.len : ∀ {a b : En}, LeL a b → a.length = b.length
  | _, _, .nil => rfl
  | _, _, .keep _ h => by rw [List.length_cons, List.length_cons, h.len]
  | _, _, .weak _ h => by rw [List.length_cons, List.length_cons, h.len]
  | _, _, .drop h => by rw [List.length_cons, List.length_cons, h.len]
theorem LeL.le {a b : En} (h : LeL a b) : Le a b := fun B H0 S H σ Fs e =>
  ⟨S, Fs, Same.refl _, e.bh, e.hh, e.i, e.nw, by rw [← h.len]; exact e.len, fun i s hs => by
    obtain ⟨s0, h1, h2⟩ := h.at_ hs
    obtain ⟨v, q1, q2⟩ := e.sl i s0 h1
    exact ⟨v, q1, h2 e.b e.i q2⟩, e.fr, e.ap⟩
theorem ds_loop {wi : TI} {g : TG} {tb : TS} {τ : Type} {xs : List ι} {fs : ι → Sl} (kill : List Nat) (slots : τ → List (Nat × Sl)) (J : Nat → τ → Prop) (step : τ → ι → τ) (s0 : τ) (hi : DI .fg ρ wi (xs.map fs)) (h0 : LeL ρ (setE (wipeE ρ kill) (slots s0))) (j0 : J 0 s0)
    (hs : ∀ i x s, xs[i]? = some x → J i s → J (i + 1) (step s x) ∧ (xs.length ≤ sizeLine → ∃ ρx, DG (setE (wipeE ρ kill) (slots s)) (fs x) g ρx ∧ DS ρx tb { W with nx := fun ρ' => LeL ρ' (setE (wipeE ρ kill) (slots (step s x))) }))
    (hd : J xs.length (xs.foldl step s0) → W.nx (setE (wipeE ρ kill) (slots (xs.foldl step s0)))) : DS ρ (tFor wi g tb) W :=
  ds_fold (fun s => setE (wipeE ρ kill) (slots s)) J step s0 hi h0.le j0 (fun i x s h1 h2 => let ⟨q1, qq⟩ := hs i x s h1 h2; ⟨q1, fun hz => let ⟨ρx, q2, q3⟩ := qq hz; ⟨ρx, q2, fun B H0 S H σ Fs D e k1 k2 => q3 B H0 S H σ Fs D e (fun ρ' S' H' σ' Fs' w => k1 ρ' S' H' σ' Fs' (LeL.le w)) k2⟩⟩) hd
theorem ds_loopR {wi : TI} {g : TG} {tb : TS} {τ : Type} {xs : List ι} {fs : ι → Sl} (kill : List Nat) (slots : τ → List (Nat × Sl)) (J : Nat → τ → Prop) (s0 : τ) (hi : DI .fg ρ wi (xs.map fs)) (h0 : LeL ρ (setE (wipeE ρ kill) (slots s0))) (j0 : J 0 s0)
    (hs : ∀ i x s, xs[i]? = some x → J i s → xs.length ≤ sizeLine → ∃ ρx, DG (setE (wipeE ρ kill) (slots s)) (fs x) g ρx ∧ DS ρx tb { W with nx := fun ρ' => ∃ s', J (i + 1) s' ∧ LeL ρ' (setE (wipeE ρ kill) (slots s')) })
    (hd : ∀ s, J xs.length s → W.nx (setE (wipeE ρ kill) (slots s))) : DS ρ (tFor wi g tb) W :=
  ds_forI (fun i ρi => ∃ s, ρi = setE (wipeE ρ kill) (slots s) ∧ J i s) hi ⟨_, h0.le, s0, rfl, j0⟩ (fun i x ρi h1 ⟨s, h2, h3⟩ hz => by
    subst h2
    obtain ⟨ρx, q2, q3⟩ := hs i x s h1 h3 hz
    exact ⟨ρx, q2, fun B H0 S H σ Fs D e k1 k2 => q3 B H0 S H σ Fs D e (fun ρ' S' H' σ' Fs' ⟨s', w1, w2⟩ => k1 ρ' S' H' σ' Fs' ⟨_, w2.le, s', rfl, w1⟩) k2⟩) (fun ρn ⟨s, h1, h2⟩ => by
    subst h1
    exact hd s h2)
theorem ds_whil {c : TT} {tb : TS} {τ : Type} (kill : List Nat) (slots : τ → List (Nat × Sl)) (J : τ → Prop) (μ : τ → Nat) (s0 : τ) (h0 : LeL ρ (setE (wipeE ρ kill) (slots s0))) (j0 : J s0) (b : τ → Bool)
    (hc : ∀ s, J s → DT (setE (wipeE ρ kill) (slots s)) c (b s)) (hs : ∀ s, J s → b s = true → DS (setE (wipeE ρ kill) (slots s)) tb { W with nx := fun ρ' => ∃ s', J s' ∧ μ s' < μ s ∧ LeL ρ' (setE (wipeE ρ kill) (slots s')) })
    (hd : ∀ s, J s → b s = false → W.nx (setE (wipeE ρ kill) (slots s))) : DS ρ (tWhile c tb) W :=
  ds_while (fun s => setE (wipeE ρ kill) (slots s)) J μ s0 h0.le j0 b hc (fun s h1 h2 => fun B H0 S H σ Fs D e k1 k2 => hs s h1 h2 B H0 S H σ Fs D e (fun ρ' S' H' σ' Fs' ⟨s', w1, w2, w3⟩ => k1 ρ' S' H' σ' Fs' ⟨s', w1, w2, w3.le⟩) k2) hd
/-- nothing that is reached -/
theorem ds_never (h : False) : DS ρ tNever W := h.elim
/-! ### defs by name -/
section
variable (P : Program) (w : World) (mg : Str → Option Value) (base : Heap)
/-- the def x stands with the text st -/
def Dfn (x : Str) (stm : Stmt) (ps : List Str) : Prop := ∃ f fd, Fun Γ.K x x stm f fd ∧ mg x = some (.ref f) ∧ PySem.W.keepIn Γ.K (.ref f) = true ∧ Binds Γ.K fd ps []
/-- .. and keeps its promise -/
def Cal (x : Str) (k : Nat) (ps : List Str) (sp : Sp) : Prop := ∃ f fd, FnOk P w Γ.K mg base CX0 k f fd ps sp ∧ mg x = some (.ref f) ∧ PySem.W.keepIn Γ.K (.ref f) = true ∧ Binds Γ.K fd ps []
end
theorem cal_of {P : Program} {w : World} {mg : Str → Option Value} {base : Heap} {x : Str} {stm : Stmt} {k : Nat} {ps : List Str} {sp : Sp} (d : Dfn mg x stm ps) (h : ∀ f fd, Fun Γ.K x x stm f fd → FnOk P w Γ.K mg base CX0 k f fd ps sp) : Cal P w mg base x k ps sp := by
  obtain ⟨f, fd, F, h1, h2, h3⟩ := d
  exact ⟨f, fd, h f fd F, h1, h2, h3⟩
/-- the built-in names are still the built-in ones -/
structure Blt (mg : Str → Option Value) : Prop where
  len : mg "len" = none
  range : mg "range" = none
  zip : mg "zip" = none
  list : mg "list" = none
  enumerate : mg "enumerate" = none
  int : mg "int" = none
  bool : mg "bool" = none
  str : mg "str" = none
  tuple : mg "tuple" = none
  reversed : mg "reversed" = none
  any : mg "any" = none
  all : mg "all" = none
  sum : mg "sum" = none
  abs : mg "abs" = none
  min : mg "min" = none
  max : mg "max" = none
  isinstance : mg "isinstance" = none
  set : mg "set" = none
  verr : mg "ValueError" = none
end
end G

namespace G
open PySem L2
theorem ixN_nat {n k : Nat} (h : k < n) : ixN n (k : Int) = some k := by
  unfold ixN
  rw [if_pos (by omega), if_pos (by omega), Int.toNat_natCast]
theorem mul_ok {a b : Int} {n m : Nat} (ha : a.natAbs < 2 ^ n) (hb : b.natAbs < 2 ^ m) (h : n + m ≤ 900000) : IntMulOk a b :=
  (wide_mul (a := n + 1) (b := m + 1) (Nat.lt_of_lt_of_le ha (Nat.pow_le_pow_right (by decide) (by omega))) (Nat.lt_of_lt_of_le hb (Nat.pow_le_pow_right (by decide) (by omega))) (by omega) (by omega) (by omega)).ok
section
variable [Γ : Ctx] {ρ ρ' : En} {α β γ δ ε ι : Type} {W : Wn} {m m' : Md} {n n' : Bool}
theorem dr_lens {ta : TE} {x : PySem.Str} (h : DR ρ ta (tl m x)) (hl : x.length ≤ sizeLine) : DR ρ (tCB (fun xs H Q => ∃ z, xs = [.str z] ∧ z.length ≤ sizeLine ∧ Q (.int z.length) H) (tCons ta tNil)) (sh (x.length : Int)) :=
  dr_cb (da_sh h da_nil) fun B S H vs Q i p k => by
    obtain ⟨v, rfl, q⟩ := pr1 p
    exact ⟨x, by rw [q.1]; rfl, hl, k _ S H [] (Grow.refl i.i) ⟨rfl, rfl⟩ (fun q h => nomatch h)⟩
theorem gv_three {K : PySem.W.Frag} {i j l : Nat} {vs : List Nat} (h : i ∈ vs) (h' : j ∈ vs) (h'' : l ∈ vs) : GV (gTup K 3 (gCons (gName i) (gCons (gName j) (gCons (gName l) gNil)))) vs := fun v σ H Q q => by
  obtain ⟨a, xs, e1, e2, e3, x, r, e4, y, r', e5, z, r2, e6, e7, q⟩ := q
  exact ⟨a, xs, e1, e2, e3, x, r, e4, y, r', e5, z, r2, e6, e7, by show L2.wipe _ _ = _; rw [wipe_set h'', wipe_set h', wipe_set h], q⟩
/-- t[k], t a tuple told -/
theorem dr_tix20 [Enc α] [Enc β] {K : PySem.W.Frag} {ta : TE} {c : α × β} (hK : K = Γ.K) (h : DR ρ ta (tl m c)) : DR ρ (tOp (rIxT K) ta (tC (.int 0))) (tl m c.1) :=
  dr_op tlF tlF h (dr_const (a := (0 : Int))) fun B S H x y Q s p1 p2 k => by
    obtain ⟨⟨p, u, v, rfl, h2, h3, h4⟩, _⟩ := p1
    exact ⟨p, [u, v], 0, u, rfl, p2.1, hK ▸ same_tup (hm_in s.b s.i) h2, rfl, k u S H [] (Grow.refl s.i) ⟨h3, rfl⟩ (fun q h => nomatch h)⟩
theorem dr_tix21 [Enc α] [Enc β] {K : PySem.W.Frag} {ta : TE} {c : α × β} (hK : K = Γ.K) (h : DR ρ ta (tl m c)) : DR ρ (tOp (rIxT K) ta (tC (.int 1))) (tl m c.2) :=
  dr_op tlF tlF h (dr_const (a := (1 : Int))) fun B S H x y Q s p1 p2 k => by
    obtain ⟨⟨p, u, v, rfl, h2, h3, h4⟩, _⟩ := p1
    exact ⟨p, [u, v], 1, v, rfl, p2.1, hK ▸ same_tup (hm_in s.b s.i) h2, rfl, k v S H [] (Grow.refl s.i) ⟨h4, rfl⟩ (fun q h => nomatch h)⟩
/-- f(..).append(e): the list just made goes -/
theorem ds_tmpapp [Enc α] {K : PySem.W.Frag} {l : List α} {a : α} {to te : TE} (hK : K = Γ.K) (ho : DR ρ to (own n l)) (he : DR ρ te (tl m a)) (hl : l.length < sizeLine) (k : W.nx ρ) :
    DS ρ (tDrop (tBM K "list" rAppend to (tCons te tNil))) W := fun B H0 S H σ Fs D e k1 k2 =>
  ho B H0 S H σ Fs _ e fun v S1 H1 F g1 p1 hF => by
    obtain ⟨p, xs, rfl, hf, h3, h4⟩ := p1
    have hp := hF p (by rw [hf]; exact List.mem_singleton.mpr rfl)
    refine ⟨.inl ⟨rfl, _, SqL.of h3⟩, he B H0 S1 H1 σ Fs _ (e.grow g1) fun u S2 H2 F2 g2 q _ => ?_⟩
    refine ⟨p, xs, u, rfl, rfl, g2.h _ _ h3, by rw [paired_len h4]; exact hl, ?_⟩
    have g := g1.trans g2
    have d2 : S2 p = none := g2.off hp.2 h3
    exact k1 _ _ _ _ _ k g.s (e.grow (lc_put g hp.1 d2))
theorem ds_augadd {i : Nat} {te : TE} {x y : Int} (h : ρ[i]? = some (some (tl m x))) (he : DR ρ te (tl m' y)) (k : W.nx (ρ.set i (some (sh (x + y))))) : DS ρ (tAug i te (ipI fun i j => i + j)) W := fun B H0 S H σ Fs D e k1 k2 => by
  obtain ⟨v, h1, h2⟩ := e.sl i _ h
  refine ⟨v, h1, he B H0 S H σ Fs _ e fun u S' H' F g p _ => ⟨x, y, h2.1, p.1, ?_⟩⟩
  exact k1 _ _ _ _ _ k g.s (e.put (s := sh (x + y)) g (List.getElem?_eq_some_iff.mp h).1 ⟨rfl, rfl⟩ (fun q h => nomatch h) (fun q h => nomatch h))
/-- a slot's value by what is known of it -/
theorem ds_abs [Enc α] {t : TS} {i : Nat} {a : α} (P : α → Prop) (h : ρ[i]? = some (some (tl m a))) (hp : P a) (k : ∀ a, P a → DS (ρ.set i (some (tl m a))) t W) : DS ρ t W := by
  have e : ρ.set i (some (tl m a)) = ρ := by
    apply List.ext_getElem?
    intro j
    by_cases c : i = j
    · subst c
      rw [List.getElem?_set_self (List.getElem?_eq_some_iff.mp h).1, h]
    · rw [List.getElem?_set_ne c]
  have := k a hp
  rw [e] at this
  exact this
theorem ds_abso [Enc α] {t : TS} {i : Nat} {a : List α} (P : List α → Prop) (h : ρ[i]? = some (some (own n a))) (hp : P a) (k : ∀ a, P a → DS (ρ.set i (some (own n a))) t W) : DS ρ t W := by
  have e : ρ.set i (some (own n a)) = ρ := by
    apply List.ext_getElem?
    intro j
    by_cases c : i = j
    · subst c
      rw [List.getElem?_set_self (List.getElem?_eq_some_iff.mp h).1, h]
    · rw [List.getElem?_set_ne c]
  have := k a hp
  rw [e] at this
  exact this
end
/-! ### the law's own promise -/
def spL (K : PySem.W.Frag) : Sp := fun vs H Q _ => ∃ (a : Addr) (ns : List Int), vs = [.ref a] ∧ SqL K H a (ns.map V.int) ∧ ns.length ≤ 63 ∧ ∀ H', Q (.bl true) H'
theorem law_imp [Γ : Ctx] {f : List Int → Wf} (hp : ∀ ns : List Int, ns.length ≤ 63 → (f ns).pre) (hr : ∀ ns : List Int, (f ns).r = sh true) : ∀ vs H Q E, spL Γ.K vs H Q E → sp1 f vs H Q E := fun vs H Q E ⟨a, ns, h1, h2, h3, h4⟩ =>
  ⟨H, .ref a, ns, h1, Same.refl _, ⟨a, ns.map V.int, rfl, h2, scal_paired (H := H) ns⟩, hp ns h3, fun S' H' u F g p _ => by
    rw [hr ns] at p
    have e : u = .bl true := p.1
    rw [e]
    exact h4 H'⟩
theorem walk_law {l : PySem.W.OpenLaw} {q : Program} {loose : List Str} {XP : (Str → Option Value) → Heap → Prop} {YP : World → Heap → Prop} {d : DefRec} {K : Params → PySem.W.Frag} {k : Nat} (hn : l.most = some 63) (hdf : d.params.defaults = []) (hr : Room k callerA)
    (hY : ∀ (w : World) (h : Heap), YP w h → (K w.params).In h)
    (F : ∀ (w : World) (mg : Str → Option Value) (fa : Addr) (h : Heap), (K w.params).In h → h.Ns mainGlobals mg → mg d.name = some (.ref fa) →
      ∃ fd : FuncData, (∀ (s : Shared) (u : Value), BindsTo s fd ⟨[u], []⟩ [("_law_script", u)]) ∧ ∀ base : Heap, (K w.params).In base → base.Ns mainGlobals mg → FnOk l.prog w (K w.params) mg base CX0 k fa fd ["_law_script"] (spL (K w.params))) :
    PySem.W.WalkO q loose XP YP l.row.toRowW d [] (fun f vs => PySem.call f vs) :=
  L2.walk_of (n := 63) (k := k) (x := "_law_script") (CX := fun _ => CX0) (sp := fun w => spL (K w.params)) hn (by decide) hdf hr hY F (fun _ _ a ns hl _ hS => ⟨a, ns, rfl, hS, hl, fun _ => rfl⟩) fun _ _ _ _ _ z => z
/-! ### slices by takes and drops -/
theorem cut_to {α : Type} (l : List α) {i : Int} (h : 0 ≤ i) : cut l none (some i) = l.take i.toNat := by
  obtain ⟨k, rfl⟩ : ∃ k : Nat, i = k := ⟨i.toNat, by omega⟩
  unfold cut
  rw [HT.sIx_none, HT.sIx_nat, List.drop_zero, Nat.sub_zero, Int.toNat_natCast]
  rcases Nat.le_total k l.length with c | c
  · rw [Nat.min_eq_left c]
  · rw [Nat.min_eq_right c, List.take_of_length_le (Nat.le_refl _), List.take_of_length_le c]
theorem cut_from {α : Type} (l : List α) {i : Int} (h : 0 ≤ i) : cut l (some i) none = l.drop i.toNat := by
  obtain ⟨k, rfl⟩ : ∃ k : Nat, i = k := ⟨i.toNat, by omega⟩
  unfold cut
  rw [HT.sIx_none, HT.sIx_nat, Int.toNat_natCast]
  rcases Nat.le_total k l.length with c | c
  · rw [Nat.min_eq_left c, List.take_of_length_le (by rw [List.length_drop]; exact Nat.le_refl _)]
  · rw [Nat.min_eq_right c, Nat.sub_self, List.take_zero, List.drop_eq_nil_of_le c]
theorem cut_mid {α : Type} (l : List α) {i j : Int} (h : 0 ≤ i) (h' : 0 ≤ j) : cut l (some i) (some j) = (l.drop i.toNat).take (j.toNat - i.toNat) := by
  obtain ⟨k, rfl⟩ : ∃ k : Nat, i = k := ⟨i.toNat, by omega⟩
  obtain ⟨m, rfl⟩ : ∃ k : Nat, j = k := ⟨j.toNat, by omega⟩
  unfold cut
  rw [HT.sIx_nat, HT.sIx_nat, Int.toNat_natCast, Int.toNat_natCast]
  rcases Nat.le_total k l.length with c | c
  · rw [Nat.min_eq_left c]
    rcases Nat.le_total m l.length with c' | c'
    · rw [Nat.min_eq_left c']
    · rw [Nat.min_eq_right c', List.take_of_length_le (by rw [List.length_drop]; exact Nat.le_refl _), List.take_of_length_le (by rw [List.length_drop]; omega)]
  · rw [Nat.min_eq_right c, List.drop_eq_nil_of_le (Nat.le_refl _), List.drop_eq_nil_of_le c, List.take_nil, List.take_nil]
end G

namespace G
open PySem L2
open PyProof.Rows (envOfC)
theorem some_of {α : Type} {o : Option α} (h : o.isNone = false) : o.isSome = true := by
  cases o with
  | none => cases h
  | some a => rfl
theorem ixN_pos {n : Nat} {i : Int} (h0 : 0 ≤ i) (h : i < n) : ixN n i = some i.toNat := by
  obtain ⟨k, rfl⟩ : ∃ k : Nat, i = k := ⟨i.toNat, by omega⟩
  rw [Int.toNat_natCast]
  exact ixN_nat (by omega)
theorem nth_mem_or {α : Type} [Inhabited α] (l : List α) (i : Int) : nth l i ∈ l ∨ nth l i = default := by
  unfold nth atI
  cases e : ixN l.length i with
  | none => exact .inr rfl
  | some k =>
    show (l[k]?).getD default ∈ l ∨ (l[k]?).getD default = default
    cases e2 : l[k]? with
    | none => exact .inr rfl
    | some x => exact .inl (List.mem_of_getElem? e2)
theorem nth_small {l : List Int} {i : Int} {M : Nat} (h : ∀ x ∈ l, x.natAbs ≤ M) : (nth l i).natAbs ≤ M := by
  rcases nth_mem_or l i with e | e
  · exact h _ e
  · rw [e]; exact Nat.zero_le _
theorem nth_small2 {l : List (List Int)} {i j : Int} {M : Nat} (h : ∀ s ∈ l, ∀ x ∈ s, x.natAbs ≤ M) : (nth (nth l i) j).natAbs ≤ M := by
  rcases nth_mem_or l i with e | e
  · exact nth_small (h _ e)
  · rw [e]; exact nth_small (fun x hx => nomatch hx)
theorem nth_in {α : Type} [Inhabited α] {l : List α} {i : Int} (h0 : 0 ≤ i) (h : i < l.length) : nth l i ∈ l := by
  obtain ⟨k, rfl⟩ : ∃ k : Nat, i = k := ⟨i.toNat, by omega⟩
  rw [nth_nat, List.getD_eq_getElem?_getD, List.getElem?_eq_getElem (by omega)]
  exact List.getElem_mem _
section
variable [Γ : Ctx] {ρ ρ' : En} {α β γ δ ε ι : Type} {W : Wn} {m m' : Md} {n n' : Bool}
/-- what the written part says of the class c: its fields are plain -/
structure CF (c : Nat) (fs : List Str) : Prop where
  cl : Cls Γ.K (Γ.cls c)
  na : ∀ f ∈ fs, NoAttr Γ.K (Γ.cls c) f
/-- a field of what stands -/
theorem dr_fldG [Enc α] [Enc β] {c : Nat} {fs : List Str} {K : PySem.W.Frag} {ta : TE} {f : Str} {a : α} {b : β} (hK : K = Γ.K) (T : CF c fs) (hf : f ∈ fs) (h : DR ρ ta (tl m a))
    (hr : ∀ {H v}, rep H v a → ∃ p dx l x, v = .ref p ∧ H p = some (.ins (Γ.cls c) dx l) ∧ l.lookup f = some x ∧ rep H x b) : DR ρ (tFld K ta f) (tl m b) := fun B H0 S H σ Fs Q e k =>
  h B H0 S H σ Fs _ e fun v S' H' F g p _ => by
    obtain ⟨a', dx, l, x, h1, h2, h3, h4⟩ := hr p.1
    subst hK
    exact ⟨a', _, dx, l, x, h1, hm_in (e.b.trans g.h) g.i _ _ h2, T.cl, T.na f hf, h3, k x S' H' [] g ⟨h4, rfl⟩ (fun q h => nomatch h)⟩

/-- a new instance, kept for good -/
theorem new_ins [Enc α] {B S H : Hp} {x dx C : Addr} {fs : List (Str × V)} {a : α} {Q : VK} (i : Std B S H) (nx : H x = none) (nd : H dx = none) (ne : dx ≠ x)
    (hr : ∀ {Hx : Hp}, Same (hm (nmd n) B S H) Hx → Hx x = some (.ins C dx fs) → rep Hx (.ref x) a)
    (k : ∀ v S' H' F, Grow S H S' H' → (tl (nmd n) a).P B S' H' v F → (∀ q ∈ F, H q = none ∧ S' q = none) → Q v H') : Q (.ref x) (upd (upd H dx (.own x)) x (.ins C dx fs)) := by
  have e1 : Same H (upd H dx (.own x)) := same_upd nd
  have nx2 : (upd H dx (.own x)) x = none := by rw [upd_ne (Ne.symm ne)]; exact nx
  have e2 : Same H (upd (upd H dx (.own x)) x (.ins C dx fs)) := e1.trans (same_upd nx2)
  have sx : S x = none := i.i.free nx
  refine k _ (upd S x (.ins C dx fs)) _ [] ⟨same_upd sx, e2, fun b u hb => ?_, fun q hq => ?_⟩ ⟨hr (hm_g (same_upd sx) e2) ?_, rfl⟩ (fun q h => nomatch h)
  · by_cases c : b = x
    · subst c
      rw [upd_same] at hb ⊢
      exact hb
    · rw [upd_ne c] at hb ⊢
      exact e1 _ _ (i.i _ _ hb)
  · by_cases c : q = x
    · subst c
      exact .inr nx
    · rw [upd_ne c] at hq
      exact .inl hq
  · cases n with
    | true => exact upd_same
    | false => exact un_at (i.b.free nx) upd_same
structure Book where
  many : Int
  swaps : List (List Int)
  deriving DecidableEq
instance : Enc Book where
  rep := fun H v b => ∃ p dx x0 x1, v = .ref p ∧ H p = some (.ins (Γ.cls 0) dx (putF "swaps" x1 (putF "many" x0 []))) ∧ rep H x0 b.many ∧ rep H x1 b.swaps
  mono := fun e ⟨p, dx, x0, x1, h1, h2, h3, h4⟩ => ⟨p, dx, x0, x1, h1, e _ _ h2, Enc.mono e h3, Enc.mono e h4⟩
instance : NotNone Book := ⟨fun ⟨_, _, _, _, h, _⟩ => by rw [h]; exact V.noConfusion⟩
theorem dr_Book_many {K : PySem.W.Frag} {ta : TE} {b : Book} (hK : K = Γ.K) (T : CF 0 ["many", "swaps"]) (h : DR ρ ta (tl m b)) : DR ρ (tFld K ta "many") (tl m b.many) :=
  dr_fldG hK T (by simp) h fun ⟨p, dx, x0, x1, h1, h2, h3, h4⟩ => ⟨p, dx, _, x0, h1, h2, by rw [lookup_putF, if_neg (by decide +kernel), lookup_putF, if_pos rfl], h3⟩
theorem dr_Book_swaps {K : PySem.W.Frag} {ta : TE} {b : Book} (hK : K = Γ.K) (T : CF 0 ["many", "swaps"]) (h : DR ρ ta (tl m b)) : DR ρ (tFld K ta "swaps") (tl m b.swaps) :=
  dr_fldG hK T (by simp) h fun ⟨p, dx, x0, x1, h1, h2, h3, h4⟩ => ⟨p, dx, _, x1, h1, h2, by rw [lookup_putF, if_pos rfl], h4⟩
def spI_Book (C : Addr) : Sp := fun vs H Q _ => ∃ (x dx : Addr) (x0 x1 : V), vs = [.ref x, x0, x1] ∧ H x = some (.ins C dx []) ∧ Q .non (upd H x (.ins C dx (putF "swaps" x1 (putF "many" x0 []))))
theorem dr_mkBook {E : XK} {t : TA} {a0 : Int} {a1 : List (List Int)} (h : DA ρ t [tl (nmd n) a0, tl (nmd n) a1]) : DR ρ (tMake (Γ.cls 0) (spI_Book (Γ.cls 0)) [] E t) (tl (nmd n) (Book.mk a0 a1)) := fun B H0 S H σ Fs Q e k =>
  h B H0 S H σ Fs _ e fun vs S' H' g p => by
    obtain ⟨v0, v1, rfl, q0, q1⟩ := pr2 p
    intro x dx nx nd ne
    refine ⟨x, dx, v0, v1, rfl, upd_same, rfl, ?_⟩
    rw [upd_upd]
    exact new_ins (a := Book.mk a0 a1) ⟨e.b.trans g.h, g.i⟩ nx nd ne (fun {Hx} e1 e2 => ⟨x, dx, v0, v1, rfl, e2, Enc.mono e1 q0.1, Enc.mono e1 q1.1⟩) fun v S2 H2 F g2 p2 hF => k v S2 H2 F (g.trans g2) p2 (g.freeF hF)
structure Stairs where
  steps : List (List Int)
  heads : List Int
  roads : List (List Int)
  deriving DecidableEq
instance : Enc Stairs where
  rep := fun H v b => ∃ p dx x0 x1 x2, v = .ref p ∧ H p = some (.ins (Γ.cls 1) dx (putF "roads" x2 (putF "heads" x1 (putF "steps" x0 [])))) ∧ rep H x0 b.steps ∧ rep H x1 b.heads ∧ rep H x2 b.roads
  mono := fun e ⟨p, dx, x0, x1, x2, h1, h2, h3, h4, h5⟩ => ⟨p, dx, x0, x1, x2, h1, e _ _ h2, Enc.mono e h3, Enc.mono e h4, Enc.mono e h5⟩
instance : NotNone Stairs := ⟨fun ⟨_, _, _, _, _, h, _⟩ => by rw [h]; exact V.noConfusion⟩
theorem dr_Stairs_steps {K : PySem.W.Frag} {ta : TE} {b : Stairs} (hK : K = Γ.K) (T : CF 1 ["steps", "heads", "roads"]) (h : DR ρ ta (tl m b)) : DR ρ (tFld K ta "steps") (tl m b.steps) :=
  dr_fldG hK T (by simp) h fun ⟨p, dx, x0, x1, x2, h1, h2, h3, h4, h5⟩ => ⟨p, dx, _, x0, h1, h2, by rw [lookup_putF, if_neg (by decide +kernel), lookup_putF, if_neg (by decide +kernel), lookup_putF, if_pos rfl], h3⟩
theorem dr_Stairs_heads {K : PySem.W.Frag} {ta : TE} {b : Stairs} (hK : K = Γ.K) (T : CF 1 ["steps", "heads", "roads"]) (h : DR ρ ta (tl m b)) : DR ρ (tFld K ta "heads") (tl m b.heads) :=
  dr_fldG hK T (by simp) h fun ⟨p, dx, x0, x1, x2, h1, h2, h3, h4, h5⟩ => ⟨p, dx, _, x1, h1, h2, by rw [lookup_putF, if_neg (by decide +kernel), lookup_putF, if_pos rfl], h4⟩
theorem dr_Stairs_roads {K : PySem.W.Frag} {ta : TE} {b : Stairs} (hK : K = Γ.K) (T : CF 1 ["steps", "heads", "roads"]) (h : DR ρ ta (tl m b)) : DR ρ (tFld K ta "roads") (tl m b.roads) :=
  dr_fldG hK T (by simp) h fun ⟨p, dx, x0, x1, x2, h1, h2, h3, h4, h5⟩ => ⟨p, dx, _, x2, h1, h2, by rw [lookup_putF, if_pos rfl], h5⟩
def spI_Stairs (C : Addr) : Sp := fun vs H Q _ => ∃ (x dx : Addr) (x0 x1 x2 : V), vs = [.ref x, x0, x1, x2] ∧ H x = some (.ins C dx []) ∧ Q .non (upd H x (.ins C dx (putF "roads" x2 (putF "heads" x1 (putF "steps" x0 [])))))
theorem dr_mkStairs {E : XK} {t : TA} {a0 : List (List Int)} {a1 : List Int} {a2 : List (List Int)} (h : DA ρ t [tl (nmd n) a0, tl (nmd n) a1, tl (nmd n) a2]) : DR ρ (tMake (Γ.cls 1) (spI_Stairs (Γ.cls 1)) [] E t) (tl (nmd n) (Stairs.mk a0 a1 a2)) := fun B H0 S H σ Fs Q e k =>
  h B H0 S H σ Fs _ e fun vs S' H' g p => by
    obtain ⟨v0, v1, v2, rfl, q0, q1, q2⟩ := pr3 p
    intro x dx nx nd ne
    refine ⟨x, dx, v0, v1, v2, rfl, upd_same, rfl, ?_⟩
    rw [upd_upd]
    exact new_ins (a := Stairs.mk a0 a1 a2) ⟨e.b.trans g.h, g.i⟩ nx nd ne (fun {Hx} e1 e2 => ⟨x, dx, v0, v1, v2, rfl, e2, Enc.mono e1 q0.1, Enc.mono e1 q1.1, Enc.mono e1 q2.1⟩) fun v S2 H2 F g2 p2 hF => k v S2 H2 F (g.trans g2) p2 (g.freeF hF)
theorem pl0 : ([] : List (Str × V)).length ≤ 0 := Nat.le_refl _
theorem pl {f : Str} {v : V} {fs : List (Str × V)} {k : Nat} (h : fs.length ≤ k) : (putF f v fs).length ≤ k + 1 := Nat.le_trans (length_putF f v fs) (Nat.succ_le_succ h)
/-- the class c is made by its __init__ at level k -/
def Mkr (P : Program) (w : World) (mg : Str → Option Value) (base : Heap) (x : Str) (c : Nat) (k : Nat) (ps : List Str) (sp : Sp) : Prop := ∃ f fd, Mk Γ.K (Γ.cls c) f ∧ FnOk P w Γ.K mg base CX0 k f fd ps sp ∧ mg x = some (.ref (Γ.cls c)) ∧ Binds Γ.K fd ps []
/-- the __init__ of the class c stands -/
def Ini (mg : Str → Option Value) (x qual : Str) (c : Nat) (stm : Stmt) (ps : List Str) : Prop := ∃ f fd, Mk Γ.K (Γ.cls c) f ∧ Fun Γ.K "__init__" qual stm f fd ∧ mg x = some (.ref (Γ.cls c)) ∧ Binds Γ.K fd ps []
/-- a name that is not None -/
theorem ds_some [Enc α] {t : TS} {i : Nat} {o : Option α} (h : ρ[i]? = some (some (tl m o))) (ho : o.isSome = true) (k : ∀ a, o = some a → DS (ρ.set i (some (tl m a))) t W) : DS ρ t W := by
  cases o with
  | none => cases ho
  | some a =>
    have e : ρ.set i (some (tl m a)) = ρ := by
      apply List.ext_getElem?
      intro j
      by_cases c : i = j
      · subst c
        rw [List.getElem?_set_self (List.getElem?_eq_some_iff.mp h).1, h]
        rfl
      · rw [List.getElem?_set_ne c]
    have := k a rfl
    rw [e] at this
    exact this
theorem dr_unsome [Enc α] {t : TE} {o : Option α} {a : α} (h : DR ρ t (tl m o)) (e : o = some a) : DR ρ t (tl m a) := by
  subst e
  exact h
/-- the written part named by itself -/
theorem blk_K {X : Cx} {s : Shared} {H : Hp} {sc : Scope} {en : Env} {fp : List Addr} : (X.blk s H sc en fp).K = X.K := rfl
theorem nox_K {X : Cx} : X.nox.K = X.K := rfl
theorem cxOf_K {CX : CXT} {P : Program} {w : World} {K : PySem.W.Frag} {mg : Str → Option Value} {base : Heap} {N : List Str} {qual : Str} {scope : Scope} {f : Addr} {cd : Value} {A : Around} {outer : List Env} {s : Shared} {H : Hp} {E : XK} : (cxOf CX P w K mg base N qual scope f cd A outer s H E).K = K := rfl
theorem pe_fix {X : Cx} {e : Expr} {t t' : TE} (p : PE X e t) (h : t = t') : PE X e t' := h ▸ p
theorem pg_fix {X : Cx} {e : Expr} {t t' : TG} (p : PG X e t) (h : t = t') : PG X e t' := h ▸ p
theorem pts_fix {X : Cx} {e : List Expr} {t t' : TT} (p : PTs X e t) (h : t = t') : PTs X e t' := h ▸ p
end
end G

namespace G
open PySem L2
open PyProof.Rows (envOfC)
/-- a heap without one object -/
def msk (H : Hp) (p : Addr) : Hp := fun q => if q = p then none else H q
theorem msk_ne {H : Hp} {p q : Addr} (h : q ≠ p) : msk H p q = H q := if_neg h
theorem msk_self {H : Hp} {p : Addr} : msk H p p = none := if_pos rfl
section
variable [Γ : Ctx] {ρ ρ' : En} {α β γ δ ε ι : Type} {W : Wn} {m m' : Md} {n n' : Bool}
/-- a list of one's own at the address p -/
def ownA (p : Addr) (n : Bool) {α : Type} [Enc α] (l : List α) : Sl := ⟨fun B S H v F => v = .ref p ∧ (own n l).P B S H v F, fun e e' h => ⟨h.1, (own n l).mono e e' h.2⟩⟩
theorem solid_oA [Enc α] {p : Addr} {l : List α} : Solid (ownA p n l) := fun k h => ⟨h.1, solid_ow k h.2⟩
theorem sd_oA [Enc α] {p : Addr} {x : List α} {a b : En} (h : Sd a b) : Sd (some (ownA p n x) :: a) (some (ownA p n x) :: b) := .keep solid_oA h
theorem Ev.unA [Enc α] {B H0 S H : Hp} {σ : St} {Fs : Nat → List Addr} {i : Nat} {p : Addr} {l : List α} (e : Ev B H0 ρ S H σ Fs) (h : ρ[i]? = some (some (ownA p n l))) : Ev B H0 (ρ.set i (some (own n l))) S H σ Fs := by
  refine ⟨e.bh, e.hh, e.i, e.nw, by rw [List.length_set]; exact e.len, fun j s hs => ?_, e.fr, e.ap⟩
  rcases set_get hs with ⟨rfl, q⟩ | ⟨_, q⟩
  · have q' : s = own n l := Option.some.inj q
    subst q'
    obtain ⟨v, h1, h2⟩ := e.sl j _ h
    exact ⟨v, h1, h2.2⟩
  · exact e.sl j s q
theorem dr_unA [Enc α] {i : Nat} {p : Addr} {l : List α} {t : TE} {r : Sl} (h : ρ[i]? = some (some (ownA p n l))) (k : DR (ρ.set i (some (own n l))) t r) : DR ρ t r := fun B H0 S H σ Fs Q e => k B H0 S H σ Fs Q (e.unA h)
theorem Ev.tag [Enc α] {B H0 S H : Hp} {σ : St} {Fs : Nat → List Addr} {i : Nat} {p : Addr} {l : List α} (e : Ev B H0 (ρ.set i (some (own n l))) S H σ Fs) (h : σ[i]? = some (some (.ref p))) : Ev B H0 (ρ.set i (some (ownA p n l))) S H σ Fs := by
  refine ⟨e.bh, e.hh, e.i, e.nw, by have := e.len; rw [List.length_set] at this ⊢; exact this, fun j s hs => ?_, e.fr, e.ap⟩
  rcases set_get hs with ⟨rfl, q⟩ | ⟨hj, q⟩
  · have q' : s = ownA p n l := Option.some.inj q
    subst q'
    obtain ⟨v, h1, h2⟩ := e.sl j _ (List.getElem?_set_self (by
      have := (List.getElem?_eq_some_iff.mp hs).1
      rw [List.length_set] at this
      exact this))
    refine ⟨v, h1, ?_, h2⟩
    rw [h] at h1
    exact (Option.some.inj (Option.some.inj h1)).symm
  · exact e.sl j s (by rw [List.getElem?_set_ne (Ne.symm hj)]; exact q)
theorem dr_ixA [Enc α] {K : PySem.W.Frag} {j : Nat} {tb : TE} {l : List α} {i : Int} {a : α} {p : Addr} (hK : K = Γ.K) (h : ρ[j]? = some (some (ownA p n l))) (hi : DR ρ tb (tl m' i)) (ha : atI l i = some a) : DR ρ (tOp (rIxL K) (tVar j) tb) (tl (nmd n) a) :=
  fun B H0 S H σ Fs Q e k => by
    obtain ⟨v, h1, _, h2⟩ := e.sl j _ h
    refine ⟨v, h1, hi B H0 S H σ Fs _ e fun w S' H' F g p _ => ?_⟩
    obtain ⟨p', xs, rfl, _, h4, hp⟩ := h2
    obtain ⟨u, hu, r⟩ := atI_rep hp ha
    exact ⟨p', xs, i, u, rfl, p.1, hK ▸ SqL.of (g.h _ _ h4), hu, k u S' H' [] g ⟨by rw [nmd_hp]; exact Enc.mono (own_g g.s) r, rfl⟩ (fun q h => nomatch h)⟩
/-- x[k] = e of a list handed in -/
theorem ds_setixA [Enc α] {i : Nat} {l : List α} {a : α} {q : Int} {j : Nat} {te tk : TE} {p : Addr} (hs : Sd ρ ρ') (h : ρ[i]? = some (some (ownA p n l))) (he : DR ρ te (tl (nmd n) a)) (hk : DR ρ tk (tl m q)) (hj : ixN l.length q = some j) (k : W.nx (ρ'.set i (some (ownA p n (l.set j a))))) :
    DS ρ (tAsg te (gSub (tVar i) tk rSetL)) W := fun B H0 S H σ Fs D e k1 k2 => by
  obtain ⟨v, h1, rfl, p', xs, rv, hF, h3, h4⟩ := e.sl i _ h
  cases rv
  refine he B H0 S H σ Fs _ e fun u S1 H1 F g1 qa _ => ?_
  refine ⟨_, h1, hk B H0 S1 H1 σ Fs _ (e.grow g1) fun w S2 H2 F2 g2 q2 _ => ?_⟩
  have g := g1.trans g2
  have e' := e.grow g
  have h4' := paired_mono (fun _ _ r => Enc.mono (own_g (n := n) (B := B) g.s) r) h4
  have q' := qa.1
  rw [nmd_hp] at q'
  refine ⟨p, xs, q, j, rfl, q2.1, g.h _ _ h3, by rw [paired_len h4]; exact hj, ?_⟩
  exact k1 _ _ _ _ _ k g.s ((e'.mut hs h1 hF (paired_set (Enc.mono (own_g (n := n) (B := B) g2.s) q') j h4')).tag h1)
/-- the promise of a def that writes its first argument -/
def spIO [Enc α] [Enc β] [Enc γ] [Enc δ] (pre : List α → β → γ → Prop) (f : List α → β → γ → List α × δ) : Sp := fun vs H Q _ => ∃ (B : Hp) (p : Addr) (xs : List V) (v2 v3 : V) (l : List α) (a : β) (b : γ),
  vs = [.ref p, v2, v3] ∧ H p = some (.lst xs) ∧ B p = none ∧ Same B H ∧ Paired (rep B) xs l ∧ rep B v2 a ∧ rep B v3 b ∧ pre l a b ∧
  ∀ (S' H' : Hp) (u : V) (xs' : List V), Grow (fun _ => none) (msk H p) S' (msk H' p) → H' p = some (.lst xs') → Paired (rep (un B S')) xs' (f l a b).1 → rep (un B S') u (f l a b).2 → Q u H'
theorem ds_callIO [Enc α] [Enc β] [Enc γ] [Enc δ] {E : XK} {pre : List α → β → γ → Prop} {f : List α → β → γ → List α × δ} {i j : Nat} {l : List α} {a : β} {b : γ} {t2 t3 : TE} (hs : Sd ρ ρ') (h : ρ[i]? = some (some (own n l))) (h2 : DR ρ t2 (tl (nmd n) a)) (h3 : DR ρ t3 (tl (nmd n) b)) (hp : pre l a b) (hj : j < ρ.length)
    (k : W.nx ((ρ'.set i (some (own n (f l a b).1))).set j (some (tl (nmd n) (f l a b).2)))) : DS ρ (tAsg (tCall (spIO pre f) [] E (tCons (tVar i) (tCons t2 (tCons t3 tNil)))) (gName j)) W := fun B H0 S H σ Fs D e k1 k2 => by
  obtain ⟨v, h1, p, xs, rfl, hF, hx, hl⟩ := e.sl i _ h
  refine ⟨_, h1, h2 B H0 S H σ Fs _ e fun v2 S1 H1 F1 g1 q2 _ => h3 B H0 S1 H1 σ Fs _ (e.grow g1) fun v3 S2 H2 F2 g2 q3 _ => ?_⟩
  have g := g1.trans g2
  have e2 := e.grow g
  have hpf := e2.fr i p (by rw [hF]; exact List.mem_singleton.mpr rfl)
  have q2' := q2.1
  have q3' := q3.1
  rw [nmd_hp] at q2' q3'
  have hB : (if n = true then S2 else un B S2) p = none := by
    cases n with
    | true => exact hpf.1
    | false =>
      show (match B p with | some o => some o | none => S2 p) = none
      rw [e.bh.free hpf.2.1]
      exact hpf.1
  refine ⟨if n = true then S2 else un B S2, p, xs, v2, v3, l, a, b, rfl, g.h _ _ hx, hB, own_in e2.b e2.i, paired_mono (fun _ _ r => Enc.mono (own_g (n := n) (B := B) g.s) r) hl, Enc.mono (own_g (n := n) (B := B) g2.s) q2', q3', hp, fun S' H' u xs' gr hx' hl' hu => ?_⟩
  have hpp : ∀ q o, q ≠ p → H2 q = some o → H' q = some o := fun q o hne hq => by
    have := gr.h q o (by rw [msk_ne hne]; exact hq)
    rw [msk_ne hne] at this
    exact this
  have hSp : S' p = none := by
    cases c : S' p with
    | none => rfl
    | some o =>
      have := gr.i _ _ c
      rw [msk_self] at this
      cases this
  have hSn : ∀ q, S' q ≠ none → q ≠ p ∧ H2 q = none := fun q hq => by
    have hne : q ≠ p := fun c => hq (c ▸ hSp)
    rcases gr.n q hq with c | c
    · exact absurd rfl c
    · rw [msk_ne hne] at c
      exact ⟨hne, c⟩
  have hun : un (if n = true then S2 else un B S2) S' = if n = true then un S2 S' else un B (un S2 S') := by
    cases n with
    | true => rfl
    | false => exact un_un
  have i2 : Same S2 H' := fun q o hq => hpp q o (fun c => by rw [c, hpf.1] at hq; cases hq) (e2.i _ _ hq)
  have i3 : Same S' H' := fun q o hq => by
    have := gr.i _ _ hq
    rw [msk_ne (hSn q (by rw [hq]; simp)).1] at this
    exact this
  have e3 : Ev B H0 (ρ'.set i (some (own n (f l a b).1))) (un S2 S') H' σ Fs := by
    refine ⟨e.bh, fun q o hq => hpp q o (fun c => by rw [c, hpf.2.1] at hq; cases hq) (e2.hh _ _ hq), un_in i2 i3, fun q hq => ?_, by rw [List.length_set, ← hs.len]; exact e.len, fun j s hj => ?_, fun j q hq => ?_, e.ap⟩
    · cases c : S2 q with
      | some o => exact e2.nw q (by rw [c]; simp)
      | none =>
        have : S' q ≠ none := fun z => hq (by
          show (match S2 q with | some o => some o | none => S' q) = none
          rw [c]
          exact z)
        exact e2.hh.free (hSn q this).2
    · rcases set_get hj with ⟨rfl, hz⟩ | ⟨hne, hz⟩
      · have hz' : s = own n (f l a b).1 := Option.some.inj hz
        subst hz'
        rw [hun] at hl'
        exact ⟨_, h1, p, xs', rfl, hF, hx', hl'⟩
      · obtain ⟨z1, z2⟩ := hs.at_ hz
        obtain ⟨v, z3, z4⟩ := e2.sl j s z1
        refine ⟨v, z3, s.mono un_l (Same.refl _) (z2 (fun q hq => ?_) z4)⟩
        obtain ⟨y1, y2, o, y3⟩ := e2.fr j q hq
        rw [y3]
        exact hpp q o (fun c => hne (e.ap j i q hq (by rw [hF, c]; exact List.mem_singleton.mpr rfl))) y3
    · obtain ⟨y1, y2, o, y3⟩ := e2.fr j q hq
      refine ⟨?_, y2, ?_⟩
      · show (match S2 q with | some o => some o | none => S' q) = none
        rw [y1]
        cases c : S' q with
        | none => rfl
        | some u =>
          have := (hSn q (by rw [c]; simp)).2
          rw [y3] at this
          cases this
      · by_cases c : q = p
        · exact ⟨_, c ▸ hx'⟩
        · exact ⟨o, hpp q o c y3⟩
  refine k1 _ _ _ _ _ k (g.s.trans un_l) (e3.put (s := tl (nmd n) (f l a b).2) (F := []) (Grow.refl e3.i) (by rw [List.length_set, ← hs.len]; exact hj) ⟨?_, rfl⟩ (fun q h => nomatch h) (fun q h => nomatch h))
  rw [nmd_hp, ← hun]
  exact hu
theorem ev_ent2 {B H0 H : Hp} {N : List Str} {xs : List Sl} {vs : List V} {Fs : Nat → List Addr} (bh : Same B H0) (hh : Same H0 H) (hl : xs.length = vs.length) (hp : ∀ (j : Nat) (s : Sl), xs[j]? = some s → ∃ v, vs[j]? = some v ∧ s.P B (fun _ => none) H v (Fs j)) (fr : ∀ i q, q ∈ Fs i → H0 q = none ∧ ∃ o, H q = some o) (ap : ∀ i j q, q ∈ Fs i → q ∈ Fs j → i = j) :
    Ev B H0 (ent N xs) (fun _ => none) H (start N vs) Fs := by
  refine ⟨bh, hh, (fun q o h => nomatch h), (fun q h => absurd rfl h), ?_, fun j s h => ?_, fun i q h => ⟨rfl, fr i q h⟩, ap⟩
  · unfold ent L2.start
    rw [List.length_append, List.length_append, List.length_map, List.length_map, List.length_replicate, List.length_replicate, hl]
  · unfold ent at h
    unfold L2.start
    by_cases c : j < xs.length
    · rw [List.getElem?_append_left (by rw [List.length_map]; exact c), List.getElem?_map] at h
      rw [List.getElem?_append_left (by rw [List.length_map, ← hl]; exact c), List.getElem?_map]
      cases e : xs[j]? with
      | none => rw [e] at h; cases h
      | some s' =>
        rw [e] at h
        have es : s' = s := Option.some.inj (Option.some.inj h)
        subst es
        obtain ⟨v, hv, r⟩ := hp j s' e
        exact ⟨v, by rw [hv]; rfl, r⟩
    · rw [List.getElem?_append_right (by rw [List.length_map]; omega), List.getElem?_replicate] at h
      split at h
      · cases h
      · cases h
section
variable {P : Program} {w : World} {mg : Str → Option Value} {base : Heap} {x qual : Str} {stm : Stmt} {f : Addr} {fd : FuncData} {N : List Str} {k : Nat} {p1 p2 p3 : Str}
theorem fnIO [Enc α] [Enc β] [Enc γ] [Enc δ] {pre : List α → β → γ → Prop} {ff : List α → β → γ → List α × δ} (F : Fun Γ.K x qual stm f fd) (S : FnScope N [p1, p2, p3] (defScope stm))
    (b : Body P w mg base qual stm f N k fun t => ∀ (p : Addr) l a b, pre l a b → DS (ent N [ownA p false l, st a, st b]) t ⟨fun _ => False, fun ρ' r => ρ'[0]? = some (some (ownA p false (ff l a b).1)) ∧ r = st (ff l a b).2⟩) : FnOk P w Γ.K mg base CX0 (k + 1) f fd [p1, p2, p3] (spIO pre ff) := by
  refine F.ok S (fun vs H Q E h => ?_) (fun cdv A outer s H vs Q E hr h => ?_)
  · obtain ⟨_, _, _, _, _, _, _, _, rfl, _⟩ := h
    rfl
  · obtain ⟨t, h1, h2⟩ := b cdv A outer s H E hr
    obtain ⟨B, p, xs, v2, v3, l, a, b, rfl, hx, hB, i, r1, r2, r3, hp, hf⟩ := h
    refine ⟨t, h1, ?_⟩
    have ne : ∀ q o, B q = some o → q ≠ p := fun q o hq c => by rw [c, hB] at hq; cases hq
    have hu : Same B (un B fun _ => none) := un_l
    have ev : Ev B (msk H p) (ent N [ownA p false l, st a, st b]) (fun _ => none) H (start N [.ref p, v2, v3]) (fun i => if i = 0 then [p] else []) := by
      refine ev_ent2 (fun q o hq => by rw [msk_ne (ne q o hq)]; exact i _ _ hq) (fun q o hq => ?_) rfl (fun j s hj => ?_) (fun j q hq => ?_) (fun j k q h1 h2 => ?_)
      · by_cases c : q = p
        · rw [c, msk_self] at hq; cases hq
        · rw [msk_ne c] at hq; exact hq
      · match j, hj with
        | 0, hj =>
          cases hj
          exact ⟨_, rfl, rfl, p, xs, rfl, rfl, hx, paired_mono (fun _ _ r => Enc.mono hu r) r1⟩
        | 1, hj =>
          cases hj
          exact ⟨_, rfl, ent_st r2⟩
        | 2, hj =>
          cases hj
          exact ⟨_, rfl, ent_st r3⟩
        | j + 3, hj => cases hj
      · by_cases c : j = 0
        · rw [if_pos c] at hq
          rw [List.mem_singleton.mp hq]
          exact ⟨msk_self, _, hx⟩
        · rw [if_neg c] at hq
          cases hq
      · by_cases c : j = 0
        · by_cases c2 : k = 0
          · rw [c, c2]
          · rw [if_neg c2] at h2
            cases h2
        · rw [if_neg c] at h1
          cases h1
    refine h2 p l a b hp B (msk H p) _ H _ _ _ ev (fun ρ' S' H' σ' Fs' z _ _ => z.elim) (fun ρ' r S' H' σ' Fs' v F hr e' pr _ => ?_)
    obtain ⟨hr0, rfl⟩ := hr
    obtain ⟨v0, z1, rfl, p', xs', rv, hF, z3, z4⟩ := e'.sl 0 _ hr0
    cases rv
    have hpf := e'.fr 0 p (by rw [hF]; exact List.mem_singleton.mpr rfl)
    have nS : ∀ q o, S' q = some o → q ≠ p := fun q o hq c => by rw [c, hpf.1] at hq; cases hq
    refine hf S' H' v xs' ⟨(fun q o h => nomatch h), fun q o hq => ?_, fun q o hq => ?_, fun q hq => .inr (e'.nw q hq)⟩ z3 z4 pr.1
    · have hne : q ≠ p := fun c => by rw [c, msk_self] at hq; cases hq
      rw [msk_ne hne]
      exact e'.hh _ _ hq
    · rw [msk_ne (nS q o hq)]
      exact e'.i _ _ hq
end
/-! ### calls that hand in what is new -/
def Up (r r' : Sl) : Prop := ∀ {B' S S' H : Hp} {v : V} {F : List Addr}, Same S' (un S S') → r.P S S' H v F → r'.P B' (un S S') H v F
theorem up_own [Enc α] {l : List α} : Up (own n l) (ow l) := fun hs ⟨p, xs, h1, h2, h3, h4⟩ => ⟨p, xs, h1, h2, h3, by
  cases n with
  | true => exact paired_mono (fun _ _ r => Enc.mono hs r) h4
  | false => exact h4⟩
theorem up_tl [Enc α] {a : α} : Up (tl (nmd n) a) (sh a) := fun hs h => ⟨by
  cases n with
  | true => exact Enc.mono hs h.1
  | false => exact h.1, h.2⟩
theorem fin_nw {S H : Hp} {w : Wf} {r : Sl} {Q : VK} {B : Hp} (hr : Up w.r r) (i : Same S H) (k : ∀ v S' H' F, Grow S H S' H' → r.P B S' H' v F → (∀ q ∈ F, H q = none ∧ S' q = none) → Q v H') :
    ∀ (S' H' : Hp) (u : V) (F : List Addr), Grow (fun _ => none) H S' H' → w.r.P S S' H' u F → (∀ q ∈ F, H q = none ∧ S' q = none) → Q u H' := fun S' H' u F g p hF =>
  k u (un S S') H' F (grow_un i g) (hr (un_new i g) p) (fr_un i hF)
variable {E : XK}
theorem dr_calln1 [Enc α] {f : α → Wf} {a : α} {t : TA} {r : Sl} (h : DA ρ t [sh a]) (hp : (f a).pre) (hr : Up (f a).r r) : DR ρ (tCall (sp1 f) [] E t) r := fun B H0 S H σ Fs Q e k =>
  h B H0 S H σ Fs _ e fun vs S' H' g p => by
    obtain ⟨v1, rfl, q1⟩ := pr1 p
    exact ⟨S', v1, a, rfl, g.i, q1.1, hp, fin_nw (B := B) hr g.i fun v S2 H2 F g2 p2 hF => k v S2 H2 F (g.trans g2) p2 (g.freeF hF)⟩
theorem dr_calln2 [Enc α] [Enc β] {f : α → β → Wf} {a : α} {b : β} {t : TA} {r : Sl} (h : DA ρ t [sh a, sh b]) (hp : (f a b).pre) (hr : Up (f a b).r r) : DR ρ (tCall (sp2 f) [] E t) r := fun B H0 S H σ Fs Q e k =>
  h B H0 S H σ Fs _ e fun vs S' H' g p => by
    obtain ⟨v1, v2, rfl, q1, q2⟩ := pr2 p
    exact ⟨S', v1, v2, a, b, rfl, g.i, ⟨q1.1, q2.1⟩, hp, fin_nw (B := B) hr g.i fun v S2 H2 F g2 p2 hF => k v S2 H2 F (g.trans g2) p2 (g.freeF hF)⟩
theorem dr_calln3 [Enc α] [Enc β] [Enc γ] {f : α → β → γ → Wf} {a : α} {b : β} {c : γ} {t : TA} {r : Sl} (h : DA ρ t [sh a, sh b, sh c]) (hp : (f a b c).pre) (hr : Up (f a b c).r r) : DR ρ (tCall (sp3 f) [] E t) r := fun B H0 S H σ Fs Q e k =>
  h B H0 S H σ Fs _ e fun vs S' H' g p => by
    obtain ⟨v1, v2, v3, rfl, q1, q2, q3⟩ := pr3 p
    exact ⟨S', v1, v2, v3, a, b, c, rfl, g.i, ⟨q1.1, q2.1, q3.1⟩, hp, fin_nw (B := B) hr g.i fun v S2 H2 F g2 p2 hF => k v S2 H2 F (g.trans g2) p2 (g.freeF hF)⟩
theorem dr_os [Enc α] {t : TE} {l : List α} (h : DR ρ t (own true l)) : DR ρ t (own false l) := fun B H0 S H σ Fs Q e k =>
  h B H0 S H σ Fs Q e fun v S' H' F g ⟨p, xs, h1, h2, h3, h4⟩ hF => k v S' H' F g ⟨p, xs, h1, h2, h3, paired_mono (fun _ _ r => Enc.mono (un_r (e.b.trans g.h) g.i) r) h4⟩ hF
theorem le_os [Enc α] {l l' : List α} (h : l = l') : SlLe (own true l) (own false l') := fun h1 h2 ⟨p, xs, q1, q2, q3, q4⟩ => h ▸ ⟨p, xs, q1, q2, q3, paired_mono (fun _ _ r => Enc.mono (un_r h1 h2) r) q4⟩
theorem le_some [Enc α] {a : α} {o : Option α} (h : o = some a) : SlLe (tl m a) (tl m o) := fun _ _ p => by
  subst h
  exact ⟨p.1, p.2⟩
end
end G

namespace G
open PySem L2
section
variable [Γ : Ctx] {ρ ρ' : En} {α β γ δ ε ι : Type} {W : Wn} {m m' : Md} {n n' : Bool}
/-- some value that holds P -/
def exS {α : Type} (P : α → Prop) (s : α → Sl) : Sl := ⟨fun B S H v F => ∃ a, P a ∧ (s a).P B S H v F, fun e e' ⟨a, h1, h2⟩ => ⟨a, h1, (s a).mono e e' h2⟩⟩
theorem dr_ex {P : α → Prop} {s : α → Sl} {t : TE} {a : α} (hp : P a) (h : DR ρ t (s a)) : DR ρ t (exS P s) := fun B H0 S H σ Fs Q e k =>
  h B H0 S H σ Fs Q e fun v S' H' F g p hF => k v S' H' F g ⟨a, hp, p⟩ hF
theorem ds_retoex [Enc α] {P : List α → Prop} {i : Nat} {l : List α} (h : ρ[i]? = some (some (own n l))) (hp : P l) (k : W.rt ρ (exS P fun l => own n l)) : DS ρ (tRet (tVar i)) W := fun B H0 S H σ Fs D e k1 k2 => by
  obtain ⟨v, h1, h2⟩ := e.sl i _ h
  exact ⟨v, h1, k2 ρ _ S H σ Fs v (Fs i) k e ⟨l, hp, h2⟩ fun q hq => ⟨(e.fr i q hq).2.1, (e.fr i q hq).1⟩⟩
theorem ds_setex {P : α → Prop} {s : α → Sl} {te : TE} {i : Nat} (h : DR ρ te (exS P s)) (ha : ∀ a, (s a).Al) (hi : i < ρ.length) (k : ∀ a, P a → W.nx (ρ.set i (some (s a)))) : DS ρ (tAsg te (gName i)) W := fun B H0 S H σ Fs D e k1 k2 =>
  h B H0 S H σ Fs _ e fun v S' H' F g ⟨a, pa, p⟩ hF => k1 _ _ _ _ _ (k a pa) g.s (e.put g hi p hF (ha a p))
theorem ds_setexo [Enc α] {P : List α → Prop} {te : TE} {i : Nat} (h : DR ρ te (exS P fun l => own n l)) (hi : i < ρ.length) (k : ∀ l, P l → W.nx (ρ.set i (some (own n l)))) : DS ρ (tAsg te (gName i)) W := ds_setex h (fun _ => own_al) hi k
theorem ds_setext [Enc α] {P : α → Prop} {te : TE} {i : Nat} (h : DR ρ te (exS P fun a => tl m a)) (hi : i < ρ.length) (k : ∀ a, P a → W.nx (ρ.set i (some (tl m a)))) : DS ρ (tAsg te (gName i)) W := ds_setex h (fun _ => tl_al) hi k
theorem reb_ex {P : α → Prop} {s s' : α → Sl} (h : ∀ a, Reb (s a) (s' a)) : Reb (exS P s) (exS P s') := fun h1 h2 ⟨a, pa, p⟩ => ⟨a, pa, h a h1 h2 p⟩
theorem dr_exmap {P : α → Prop} {s s' : α → Sl} {t : TE} (hh : ∀ {a B S H v F}, Same B H → Same S H → (s a).P B S H v F → (s' a).P B S H v F) (h : DR ρ t (exS P s)) : DR ρ t (exS P s') := fun B H0 S H σ Fs Q e k =>
  h B H0 S H σ Fs Q e fun v S' H' F g ⟨a, pa, p⟩ hF => k v S' H' F g ⟨a, pa, hh (e.b.trans g.h) g.i p⟩ hF
/-- two roads that meet again -/
theorem ds_seqj {t u : TS} (P : ι → Prop) (ρj : ι → En) (h : DS ρ t { W with nx := fun ρ' => ∃ x, P x ∧ LeL ρ' (ρj x) }) (k : ∀ x, P x → DS (ρj x) u W) : DS ρ (tSeq t u) W :=
  ds_seq fun B H0 S H σ Fs D e k1 k2 => h B H0 S H σ Fs D e (fun ρ' S' H' σ' Fs' ⟨x, px, hle⟩ es e' => k1 ρ' S' H' σ' Fs' (ds_le hle.le (k x px)) es e') k2
theorem ds_seqk {t u : TS} (kill : List Nat) (slots : ι → List (Nat × Sl)) (P : ι → Prop) (h : DS ρ t { W with nx := fun ρ' => ∃ x, P x ∧ LeL ρ' (setE (wipeE ρ kill) (slots x)) }) (k : ∀ x, P x → DS (setE (wipeE ρ kill) (slots x)) u W) : DS ρ (tSeq t u) W :=
  ds_seqj P (fun x => setE (wipeE ρ kill) (slots x)) h k
theorem join_in1 {f : α → En} {P : α → Prop} {a : α} (l : LeL ρ' (f a)) (p : P a) : ∃ x, P x ∧ LeL ρ' (f x) := ⟨a, p, l⟩
theorem join_in2 {f : α × β → En} {P : α × β → Prop} {a : α} {b : β} (l : LeL ρ' (f (a, b))) (p : P (a, b)) : ∃ x, P x ∧ LeL ρ' (f x) := ⟨_, p, l⟩
theorem join_in3 {f : α × β × γ → En} {P : α × β × γ → Prop} {a : α} {b : β} {c : γ} (l : LeL ρ' (f (a, b, c))) (p : P (a, b, c)) : ∃ x, P x ∧ LeL ρ' (f x) := ⟨_, p, l⟩
theorem paired_tk {α β : Type} {F : α → β → Prop} : ∀ {xs : List α} {ys : List β} (k : Nat), Paired F xs ys → Paired F (xs.take k) (ys.take k) ∧ Paired F (xs.drop k) (ys.drop k)
  | _, _, 0, h => ⟨.nil, h⟩
  | _, _, k + 1, .nil => ⟨.nil, .nil⟩
  | _, _, k + 1, .cons r t => ⟨.cons r (paired_tk k t).1, (paired_tk k t).2⟩
/-- x.insert(k, e) -/
theorem ds_insert [Enc α] {K : PySem.W.Frag} {r : V → List V → Hp → VK → Prop} {i : Nat} {l : List α} {a : α} {q : Int} {te tk : TE} (hK : K = Γ.K)
    (hr : ∀ (p : Addr) (xs : List V) (q : Int) (y : V) (H : Hp) (Q : VK), H p = some (.lst xs) → xs.length < sizeLine → 0 ≤ q → q < 2 ^ 63 → Q .non (upd H p (.lst (xs.take q.toNat ++ [y] ++ xs.drop q.toNat))) → r (.ref p) [.int q, y] H Q)
    (hs : Sd ρ ρ') (h : ρ[i]? = some (some (own n l))) (hk : DR ρ tk (tl m q)) (he : DR ρ te (tl (nmd n) a)) (h0 : 0 ≤ q) (h1 : q < 2 ^ 63) (hl : l.length < sizeLine) (k : W.nx (ρ'.set i (some (own n (l.take q.toNat ++ [a] ++ l.drop q.toNat))))) :
    DS ρ (tDrop (tBM K "list" r (tVar i) (tCons tk (tCons te tNil)))) W := fun B H0 S H σ Fs D e k1 k2 => by
  obtain ⟨v, e1, p, xs, rfl, hF, h3, h4⟩ := e.sl i _ h
  refine ⟨_, e1, .inl ⟨rfl, _, SqL.of h3⟩, hk B H0 S H σ Fs _ e fun w S1 H1 F1 g1 q1 _ => he B H0 S1 H1 σ Fs _ (e.grow g1) fun u S' H' F g2 q2 _ => ?_⟩
  have g := g1.trans g2
  have e' := e.grow g
  have h4' := paired_mono (fun _ _ r => Enc.mono (own_g (n := n) (B := B) g.s) r) h4
  have q' := q2.1
  rw [nmd_hp] at q'
  have e2 : w = .int q := q1.1
  subst e2
  refine hr p xs q u H' _ (g.h _ _ h3) (by rw [paired_len h4]; exact hl) h0 h1 ?_
  exact k1 _ _ _ _ _ k g.s (e'.mut hs e1 hF (paired_app (paired_app (paired_tk q.toNat h4').1 (.cons q' .nil)) (paired_tk q.toNat h4').2))
end
end G

namespace G
open PySem L2
section
variable [Γ : Ctx] {ρ ρ' : En} {α β γ δ ε ι : Type} {W : Wn} {m m' mA : Md} {n n' : Bool}
/-- reversed(x), x a list -/
theorem di_rev [Enc α] {K : PySem.W.Frag} {t : TE} {l : List α} (hK : K = Γ.K) (c : m = .nu → mA = .nu) (h : DR ρ t (tl m l)) : DI mA ρ (iRev K (tCons (tL K t) tNil)) (l.reverse.map (tl m)) := fun B H0 S H σ Fs R e k =>
  h B H0 S H σ Fs _ e fun v S' H' F g q _ hz => by
    obtain ⟨⟨a, xs, rfl, hs, hp⟩, _⟩ := q
    have hs' := (hm_in (m := m) (e.b.trans g.h) g.i).seq hs
    have hn := paired_len hp
    refine ⟨a, xs, rfl, hK ▸ hs', k _ S' H' g ⟨by rw [List.length_map, List.length_reverse, ← hn]; exact hz a xs rfl (hK ▸ hs'), fun {S1 H1} e1 e2 e3 {i s} hi => ?_, fun {S1 H1} e1 e2 e3 => ?_⟩⟩
    · obtain ⟨d, hb, rfl⟩ := map_at hi
      have hl : i < l.length := by
        have := (List.getElem?_eq_some_iff.mp hb).1
        rw [List.length_reverse] at this
        exact this
      rw [List.getElem?_reverse hl] at hb
      obtain ⟨x, hx, r⟩ := paired_at hp hb
      rw [← hn] at hx
      have hk := keep_hm (m := m) (mA := mA) c e1 e2
      have hq := (hm_in (m := m) e3.b e3.i).seq (hk.seq hs)
      refine ⟨⟨by omega, xs, x, hK ▸ hq, hx⟩, fun y H2 ⟨q0, q3⟩ => ?_⟩
      have := q3 xs (hK ▸ hq)
      rw [hx] at this
      cases this
      subst q0
      exact ⟨Grow.refl e3.i, Enc.mono hk r, rfl⟩
    · show xs.length ≤ _
      rw [List.length_map, List.length_reverse, hn]
      exact Nat.le_refl _
/-- what the written part says of instances of the class c, asked by isinstance -/
structure CI (mg : Str → Option Value) (x : Str) (c : Nat) : Prop where
  cl : Cls Γ.K (Γ.cls c)
  ha : PySem.W.findIn Γ.K (.ref (Γ.cls c)) "__class__" = some (some (.builtin "object.__class__"))
  hn : PySem.W.specialIn Γ.K (.builtin "object.__class__") "__get__" = some (some (.builtin "getset_descriptor.__get__"))
  htk : PySem.W.takesIn Γ.K (.builtin "object.__class__") = some true
  hm : PySem.W.mroIn Γ.K (Γ.cls c) (.type "object") = some true
  mg : mg x = some (.ref (Γ.cls c))
theorem dr_isiC [Enc α] {K : PySem.W.Frag} {mg : Str → Option Value} {x : Str} {c : Nat} {ta tc : TE} {a : α} (hK : K = Γ.K) (T : CI mg x c) (hr : ∀ {H : Hp} {v : V}, rep H v a → ∃ p dx l, v = .ref p ∧ H p = some (.ins (Γ.cls c) dx l)) (h : DR ρ ta (tl m a)) (hc : tc = tC (.ref (Γ.cls c))) :
    DR ρ (tCB (rIsi K) (tCons ta (tCons tc tNil))) (sh true) := fun B H0 S H σ Fs Q e k =>
  h B H0 S H σ Fs _ e fun v S' H' F g p _ => by
    subst hc hK
    obtain ⟨q, dx, l, rfl, h2⟩ := hr p.1
    refine ⟨.ref q, .ref (Γ.cls c), .ref (Γ.cls c), .ref (Γ.cls c), true, rfl, .own _, .base (.ins (hm_in (e.b.trans g.h) g.i _ _ h2) T.cl T.ha T.hn T.htk T.hm), ?_, k _ S' H' [] g ⟨rfl, rfl⟩ (fun q h => nomatch h)⟩
    unfold PySem.W.kitOne
    rw [if_pos (by simp)]
/-- x.clear() of a list of one's own -/
theorem ds_clear [Enc α] {K : PySem.W.Frag} {i : Nat} {l : List α} (hK : K = Γ.K) (hs : Sd ρ ρ') (h : ρ[i]? = some (some (own n l))) (k : W.nx (ρ'.set i (some (own n ([] : List α))))) :
    DS ρ (tDrop (tBM0 K "list" rClear (tVar i))) W := fun B H0 S H σ Fs D e k1 k2 => by
  obtain ⟨v, h1, p, xs, rfl, hF, h3, h4⟩ := e.sl i _ h
  refine ⟨_, h1, .inl ⟨rfl, _, SqL.of h3⟩, p, xs, rfl, rfl, h3, ?_⟩
  exact k1 _ _ _ _ _ k (Same.refl _) (e.mut hs h1 hF .nil)
theorem ins_Book {H : Hp} {v : V} {b : Book} (h : rep H v b) : ∃ p dx l, v = .ref p ∧ H p = some (.ins (Γ.cls 0) dx l) := by
  obtain ⟨p, dx, _, _, h1, h2, _⟩ := h
  exact ⟨p, dx, _, h1, h2⟩
theorem ins_Stairs {H : Hp} {v : V} {b : Stairs} (h : rep H v b) : ∃ p dx l, v = .ref p ∧ H p = some (.ins (Γ.cls 1) dx l) := by
  obtain ⟨p, dx, _, _, _, h1, h2, _⟩ := h
  exact ⟨p, dx, _, h1, h2⟩
end
end G

namespace G
open PySem L2
open PySem.Spec PyProof.Rows
/-! ### any over ints -/
theorem truth_ints {prog : Program} {w : World} {A : Around} {ns : List Int} {its : List Value} (e : Vals (ns.map V.int) its) : TruthOf prog w A (fun i v => its.toArray[i]? = some v) (fun i => decide (ns.getD i 0 ≠ 0)) := fun i v s Q E hv hq => by
  have hv' : its[i]? = some v := by simpa using hv
  have hl := e.length
  have hi : i < ns.length := by
    have := (List.getElem?_eq_some_iff.mp hv').1
    rw [List.length_map] at hl
    omega
  obtain ⟨u, hu, r⟩ := Vals.get (i := i) (x := V.int ns[i]) e (by rw [List.getElem?_map, List.getElem?_eq_getElem hi]; rfl)
  rw [hv'] at hu
  cases hu
  obtain ⟨t, rfl⟩ := r
  have hg : ns.getD i 0 = ns[i] := by rw [List.getD_eq_getElem?_getD, List.getElem?_eq_getElem hi]; rfl
  have hq' : Q (decide (ns.getD i 0 ≠ 0)) s := hq
  rw [hg] at hq'
  refine PyProof.Rows.truthy_int ?_
  have : (ns[i] != 0) = decide (ns[i] ≠ 0) := by
    by_cases c : ns[i] = 0
    · rw [c]; rfl
    · rw [decide_eq_true c]; exact bne_iff_ne.mpr c
  rw [this]
  exact hq'
theorem any_rangeI : ∀ ns : List Int, (List.range ns.length).any (fun i => decide (ns.getD i 0 ≠ 0)) = ns.any fun x => decide (x ≠ 0)
  | [] => rfl
  | b :: bs => by
    rw [List.length_cons, List.range_succ_eq_map, List.any_cons, List.any_map, List.any_cons, ← any_rangeI bs]
    all_goals rfl
def rAnyI (K : PySem.W.Frag) : List V → Hp → VK → Prop := fun vs H Q => ∃ (a : Addr) (ns : List Int), vs = [V.ref a] ∧ SqL K H a (ns.map V.int) ∧ Q (.bl (ns.any fun x => decide (x ≠ 0))) H
theorem cr_anyI {X : Cx} (hc : X.calm = true) : CallR X (.builtin "any") (rAnyI X.K) := by
  intro pins s σ H vs us Q I r h
  obtain ⟨a, ns, rfl, hs, q⟩ := h
  obtain ⟨its, rv, hl, _⟩ := I.list hs
  rw [Vals.ref1 r]
  have hlen := rv.length
  refine call_any_walk (iter_any hl.isList fun s₂ e2 st hne => ?_)
  subst e2
  refine ⟨_, _, _, _, _, _, _, rfl, Walks.list (A := X.A.in1) (I.ok.hd hc) _ a hne its.toArray, st, truth_ints rv, fun h' tk hk => ?_⟩
  refine ⟨.bl _, H, I.kept fun b o eo => hk b o (fun hmem => ?_) (Heap.get?_push_of_some _ eo), ?_, q⟩
  · rcases List.mem_cons.mp hmem with e1 | hmem
    · exact absurd (e1 ▸ Heap.lt_size eo) (Nat.lt_irrefl _)
    · cases hmem
  · show Value.bool _ = Value.bool _
    rw [← any_rangeI, List.size_toArray, ← hlen, List.length_map]
section
variable [Γ : Ctx] {ρ ρ' : En} {α β γ δ ε ι : Type} {W : Wn} {m m' mA : Md} {n n' : Bool}
theorem dr_anyI {K : PySem.W.Frag} {ta : TE} {l : List Int} (hK : K = Γ.K) (h : DR ρ ta (bo l)) : DR ρ (tCB (rAnyI K) (tCons ta tNil)) (sh (l.any fun x => decide (x ≠ 0))) :=
  dr_cb (da_sh h da_nil) fun B S H vs Q i p k => by
    obtain ⟨v, rfl, q⟩ := pr1 p
    obtain ⟨a, xs, rfl, hs, hp⟩ := bo_seq q
    rw [paired_scal hp] at hs
    exact ⟨a, l, rfl, hK ▸ hs, k _ S H [] (Grow.refl i.i) ⟨rfl, rfl⟩ (fun q h => nomatch h)⟩
/-- a, b, c = a list of three -/
theorem dg_l3 [Enc α] {K : PySem.W.Frag} {l : List α} {a b c : α} {i j k : Nat} (hK : K = Γ.K) (hl : l = [a, b, c]) (hi : i < ρ.length) (hj : j < ρ.length) (hk : k < ρ.length) :
    DG ρ (tl m l) (gLst K 3 (gCons (gName i) (gCons (gName j) (gCons (gName k) gNil)))) (((ρ.set i (some (tl m a))).set j (some (tl m b))).set k (some (tl m c))) := fun B H0 S H σ Fs v Q e p q => by
  subst hl
  obtain ⟨⟨T, xs, rfl, h2, h3⟩, _⟩ := p
  cases h3 with
  | cons r1 h3 =>
    cases h3 with
    | cons r2 h3 =>
      cases h3 with
      | cons r3 h3 =>
        cases h3
        have e1 := e.put (s := tl m a) (Grow.refl e.i) hi ⟨r1, rfl⟩ (fun q h => nomatch h) (fun q h => nomatch h)
        have e2 := e1.put (i := j) (s := tl m b) (Grow.refl e.i) (by rw [List.length_set]; exact hj) ⟨r2, rfl⟩ (fun q h => nomatch h) (fun q h => nomatch h)
        have e3 := e2.put (i := k) (s := tl m c) (Grow.refl e.i) (by rw [List.length_set, List.length_set]; exact hk) ⟨r3, rfl⟩ (fun q h => nomatch h) (fun q h => nomatch h)
        exact ⟨T, _, rfl, hK ▸ ((hm_in e.b e.i).seq h2), rfl, _, _, rfl, _, _, rfl, _, _, rfl, rfl, q _ _ e3⟩
/-! ### pairs whose first is a list of one's own -/
def opr {α β : Type} [Enc α] [Enc β] (l : List α) (b : β) : Sl :=
  ⟨fun B S H v F => ∃ T p y, v = .ref T ∧ (own true l).P B S H (.ref p) F ∧ SqT Γ.K S T [.ref p, y] ∧ rep S y b,
   fun e e' ⟨T, p, y, h1, h2, h3, h4⟩ => ⟨T, p, y, h1, (own true l).mono e e' h2, same_tup e h3, Enc.mono e h4⟩⟩
theorem reb_opr [Enc α] [Enc β] {l : List α} {b : β} : Reb (opr l b) (opr l b) := fun _ _ h => h
theorem dr_tup2o [Enc α] [Enc β] {ta tb : TE} {l : List α} {b : β} (h1 : DR ρ ta (own true l)) (h2 : DR ρ tb (sh b)) : DR ρ (tTup (tCons ta (tCons tb tNil))) (opr l b) := fun B H0 S H σ Fs Q e k =>
  h1 B H0 S H σ Fs _ e fun v S1 H1 F g1 p1 hF => h2 B H0 S1 H1 σ Fs _ (e.grow g1) fun y S2 H2 F2 g2 p2 _ => by
    obtain ⟨p, xs, rfl, hf, hx, hl⟩ := p1
    have hp := hF p (by rw [hf]; exact List.mem_singleton.mpr rfl)
    refine ⟨(by show 2 ≤ sizeLine; decide), fun d hd => ?_⟩
    have g := g1.trans g2
    have hpd : p ≠ d := fun c => by
      have := g2.h _ _ hx
      rw [c, hd] at this
      cases this
    have hsp : S2 p = none := g2.off hp.2 hx
    have gg : Grow S2 H2 (upd S2 d (.tup [.ref p, y])) (upd H2 d (.tup [.ref p, y])) := ⟨same_upd (g.i.free hd), same_upd hd, fun b u hb => by
      by_cases c : b = d
      · subst c
        rw [upd_same] at hb ⊢
        exact hb
      · rw [upd_ne c] at hb ⊢
        exact g.i _ _ hb, fun q hq => by
      by_cases c : q = d
      · subst c
        exact .inr hd
      · rw [upd_ne c] at hq
        exact .inl hq⟩
    refine k (.ref d) _ _ [p] (g.trans gg) ⟨d, p, y, rfl, ⟨p, xs, rfl, rfl, gg.h _ _ (g2.h _ _ hx), paired_mono (fun _ _ r => Enc.mono (g2.s.trans gg.s) r) hl⟩, SqT.of upd_same, Enc.mono gg.s p2.1⟩ fun q hq => ?_
    cases List.mem_singleton.mp hq
    exact ⟨hp.1, by rw [upd_ne hpd]; exact hsp⟩
theorem dr_tixo0 [Enc α] [Enc β] {K : PySem.W.Frag} {ta : TE} {l : List α} {b : β} (hK : K = Γ.K) (h : DR ρ ta (opr l b)) : DR ρ (tOp (rIxT K) ta (tC (.int 0))) (own true l) := fun B H0 S H σ Fs Q e k =>
  h B H0 S H σ Fs _ e fun v S1 H1 F g1 p1 hF => by
    obtain ⟨T, p, y, rfl, h2, h3, h4⟩ := p1
    show rIxT K (.ref T) (.int 0) H1 Q
    exact ⟨T, [.ref p, y], 0, .ref p, rfl, rfl, hK ▸ same_tup g1.i h3, rfl, k (.ref p) S1 H1 F g1 h2 hF⟩
theorem dr_frzp [Enc α] [Enc β] {t : TE} {l : List α} {b : β} (h : DR ρ t (opr l b)) : DR ρ t (sh (l, b)) := fun B H0 S H σ Fs Q e k =>
  h B H0 S H σ Fs Q e fun v S' H' F g p hF => by
    obtain ⟨T, p, y, rfl, h2, h3, h4⟩ := p
    obtain ⟨q, o, z1, z2, z3⟩ := own_tl h2 fun q hq => ⟨(hF q hq).2, e.b.free (hF q hq).1⟩
    have hq := hF q (by rw [z1]; exact List.mem_singleton.mpr rfl)
    have g2 := grow_add g z2 hq.1 hq.2
    exact k (.ref T) (upd S' q o) H' [] g2 ⟨⟨T, .ref p, y, rfl, same_tup (same_upd hq.2) h3, z3.1, Enc.mono (same_upd hq.2) h4⟩, rfl⟩ (fun q h => nomatch h)
theorem nth_last {α : Type} [Inhabited α] {l : List α} {a : α} : nth (l ++ [a]) (-1) = a := by
  unfold nth atI ixN
  rw [if_neg (by decide), if_pos (by rw [List.length_append]; show -(((l.length + 1 : Nat)) : Int) ≤ -1; omega)]
  show ((l ++ [a])[((-1 : Int) + ((l ++ [a]).length : Int)).toNat]?).getD default = a
  have : ((-1 : Int) + ((l ++ [a]).length : Int)).toNat = l.length := by rw [List.length_append]; show ((-1 : Int) + ((l.length + 1 : Nat) : Int)).toNat = _; omega
  rw [this, List.getElem?_append_right (Nat.le_refl _), Nat.sub_self]
  rfl
/-- a, b, c = f(..), a list of three told by a property -/
theorem ds_asg_l3 [Enc α] {K : PySem.W.Frag} {te : TE} {P : List α → Prop} {R : α → α → α → Prop} {i j k : Nat} {W : Wn} (hK : K = Γ.K) (h : DR ρ te (exS P fun l => tl m l)) (hP : ∀ l, P l → ∃ a b c, l = [a, b, c] ∧ R a b c) (hi : i < ρ.length) (hj : j < ρ.length) (hk : k < ρ.length)
    (q : ∀ a b c, R a b c → W.nx (((ρ.set i (some (tl m a))).set j (some (tl m b))).set k (some (tl m c)))) : DS ρ (tAsg te (gLst K 3 (gCons (gName i) (gCons (gName j) (gCons (gName k) gNil))))) W := fun B H0 S H σ Fs D e k1 k2 =>
  h B H0 S H σ Fs _ e fun v S' H' F g ⟨l, pl, p⟩ hF => by
    obtain ⟨a, b, c, rfl, r⟩ := hP l pl
    exact dg_l3 (m := m) hK rfl hi hj hk B H0 S' H' σ Fs v _ (e.grow g) (by have := p.2; subst this; exact p) fun σ' Fs' e' => k1 _ _ _ _ _ (q a b c r) g.s e'
theorem ds_asg_l3o [Enc α] {K : PySem.W.Frag} {te : TE} {P : List α → Prop} {R : α → α → α → Prop} {i j k : Nat} {W : Wn} (hK : K = Γ.K) (h : DR ρ te (exS P fun l => own n l)) (hP : ∀ l, P l → ∃ a b c, l = [a, b, c] ∧ R a b c) (hi : i < ρ.length) (hj : j < ρ.length) (hk : k < ρ.length)
    (q : ∀ a b c, R a b c → W.nx (((ρ.set i (some (tl (nmd n) a))).set j (some (tl (nmd n) b))).set k (some (tl (nmd n) c)))) : DS ρ (tAsg te (gLst K 3 (gCons (gName i) (gCons (gName j) (gCons (gName k) gNil))))) W := 
  ds_asg_l3 (m := nmd n) hK (fun B H0 S H σ Fs Q e k => h B H0 S H σ Fs Q e fun v S' H' F g ⟨l, pl, p⟩ hF => by
    obtain ⟨r, o, z1, z2, z3⟩ := own_tl p fun q hq => ⟨(hF q hq).2, e.b.free (hF q hq).1⟩
    have hq := hF r (by rw [z1]; exact List.mem_singleton.mpr rfl)
    exact k v (upd S' r o) H' [] (grow_add g z2 hq.1 hq.2) ⟨l, pl, z3⟩ (fun q h => nomatch h)) hP hi hj hk q
end
end G

/-! # Refusals: raised, caught, held as values -/
namespace G
open PySem L2
open PySem.Spec PyProof.Rows
/-- a caught exception of the class at C, its dict d, held as a value at a -/
def exh (C : Addr) (d : Option Addr) (a : Addr) : HO := .ext fun h => ∃ (oe : Obj) (vs : Array Value), h.get? a = some oe ∧ Zc (.ref C) d oe ∧ oe.data = .fields vs
theorem exh_ok {P : Program} {w : World} {H : Hp} {h : Heap} {a C : Addr} {d : Option Addr} {oe : Obj} {vs : Array Value} (e : h.get? a = some oe) (z : Zc (.ref C) d oe) (f : oe.data = .fields vs) : ObjOk P w H h a (exh C d a) :=
  ⟨⟨oe, vs, e, z, f⟩, ⟨oe, e⟩, fun _ _ ⟨o, v, q, r⟩ k => ⟨o, v, k o q, r⟩⟩
theorem inv_trk {X : Cx} {pins : List (Addr × Obj)} {σ : L2.St} {H : Hp} {s : Shared} {a : Addr} {o : HO} (I : Inv X pins σ H s) (na : H a = none) (nL : a ≠ X.env.locals) (nC : ∀ x c, X.env.cells.lookup x = some c → c ≠ a) (n0 : X.s_0.heap.get? a = none) (np : ∀ p ∈ X.pn ++ pins, p.1 ≠ a) (new : ObjOk X.prog X.w (upd H a o) s.heap a o) :
    Inv X pins σ (upd H a o) s := by
  have ne : ∀ b u, X.s_0.heap.get? b = some u → b ≠ a := fun b u e z => by rw [z, n0] at e; cases e
  refine ⟨I.ok, I.os, I.bare, ⟨I.base.keep, I.base.slot, fun b u e n hx => ?_, I.base.there, fun b xs e => ?_, fun b u v e => ?_, fun b ps e => ?_⟩, I.loc, I.cell, ?_, fun x c e => ?_, fun p hp => ?_, fun b u e => ?_, I.len⟩
  · rw [upd_ne (ne b u e)]
    exact I.base.free b u e n hx
  · have q := I.base.tups b xs e
    rw [upd_ne (ne_of_none q na)]
    exact q
  · have q := I.base.frzs b u v e
    rw [upd_ne (ne_of_none q na)]
    exact q
  · obtain ⟨m, q⟩ := I.base.tbls b ps e
    exact ⟨m, by rw [upd_ne (ne_of_none q na)]; exact q⟩
  · rw [upd_ne (Ne.symm nL)]
    exact I.free
  · rw [upd_ne (nC x c e)]
    exact I.freeC x c e
  · obtain ⟨e, n, r⟩ := I.pin p hp
    exact ⟨e, by rw [upd_ne (np p hp)]; exact n, r⟩
  · by_cases c : b = a
    · subst c
      rw [upd_same] at e
      cases e
      exact new
    · rw [upd_ne c] at e
      refine (I.hok b u e).stay (fun c v hc q => q) (fun c q => ?_) fun c xs q => ?_
      · rw [upd_ne (ne_of_none q na)]
        exact q
      · rw [upd_ne (ne_of_none q na)]
        exact q
theorem inv_unsuiteP {X : Cx} {pins : List (Addr × Obj)} {σ : L2.St} {H : Hp} {s : Shared} {a : Addr} {q : Addr × Obj} {pn' : List (Addr × Obj)} (I : Inv (X.suite a (q :: (X.pn ++ pins))) pn' σ H s) (ok : X.Ok) : Inv X (q :: pins) σ H s :=
  ⟨ok, I.os, I.bare, I.base, I.loc, I.cell, I.free, I.freeC, fun p hp => I.pin p (List.mem_append_left _ (by
    rcases List.mem_append.mp hp with h | h
    · exact List.mem_cons_of_mem _ (List.mem_append_left _ h)
    · rcases List.mem_cons.mp h with h | h
      · rw [h]; exact List.mem_cons_self
      · exact List.mem_cons_of_mem _ (List.mem_append_right _ h))), I.hok, I.len⟩
theorem inv_unpin {X : Cx} {pins : List (Addr × Obj)} {σ : L2.St} {H : Hp} {s : Shared} {q : Addr × Obj} (I : Inv X (q :: pins) σ H s) : Inv X pins σ H s :=
  ⟨I.ok, I.os, I.bare, I.base, I.loc, I.cell, I.free, I.freeC, fun p hp => I.pin p (by
    rcases List.mem_append.mp hp with h | h
    · exact List.mem_append_left _ h
    · exact List.mem_append_right _ (List.mem_cons_of_mem _ h)), I.hok, I.len⟩
/-- what 'except c as n: suite' wishes: caught, the exception held as a value behind the suite -/
def wTr (K : PySem.W.Frag) (c : Value) (i : Nat) (ts : Addr → Value → Option Addr → TS) (D : Ends) : WX := fun cls d σ H =>
  ∃ C : Addr, cls = .ref C ∧ PySem.W.exmOne K cls c = some true ∧ ∀ a, H a = none → ts a cls d { nx := fun σ' H' => D.nx (σ'.set i none) (upd H' a (exh C d a)), rt := fun _ _ => False } (σ.set i (some (.ref a))) H
section
variable {X : Cx} {x n : Str} {c : Value} {i : Nat} {body suite : List Stmt} {b₀ : Stmt} {np pos pos' : Pos} {tb : WX → TS} {ts : Addr → Value → Option Addr → TS}
theorem ps_try_tk (hs : X.stack = X.env :: X.outer) (hf : X.env.frame = some X.env.locals) (hex : X.ex = []) (hN : X.N.Nodup) (hi : X.N[i]? = some n) (hln : X.env.kindOf n = some .local) (hc : Names X x c)
    (hb : ∀ (W : WX) (pn : List (Addr × Obj)) (xe : Value → Shared → Prop), Takes (X.tr pn xe) W → PassesOwn (model X.prog X.w) X.A X.env xe → PSs (X.tr pn xe) body (tb W))
    (hsu : ∀ (a : Addr) (oe : Obj) (cls : Value) (d : Option Addr) (pn : List (Addr × Obj)), Zc cls d oe → (∃ vs, oe.data = .fields vs) → PSs (X.suite a ((a, oe) :: pn)) (b₀ :: suite) (ts a cls d)) :
    PS X (.Try body [.ExceptHandler (some (.Name x np)) (some n) (b₀ :: suite) pos'] [] [] pos) (fun D σ H => tb (wTr X.K c i ts D) D σ H) := by
  refine ⟨fun pins s σ H D I h => ?_⟩
  have ok := I.ok
  have hfr : X.A.frames = some (X.env :: X.outer) := by rw [ok.frames, hs]
  have hloc : Loc X.env.scope n := .inl hln
  refine wpAny_Try_except ?_
  refine wpAny_mono ((hb (wTr X.K c i ts D) (X.pn ++ pins) (fun e s₁ => wpAny (model X.prog X.w) X.A (noteFrame e X.env) (fun _ s₂ => wpAny (model X.prog X.w) X.A (setFlight e none) (fun _ s₃ =>
    wpAny (model X.prog X.w) X.A (handleBy e X.env [.ExceptHandler (some (.Name x np)) (some n) (b₀ :: suite) pos']) (SP X pins D) X.xe s₃) X.xe s₂) X.xe s₁) (fun u s' xx => ?_) PassesOwn.looking).run [] s σ H D (I.toTry _) h) (fun f s1 hsp => ?_) (fun e s1 he => he)
  · obtain ⟨a, B, sI, pins', σ', H', cls, d, rfl, J', nb, up, sky, na, os, ag, C, hC, hb1, hyes⟩ := xx
    subst hC
    have J : Inv X pins σ' H' sI := J'.ofTry ok
    have sky' : Sky B (X.env :: X.outer) a (Zc (.ref C) d) X.env.locals s'.heap := by rw [← hs]; exact sky
    show wpAny (model X.prog X.w) X.A (noteFrame (.ref a) X.env) _ _ _
    refine Sky.land Zc.steady hfr hf sky' fun h3 fl3 up3 => ?_
    have J3 : Inv X pins σ' H' { s' with heap := h3 } := J.landed nb fl3.1 (up.trans up3) os ag
    obtain ⟨oe3, vs3, he3, hz3, hd3⟩ := fl3.there
    have notFr : ∀ {h : Heap} {o : Obj} {vs : Array Value}, h.FunFrames B (X.env :: X.outer) → h.get? a = some o → o.data = .fields vs → a ∉ frs (X.env :: X.outer) := fun {h o vs} ff e dd hm => by
      obtain ⟨_, o', e', hnf⟩ := ff.mem hm
      rw [e] at e'; cases e'
      exact hnf _ dd
    have nfr := notFr fl3.2.2.1 he3 hd3
    have nL : a ≠ X.env.locals := fun z => nfr (List.mem_filterMap.mpr ⟨X.env, List.mem_cons_self, by rw [hf, z]⟩)
    have nF : a ∉ X.fs := fun hm => by
      obtain ⟨e, he, q⟩ := List.mem_filterMap.mp hm
      exact nfr (List.mem_filterMap.mpr ⟨e, List.mem_cons_of_mem _ he, q⟩)
    have nfs : a ∉ frs X.stack := by rw [hs]; exact nfr
    have nB : ∀ o, sI.heap.get? a = some o → False := fun o e => by
      have := nb a o e nfs
      rw [fl3.2.1] at this
      cases this
    have n0 : X.s_0.heap.get? a = none := by
      cases e : X.s_0.heap.get? a with
      | none => rfl
      | some o =>
        obtain ⟨o', q⟩ := J.base.there a o e (by rw [hex]; exact fun z => nomatch z)
        exact (nB o' q).elim
    have npn : ∀ p ∈ X.pn ++ pins, p.1 ≠ a := fun p hp z => by
      obtain ⟨q, _⟩ := J.pin p hp
      rw [z] at q
      exact nB _ q
    have S3 := J3.suite he3 hd3 na nL nF
    refine wpAny_handleBy_cons (codeAny_handlers_test ?_) (by intro q; cases q)
    have LT : PySem.W.Looks (model X.prog X.w) h3 (typeOf (.ref a)) (.ref C) := fun A Q E s k q => wpAny_typeOf_ref (k _ _ he3) (by rw [hz3.1]; exact q)
    have LM := PySem.W.exm_one (M := model X.prog X.w) (J3.kIn) LT hb1
    have test : ∀ {Q : Value → Shared → Prop} {E : Value → Shared → Prop}, Q c { s' with heap := h3 } → wpAny (model X.prog X.w) (X.A.mark (some (.ref a))) (eval (.Name x np) X.env) Q E { s' with heap := h3 } := fun {Q E} q => by
      obtain ⟨hg, hdbg, hm | ⟨hm, hv, hnn⟩⟩ := hc
      · exact ld_glob (X := X.suite a ((a, oe3) :: (X.pn ++ pins))) S3 hg hm q hdbg
      · exact ld_blt (X := X.suite a ((a, oe3) :: (X.pn ++ pins))) S3 hg hm hv q hnn hdbg
    refine test (LM.here ?_)
    refine codeAny_handlers_suite_as ?_
    refine HandSPX.lands_againZ fl3 fun h4 fl4 up4 => ?_
    have J4 : Inv X pins σ' H' { s' with heap := h4 } := J.landed nb fl4.1 ((up.trans up3).trans up4) os ag
    obtain ⟨oe4, vs4, he4, hz4, hd4⟩ := fl4.there
    have S4 := J4.suite he4 hd4 na nL nF
    refine store_ok (X := X.suite a ((a, oe4) :: (X.pn ++ pins))) (v := .ref a) S4 hN hi hloc rfl (fun s5 S5 => ?_) (.inr hln)
    refine wpAny_mono ((hsu a oe4 (.ref C) d (X.pn ++ pins) hz4 ⟨_, hd4⟩).run [] s5 _ H' _ S5 (hyes a na)) (fun f s6 hsp => ?_) (fun _ _ z => False.elim z)
    cases f with
    | next =>
      obtain ⟨σ6, H6, S6, q6⟩ := hsp
      have S7 : Inv X ((a, oe4) :: pins) σ6 H6 s6 := inv_unsuiteP S6 ok
      refine gone_ok (X := X) (pins := (a, oe4) :: pins) S7 hN hi hln fun s7 J7 => ?_
      obtain ⟨g1, g2, g3, g4, g5⟩ := J7.pin (a, oe4) (List.mem_append_right _ List.mem_cons_self)
      refine ⟨_, _, inv_trk (inv_unpin J7) g2 g3 (fun y cc e z => ?_) n0 npn (exh_ok g1 hz4 hd4), q6⟩
      obtain ⟨v, ⟨oc, hoc, hdc⟩⟩ := J7.cell y cc e
      rw [z] at hoc
      have g1 : s7.heap.get? a = some oe4 := g1
      rw [g1] at hoc
      cases hoc
      exact g5 v hdc
    | brk =>
      obtain ⟨σ6, H6, S6, q6⟩ := hsp
      exact q6.elim
    | cont =>
      obtain ⟨σ6, H6, S6, q6⟩ := hsp
      exact q6.elim
    | ret u =>
      obtain ⟨v6, σ6, H6, S6, r6, q6⟩ := hsp
      exact q6.elim
  · cases f with
    | next =>
      obtain ⟨σ', H', J', q⟩ := hsp
      exact wpAny_execs_nil ⟨σ', H', J'.ofTry ok, q⟩
    | brk =>
      obtain ⟨σ', H', J', q⟩ := hsp
      exact ⟨σ', H', J'.ofTry ok, q⟩
    | cont =>
      obtain ⟨σ', H', J', q⟩ := hsp
      exact ⟨σ', H', J'.ofTry ok, q⟩
    | ret u =>
      obtain ⟨v, σ', H', J', r, q⟩ := hsp
      exact ⟨v, σ', H', J'.ofTry ok, r, q⟩
end
/-- try: body, except c as n: x = n -/
def tTry (K : PySem.W.Frag) (c : Value) (i j : Nat) (tb : WX → TS) : TS := fun D σ H => tb (wTr K c i (fun _ _ _ => tAsg (tVar i) (gName j)) D) D σ H
theorem ps_try_tt {X : Cx} {x n : Str} {c : Value} {i j : Nat} {body suite : List Stmt} {b₀ : Stmt} {np pos pos' : Pos} {tb : WX → TS} (hs : X.stack = X.env :: X.outer) (hf : X.env.frame = some X.env.locals) (hex : X.ex = []) (hN : X.N.Nodup) (hi : X.N[i]? = some n) (hln : X.env.kindOf n = some .local) (hc : Names X x c)
    (hb : ∀ (W : WX) (pn : List (Addr × Obj)) (xe : Value → Shared → Prop), Takes (X.tr pn xe) W → PassesOwn (model X.prog X.w) X.A X.env xe → PSs (X.tr pn xe) body (tb W))
    (hsu : ∀ (a : Addr) (oe : Obj) (cls : Value) (d : Option Addr) (pn : List (Addr × Obj)), Zc cls d oe → (∃ vs, oe.data = .fields vs) → PSs (X.suite a ((a, oe) :: pn)) (b₀ :: suite) (tAsg (tVar i) (gName j))) :
    PS X (.Try body [.ExceptHandler (some (.Name x np)) (some n) (b₀ :: suite) pos'] [] [] pos) (tTry X.K c i j tb) := ps_try_tk hs hf hex hN hi hln hc hb hsu
/-! ### caught refusals as data -/
structure Exn where
  c : Nat
  pl : Option Int
  deriving DecidableEq, Inhabited
theorem tr_K {X : Cx} {pn : List (Addr × Obj)} {xe : Value → Shared → Prop} : (X.tr pn xe).K = X.K := rfl
theorem pss_fix {X : Cx} {b : List Stmt} {t t' : TS} (p : PSs X b t) (h : t = t') : PSs X b t' := h ▸ p
theorem nodup_at {l : List Addr} (h : l.Nodup) {i j : Nat} (hi : i < l.length) (hj : j < l.length) (e : l[i] = l[j]) : i = j := by
  rcases Nat.lt_trichotomy i j with c | c | c
  · exact absurd e (List.pairwise_iff_getElem.mp h i j hi hj c)
  · exact c
  · exact absurd e.symm (List.pairwise_iff_getElem.mp h j i hj hi c)
section
variable [Γ : Ctx]
/-- what the dict of an exception tells -/
def xrep (S : Hp) (d : Option Addr) (e : Exn) : Prop := match e.pl with
  | none => d = none
  | some k => ∃ dd, d = some dd ∧ S dd = some (.xd [(("place" : Str), V.int k)])
theorem xrep_mono {S S' : Hp} {d : Option Addr} {e : Exn} (h : Same S S') (x : xrep S d e) : xrep S' d e := by
  obtain ⟨c, pl⟩ := e
  cases pl with
  | none => exact x
  | some k =>
    obtain ⟨dd, h1, h2⟩ := x
    exact ⟨dd, h1, h _ _ h2⟩
instance : Enc Exn where
  rep := fun H v e => ∃ a d, v = .ref a ∧ H a = some (exh (Γ.cls e.c) d a) ∧ xrep H d e
  mono := fun h ⟨a, d, h1, h2, h3⟩ => ⟨a, d, h1, h _ _ h2, xrep_mono h h3⟩
instance : NotNone Exn := ⟨fun ⟨_, _, h, _⟩ => by rw [h]; exact V.noConfusion⟩
variable {ρ ρ' : En} {α β γ δ ε ι : Type} {W : Wn} {m m' mA m1 m2 m3 m4 : Md} {n n' : Bool}
/-! ### statements that a refusal may leave: Wx what is wished of it, XW what holds then -/
def XC1 (Wx : WX) (XW : En → Exn → Prop) (B H0 S : Hp) : Prop := ∀ (ρ' : En) (e : Exn) (d : Option Addr) (S' H' : Hp) (σ' : L2.St) (Fs' : Nat → List Addr), XW ρ' e → Same S S' → Ev B H0 ρ' S' H' σ' Fs' → xrep S' d e → Wx (.ref (Γ.cls e.c)) d σ' H'
theorem XC1.up {Wx : WX} {XW : En → Exn → Prop} {B H0 S S1 : Hp} (h : XC1 Wx XW B H0 S) (s : Same S S1) : XC1 Wx XW B H0 S1 := fun ρ' e d S' H' σ' Fs' w s' => h ρ' e d S' H' σ' Fs' w (s.trans s')
def DSX (Wx : WX) (XW : En → Exn → Prop) (ρ : En) (t : TS) (W : Wn) : Prop := ∀ (B H0 S H : Hp) (σ : L2.St) (Fs : Nat → List Addr) (D : Ends), Ev B H0 ρ S H σ Fs →
  (∀ ρ' S' H' σ' Fs', W.nx ρ' → Same S S' → Ev B H0 ρ' S' H' σ' Fs' → D.nx σ' H') →
  (∀ ρ' r S' H' σ' Fs' v F, W.rt ρ' r → Ev B H0 ρ' S' H' σ' Fs' → r.P B S' H' v F → (∀ q ∈ F, H0 q = none ∧ S' q = none) → D.rt v H') →
  XC1 Wx XW B H0 S → t D σ H
variable {Wx : WX} {XW : En → Exn → Prop}
theorem dsx_of {t : TS} (h : DS ρ t W) : DSX Wx XW ρ t W := fun B H0 S H σ Fs D e k1 k2 _ => h B H0 S H σ Fs D e k1 k2
theorem dsx_next (h : W.nx ρ) : DSX Wx XW ρ tNext W := dsx_of (ds_next h)
theorem dsx_seq {t u : TS} (h : DSX Wx XW ρ t { W with nx := fun ρ' => DSX Wx XW ρ' u W }) : DSX Wx XW ρ (tSeq t u) W := fun B H0 S H σ Fs D e k1 k2 k3 =>
  h B H0 S H σ Fs { D with nx := u D } e (fun ρ' S' H' σ' Fs' hu es e' => hu B H0 S' H' σ' Fs' D e' (fun ρ2 S2 H2 σ2 Fs2 w s2 e2 => k1 ρ2 S2 H2 σ2 Fs2 w (es.trans s2) e2) k2 (k3.up es)) k2 k3
theorem dsx_if {c : TT} {t u : TS} {b : Bool} (hc : DT ρ c b) (h1 : b = true → DSX Wx XW ρ t W) (h2 : b = false → DSX Wx XW ρ u W) : DSX Wx XW ρ (tIfS c t u) W := fun B H0 S H σ Fs D e k1 k2 k3 =>
  hc B H0 S H σ Fs _ e fun S' H' g => by
    cases b with
    | true => exact h1 rfl B H0 S' H' σ Fs D (e.grow g) (fun ρ2 S2 H2 σ2 Fs2 w s2 e2 => k1 ρ2 S2 H2 σ2 Fs2 w (g.s.trans s2) e2) k2 (k3.up g.s)
    | false => exact h2 rfl B H0 S' H' σ Fs D (e.grow g) (fun ρ2 S2 H2 σ2 Fs2 w s2 e2 => k1 ρ2 S2 H2 σ2 Fs2 w (g.s.trans s2) e2) k2 (k3.up g.s)
theorem dsx_le {t : TS} (h : Le ρ ρ') (k : DSX Wx XW ρ' t W) : DSX Wx XW ρ t W := fun B H0 S H σ Fs D e k1 k2 k3 =>
  let ⟨S', Fs', s1, e'⟩ := h B H0 S H σ Fs e
  k B H0 S' H σ Fs' D e' (fun ρ2 S2 H2 σ2 Fs2 w s2 e2 => k1 ρ2 S2 H2 σ2 Fs2 w (s1.trans s2) e2) k2 (k3.up s1)
theorem dsx_frz [Enc α] {t : TS} {i : Nat} {l : List α} (h : ρ[i]? = some (some (own n l))) (k : DSX Wx XW (ρ.set i (some (tl (nmd n) l))) t W) : DSX Wx XW ρ t W := dsx_le (le_frz h) k
theorem slot_same {i : Nat} {s : Sl} (h : ρ[i]? = some (some s)) : ρ.set i (some s) = ρ := by
  apply List.ext_getElem?
  intro j
  by_cases c : i = j
  · subst c
    rw [List.getElem?_set_self (List.getElem?_eq_some_iff.mp h).1, h]
  · rw [List.getElem?_set_ne c]
theorem dsx_abs [Enc α] {t : TS} {i : Nat} {a : α} (P : α → Prop) (h : ρ[i]? = some (some (tl m a))) (hp : P a) (k : ∀ a, P a → DSX Wx XW (ρ.set i (some (tl m a))) t W) : DSX Wx XW ρ t W := by
  have := k a hp
  rw [slot_same h] at this
  exact this
theorem dsx_abso [Enc α] {t : TS} {i : Nat} {a : List α} (P : List α → Prop) (h : ρ[i]? = some (some (own n a))) (hp : P a) (k : ∀ a, P a → DSX Wx XW (ρ.set i (some (own n a))) t W) : DSX Wx XW ρ t W := by
  have := k a hp
  rw [slot_same h] at this
  exact this
theorem dsx_some [Enc α] {t : TS} {i : Nat} {o : Option α} (h : ρ[i]? = some (some (tl m o))) (ho : o.isSome = true) (k : ∀ a, o = some a → DSX Wx XW (ρ.set i (some (tl m a))) t W) : DSX Wx XW ρ t W := by
  cases o with
  | none => cases ho
  | some a =>
    have := k a rfl
    have e : ρ.set i (some (tl m a)) = ρ := slot_same (s := tl m a) (by rw [h]; rfl)
    rw [e] at this
    exact this
theorem dsx_never (h : False) : DSX Wx XW ρ tNever W := h.elim
theorem dsx_for {wi : TI} {g : TG} {tb : TS} {xs : List ι} {fs : ι → Sl} (J : Nat → En → Prop) (hi : DI .fg ρ wi (xs.map fs)) (h0 : ∃ ρ0, Le ρ ρ0 ∧ J 0 ρ0)
    (hs : ∀ i x ρi, xs[i]? = some x → J i ρi → xs.length ≤ sizeLine → ∃ ρx, DG ρi (fs x) g ρx ∧ DSX Wx XW ρx tb { W with nx := fun ρ' => ∃ ρ1, Le ρ' ρ1 ∧ J (i + 1) ρ1 }) (hd : ∀ ρn, J xs.length ρn → W.nx ρn) : DSX Wx XW ρ (tFor wi g tb) W := fun B H0 S H σ Fs D e k1 k2 k3 =>
  hi B H0 S H σ Fs _ e fun J1 S1 H1 g1 w => by
    obtain ⟨ρ0, hle, j0⟩ := h0
    obtain ⟨S0, Fs0, s0, e0⟩ := hle B H0 S1 H1 σ Fs (e.grow g1)
    refine ⟨fun i m σ H => m = xs.length - i ∧ i ≤ xs.length ∧ ∃ ρi S Fs, J i ρi ∧ Same S1 S ∧ Ev B H0 ρi S H σ Fs, ⟨xs.length, by simp, Nat.zero_le _, ρ0, S0, Fs0, j0, s0, e0⟩, ?_⟩
    rintro i m σ2 H2 ⟨rfl, hin, ρi, S2, Fs2, ji, s2, e2⟩
    by_cases hlt : i < xs.length
    · right
      have hx : xs[i]? = some xs[i] := List.getElem?_eq_getElem hlt
      obtain ⟨q1, q2⟩ := w.go s2 (un_in e2.b (s2.trans e2.i)) ⟨e2.b, e2.i⟩ (i := i) (s := fs xs[i]) (by rw [List.getElem?_map, hx]; rfl)
      refine ⟨q1, fun σ H => i + 1 ≤ xs.length ∧ ∃ ρi S Fs, J (i + 1) ρi ∧ Same S1 S ∧ Ev B H0 ρi S H σ Fs, fun σ' H' ⟨hle, h'⟩ => ⟨xs.length - (i + 1), by omega, rfl, hle, h'⟩, fun y H' hy => ?_⟩
      obtain ⟨g2, p2⟩ := q2 y H' hy
      obtain ⟨ρx, d1, d2⟩ := hs i xs[i] ρi hx ji (by have := w.len; rw [List.length_map] at this; exact this)
      refine d1 B H0 S2 H' σ2 Fs2 y _ (e2.grow g2) p2 fun σ3 Fs3 e3 => ?_
      refine d2 B H0 S2 H' σ3 Fs3 _ e3 (fun ρ' S4 H4 σ4 Fs4 ⟨ρ1, hle, j1⟩ s4 e4 => ?_) k2 (k3.up (g1.s.trans s2))
      obtain ⟨S5, Fs5, s5, e5⟩ := hle B H0 S4 H4 σ4 Fs4 e4
      exact ⟨hlt, ρ1, S5, Fs5, j1, s2.trans (s4.trans s5), e5⟩
    · have ei : i = xs.length := by omega
      subst ei
      left
      refine ⟨by have := w.stop s2 (un_in e2.b (s2.trans e2.i)) ⟨e2.b, e2.i⟩; rw [List.length_map] at this; exact this, k1 _ _ _ _ _ (hd _ ji) (g1.s.trans s2) e2⟩
theorem dsx_loopR {wi : TI} {g : TG} {tb : TS} {τ : Type} {xs : List ι} {fs : ι → Sl} (kill : List Nat) (slots : τ → List (Nat × Sl)) (J : Nat → τ → Prop) (s0 : τ) (hi : DI .fg ρ wi (xs.map fs)) (h0 : LeL ρ (setE (wipeE ρ kill) (slots s0))) (j0 : J 0 s0)
    (hs : ∀ i x s, xs[i]? = some x → J i s → xs.length ≤ sizeLine → ∃ ρx, DG (setE (wipeE ρ kill) (slots s)) (fs x) g ρx ∧ DSX Wx XW ρx tb { W with nx := fun ρ' => ∃ s', J (i + 1) s' ∧ LeL ρ' (setE (wipeE ρ kill) (slots s')) })
    (hd : ∀ s, J xs.length s → W.nx (setE (wipeE ρ kill) (slots s))) : DSX Wx XW ρ (tFor wi g tb) W :=
  dsx_for (fun i ρi => ∃ s, ρi = setE (wipeE ρ kill) (slots s) ∧ J i s) hi ⟨_, h0.le, s0, rfl, j0⟩ (fun i x ρi h1 ⟨s, h2, h3⟩ hz => by
    subst h2
    obtain ⟨ρx, q2, q3⟩ := hs i x s h1 h3 hz
    exact ⟨ρx, q2, fun B H0 S H σ Fs D e k1 k2 k3 => q3 B H0 S H σ Fs D e (fun ρ' S' H' σ' Fs' ⟨s', w1, w2⟩ => k1 ρ' S' H' σ' Fs' ⟨_, w2.le, s', rfl, w1⟩) k2 k3⟩) (fun ρn ⟨s, h1, h2⟩ => by
    subst h1
    exact hd s h2)
theorem dr_unsome2 [Enc α] [Inhabited α] {t : TE} {o : Option α} (h : DR ρ t (tl m o)) (e : o.isSome = true) : DR ρ t (tl m (o.getD default)) := by
  cases o with
  | none => cases e
  | some a => exact h
/-! ### raise, and calls that raise -/
theorem dsx_raise {c : Nat} (hx : XW ρ ⟨c, none⟩) : DSX Wx XW ρ (fun _ σ H => Wx (.ref (Γ.cls c)) none σ H) W := fun B H0 S H σ Fs D e _ _ k3 => k3 ρ ⟨c, none⟩ none S H σ Fs hx (Same.refl _) e rfl
/-- an expression that raises -/
def DE (Wx : WX) (XW : En → Exn → Prop) (ρ : En) (t : TE) : Prop := ∀ (B H0 S H : Hp) (σ : L2.St) (Fs : Nat → List Addr) (Q : VK), Ev B H0 ρ S H σ Fs → XC1 Wx XW B H0 S → t σ H Q
theorem dsx_asgE {te : TE} {g : TG} (h : DE Wx XW ρ te) : DSX Wx XW ρ (tAsg te g) W := fun B H0 S H σ Fs D e _ _ k3 => h B H0 S H σ Fs _ e k3
theorem dsx_dropE {te : TE} (h : DE Wx XW ρ te) : DSX Wx XW ρ (tDrop te) W := fun B H0 S H σ Fs D e _ _ k3 => h B H0 S H σ Fs _ e k3
theorem dsx_retE {te : TE} (h : DE Wx XW ρ te) : DSX Wx XW ρ (tRet te) W := fun B H0 S H σ Fs D e _ _ k3 => h B H0 S H σ Fs _ e k3
def spo (s s' : Sp) : Sp := fun vs H Q E => s vs H Q E ∨ s' vs H Q E
def XEnd (H : Hp) (e : Exn) (E : XK) : Prop := ∀ (S' H' : Hp) (d : Option Addr), Grow (fun _ => none) H S' H' → xrep S' d e → E (.ref (Γ.cls e.c)) d H'
def spr1 [Enc α] (f : α → Exn → Prop) : Sp := fun vs H _ E => ∃ (v1 : V) (a : α) (B : Hp) (e : Exn), vs = [v1] ∧ Same B H ∧ rep B v1 a ∧ f a e ∧ XEnd H e E
def spr2 [Enc α] [Enc β] (f : α → β → Exn → Prop) : Sp := fun vs H _ E => ∃ (v1 v2 : V) (a : α) (b : β) (B : Hp) (e : Exn), vs = [v1, v2] ∧ Same B H ∧ (rep B v1 a ∧ rep B v2 b) ∧ f a b e ∧ XEnd H e E
def spr3 [Enc α] [Enc β] [Enc γ] (f : α → β → γ → Exn → Prop) : Sp := fun vs H _ E => ∃ (v1 v2 v3 : V) (a : α) (b : β) (c : γ) (B : Hp) (e : Exn), vs = [v1, v2, v3] ∧ Same B H ∧ (rep B v1 a ∧ rep B v2 b ∧ rep B v3 c) ∧ f a b c e ∧ XEnd H e E
theorem xend_of {B H0 S H S1 H1 : Hp} {σ : L2.St} {Fs : Nat → List Addr} {e : Exn} (ev : Ev B H0 ρ S H σ Fs) (g : Grow S H S1 H1) (hx : XW ρ e) (k3 : XC1 Wx XW B H0 S) : XEnd H1 e (WE Wx σ) := fun S' H' d g2 xr =>
  k3 ρ e d (un S1 S') H' σ Fs hx (g.s.trans un_l) (ev.grow (g.trans (grow_un g.i g2))) (xrep_mono (un_new g.i g2) xr)
theorem de_call1 [Enc α] {sp : Sp} {f : α → Exn → Prop} {a : α} {x : Exn} {t : TA} (h : DA ρ t [tl m1 a]) (hf : f a x) (hx : XW ρ x) : DE Wx XW ρ (tCallS (spo sp (spr1 f)) (WE Wx) t) := fun B H0 S H σ Fs Q e k3 =>
  h B H0 S H σ Fs _ e fun vs S' H' g p => by
    obtain ⟨v1, rfl, q1⟩ := pr1 p
    exact .inr ⟨v1, a, H', x, rfl, Same.refl _, Enc.mono (hm_in (e.b.trans g.h) g.i) q1.1, hf, xend_of e g hx k3⟩
theorem de_call2 [Enc α] [Enc β] {sp : Sp} {f : α → β → Exn → Prop} {a : α} {b : β} {x : Exn} {t : TA} (h : DA ρ t [tl m1 a, tl m2 b]) (hf : f a b x) (hx : XW ρ x) : DE Wx XW ρ (tCallS (spo sp (spr2 f)) (WE Wx) t) := fun B H0 S H σ Fs Q e k3 =>
  h B H0 S H σ Fs _ e fun vs S' H' g p => by
    obtain ⟨v1, v2, rfl, q1, q2⟩ := pr2 p
    exact .inr ⟨v1, v2, a, b, H', x, rfl, Same.refl _, ⟨Enc.mono (hm_in (e.b.trans g.h) g.i) q1.1, Enc.mono (hm_in (e.b.trans g.h) g.i) q2.1⟩, hf, xend_of e g hx k3⟩
theorem de_call3 [Enc α] [Enc β] [Enc γ] {sp : Sp} {f : α → β → γ → Exn → Prop} {a : α} {b : β} {c : γ} {x : Exn} {t : TA} (h : DA ρ t [tl m1 a, tl m2 b, tl m3 c]) (hf : f a b c x) (hx : XW ρ x) : DE Wx XW ρ (tCallS (spo sp (spr3 f)) (WE Wx) t) := fun B H0 S H σ Fs Q e k3 =>
  h B H0 S H σ Fs _ e fun vs S' H' g p => by
    obtain ⟨v1, v2, v3, rfl, q1, q2, q3⟩ := pr3 p
    exact .inr ⟨v1, v2, v3, a, b, c, H', x, rfl, Same.refl _, ⟨Enc.mono (hm_in (e.b.trans g.h) g.i) q1.1, Enc.mono (hm_in (e.b.trans g.h) g.i) q2.1, Enc.mono (hm_in (e.b.trans g.h) g.i) q3.1⟩, hf, xend_of e g hx k3⟩
/-- .. that don't raise -/
theorem dr_callS1 [Enc α] {sp' : Sp} {E : L2.St → XK} {f : α → Wf} {a : α} {t : TA} {r : Sl} (h : DA ρ t [tl m1 a]) (hp : (f a).pre) (hr : Reb (f a).r r) : DR ρ (tCallS (spo (sp1 f) sp') E t) r := fun B H0 S H σ Fs Q e k =>
  h B H0 S H σ Fs _ e fun vs S' H' g p => by
    obtain ⟨v1, rfl, q1⟩ := pr1 p
    exact .inl ⟨H', v1, a, rfl, Same.refl _, Enc.mono (hm_in (e.b.trans g.h) g.i) q1.1, hp, fin_nu hr e g k⟩
theorem dr_callS2 [Enc α] [Enc β] {sp' : Sp} {E : L2.St → XK} {f : α → β → Wf} {a : α} {b : β} {t : TA} {r : Sl} (h : DA ρ t [tl m1 a, tl m2 b]) (hp : (f a b).pre) (hr : Reb (f a b).r r) : DR ρ (tCallS (spo (sp2 f) sp') E t) r := fun B H0 S H σ Fs Q e k =>
  h B H0 S H σ Fs _ e fun vs S' H' g p => by
    obtain ⟨v1, v2, rfl, q1, q2⟩ := pr2 p
    exact .inl ⟨H', v1, v2, a, b, rfl, Same.refl _, ⟨Enc.mono (hm_in (e.b.trans g.h) g.i) q1.1, Enc.mono (hm_in (e.b.trans g.h) g.i) q2.1⟩, hp, fin_nu hr e g k⟩
theorem dr_callS3 [Enc α] [Enc β] [Enc γ] {sp' : Sp} {E : L2.St → XK} {f : α → β → γ → Wf} {a : α} {b : β} {c : γ} {t : TA} {r : Sl} (h : DA ρ t [tl m1 a, tl m2 b, tl m3 c]) (hp : (f a b c).pre) (hr : Reb (f a b c).r r) : DR ρ (tCallS (spo (sp3 f) sp') E t) r := fun B H0 S H σ Fs Q e k =>
  h B H0 S H σ Fs _ e fun vs S' H' g p => by
    obtain ⟨v1, v2, v3, rfl, q1, q2, q3⟩ := pr3 p
    exact .inl ⟨H', v1, v2, v3, a, b, c, rfl, Same.refl _, ⟨Enc.mono (hm_in (e.b.trans g.h) g.i) q1.1, Enc.mono (hm_in (e.b.trans g.h) g.i) q2.1, Enc.mono (hm_in (e.b.trans g.h) g.i) q3.1⟩, hp, fin_nu hr e g k⟩
/-! ### try -/
def XT (K : PySem.W.Frag) (c : Value) (i j : Nat) (N : En → Prop) : En → Exn → Prop := fun ρ' e => i < ρ'.length ∧ j < ρ'.length ∧ PySem.W.exmOne K (.ref (Γ.cls e.c)) c = some true ∧ N ((ρ'.set j (some (sh (some e)))).set i none)
theorem ds_try {K : PySem.W.Frag} {c : Value} {i j : Nat} {tb : WX → TS} (hK : K = Γ.K) (hij : i ≠ j) (h : ∀ Wx, DSX Wx (XT Γ.K c i j W.nx) ρ (tb Wx) W) : DS ρ (tTry K c i j tb) W := hK ▸ fun B H0 S H σ Fs D e k1 k2 => by
  refine h _ B H0 S H σ Fs D e k1 k2 fun ρ' x d S' H' σ' Fs' ⟨hi, hj, hm, hn⟩ hs e' xr => ?_
  refine ⟨Γ.cls x.c, rfl, hm, fun a na => ?_⟩
  have ej := e'.len
  have hb : e'.b = e'.b := rfl
  have sa : S' a = none := e'.i.free na
  have g : Grow S' H' (upd S' a (exh (Γ.cls x.c) d a)) (upd H' a (exh (Γ.cls x.c) d a)) := ⟨same_upd sa, same_upd na, fun b u hb => by
    by_cases c : b = a
    · subst c
      rw [upd_same] at hb ⊢
      exact hb
    · rw [upd_ne c] at hb ⊢
      exact e'.i _ _ hb, fun q hq => by
    by_cases c : q = a
    · subst c
      exact .inr na
    · rw [upd_ne c] at hq
      exact .inl hq⟩
  have e1 := e'.put (i := j) (s := sh (some x : Option Exn)) (v := .ref a) (F := []) g hj ⟨⟨a, d, rfl, upd_same, xrep_mono g.s xr⟩, rfl⟩ (fun q h => nomatch h) (fun q h => nomatch h)
  have e2 := e1.drop2 i
  rw [ej] at hi
  refine ⟨.ref a, List.getElem?_set_self hi, ?_⟩
  have es : ((σ'.set i (some (.ref a))).set j (some (.ref a))).set i none = (σ'.set j (some (.ref a))).set i none := by
    rw [List.set_comm _ _ hij, List.set_set]
  show D.nx (((σ'.set i (some (.ref a))).set j (some (.ref a))).set i none) _
  rw [es]
  exact k1 _ _ _ _ _ hn (hs.trans g.s) e2
/-! ### defs that raise -/
section
variable {P : Program} {w : World} {mg : Str → Option Value} {base : Heap} {x qual : Str} {stm : Stmt} {fa : Addr} {fd : FuncData} {N : List Str} {k k' : Nat} {p1 p2 p3 : Str} {ps : List Str} {sp sp' : Sp}
def BodyX (P : Program) (w : World) (mg : Str → Option Value) (base : Heap) (qual : Str) (stm : Stmt) (fa : Addr) (N : List Str) (k : Nat) (R : (WX → TS) → Prop) : Prop :=
  ∀ (cdv : Value) (A : Around) (outer : List Env) (s : Shared) (H : Hp) (E : XK), Room k (A.deeper (envOfC qual (defScope stm) s.heap.objs.size fa cdv)) →
    ∃ tb : WX → TS, (∀ Wx : WX, Takes (cxOf (L2.CX P w) P w Γ.K mg base N qual (defScope stm) fa cdv A outer s H E) Wx → PSs (cxOf (L2.CX P w) P w Γ.K mg base N qual (defScope stm) fa cdv A outer s H E) (defBody stm) (tb Wx)) ∧ R tb
theorem takes_def {N : List Str} {cdv : Value} {A : Around} {outer : List Env} {s : Shared} {H : Hp} {E : XK} : Takes (cxOf (L2.CX P w) P w Γ.K mg base N qual (defScope stm) fa cdv A outer s H E) (fun cls d _ H => E cls d H) := takes_of rfl rfl rfl rfl
theorem run_bodyX {xs : List Sl} {vs : List V} {B H : Hp} {tb : WX → TS} {e : Exn} {Q : VK} {E : XK} (i : Same B H) (hp : Paired (fun (s : Sl) v => s.P B (fun _ => none) H v []) xs vs) (hx : XEnd H e E)
    (h : ∀ Wx, DSX Wx (fun _ e' => e' = e) (ent N xs) (tb Wx) ⟨fun _ => False, fun _ _ => False⟩) : tb (fun cls d _ H => E cls d H) { nx := fun _ H' => Q .non H', rt := Q } (start N vs) H :=
  h _ B H _ H (start N vs) _ _ (ev_ent i hp) (fun _ _ _ _ _ z _ _ => z.elim) (fun _ _ _ _ _ _ _ _ z _ _ _ => z.elim) fun ρ' e' d S' H' σ' Fs' he _ ev xr => by
    subst he
    exact hx S' H' d ⟨(fun q o h => nomatch h), ev.hh, ev.i, fun q hq => .inr (ev.nw q hq)⟩ xr
theorem fnx1 [Enc α] {f : α → Exn → Prop} (F : Fun Γ.K x qual stm fa fd) (S : FnScope N [p1] (defScope stm))
    (b : BodyX P w mg base qual stm fa N k fun tb => ∀ a e, f a e → ∀ Wx, DSX Wx (fun _ e' => e' = e) (ent N [st a]) (tb Wx) ⟨fun _ => False, fun _ _ => False⟩) : FnOk P w Γ.K mg base (L2.CX P w) (k + 1) fa fd [p1] (spr1 f) := by
  refine F.okX S (fun vs H Q E h => ?_) (fun cdv A outer s H vs Q E hr h => ?_)
  · obtain ⟨_, _, _, _, rfl, _⟩ := h
    rfl
  · obtain ⟨tb, h1, h2⟩ := b cdv A outer s H E hr
    obtain ⟨v, a, B, e, rfl, i, r, hf, hx⟩ := h
    exact ⟨_, h1 _ takes_def, run_bodyX (xs := [st a]) i (.cons (ent_st r) .nil) hx (h2 a e hf)⟩
theorem fnx2 [Enc α] [Enc β] {f : α → β → Exn → Prop} (F : Fun Γ.K x qual stm fa fd) (S : FnScope N [p1, p2] (defScope stm))
    (b : BodyX P w mg base qual stm fa N k fun tb => ∀ a b e, f a b e → ∀ Wx, DSX Wx (fun _ e' => e' = e) (ent N [st a, st b]) (tb Wx) ⟨fun _ => False, fun _ _ => False⟩) : FnOk P w Γ.K mg base (L2.CX P w) (k + 1) fa fd [p1, p2] (spr2 f) := by
  refine F.okX S (fun vs H Q E h => ?_) (fun cdv A outer s H vs Q E hr h => ?_)
  · obtain ⟨_, _, _, _, _, _, rfl, _⟩ := h
    rfl
  · obtain ⟨tb, h1, h2⟩ := b cdv A outer s H E hr
    obtain ⟨v, v', a, b, B, e, rfl, i, ⟨r, r'⟩, hf, hx⟩ := h
    exact ⟨_, h1 _ takes_def, run_bodyX (xs := [st a, st b]) i (.cons (ent_st r) (.cons (ent_st r') .nil)) hx (h2 a b e hf)⟩
theorem fnx3 [Enc α] [Enc β] [Enc γ] {f : α → β → γ → Exn → Prop} (F : Fun Γ.K x qual stm fa fd) (S : FnScope N [p1, p2, p3] (defScope stm))
    (b : BodyX P w mg base qual stm fa N k fun tb => ∀ a b c e, f a b c e → ∀ Wx, DSX Wx (fun _ e' => e' = e) (ent N [st a, st b, st c]) (tb Wx) ⟨fun _ => False, fun _ _ => False⟩) : FnOk P w Γ.K mg base (L2.CX P w) (k + 1) fa fd [p1, p2, p3] (spr3 f) := by
  refine F.okX S (fun vs H Q E h => ?_) (fun cdv A outer s H vs Q E hr h => ?_)
  · obtain ⟨_, _, _, _, _, _, _, _, rfl, _⟩ := h
    rfl
  · obtain ⟨tb, h1, h2⟩ := b cdv A outer s H E hr
    obtain ⟨v, v', v'', a, b, c, B, e, rfl, i, ⟨r, r', r''⟩, hf, hx⟩ := h
    exact ⟨_, h1 _ takes_def, run_bodyX (xs := [st a, st b, st c]) i (.cons (ent_st r) (.cons (ent_st r') (.cons (ent_st r'') .nil))) hx (h2 a b c e hf)⟩
/-- both promises of one def -/
theorem fn_or (F1 : FnOk P w Γ.K mg base CX0 k fa fd ps sp) (F2 : FnOk P w Γ.K mg base (L2.CX P w) k' fa fd ps sp') : FnOk P w Γ.K mg base (L2.CX P w) (max k k') fa fd ps (spo sp sp') := by
  refine ⟨fun vs H Q E h => h.elim (F1.len vs H Q E) (F2.len vs H Q E), fun A outer s H args us vs Q E hr he hb hv hs => ?_⟩
  rcases hs with hs | hs
  · refine codeAny_mono (F1.run A outer s H args us vs Q E (hr.mono (Nat.le_max_left _ _)) he hb hv hs) fun r s' hq => ?_
    cases r with
    | error e => exact hq.elim
    | ok fl =>
      cases fl with
      | ret u => exact hq
      | next => exact hq
      | brk => exact hq
      | cont => exact hq
  · exact F2.run A outer s H args us vs Q E (hr.mono (Nat.le_max_right _ _)) he hb hv hs
/-- the def x keeps its promise, raising or not -/
def CalX (P : Program) (w : World) (mg : Str → Option Value) (base : Heap) (x : Str) (k : Nat) (ps : List Str) (sp : Sp) : Prop := ∃ f fd, FnOk P w Γ.K mg base (L2.CX P w) k f fd ps sp ∧ mg x = some (.ref f) ∧ PySem.W.keepIn Γ.K (.ref f) = true ∧ Binds Γ.K fd ps []
theorem calx_of {x : Str} {stm : Stmt} (d : Dfn mg x stm ps) (h1 : ∀ f fd, Fun Γ.K x x stm f fd → FnOk P w Γ.K mg base CX0 k f fd ps sp) (h2 : ∀ f fd, Fun Γ.K x x stm f fd → FnOk P w Γ.K mg base (L2.CX P w) k' f fd ps sp') : CalX P w mg base x (max k k') ps (spo sp sp') := by
  obtain ⟨f, fd, F, q1, q2, q3⟩ := d
  exact ⟨f, fd, fn_or (h1 f fd F) (h2 f fd F), q1, q2, q3⟩
end
/-! ### the program's own classes of refusals: by number, from 10 on -/
def xnames : List Str := ["NotAlike", "BadWares", "TooMany", "BadSwap", "BadBasket", "BadRoad", "Endless", "TooGreat", "BadRest", "BadScale", "OtherWares", "BadBaskets", "NotKept", "OtherBook", "NoLine", "BadNames", "NoBook", "NoName", "NoSwap", "SwapError"]
/-- each name names a class, unlike ones unlike classes -/
structure Xs (mg : Str → Option Value) : Prop where
  ad : ∀ k, k < 20 → mg (xnames.getD k Str.empty) = some (.ref (Γ.cls (10 + k)))
  cl : ∀ k, k < 20 → (PySem.W.clsIn Γ.K (Γ.cls (10 + k))).isSome = true ∧ PySem.W.typeIn Γ.K (.ref (Γ.cls (10 + k))) = some (.type "type")
  nd : ∀ i j, i < 20 → j < 20 → Γ.cls (10 + i) = Γ.cls (10 + j) → i = j
  sw : PySem.W.subIn Γ.K (.ref (Γ.cls 29)) (.type "BaseException") = some true
theorem xs_nd {x0 x1 x2 x3 x4 x5 x6 x7 x8 x9 y0 y1 y2 y3 y4 y5 y6 y7 y8 y9 : Addr} {f : Nat → Addr} (h : ([x0, x1, x2, x3, x4, x5, x6, x7, x8, x9, y0, y1, y2, y3, y4, y5, y6, y7, y8, y9] : List Addr).Nodup) (e : (List.range 20).map (fun k => f (10 + k)) = [x0, x1, x2, x3, x4, x5, x6, x7, x8, x9, y0, y1, y2, y3, y4, y5, y6, y7, y8, y9] := by rfl) :
    ∀ i j, i < 20 → j < 20 → f (10 + i) = f (10 + j) → i = j := fun i j hi hj q => by
  rw [← e] at h
  refine nodup_at h (by rw [List.length_map, List.length_range]; exact hi) (by rw [List.length_map, List.length_range]; exact hj) ?_
  rw [List.getElem_map, List.getElem_map, List.getElem_range, List.getElem_range]
  exact q
/-- the class number c, whose instances are caught -/
structure XK1 (c : Nat) : Prop where
  ec : ExcC Γ.K (Γ.cls c)
  mro : ∃ cd, PySem.W.clsIn Γ.K (Γ.cls c) = some cd ∧ cd.mro = [.ref (Γ.cls c), .ref (Γ.cls 29), .type "ValueError", .type "Exception", .type "BaseException", .type "object"]
/-- .. raised with a text -/
structure XR1 (mg : Str → Option Value) (x : Str) (c : Nat) : Prop where
  ex : PySem.W.excIn Γ.K (Γ.cls c) [.type "ValueError", .type "Exception", .type "BaseException", .type "object"] "ValueError.__new__" = true
  kp : PySem.W.keepIn Γ.K (.ref (Γ.cls c)) = true
  sb : PySem.W.subIn Γ.K (.ref (Γ.cls c)) (.type "BaseException") = some true
  ty : PySem.W.typeIn Γ.K (.ref (Γ.cls c)) = some (.type "type")
  mg : mg x = some (.ref (Γ.cls c))
section
variable {mg : Str → Option Value}
theorem XK1.sub {c : Nat} (E : XK1 c) (v : Value) : PySem.W.subIn Γ.K (.ref (Γ.cls c)) v = some (([.ref (Γ.cls c), .ref (Γ.cls 29), .type "ValueError", .type "Exception", .type "BaseException", .type "object"] : List Value).contains v) := by
  obtain ⟨cd, h1, h2⟩ := E.mro
  show PySem.W.mroIn Γ.K (Γ.cls c) v = _
  unfold PySem.W.mroIn
  rw [h1, Option.bind_some, h2]
  rfl
theorem kit_own (T : Xs mg) {i j : Nat} (E : XK1 (10 + i)) (hi : i < 20) (hj : j < 20) : PySem.W.kitOne Γ.K (.ref (Γ.cls (10 + i))) (.ref (Γ.cls (10 + j))) = some (decide (j = i ∨ j = 19)) := by
  unfold PySem.W.kitOne
  by_cases c : i = j
  · subst c
    rw [if_pos (beq_self_eq_true _), decide_eq_true (.inl rfl)]
  · have hne : Γ.cls (10 + i) ≠ Γ.cls (10 + j) := fun e => c (T.nd i j hi hj e)
    rw [if_neg (by intro q; exact hne (Value.ref.inj (beq_iff_eq.mp q)))]
    unfold PySem.W.kitCls
    obtain ⟨h1, h2⟩ := T.cl j hj
    have e2 : ((PySem.W.clsIn Γ.K (Γ.cls (10 + j))).isSome && PySem.W.typeIn Γ.K (.ref (Γ.cls (10 + j))) == some (.type "type")) = true := by rw [h1, h2]; rfl
    show (if ((PySem.W.clsIn Γ.K (Γ.cls (10 + j))).isSome && PySem.W.typeIn Γ.K (.ref (Γ.cls (10 + j))) == some (.type "type")) = true then PySem.W.subIn Γ.K (.ref (Γ.cls (10 + i))) (.ref (Γ.cls (10 + j))) else none) = _
    rw [if_pos e2, E.sub]
    congr 1
    rw [Bool.eq_iff_iff, List.contains_iff_mem, decide_eq_true_iff]
    simp only [List.mem_cons, Value.ref.injEq, reduceCtorEq, or_false, List.not_mem_nil]
    constructor
    · rintro (h | h)
      · exact .inl (T.nd j i hj hi h)
      · exact .inr (T.nd j 19 hj (by decide) h)
    · rintro (h | h)
      · exact .inl (by rw [h])
      · exact .inr (by rw [h])
theorem kit_e (T : Xs mg) {c j : Nat} (E : XK1 c) (h1 : 10 ≤ c) (h2 : c < 29) (hj : j < 19) : PySem.W.kitOne Γ.K (.ref (Γ.cls c)) (.ref (Γ.cls (10 + j))) = some (decide (c = 10 + j)) := by
  obtain ⟨i, rfl⟩ : ∃ i, c = 10 + i := ⟨c - 10, by omega⟩
  rw [kit_own T E (by omega) (by omega)]
  congr 1
  exact dec_congr ⟨fun h => by omega, fun h => by omega⟩
theorem kit_ve {c : Nat} (E : XK1 c) : PySem.W.kitOne Γ.K (.ref (Γ.cls c)) (.type "ValueError") = some true := by
  unfold PySem.W.kitOne
  rw [if_neg (by intro q; cases (beq_iff_eq.mp q))]
  unfold PySem.W.kitCls
  show (if PySem.W.kitMeta "ValueError" = true then _ else none) = _
  rw [if_pos (by decide +kernel), E.sub]
  congr 1
theorem exm_sw (T : Xs mg) {c : Nat} (E : XK1 c) : PySem.W.exmOne Γ.K (.ref (Γ.cls c)) (.ref (Γ.cls 29)) = some true := by
  unfold PySem.W.exmOne
  rw [T.sw, if_pos (beq_self_eq_true _)]
  unfold PySem.W.kitCls
  obtain ⟨h1, h2⟩ := T.cl 19 (by decide)
  have h1 : (PySem.W.clsIn Γ.K (Γ.cls 29)).isSome = true := h1
  have h2 : PySem.W.typeIn Γ.K (.ref (Γ.cls 29)) = some (.type "type") := h2
  show (if ((PySem.W.clsIn Γ.K (Γ.cls 29)).isSome && PySem.W.typeIn Γ.K (.ref (Γ.cls 29)) == some (.type "type")) = true then PySem.W.subIn Γ.K (.ref (Γ.cls c)) (.ref (Γ.cls 29)) else none) = _
  rw [h1, h2, if_pos (by rw [Bool.true_and]; exact beq_self_eq_true _), E.sub]
  congr 1
  exact List.contains_iff_mem.mpr (by simp)
theorem raises_x {X : Cx} (hK : X.K = Γ.K) {x : Str} {c : Nat} (R : XR1 mg x c) : Raises X (.ref (Γ.cls c)) := raises_own (by rw [hK]; exact R.sb) (by rw [hK]; exact R.ty)
/-- isinstance of a held exception without a dict -/
def rIsX (K : PySem.W.Frag) : List V → Hp → VK → Prop := fun xs H Q => ∃ (a D : Addr) (c : V) (cv : Value) (b : Bool), xs = [.ref a, c] ∧ H a = some (exh D none a) ∧ ExcC K D ∧ (∀ u, RelV c u → u = cv) ∧ PySem.W.kitOne K (.ref D) cv = some b ∧ Q (.bl b) H
theorem call_isX {X : Cx} : CallR X (.builtin "isinstance") (rIsX X.K) := by
  intro pins s σ H xs us Q I r h
  obtain ⟨a, D, c, cv, b, rfl, ha, C, hcv, e, q⟩ := h
  cases r with
  | cons rx rr =>
    cases rr with
    | cons rt rr =>
      cases rr
      cases rx
      have ec := hcv _ rt
      subst ec
      obtain ⟨⟨oe, vs, hg, hz, hv⟩, _, _⟩ := I.hok a _ ha
      have J : PySem.W.InstAt s.heap a oe D none := by
        obtain ⟨oc, od, oda, osl⟩ := oe
        obtain ⟨h1, h2⟩ := hz
        dsimp only at h1 h2 hv
        subst h1 h2 hv
        exact ⟨hg, rfl, rfl, trivial⟩
      exact PySem.W.kia_one (PySem.W.handS_kitx_exc C.hg C.hk C.hs C.hd C.ha C.hn C.ht C.hm) I.kIn J e (fun z => nomatch z) fun tk => ⟨.bl b, H, I.kept (t' := tk) fun _ _ z => z, rfl, q⟩
theorem dr_isX {K : PySem.W.Frag} {ta tc : TE} {e : Exn} {b : Bool} {c : V} {cv : Value} (hK : K = Γ.K) (E : ExcC Γ.K (Γ.cls e.c)) (hp : e.pl = none) (h : DR ρ ta (tl m e)) (hc : tc = tC c) (hv : ∀ u, RelV c u → u = cv) (hb : PySem.W.kitOne Γ.K (.ref (Γ.cls e.c)) cv = some b) :
    DR ρ (tCB (rIsX K) (tCons ta (tCons tc tNil))) (sh b) := fun B H0 S H σ Fs Q ev k =>
  h B H0 S H σ Fs _ ev fun v S' H' F g p _ => by
    subst hc hK
    obtain ⟨a, d, rfl, h2, h3⟩ := p.1
    have hd : d = none := by unfold xrep at h3; rw [hp] at h3; exact h3
    subst hd
    exact ⟨a, _, c, cv, b, rfl, hm_in (ev.b.trans g.h) g.i _ _ h2, E, hv, hb, k _ S' H' [] g ⟨rfl, rfl⟩ (fun q h => nomatch h)⟩
end
end
/-! ### a list of one's own, or None; pairs of such and data -/
section
variable [Γ : Ctx] {ρ ρ' : En} {α β γ δ ε ι : Type} {W : Wn} {m m' mA : Md} {n n' : Bool}
def oown {α : Type} [Enc α] (o : Option (List α)) : Sl :=
  ⟨fun B S H v F => match o with
    | none => v = .non ∧ F = []
    | some l => (own true l).P B S H v F,
   fun e e' h => by
    cases o with
    | none => exact h
    | some l => exact (own true l).mono e e' h⟩
theorem oown_al [Enc α] {o : Option (List α)} : (oown o).Al := fun h q hq => by
  cases o with
  | none =>
    rw [h.2] at hq
    cases hq
  | some l => exact own_al (n := true) (l := l) h q hq
theorem solid_oown [Enc α] {o : Option (List α)} : Solid (oown o) := fun k h => by
  cases o with
  | none => exact h
  | some l => exact solid_ow (n := true) (l := l) k h
theorem sd_oow [Enc α] {x : Option (List α)} {a b : En} (h : Sd a b) : Sd (some (oown x) :: a) (some (oown x) :: b) := .keep solid_oown h
theorem dr_oo0 [Enc α] : DR ρ (tC .non) (oown (none : Option (List α))) := fun B H0 S H σ Fs Q e k => k _ S H [] (Grow.refl e.i) ⟨rfl, rfl⟩ (fun q h => nomatch h)
theorem dr_oo1 [Enc α] {t : TE} {l : List α} (h : DR ρ t (own true l)) : DR ρ t (oown (some l)) := h
theorem oown_bo [Enc α] {o : Option (List α)} {B S H : Hp} {v : V} {F : List Addr} (h : Same B H) (g : Same S H) (p : (oown o).P B S H v F) : (bo o).P B S H v [] := by
  cases o with
  | none => exact ⟨p.1, rfl⟩
  | some l => exact ⟨(own_bo (n := true) (l := l) h g p).1, rfl⟩
theorem dr_varoo [Enc α] {i : Nat} {o : Option (List α)} (h : ρ[i]? = some (some (oown o))) : DR ρ (tVar i) (bo o) := fun B H0 S H σ Fs Q e k => by
  obtain ⟨v, h1, h2⟩ := e.sl i _ h
  exact ⟨v, h1, k v S H [] (Grow.refl e.i) (oown_bo e.b e.i h2) (fun q h => nomatch h)⟩
/-- it is a list -/
theorem ds_someo [Enc α] {t : TS} {i : Nat} {o : Option (List α)} (h : ρ[i]? = some (some (oown o))) (ho : o.isSome = true) (k : ∀ l, o = some l → DS (ρ.set i (some (own true l))) t W) : DS ρ t W := by
  cases o with
  | none => cases ho
  | some l =>
    have := k l rfl
    have e : ρ.set i (some (own true l)) = ρ := slot_same (s := own true l) (by rw [h]; rfl)
    rw [e] at this
    exact this
def opro {α β : Type} [Enc α] [Enc β] (o : Option (List α)) (b : β) : Sl :=
  ⟨fun B S H v F => ∃ T x y, v = .ref T ∧ (oown o).P B S H x F ∧ SqT Γ.K S T [x, y] ∧ rep S y b,
   fun e e' ⟨T, x, y, h1, h2, h3, h4⟩ => ⟨T, x, y, h1, (oown o).mono e e' h2, same_tup e h3, Enc.mono e h4⟩⟩
theorem oown_nb [Enc α] {o : Option (List α)} {B B' S H : Hp} {v : V} {F : List Addr} (h : (oown o).P B S H v F) : (oown o).P B' S H v F := by
  cases o with
  | none => exact h
  | some l => exact h
theorem reb_opro [Enc α] [Enc β] {o : Option (List α)} {b : β} : Reb (opro o b) (opro o b) := fun _ _ ⟨T, x, y, h1, h2, h3, h4⟩ => ⟨T, x, y, h1, oown_nb h2, h3, h4⟩
theorem oown_F [Enc α] {o : Option (List α)} {B S H : Hp} {v : V} {F : List Addr} (h : (oown o).P B S H v F) : (o = none ∧ F = []) ∨ ∃ p xs, F = [p] ∧ v = .ref p ∧ H p = some (.lst xs) := by
  cases o with
  | none => exact .inl ⟨rfl, h.2⟩
  | some l =>
    obtain ⟨p, xs, h1, h2, h3, _⟩ := h
    exact .inr ⟨p, xs, h2, h1, h3⟩
/-- return (x, e), x a list of one's own or None -/
theorem ds_ret_opo [Enc α] [Enc β] {i : Nat} {o : Option (List α)} {b : β} {tb : TE} (h : ρ[i]? = some (some (oown o))) (h2 : DR ρ tb (sh b)) (k : W.rt ρ (opro o b)) : DS ρ (tRet (tTup (tCons (tVar i) (tCons tb tNil)))) W := fun B H0 S H σ Fs D e k1 k2 => by
  obtain ⟨v, h1, p⟩ := e.sl i _ h
  refine ⟨v, h1, h2 B H0 S H σ Fs _ e fun y S2 H2 F2 g2 p2 _ => ?_⟩
  refine ⟨(by show 2 ≤ sizeLine; decide), fun d hd => ?_⟩
  have gg : Grow S2 H2 (upd S2 d (.tup [v, y])) (upd H2 d (.tup [v, y])) := ⟨same_upd (g2.i.free hd), same_upd hd, fun b u hb => by
    by_cases c : b = d
    · subst c
      rw [upd_same] at hb ⊢
      exact hb
    · rw [upd_ne c] at hb ⊢
      exact g2.i _ _ hb, fun q hq => by
    by_cases c : q = d
    · subst c
      exact .inr hd
    · rw [upd_ne c] at hq
      exact .inl hq⟩
  have g := g2.trans gg
  have e2 := e.grow g
  exact k2 ρ _ _ _ σ Fs (.ref d) (Fs i) k e2 ⟨d, v, y, rfl, (oown o).mono g.s g.h p, SqT.of upd_same, Enc.mono gg.s p2.1⟩ fun q hq => ⟨(e2.fr i q hq).2.1, (e2.fr i q hq).1⟩
/-- x, y = such a pair -/
theorem ds_asg_opo [Enc α] [Enc β] {K : PySem.W.Frag} {te : TE} {i j : Nat} {o : Option (List α)} {b : β} (hK : K = Γ.K) (h : DR ρ te (opro o b)) (hi : i < ρ.length) (hj : j < ρ.length) (k : W.nx ((ρ.set i (some (oown o))).set j (some (sh b)))) :
    DS ρ (tAsg te (gTup K 2 (gCons (gName i) (gCons (gName j) gNil)))) W := fun B H0 S H σ Fs D e k1 k2 =>
  h B H0 S H σ Fs _ e fun v S' H' F g p hF => by
    obtain ⟨T, x, y, rfl, h2, h3, h4⟩ := p
    have e1 := e.put (i := i) (s := oown o) (v := x) g hi h2 hF (oown_al h2)
    have e2 := e1.put (i := j) (s := sh b) (v := y) (F := []) (Grow.refl g.i) (by rw [List.length_set]; exact hj) ⟨h4, rfl⟩ (fun q h => nomatch h) (fun q h => nomatch h)
    exact ⟨T, [x, y], rfl, hK ▸ same_tup g.i h3, rfl, x, [y], rfl, y, [], rfl, rfl, k1 _ _ _ _ _ k g.s e2⟩
end
end G

/-! # Lists of lists, all of one's own -/
namespace G
open PySem L2
section
variable [Γ : Ctx] {ρ ρ' : En} {α β γ δ ε ι : Type} {W : Wn} {m m' mA : Md} {n n' : Bool}
def onl {α : Type} [Enc α] (l : List (List α)) : Sl :=
  ⟨fun B S H v F => ∃ p ps, v = .ref p ∧ F = p :: ps ∧ (p :: ps).Nodup ∧ H p = some (.lst (ps.map V.ref)) ∧ Paired (fun q row => ∃ xs, H q = some (.lst xs) ∧ Paired (rep S) xs row) ps l,
   fun e e' ⟨p, ps, h1, h2, h3, h4, h5⟩ => ⟨p, ps, h1, h2, h3, e' _ _ h4, paired_mono (fun _ _ ⟨xs, q1, q2⟩ => ⟨xs, e' _ _ q1, paired_mono (fun _ _ r => Enc.mono e r) q2⟩) h5⟩⟩
theorem paired_map_l {F : V → α → Prop} {ps : List Addr} {l : List α} (h : Paired (fun q r => F (.ref q) r) ps l) : Paired F (ps.map V.ref) l := by
  induction h with
  | nil => exact .nil
  | cons r _ ih => exact .cons r ih
theorem paired_mem_l {F : Addr → α → Prop} : ∀ {ps : List Addr} {l : List α} {q : Addr}, Paired F ps l → q ∈ ps → ∃ a, F q a
  | _, _, _, .cons r t, h => by
    rcases List.mem_cons.mp h with rfl | h
    · exact ⟨_, r⟩
    · exact paired_mem_l t h
theorem onl_al [Enc α] {l : List (List α)} : (onl l).Al := fun ⟨p, ps, h1, h2, h3, h4, h5⟩ q hq => by
  rw [h2] at hq
  rcases List.mem_cons.mp hq with rfl | hq
  · exact ⟨_, h4⟩
  · obtain ⟨row, xs, e, _⟩ := paired_mem_l h5 hq
    exact ⟨_, e⟩
theorem paired_monoM {F F' : Addr → α → Prop} : ∀ {ps : List Addr} {l : List α}, (∀ q ∈ ps, ∀ r, F q r → F' q r) → Paired F ps l → Paired F' ps l
  | _, _, _, .nil => .nil
  | _, _, h, .cons r t => .cons (h _ List.mem_cons_self _ r) (paired_monoM (fun q hq => h q (List.mem_cons_of_mem _ hq)) t)
theorem solid_onl [Enc α] {l : List (List α)} : Solid (onl l) := fun k ⟨p, ps, h1, h2, h3, h4, h5⟩ => ⟨p, ps, h1, h2, h3, by rw [k p (by rw [h2]; exact List.mem_cons_self)]; exact h4,
  paired_monoM (fun q hq r ⟨xs, e, z⟩ => ⟨xs, by rw [k q (by rw [h2]; exact List.mem_cons_of_mem _ hq)]; exact e, z⟩) h5⟩
theorem sd_onl [Enc α] {x : List (List α)} {a b : En} (h : Sd a b) : Sd (some (onl x) :: a) (some (onl x) :: b) := .keep solid_onl h
theorem onl_bo [Enc α] {l : List (List α)} {B S H : Hp} {v : V} {F : List Addr} (g : Same S H) (p : (onl l).P B S H v F) : (bo l).P B S H v [] := by
  obtain ⟨p, ps, rfl, h2, h3, h4, h5⟩ := p
  refine ⟨⟨p, _, rfl, SqL.of h4, paired_map_l (paired_monoM (fun q _ r ⟨xs, e, z⟩ => ?_) h5)⟩, rfl⟩
  exact ⟨q, xs, rfl, SqL.of e, paired_mono (fun _ _ r => Enc.mono g r) z⟩
theorem dr_varn [Enc α] {i : Nat} {l : List (List α)} (h : ρ[i]? = some (some (onl l))) : DR ρ (tVar i) (bo l) := fun B H0 S H σ Fs Q e k => by
  obtain ⟨v, h1, h2⟩ := e.sl i _ h
  exact ⟨v, h1, k v S H [] (Grow.refl e.i) (onl_bo e.i h2) (fun q h => nomatch h)⟩
/-- [x, y], both lists just made -/
theorem dr_lst2n [Enc α] {ta tb : TE} {a b : List α} (h1 : DR ρ ta (own true a)) (h2 : DR ρ tb (own true b)) : DR ρ (tLst (tCons ta (tCons tb tNil))) (onl [a, b]) := fun B H0 S H σ Fs Q e k =>
  h1 B H0 S H σ Fs _ e fun v S1 H1 F g1 p1 hF => h2 B H0 S1 H1 σ Fs _ (e.grow g1) fun w S2 H2 F2 g2 p2 hF2 => by
    obtain ⟨p, xs, rfl, hf, hx, hl⟩ := p1
    obtain ⟨q, ys, rfl, hf2, hy, hl2⟩ := p2
    have hp := hF p (by rw [hf]; exact List.mem_singleton.mpr rfl)
    have hq := hF2 q (by rw [hf2]; exact List.mem_singleton.mpr rfl)
    refine ⟨(by show 2 ≤ sizeLine; decide), fun d hd => ?_⟩
    have hx2 := g2.h _ _ hx
    have npq : p ≠ q := fun c => by rw [c, hq.1] at hx; cases hx
    have npd : d ≠ p := fun c => by rw [c, hx2] at hd; cases hd
    have nqd : d ≠ q := fun c => by rw [c, hy] at hd; cases hd
    have g := g1.trans g2
    have sd : S2 d = none := g.i.free hd
    have gg : Grow S2 H2 S2 (upd H2 d (.lst [.ref p, .ref q])) := ⟨Same.refl _, same_upd hd, g.i.trans (same_upd hd), fun _ h => .inl h⟩
    refine k (.ref d) S2 _ [d, p, q] (g.trans gg) ⟨d, [p, q], rfl, rfl, ?_, upd_same, .cons ⟨xs, gg.h _ _ hx2, paired_mono (fun _ _ r => Enc.mono g2.s r) hl⟩ (.cons ⟨ys, gg.h _ _ hy, hl2⟩ .nil)⟩ fun r hr => ?_
    · refine List.nodup_cons.mpr ⟨fun h => ?_, List.nodup_cons.mpr ⟨fun h => npq (List.mem_singleton.mp h), List.nodup_cons.mpr ⟨(fun h => nomatch h), List.nodup_nil⟩⟩⟩
      rcases List.mem_cons.mp h with h | h
      · exact npd h
      · exact nqd (List.mem_singleton.mp h)
    · rcases List.mem_cons.mp hr with rfl | hr
      · exact ⟨g.h.free hd, sd⟩
      · rcases List.mem_cons.mp hr with rfl | hr
        · exact ⟨hp.1, g2.off hp.2 hx⟩
        · have er := List.mem_singleton.mp hr
          subst er
          exact ⟨g1.h.free hq.1, hq.2⟩
/-- an object of slot i is written -/
theorem Ev.mutG {B H0 S H : Hp} {σ : St} {Fs : Nat → List Addr} {i : Nat} {q : Addr} {o : HO} {v : V} {s' : Sl} (e : Ev B H0 ρ S H σ Fs) (hs : Sd ρ ρ') (h1 : σ[i]? = some (some v)) (hq : q ∈ Fs i) (hp : s'.P B S (upd H q o) v (Fs i)) : Ev B H0 (ρ'.set i (some s')) S (upd H q o) σ Fs := by
  have hpf := e.fr i q hq
  refine ⟨e.bh, fun b u hb => by rw [upd_ne (ne_of_none hb hpf.2.1)]; exact e.hh _ _ hb, fun b u hb => by rw [upd_ne (ne_of_none hb hpf.1)]; exact e.i _ _ hb, e.nw, by rw [List.length_set, ← hs.len]; exact e.len, fun j s h => ?_, fun j r h => ?_, e.ap⟩
  · rcases set_get h with ⟨rfl, hz⟩ | ⟨hj, hz⟩
    · have hz' : s = s' := Option.some.inj hz
      subst hz'
      exact ⟨_, h1, hp⟩
    · obtain ⟨h2, h3⟩ := hs.at_ hz
      obtain ⟨u, h4, h5⟩ := e.sl j s h2
      refine ⟨u, h4, h3 (fun r hr => ?_) h5⟩
      rw [upd_ne]
      rintro rfl
      exact hj (e.ap j i _ hr hq)
  · obtain ⟨z1, z2, u, z3⟩ := e.fr j r h
    by_cases c : r = q
    · subst c
      exact ⟨z1, z2, _, upd_same⟩
    · exact ⟨z1, z2, u, by rw [upd_ne c]; exact z3⟩
/-- slot i's inner list number k is written -/
theorem onl_set [Enc α] {l : List (List α)} {B S H : Hp} {v : V} {F : List Addr} {k : Nat} {row : List α} {ys : List V} (p : (onl l).P B S H v F) (hk : k < l.length) (hr : Paired (rep S) ys row) : ∃ (q : Addr) (xs : List V), q ∈ F ∧ S q = S q ∧ (∃ (p : Addr) (ps : List Addr), v = .ref p ∧ H p = some (.lst (ps.map V.ref)) ∧ ps[k]? = some q) ∧ H q = some (.lst xs) ∧ (∃ old, l[k]? = some old ∧ Paired (rep S) xs old) ∧ (onl (l.set k row)).P B S (upd H q (.lst ys)) v F := by
  obtain ⟨p, ps, rfl, rfl, h3, h4, h5⟩ := p
  have hl := paired_len h5
  have hkp : k < ps.length := by omega
  have hkq : ps[k]? = some ps[k] := List.getElem?_eq_getElem hkp
  obtain ⟨old, ho, xs, e, z⟩ := paired_at' h5 hkq
  have hm : ps[k] ∈ ps := List.getElem_mem hkp
  have npq : p ≠ ps[k] := fun c => (List.nodup_cons.mp h3).1 (by rw [c]; exact hm)
  refine ⟨ps[k], xs, List.mem_cons_of_mem _ hm, rfl, ⟨p, ps, rfl, h4, hkq⟩, e, ⟨old, ho, z⟩, p, ps, rfl, rfl, h3, by rw [upd_ne npq]; exact h4, ?_⟩
  have nd := (List.nodup_cons.mp h3).2
  have base : ∀ {ps' : List Addr} {l' : List (List α)} {j : Nat}, ps'.Nodup → ps'[j]? = some ps[k] → Paired (fun q row => ∃ xs, H q = some (.lst xs) ∧ Paired (rep S) xs row) ps' l' → Paired (fun q r => ∃ xs, upd H ps[k] (.lst ys) q = some (.lst xs) ∧ Paired (rep S) xs r) ps' (l'.set j row) := by
    intro ps' l' j nd' hj h
    induction h generalizing j with
    | nil => exact .nil
    | cons r t ih =>
      rename_i a b as bs
      cases j with
      | zero =>
        have ea : a = ps[k] := Option.some.inj hj
        refine .cons ⟨ys, by rw [ea]; exact upd_same, hr⟩ (paired_monoM (fun q hq r ⟨xs, e, z⟩ => ⟨xs, ?_, z⟩) t)
        rw [upd_ne]
        · exact e
        · rintro rfl
          exact (List.nodup_cons.mp nd').1 (by rw [ea]; exact hq)
      | succ j =>
        obtain ⟨xs, e, z⟩ := r
        have hj' : as[j]? = some ps[k] := by simpa using hj
        refine .cons ⟨xs, ?_, z⟩ (ih (List.nodup_cons.mp nd').2 hj')
        rw [upd_ne]
        · exact e
        · rintro rfl
          exact (List.nodup_cons.mp nd').1 (List.mem_of_getElem? hj')
  exact base nd hkq h5
/-- x[k].clear() -/
theorem ds_clearn [Enc α] {K : PySem.W.Frag} {i : Nat} {l : List (List α)} {tk : TE} {q : Int} {j : Nat} (hK : K = Γ.K) (hs : Sd ρ ρ') (h : ρ[i]? = some (some (onl l))) (hk : DR ρ tk (tl m q)) (hj : ixN l.length q = some j) (hl : j < l.length) (k : W.nx (ρ'.set i (some (onl (l.set j []))))) :
    DS ρ (tDrop (tBM0 K "list" rClear (tOp (rIxL K) (tVar i) tk))) W := fun B H0 S H σ Fs D e k1 k2 => by
  obtain ⟨v, h1, pp⟩ := e.sl i _ h
  refine ⟨v, h1, hk B H0 S H σ Fs _ e fun w S2 H2 F2 g q2 _ => ?_⟩
  have e' := e.grow g
  have pp2 := (onl l).mono g.s g.h pp
  obtain ⟨qa, xs, hq, _, ⟨p, ps, rfl, hp, hpk⟩, hx, _, hn⟩ := onl_set (k := j) (row := []) (ys := []) pp2 hl .nil
  have hlen : (ps.map V.ref).length = l.length := by
    obtain ⟨p', ps', e1, _, _, e4, e5⟩ := pp2
    cases e1
    have e6 := hp.symm.trans e4
    have e7 := congrArg List.length (HO.lst.inj (Option.some.inj e6))
    rw [e7, List.length_map]
    exact paired_len e5
  refine ⟨p, ps.map V.ref, q, .ref qa, rfl, q2.1, hK ▸ SqL.of hp, ?_, ?_⟩
  · unfold atI
    rw [hlen, hj]
    show (ps.map V.ref)[j]? = _
    rw [List.getElem?_map, hpk]
    rfl
  · refine ⟨.inl ⟨rfl, _, SqL.of hx⟩, qa, xs, rfl, rfl, hx, ?_⟩
    exact k1 _ _ _ _ _ k g.s (e'.mutG hs h1 hq hn)
end
end G

/-! # Scales: two classes over one, their methods -/
namespace G
open PySem L2
open PySem.Spec PyProof.Rows
section
variable {X : Cx} {CX : CXT} {k : Nat} {C C' f f' : Addr} {fd fd' : FuncData} {ps ps' : List Str} {sp sp' : Sp} {E : L2.St → XK} {x m : Str} {p pos apos : Pos} {o e : Expr} {es : List Expr} {ta : TE} {t : TA} {pl : Sem Bool}
theorem pass0S {Z : L2.St → XK} : ∀ σ, PassesAt CX0 X σ (Z σ) := fun σ pins H s e s' I h => pass0 pins σ H s e s' I h
/-- C.m(e, ..), C a class that a name tells, m a def of it -/
theorem pe_binit (hg : Gl X x) (hm : X.mg x = some (.ref C)) (r : ClX.CRead X.K C (.type "type")) (c : PySem.W.findCls X.K (.ref C) (.type "type") m = some (.val (.ref f))) (kp : PySem.W.keepIn X.K (.ref f) = true)
    (F : FnOk X.prog X.w X.K X.mg X.base CX k f fd ps sp) (hr : Room k X.A) (hb : Binds X.K fd ps []) (hx : ∀ σ, PassesAt CX X σ (E σ)) (ha : PA X (e :: es) t)
    (hdb : (x == ("__debug__" : Str)) = false := by decide) (he : starEach (e :: es) X.env = (false, eval e X.env) :: starEach es X.env := by rfl) (hpl : (backTo pos (starEach es X.env)).any (·.1) = false := by rfl)
    (ht : eval (.Call (.Attribute (.Name x p) m apos) (e :: es) [] pos) X.env = (do
      let ov ← eval (.Name x p) X.env
      standAt apos.atName
      let (f, first) ← holding [ov] (getMethod ov m pl)
      callWith pos f first (backTo pos (starEach (e :: es) X.env)) (backToKw pos (keywordEach [] X.env))) := by rfl) :
    PE X (.Call (.Attribute (.Name x p) m apos) (e :: es) [] pos) (tCallS sp E t) := by
  refine ⟨fun pins s σ H Q I h => ?_⟩
  refine PySem.W.methodCall_KW (pl := pl) (ld_glob I hg hm ?_ hdb) ht
  refine PySem.W.method_cls I.kIn r.ga (ClX.getcval_ok (v := .ref f) (u := .ref f) I r ⟨c, rfl⟩ fun s2 I2 => ?_)
  refine PySem.W.callWith_K (first := []) (h₀ := X.base) I2.ok.mod.kin kp (thn (ha.run pos pins s2 σ H _ I2 h) fun us s3 ⟨vs, H1, I3, r3, q⟩ => ⟨I3.kIn, ?_⟩) he hpl
  exact run_fnS F hr hb (hx σ) I3 r3 q
/-- o.m(..), o of the class at C or of the one at C' -/
def tMethS (C C' : Addr) (m : Str) (sp sp' : Sp) (E : L2.St → XK) (ta : TE) (t : TA) : TE := fun σ H Q => ta σ H fun x H1 => ∃ (a D dx : Addr) (fs : List (Str × V)), x = .ref a ∧ H1 a = some (.ins D dx fs) ∧ fs.lookup m = none ∧
  ((D = C ∧ t σ H1 fun vs H2 => sp (x :: vs) H2 Q (E σ)) ∨ (D = C' ∧ t σ H1 fun vs H2 => sp' (x :: vs) H2 Q (E σ)))
theorem pe_methS (he : PE X o ta) (c : Cls X.K C) (c' : Cls X.K C') (hm : Meth X.K C m f) (hm' : Meth X.K C' m f') (F : FnOk X.prog X.w X.K X.mg X.base CX k f fd ps sp) (F' : FnOk X.prog X.w X.K X.mg X.base CX k f' fd' ps' sp') (hr : Room k X.A) (hb : Binds X.K fd ps []) (hb' : Binds X.K fd' ps' [])
    (hx : ∀ σ, PassesAt CX X σ (E σ)) (ha : PA X (e :: es) t)
    (hst : starEach (e :: es) X.env = (false, eval e X.env) :: starEach es X.env := by rfl) (hpl : (backTo pos (starEach es X.env)).any (·.1) = false := by rfl)
    (ht : eval (.Call (.Attribute o m apos) (e :: es) [] pos) X.env = (do
      let ov ← eval o X.env
      standAt apos.atName
      let (f, first) ← holding [ov] (getMethod ov m pl)
      callWith pos f first (backTo pos (starEach (e :: es) X.env)) (backToKw pos (keywordEach [] X.env))) := by rfl) :
    PE X (.Call (.Attribute o m apos) (e :: es) [] pos) (tMethS C C' m sp sp' E ta t) := by
  refine ⟨fun pins s σ H Q I h => ?_⟩
  refine PySem.W.methodCall_KW (pl := pl) (thn (he.run pins s σ H _ I h) fun u s1 ⟨x, H1, I1, rx, a, D, dx, fs, ex, ea, l, q⟩ => ?_) ht
  subst ex
  obtain rfl : u = Value.ref a := rx
  rcases q with ⟨rfl, q⟩ | ⟨rfl, q⟩
  · refine getmeth_ok I1 ea c hm l ?_
    refine PySem.W.callWith_K (first := [.ref a]) (h₀ := X.base) I.ok.mod.kin hm.kp (thn (ha.run pos pins s1 σ H1 _ I1 q) fun us s2 ⟨vs, H2, I2, r, q2⟩ => ⟨I2.kIn, ?_⟩) hst hpl
    exact run_fnS (us := .ref a :: us) (vs := .ref a :: vs) F hr hb (hx σ) I2 (.cons rfl r) q2
  · refine getmeth_ok I1 ea c' hm' l ?_
    refine PySem.W.callWith_K (first := [.ref a]) (h₀ := X.base) I.ok.mod.kin hm'.kp (thn (ha.run pos pins s1 σ H1 _ I1 q) fun us s2 ⟨vs, H2, I2, r, q2⟩ => ⟨I2.kIn, ?_⟩) hst hpl
    exact run_fnS (us := .ref a :: us) (vs := .ref a :: vs) F' hr hb' (hx σ) I2 (.cons rfl r) q2
/-- C(..), what is raised by the __init__ let out -/
def tMakeS (C : Addr) (sp : Sp) (E : L2.St → XK) (t : TA) : TE := fun σ H Q => t σ H fun vs H1 => ∀ x dx, H1 x = none → H1 dx = none → dx ≠ x →
  sp (.ref x :: vs) (upd (upd H1 dx (.own x)) x (.ins C dx [])) (fun v H2 => v = .non ∧ Q (.ref x) H2) (E σ)
theorem run_makeS {pins : List (Addr × Obj)} {σ : L2.St} {H : Hp} {s : Shared} {Q : VK} {us : List Value} {vs : List V} (M : Mk X.K C f) (F : FnOk X.prog X.w X.K X.mg X.base CX k f fd ps sp) (hr : Room (k + 1) X.A) (hb : Binds X.K fd ps [])
    (hx : PassesAt CX X σ (E σ)) (I : Inv X pins σ H s) (r : Vals vs us)
    (h : ∀ x dx, H x = none → H dx = none → dx ≠ x → sp (.ref x :: vs) (upd (upd H dx (.own x)) x (.ins C dx [])) (fun v H2 => v = .non ∧ Q (.ref x) H2) (E σ)) :
    wpAny (model X.prog X.w) X.A (call (.ref C) us) (EP X pins σ Q) X.xe s := by
  have hq := h (s.heap.objs.size + 1) s.heap.objs.size (I.hok.fresh (Nat.le_succ _)) (I.hok.fresh (Nat.le_refl _)) (Nat.ne_of_lt (Nat.lt_succ_self _))
  have I2 := Inv.made (C := C) I
  have r2 : Vals (V.ref (s.heap.objs.size + 1) :: vs) (Value.ref (s.heap.objs.size + 1) :: us) := .cons rfl r
  have hl : ((Value.ref (s.heap.objs.size + 1) :: us) ++ []).length = ps.length := by
    rw [List.append_nil, ← r2.length]
    exact F.len _ _ _ _ hq
  have hbb := hb _ (Value.ref (s.heap.objs.size + 1) :: us) I2.kIn hl
  rw [List.append_nil] at hbb
  refine wpAny_call (make_map (f := f) I.kIn M.makes M.init (beq_iff_eq.mp M.fn) (codeAny_mono (F.run _ X.stack _ _ ⟨Value.ref (s.heap.objs.size + 1) :: us, []⟩ _ _ _ (E σ) (hr.make C us [])
    (I2.env0.make C us []) hbb r2 hq) fun r s' hq' => ?_))
  cases r with
  | error e => exact hx pins _ _ e s' I2 hq'
  | ok fl =>
    cases fl with
    | ret u =>
      obtain ⟨v, H', I3, rv, ev, q3⟩ := I2.after hq'
      subst ev
      exact ⟨rv, ⟨V.ref (s.heap.objs.size + 1), H', I3, rfl, q3⟩⟩
    | next => exact False.elim hq'
    | brk => exact False.elim hq'
    | cont => exact False.elim hq'
theorem pe_makeS (M : Mk X.K C f) (F : FnOk X.prog X.w X.K X.mg X.base CX k f fd ps sp) (hr : Room (k + 1) X.A) (hg : Gl X x) (hm : X.mg x = some (.ref C)) (hb : Binds X.K fd ps []) (hx : ∀ σ, PassesAt CX X σ (E σ))
    (ha : PA X (e :: es) t) (hdb : (x == ("__debug__" : Str)) = false := by decide) (he : starEach (e :: es) X.env = (false, eval e X.env) :: starEach es X.env := by rfl) (hpl : (backTo pos (starEach es X.env)).any (·.1) = false := by rfl) :
    PE X (.Call (.Name x p) (e :: es) [] pos) (tMakeS C sp E t) := by
  refine ⟨fun pins s σ H Q I h => ?_⟩
  refine wpAny_Call_Name_kw (ld_glob I hg hm ?_ hdb)
  refine PySem.W.callWith_K (h₀ := X.base) I.ok.mod.kin M.kp (thn (ha.run pos pins s σ H _ I h) fun us s1 ⟨vs, H1, I1, r, q⟩ => ⟨I1.kIn, ?_⟩) he hpl
  exact run_makeS M F hr hb (hx σ) I1 r q
end
/-! ### scales as data -/
structure Scl where
  rest : Option Int
  weights : List Int
  deriving DecidableEq, Inhabited
section
variable [Γ : Ctx] {ρ ρ' : En} {α β γ δ ε ι : Type} {W : Wn} {m m' mA m1 m2 m3 m4 : Md} {n n' : Bool}
/-- the class and the fields of a scale -/
def Scl.cl (s : Scl) : Addr := if s.rest.isSome then Γ.cls 3 else Γ.cls 2
def Scl.fs (s : Scl) (x : V) : List (Str × V) := match s.rest with
  | none => putF "weights" x []
  | some r => putF "weights" x (putF "rest" (V.int r) [])
instance : Enc Scl where
  rep := fun H v s => ∃ p dx x, v = .ref p ∧ H p = some (.ins s.cl dx (s.fs x)) ∧ rep H x s.weights
  mono := fun e ⟨p, dx, x, h1, h2, h3⟩ => ⟨p, dx, x, h1, e _ _ h2, Enc.mono e h3⟩
instance : NotNone Scl := ⟨fun ⟨_, _, _, h, _⟩ => by rw [h]; exact V.noConfusion⟩
/-- what the written part says of the classes Line (2), Rest (3), Scale (6) -/
structure SF (mg : Str → Option Value) : Prop where
  c2 : CF 2 ["weights"]
  c3 : CF 3 ["rest", "weights"]
  i2 : CI mg "Line" 2
  i3 : CI mg "Rest" 3
  m6 : mg "Scale" = some (.ref (Γ.cls 6))
  k23 : PySem.W.kitOne Γ.K (.ref (Γ.cls 2)) (.ref (Γ.cls 3)) = some false
  k26 : PySem.W.kitOne Γ.K (.ref (Γ.cls 2)) (.ref (Γ.cls 6)) = some true
  k32 : PySem.W.kitOne Γ.K (.ref (Γ.cls 3)) (.ref (Γ.cls 2)) = some false
  k36 : PySem.W.kitOne Γ.K (.ref (Γ.cls 3)) (.ref (Γ.cls 6)) = some true
variable {mg : Str → Option Value}
theorem Scl.fs_w {s : Scl} {x : V} : (s.fs x).lookup ("weights" : Str) = some x := by
  obtain ⟨r, l⟩ := s
  cases r with
  | none => show (putF "weights" x []).lookup ("weights" : Str) = _; rw [lookup_putF, if_pos rfl]
  | some r => show (putF "weights" x (putF "rest" (V.int r) [])).lookup ("weights" : Str) = _; rw [lookup_putF, if_pos rfl]
theorem Scl.fs_r {s : Scl} {x : V} {r : Int} (h : s.rest = some r) : (s.fs x).lookup ("rest" : Str) = some (V.int r) := by
  obtain ⟨r', l⟩ := s
  cases h
  show (putF "weights" x (putF "rest" (V.int r) [])).lookup ("rest" : Str) = _
  rw [lookup_putF, if_neg (by decide +kernel), lookup_putF, if_pos rfl]
theorem Scl.fs_m {s : Scl} {x : V} {f : Str} (h1 : f ≠ "weights") (h2 : f ≠ "rest") : (s.fs x).lookup f = none := by
  obtain ⟨r, l⟩ := s
  cases r with
  | none => show (putF "weights" x []).lookup f = _; rw [lookup_putF, if_neg h1]; rfl
  | some r => show (putF "weights" x (putF "rest" (V.int r) [])).lookup f = _; rw [lookup_putF, if_neg h1, lookup_putF, if_neg h2]; rfl
theorem Scl.cf {s : Scl} (T : SF mg) : Cls Γ.K s.cl ∧ NoAttr Γ.K s.cl "weights" := by
  unfold Scl.cl
  split
  · exact ⟨T.c3.cl, T.c3.na _ (by simp)⟩
  · exact ⟨T.c2.cl, T.c2.na _ (by simp)⟩
theorem dr_Scl_weights {K : PySem.W.Frag} {ta : TE} {s : Scl} (hK : K = Γ.K) (T : SF mg) (h : DR ρ ta (tl m s)) : DR ρ (tFld K ta "weights") (tl m s.weights) := fun B H0 S H σ Fs Q e k =>
  h B H0 S H σ Fs _ e fun v S' H' F g p _ => by
    obtain ⟨a, dx, x, h1, h2, h3⟩ := p.1
    subst hK
    exact ⟨a, _, dx, _, x, h1, hm_in (e.b.trans g.h) g.i _ _ h2, (Scl.cf T).1, (Scl.cf T).2, Scl.fs_w, k x S' H' [] g ⟨h3, rfl⟩ (fun q h => nomatch h)⟩
theorem dr_Scl_rest {K : PySem.W.Frag} {ta : TE} {s : Scl} {r : Int} (hK : K = Γ.K) (T : SF mg) (h : DR ρ ta (tl m s)) (hr : s.rest = some r) : DR ρ (tFld K ta "rest") (sh r) := fun B H0 S H σ Fs Q e k =>
  h B H0 S H σ Fs _ e fun v S' H' F g p _ => by
    obtain ⟨a, dx, x, h1, h2, h3⟩ := p.1
    subst hK
    have hc : s.cl = Γ.cls 3 := if_pos (by rw [hr]; rfl)
    exact ⟨a, _, dx, _, .int r, h1, hm_in (e.b.trans g.h) g.i _ _ h2, hc ▸ T.c3.cl, hc ▸ T.c3.na _ (by simp), Scl.fs_r hr, k _ S' H' [] g ⟨rfl, rfl⟩ (fun q h => nomatch h)⟩
/-- isinstance of a scale -/
theorem dr_isiS {K : PySem.W.Frag} {ta tc : TE} {s : Scl} {c : Nat} {b : Bool} (hK : K = Γ.K) (T : SF mg) (h : DR ρ ta (tl m s)) (hc : tc = tC (.ref (Γ.cls c)))
    (hb : (s.rest = none → PySem.W.kitOne Γ.K (.ref (Γ.cls 2)) (.ref (Γ.cls c)) = some b) ∧ (s.rest.isSome = true → PySem.W.kitOne Γ.K (.ref (Γ.cls 3)) (.ref (Γ.cls c)) = some b)) :
    DR ρ (tCB (rIsi K) (tCons ta (tCons tc tNil))) (sh b) := fun B H0 S H σ Fs Q e k =>
  h B H0 S H σ Fs _ e fun v S' H' F g p _ => by
    subst hc hK
    obtain ⟨q, dx, x, rfl, h2, _⟩ := p.1
    have h2' := hm_in (e.b.trans g.h) g.i _ _ h2
    have hc : (s.rest = none ∧ s.cl = Γ.cls 2) ∨ (s.rest.isSome = true ∧ s.cl = Γ.cls 3) := by
      unfold Scl.cl
      cases e : s.rest with
      | none => exact .inl ⟨rfl, rfl⟩
      | some r => exact .inr ⟨rfl, rfl⟩
    rcases hc with ⟨hr, hc⟩ | ⟨hr, hc⟩
    · rw [hc] at h2'
      exact ⟨.ref q, .ref (Γ.cls c), .ref (Γ.cls 2), .ref (Γ.cls c), b, rfl, .own _, .base (.ins h2' T.i2.cl T.i2.ha T.i2.hn T.i2.htk T.i2.hm), hb.1 hr, k _ S' H' [] g ⟨rfl, rfl⟩ (fun q h => nomatch h)⟩
    · rw [hc] at h2'
      exact ⟨.ref q, .ref (Γ.cls c), .ref (Γ.cls 3), .ref (Γ.cls c), b, rfl, .own _, .base (.ins h2' T.i3.cl T.i3.ha T.i3.hn T.i3.htk T.i3.hm), hb.2 hr, k _ S' H' [] g ⟨rfl, rfl⟩ (fun q h => nomatch h)⟩
theorem kit_same {v : Value} : PySem.W.kitOne Γ.K v v = some true := by
  unfold PySem.W.kitOne
  rw [if_pos (by simp)]
theorem is2 {s : Scl} (T : SF mg) : (s.rest = none → PySem.W.kitOne Γ.K (.ref (Γ.cls 2)) (.ref (Γ.cls 2)) = some s.rest.isNone) ∧ (s.rest.isSome = true → PySem.W.kitOne Γ.K (.ref (Γ.cls 3)) (.ref (Γ.cls 2)) = some s.rest.isNone) :=
  ⟨fun h => by rw [h]; exact kit_same, fun h => by
    cases e : s.rest with
    | none => rw [e] at h; cases h
    | some r => exact T.k32⟩
theorem is3 {s : Scl} (T : SF mg) : (s.rest = none → PySem.W.kitOne Γ.K (.ref (Γ.cls 2)) (.ref (Γ.cls 3)) = some s.rest.isSome) ∧ (s.rest.isSome = true → PySem.W.kitOne Γ.K (.ref (Γ.cls 3)) (.ref (Γ.cls 3)) = some s.rest.isSome) :=
  ⟨fun h => by rw [h]; exact T.k23, fun h => by rw [h]; exact kit_same⟩
theorem is6 {s : Scl} (T : SF mg) : (s.rest = none → PySem.W.kitOne Γ.K (.ref (Γ.cls 2)) (.ref (Γ.cls 6)) = some true) ∧ (s.rest.isSome = true → PySem.W.kitOne Γ.K (.ref (Γ.cls 3)) (.ref (Γ.cls 6)) = some true) :=
  ⟨fun _ => T.k26, fun _ => T.k36⟩
/-! ### methods -/
def Hs (s s' : Sp) : Prop := ∀ vs H Q E, s vs H Q E → s' vs H Q E
theorem hs_id {s : Sp} : Hs s s := fun _ _ _ _ h => h
theorem hs_l {s s' : Sp} : Hs s (spo s s') := fun _ _ _ _ h => .inl h
theorem hs_r {s s' : Sp} : Hs s' (spo s s') := fun _ _ _ _ h => .inr h
theorem scl_side {s : Scl} : (s.rest = none ∧ s.cl = Γ.cls 2) ∨ (s.rest.isSome = true ∧ s.cl = Γ.cls 3) := by
  unfold Scl.cl
  cases e : s.rest with
  | none => exact .inl ⟨rfl, rfl⟩
  | some r => exact .inr ⟨rfl, rfl⟩
theorem dr_methS [Enc β] {f f' : Scl → β → Wf} {s : Scl} {b : β} {sp sp' : Sp} {E : L2.St → XK} {mn : Str} {ta : TE} {t : TA} {r : Sl} (u : Hs (sp2 f) sp) (u' : Hs (sp2 f') sp') (n1 : mn ≠ "weights") (n2 : mn ≠ "rest") (h0 : DR ρ ta (tl m1 s)) (h : DA ρ t [tl m2 b])
    (hp : s.rest = none → (f s b).pre) (hp' : s.rest.isSome = true → (f' s b).pre) (hr : Reb (f s b).r r) (hr' : Reb (f' s b).r r) : DR ρ (tMethS (Γ.cls 2) (Γ.cls 3) mn sp sp' E ta t) r := fun B H0 S H σ Fs Q e k =>
  h0 B H0 S H σ Fs _ e fun v S' H' F g p _ => by
    obtain ⟨a, dx, x, h1, h2, h3⟩ := p.1
    have h2' := hm_in (e.b.trans g.h) g.i _ _ h2
    have go : ∀ {D : Addr} {w : Scl → β → Wf} {z : Sp}, Hs (sp2 w) z → (w s b).pre → Reb (w s b).r r → t σ H' fun vs H2 => z (v :: vs) H2 Q (E σ) := fun {D w z} hu hp hr =>
      h B H0 S' H' σ Fs _ (e.grow g) fun vs S2 H2 g2 p2 => by
        obtain ⟨v1, rfl, q1⟩ := pr1 p2
        have gg := g.trans g2
        exact hu _ _ _ _ ⟨H2, v, v1, s, b, rfl, Same.refl _, ⟨Enc.mono ((hm_in (e.b.trans g.h) g.i).trans g2.h) p.1, Enc.mono (hm_in (e.b.trans gg.h) gg.i) q1.1⟩, hp, fin_nu hr e gg k⟩
    refine ⟨a, s.cl, dx, _, h1, h2', Scl.fs_m n1 n2, ?_⟩
    rcases scl_side (s := s) with ⟨q1, q2⟩ | ⟨q1, q2⟩
    · exact .inl ⟨q2, go (D := a) u (hp q1) hr⟩
    · exact .inr ⟨q2, go (D := a) u' (hp' q1) hr'⟩
theorem de_methS [Enc β] {Wx : WX} {XW : En → Exn → Prop} {f f' : Scl → β → Exn → Prop} {s : Scl} {b : β} {z : Exn} {sp sp' : Sp} {mn : Str} {ta : TE} {t : TA} (u : Hs (spr2 f) sp) (u' : Hs (spr2 f') sp') (n1 : mn ≠ "weights") (n2 : mn ≠ "rest") (h0 : DR ρ ta (tl m1 s)) (h : DA ρ t [tl m2 b])
    (hp : s.rest = none → f s b z) (hp' : s.rest.isSome = true → f' s b z) (hx : XW ρ z) : DE Wx XW ρ (tMethS (Γ.cls 2) (Γ.cls 3) mn sp sp' (WE Wx) ta t) := fun B H0 S H σ Fs Q e k3 =>
  h0 B H0 S H σ Fs _ e fun v S' H' F g p _ => by
    obtain ⟨a, dx, x, h1, h2, h3⟩ := p.1
    have h2' := hm_in (e.b.trans g.h) g.i _ _ h2
    have go : ∀ {D : Addr} {w : Scl → β → Exn → Prop} {y : Sp}, Hs (spr2 w) y → w s b z → t σ H' fun vs H2 => y (v :: vs) H2 Q (WE Wx σ) := fun {D w y} hu hp =>
      h B H0 S' H' σ Fs _ (e.grow g) fun vs S2 H2 g2 p2 => by
        obtain ⟨v1, rfl, q1⟩ := pr1 p2
        have gg := g.trans g2
        exact hu _ _ _ _ ⟨v, v1, s, b, H2, z, rfl, Same.refl _, ⟨Enc.mono ((hm_in (e.b.trans g.h) g.i).trans g2.h) p.1, Enc.mono (hm_in (e.b.trans gg.h) gg.i) q1.1⟩, hp, xend_of e gg hx k3⟩
    refine ⟨a, s.cl, dx, _, h1, h2', Scl.fs_m n1 n2, ?_⟩
    rcases scl_side (s := s) with ⟨q1, q2⟩ | ⟨q1, q2⟩
    · exact .inl ⟨q2, go (D := a) u (hp q1)⟩
    · exact .inr ⟨q2, go (D := a) u' (hp' q1)⟩
theorem de_op {Wx : WX} {XW : En → Exn → Prop} {r : R2} {ta tb : TE} (h : DE Wx XW ρ ta) : DE Wx XW ρ (tOp r ta tb) := fun B H0 S H σ Fs Q e k3 => h B H0 S H σ Fs _ e k3
/-! ### made -/
theorem grow_2 {S H H' : Hp} {x p : Addr} {o o' : HO} (i : Same S H) (h : Same H H') (nx : H x = none) (np : H p = none) (hx : H' x = some o) (hp : H' p = some o') (ne : p ≠ x) : Grow S H (upd (upd S x o) p o') H' := by
  have g0 : Grow S H S H' := ⟨Same.refl _, h, i.trans h, fun _ h => .inl h⟩
  refine grow_add (grow_add g0 hx nx (i.free nx)) hp np ?_
  rw [upd_ne ne]
  exact i.free np
/-- Scale.__init__ -/
def spI_Scl : Sp := fun vs H Q _ => ∃ (x C dx : Addr) (v : V) (fs : List (Str × V)) (l : List Int), vs = [.ref x, v] ∧ (C = Γ.cls 2 ∨ C = Γ.cls 3) ∧ H x = some (.ins C dx fs) ∧ fs.length ≤ 1 ∧ rep H v l ∧
  ∀ p, H p = none → Q .non (upd (upd H p (.lst (l.map V.int))) x (.ins C dx (putF "weights" (.ref p) fs)))
/-- Rest.__init__ -/
def spI_Rest : Sp := fun vs H Q _ => ∃ (x dx : Addr) (v : V) (r : Int) (l : List Int) (B : Hp), vs = [.ref x, .int r, v] ∧ H x = some (.ins (Γ.cls 3) dx []) ∧ B x = none ∧ Same B H ∧ rep B v l ∧ 2 ≤ r ∧
  ∀ (H' : Hp) (p : Addr), Same (msk H x) (msk H' x) → H p = none → H' x = some (.ins (Γ.cls 3) dx (putF "weights" (.ref p) (putF "rest" (V.int r) []))) → H' p = some (.lst ((l.map (· % r)).map V.int)) → Q .non H'
def sprI_Rest : Sp := fun vs H _ E => ∃ (x : Addr) (v : V) (r : Int), vs = [.ref x, .int r, v] ∧ r < 2 ∧ E (.ref (Γ.cls 18)) none H
theorem made_same {H : Hp} {x dx : Addr} {o o' : HO} (nx : H x = none) (nd : H dx = none) (ne : dx ≠ x) : Same H (upd (upd H dx o) x o') := (same_upd nd).trans (same_upd (by rw [upd_ne (Ne.symm ne)]; exact nx))
theorem dr_mkLine {E : XK} {t : TA} {l : List Int} (h : DA ρ t [tl m1 l]) : DR ρ (tMake (Γ.cls 2) spI_Scl [] E t) (sh (⟨none, l⟩ : Scl)) := fun B H0 S H σ Fs Q e k =>
  h B H0 S H σ Fs _ e fun vs S' H' g p => by
    obtain ⟨v0, rfl, q0⟩ := pr1 p
    intro x dx nx nd ne
    have sm := made_same (o := .own x) (o' := .ins (Γ.cls 2) dx []) nx nd ne
    refine ⟨x, Γ.cls 2, dx, v0, [], l, rfl, .inl rfl, upd_same, Nat.zero_le _, Enc.mono ((hm_in (e.b.trans g.h) g.i).trans sm) q0.1, fun p hp => ⟨rfl, ?_⟩⟩
    have npx : p ≠ x := fun c => by rw [c, upd_same] at hp; cases hp
    have np : H' p = none := by
      cases c : H' p with
      | none => rfl
      | some o => rw [sm _ _ c] at hp; cases hp
    have sm2 : Same H' (upd (upd (upd (upd H' dx (.own x)) x (.ins (Γ.cls 2) dx [])) p (.lst (l.map V.int))) x (.ins (Γ.cls 2) dx (putF "weights" (.ref p) []))) := fun q o hq => by
      have c1 : q ≠ x := fun c => by rw [c, nx] at hq; cases hq
      have c2 : q ≠ p := fun c => by rw [c, np] at hq; cases hq
      rw [upd_ne c1, upd_ne c2]
      exact sm _ _ hq
    have gg := grow_2 (x := x) (p := p) g.i sm2 nx np upd_same (by rw [upd_ne npx, upd_same]) npx
    refine k _ _ _ [] (g.trans gg) ⟨⟨x, dx, .ref p, rfl, ?_, p, _, rfl, SqL.of upd_same, scal_paired l⟩, rfl⟩ (fun q h => nomatch h)
    show (upd _ p _) x = _
    rw [upd_ne (Ne.symm npx), upd_same]
    rfl
theorem dr_mkRest {E : XK} {t : TA} {l : List Int} {r : Int} (h : DA ρ t [tl m1 r, tl m2 l]) (hr : 2 ≤ r) : DR ρ (tMake (Γ.cls 3) spI_Rest [] E t) (sh (⟨some r, l.map (· % r)⟩ : Scl)) := fun B H0 S H σ Fs Q e k =>
  h B H0 S H σ Fs _ e fun vs S' H' g p => by
    obtain ⟨v0, v1, rfl, q0, q1⟩ := pr2 p
    intro x dx nx nd ne
    have sm := made_same (o := .own x) (o' := .ins (Γ.cls 3) dx []) nx nd ne
    have e0 : v0 = .int r := q0.1
    subst e0
    refine ⟨x, dx, v1, r, l, H', rfl, upd_same, nx, sm, Enc.mono (hm_in (e.b.trans g.h) g.i) q1.1, hr, fun H2 p s1 hp hx hpp => ⟨rfl, ?_⟩⟩
    have npx : p ≠ x := fun c => by rw [c, upd_same] at hp; cases hp
    have np : H' p = none := by
      cases c : H' p with
      | none => rfl
      | some o => rw [sm _ _ c] at hp; cases hp
    have sm2 : Same H' H2 := fun q o hq => by
      have c1 : q ≠ x := fun c => by rw [c, nx] at hq; cases hq
      have := s1 q o (by rw [msk_ne c1]; exact sm _ _ hq)
      rw [msk_ne c1] at this
      exact this
    have gg := grow_2 (x := x) (p := p) g.i sm2 nx np hx hpp npx
    refine k _ _ _ [] (g.trans gg) ⟨⟨x, dx, .ref p, rfl, ?_, p, _, rfl, SqL.of upd_same, scal_paired _⟩, rfl⟩ (fun q h => nomatch h)
    show (upd _ p _) x = _
    rw [upd_ne (Ne.symm npx), upd_same]
    rfl
theorem de_mkRest {Wx : WX} {XW : En → Exn → Prop} {sp : Sp} {t : TA} {l : List Int} {r : Int} (u : Hs sprI_Rest sp) (h : DA ρ t [tl m1 r, tl m2 l]) (hr : r < 2) (hx : XW ρ ⟨18, none⟩) : DE Wx XW ρ (tMakeS (Γ.cls 3) sp (WE Wx) t) := fun B H0 S H σ Fs Q e k3 =>
  h B H0 S H σ Fs _ e fun vs S' H' g p => by
    obtain ⟨v0, v1, rfl, q0, q1⟩ := pr2 p
    intro x dx nx nd ne
    have e0 : v0 = .int r := q0.1
    subst e0
    have sm := made_same (o := .own x) (o' := .ins (Γ.cls 3) dx []) nx nd ne
    have gg : Grow S' H' S' _ := ⟨Same.refl _, sm, g.i.trans sm, fun _ h => .inl h⟩
    exact u _ _ _ _ ⟨x, v1, r, rfl, hr, k3 ρ ⟨18, none⟩ none S' _ σ Fs hx g.s (e.grow (g.trans gg)) rfl⟩
/-- a name of which nothing is told -/
def anyS : Sl := ⟨fun _ _ _ _ _ => True, fun _ _ _ => True.intro⟩
theorem rest_run {mg : Str → Option Value} {K : PySem.W.Frag} (hK : K = Γ.K) (T : SF mg) {x dx : Addr} {v : V} {r : Int} {l : List Int} {B0 H : Hp} {Q : VK} {E : L2.St → XK} {t0 : TS} {tlc : TE} (hx : H x = some (.ins (Γ.cls 3) dx [])) (hB : B0 x = none) (hs : Same B0 H) (hv : rep B0 v l) (h2 : 2 ≤ r)
    (k : ∀ (H' : Hp) (p : Addr), Same (msk H x) (msk H' x) → H p = none → H' x = some (.ins (Γ.cls 3) dx (putF "weights" (.ref p) (putF "rest" (V.int r) []))) → H' p = some (.lst ((l.map (· % r)).map V.int)) → Q .non H')
    (hlc : DR [some anyS, some (st r), some (st l), none] tlc (own true (l.map (· % r)))) :
    tSeq (tIfS (tTest (tOp (rI0 fun i j => .bl (decide (i < j))) (tVar 1) (tC (.int 2)))) t0 tNext) (tSeq (sFld K (tVar 0) (tVar 1) "rest") (tDrop (tCallS spI_Scl E (tCons (tVar 0) (tCons tlc tNil))))) { nx := fun _ H' => Q .non H', rt := Q } [some (.ref x), some (.int r), some v, none] H := by
  subst hK
  refine ⟨_, rfl, r, 2, rfl, rfl, _, rfl, ?_⟩
  dsimp only
  rw [if_neg (by rw [decide_eq_false (by omega)]; exact Bool.false_ne_true)]
  refine ⟨_, rfl, _, rfl, x, _, dx, _, rfl, hx, T.c3.cl, T.c3.na _ (by simp), by decide, ?_⟩
  refine ⟨_, rfl, ?_⟩
  have ne : ∀ q o, B0 q = some o → q ≠ x := fun q o hq c => by rw [c, hB] at hq; cases hq
  have ev : Ev B0 (msk H x) [some anyS, some (st r), some (st l), none] (fun _ => none) (upd H x (.ins (Γ.cls 3) dx (putF "rest" (V.int r) []))) [some (.ref x), some (.int r), some v, none] fun _ => [] := by
    refine ⟨fun q o hq => by rw [msk_ne (ne q o hq)]; exact hs _ _ hq, fun q o hq => ?_, (fun q o h => nomatch h), (fun q h => absurd rfl h), rfl, fun j s hj => ?_, (fun _ q h => nomatch h), (fun _ _ q h => nomatch h)⟩
    · by_cases c : q = x
      · rw [c, msk_self] at hq; cases hq
      · rw [msk_ne c] at hq
        rw [upd_ne c]
        exact hq
    · match j, hj with
      | 0, hj => cases hj; exact ⟨_, rfl, True.intro⟩
      | 1, hj => cases hj; exact ⟨_, rfl, rfl, rfl⟩
      | 2, hj => cases hj; exact ⟨_, rfl, Enc.mono un_l hv, rfl⟩
      | 3, hj => cases hj
      | j + 4, hj => cases hj
  refine hlc _ _ _ _ _ _ _ ev fun v1 S' H' F g p hF => ?_
  have hx' : H' x = some (.ins (Γ.cls 3) dx (putF "rest" (V.int r) [])) := g.h _ _ upd_same
  have hb := own_bo (ev.b.trans g.h) g.i p
  refine ⟨x, Γ.cls 3, dx, v1, _, l.map (· % r), rfl, .inr rfl, hx', pl pl0, hb.1, fun p hp => ?_⟩
  have npx : p ≠ x := fun c => by rw [c, hx'] at hp; cases hp
  refine k _ p (fun q o hq => ?_) ?_ ?_ ?_
  · by_cases c : q = x
    · rw [c, msk_self] at hq; cases hq
    · rw [msk_ne c] at hq
      have : H' q = some o := g.h _ _ (by rw [upd_ne c]; exact hq)
      rw [msk_ne c, upd_ne c, upd_ne (fun z => by rw [z, hp] at this; cases this)]
      exact this
  · cases e : H p with
    | none => rfl
    | some o =>
      have := g.h p o (by rw [upd_ne npx]; exact e)
      rw [hp] at this
      cases this
  · exact upd_same
  · rw [upd_ne npx, upd_same]
theorem rest_runX {K : PySem.W.Frag} {x : Addr} {v : V} {r : Int} {H : Hp} {Q : VK} {E : XK} {t1 t2 : TS} (h2 : r < 2) (k : E (.ref (Γ.cls 18)) none H) :
    tSeq (tIfS (tTest (tOp (rI0 fun i j => .bl (decide (i < j))) (tVar 1) (tC (.int 2)))) (fun _ _ H => E (.ref (Γ.cls 18)) none H) t1) t2 { nx := fun _ H' => Q .non H', rt := Q } [some (.ref x), some (.int r), some v, none] H := by
  refine ⟨_, rfl, r, 2, rfl, rfl, _, rfl, ?_⟩
  dsimp only
  rw [if_pos (decide_eq_true h2)]
  exact k
/-- the class c is made by its __init__ -/
def MkrS (P : Program) (w : World) (mg : Str → Option Value) (base : Heap) (CX : CXT) (x : Str) (c : Nat) (k : Nat) (ps : List Str) (sp : Sp) : Prop := ∃ f fd, Mk Γ.K (Γ.cls c) f ∧ FnOk P w Γ.K mg base CX k f fd ps sp ∧ mg x = some (.ref (Γ.cls c)) ∧ Binds Γ.K fd ps []
/-- the method m of Line and of Rest keeps its promises -/
def CalM (P : Program) (w : World) (mg : Str → Option Value) (base : Heap) (CX : CXT) (m : Str) (k : Nat) (ps ps' : List Str) (sp sp' : Sp) : Prop := ∃ f fd f' fd', FnOk P w Γ.K mg base CX k f fd ps sp ∧ FnOk P w Γ.K mg base CX k f' fd' ps' sp' ∧ Meth Γ.K (Γ.cls 2) m f ∧ Meth Γ.K (Γ.cls 3) m f' ∧ Binds Γ.K fd ps [] ∧ Binds Γ.K fd' ps' []
/-- what Scale.__init__ needs to be called by name -/
structure BI (fS : Addr) : Prop where
  r : ClX.CRead Γ.K (Γ.cls 6) (.type "type")
  c : PySem.W.findCls Γ.K (.ref (Γ.cls 6)) (.type "type") "__init__" = some (.val (.ref fS))
  k : PySem.W.keepIn Γ.K (.ref fS) = true
end
section
open PySem.W
theorem kit_cls {K : PySem.W.Frag} {a b : Addr} {cd : ClassData} (h : PySem.W.clsIn K a = some cd) (hb : PySem.W.isClsIn K b = true) (ht : PySem.W.typeIn K (.ref b) = some (.type "type")) (ne : a ≠ b) (hne : cd.mro.isEmpty = false) : PySem.W.kitOne K (.ref a) (.ref b) = some (cd.mro.contains (.ref b)) := by
  unfold PySem.W.kitOne
  rw [if_neg (by intro q; exact ne (Value.ref.inj (beq_iff_eq.mp q)))]
  unfold PySem.W.kitCls
  have hb' : (PySem.W.clsIn K b).isSome = true := hb
  have e2 : ((PySem.W.clsIn K b).isSome && PySem.W.typeIn K (.ref b) == some (.type "type")) = true := by rw [hb', ht]; rfl
  show (if ((PySem.W.clsIn K b).isSome && PySem.W.typeIn K (.ref b) == some (.type "type")) = true then PySem.W.subIn K (.ref a) (.ref b) else none) = _
  rw [if_pos e2]
  show PySem.W.mroIn K a (.ref b) = _
  unfold PySem.W.mroIn
  rw [h, Option.bind_some, if_neg (by rw [hne]; exact Bool.false_ne_true)]
theorem kit_no {K : PySem.W.Frag} {a b c : Addr} {cd : ClassData} (h : PySem.W.clsIn K a = some cd) (ne : a ≠ b) (ne' : c ≠ b) (hb : PySem.W.isClsIn K b = true) (ht : PySem.W.typeIn K (.ref b) = some (.type "type")) (hm : cd.mro = [.ref a, .ref c, .type "object"] := by rfl) : PySem.W.kitOne K (.ref a) (.ref b) = some false := by
  rw [kit_cls h hb ht ne (by rw [hm]; rfl), hm]
  congr 1
  rw [Bool.eq_false_iff]
  intro q
  rw [List.contains_iff_mem] at q
  simp only [List.mem_cons, Value.ref.injEq, reduceCtorEq, or_false, List.not_mem_nil] at q
  rcases q with q | q
  · exact ne q.symm
  · exact ne' q.symm
theorem kit_up {K : PySem.W.Frag} {a c : Addr} {cd : ClassData} (h : PySem.W.clsIn K a = some cd) (hb : PySem.W.isClsIn K c = true) (ht : PySem.W.typeIn K (.ref c) = some (.type "type")) (hm : cd.mro = [.ref a, .ref c, .type "object"] := by rfl) : PySem.W.kitOne K (.ref a) (.ref c) = some true := by
  by_cases e : a = c
  · subst e
    unfold PySem.W.kitOne
    rw [if_pos (by simp)]
  · rw [kit_cls h hb ht e (by rw [hm]; rfl), hm]
    congr 1
    rw [List.contains_iff_mem]
    simp
end
/-- an int or a bool -/
inductive IB
  | i (k : Int)
  | b (x : Bool)
  deriving DecidableEq, Inhabited
section
variable [Γ : Ctx] {ρ ρ' : En} {m : Md}
instance : Scal IB := ⟨fun | .i k => .int k | .b x => .bl x⟩
instance : NotNone IB := ⟨fun {H v a} h => by
  cases a with
  | i k => cases h; exact V.noConfusion
  | b x => cases h; exact V.noConfusion⟩
theorem dr_IBi {t : TE} {k : Int} (h : DR ρ t (tl m k)) : DR ρ t (tl m (IB.i k)) := h
theorem dr_IBb {t : TE} {x : Bool} (h : DR ρ t (tl m x)) : DR ρ t (tl m (IB.b x)) := h
theorem dr_unI {t : TE} {o : Option IB} {k : Int} (h : DR ρ t (tl m o)) (e : o = some (.i k)) : DR ρ t (tl m k) := by
  subst e
  exact h
theorem dr_unB {t : TE} {o : Option IB} {x : Bool} (h : DR ρ t (tl m o)) (e : o = some (.b x)) : DR ρ t (tl m x) := by
  subst e
  exact h
end
end G

namespace G.k31
open PySem L2 G
def topS (i : Nat) : Stmt := PySem.Challenge.pw_swapbook_k31_scales.main.body.getD i (.Pass ⟨0, 0, 0, 0⟩)

abbrev vadd (one other : List Int) : List Int := (one.zip other).map fun p => p.1 + p.2
abbrev vsub (one other : List Int) : List Int := (one.zip other).map fun p => p.1 - p.2
abbrev vscl (l : List Int) (c : Int) : List Int := l.map fun x => x * c
abbrev vdot (one other : List Int) : Int := ((one.zip other).map fun p => p.1 * p.2).sum
theorem np_of {n : Nat} {x y : Int} (h : y.natAbs < 2 ^ n) (hn : n ≤ 9000) : Builtin.divisionGoesByPylong x y = false := by
  by_cases c : y.natAbs = 0
  · exact PyProof.noPylong_of_log2 (by rw [c]; decide)
  · exact PyProof.noPylong_of_log2 (Nat.lt_of_lt_of_le ((Nat.log2_lt c).mpr h) hn)

abbrev flagsv (c : Nat) : List Bool := [decide (c = 10), decide (c = 11), decide (c = 12), decide (c = 13), decide (c = 14), decide (c = 15), decide (c = 16), decide (c = 17), decide (c = 18), decide (c = 19), decide (c = 20), decide (c = 21), decide (c = 22), decide (c = 23), decide (c = 24), decide (c = 25), decide (c = 26), decide (c = 27), decide (c = 28)]
abbrev namesv (s : PySem.Str) : List Bool := (["NotAlike", "BadWares", "TooMany", "BadSwap", "BadBasket", "BadRoad", "Endless", "TooGreat", "BadRest", "BadScale", "OtherWares", "BadBaskets", "NotKept", "OtherBook", "NoLine", "BadNames", "NoBook", "NoName", "NoSwap"] : List PySem.Str).map fun x => decide (x = s)

abbrev entry (s : List Int) (k most : Int) : Int :=
  if (s.length : Int) = 0 then 0 else
  if nth s (k % s.length) % 2 = 1 then ((List.range (min 59 (k.fdiv s.length)).toNat).foldl (fun n _ => n.fdiv (2 * most - 1)) (nth s (k % s.length) / 2)) % (2 * most - 1) - most + 1 else
  let m0 := nth s (k % s.length) / 2 * (1 + k * k) % most
  let m1 := if (nth s (k % s.length) / 2 + k) % 3 = 1 then m0 % 7 else m0
  let m2 := if (nth s (k % s.length) / 2 + k) % 7 = 2 then 0 else m1
  if nth s (k % s.length) / 2 / 2 % 2 = 1 then 0 - m2 else m2
theorem entry_lt (s : List Int) (k most : Int) (h : 7 ≤ most) : -most < entry s k most ∧ entry s k most < most := by
  have a := fun x => Int.emod_nonneg x (b := most) (by omega)
  have b := fun x => Int.emod_lt_of_pos x (b := most) (by omega)
  have a' := fun x => Int.emod_nonneg x (b := 2 * most - 1) (by omega)
  have b' := fun x => Int.emod_lt_of_pos x (b := 2 * most - 1) (by omega)
  unfold entry
  split
  · omega
  · split
    · have := a' ((List.range (min 59 (k.fdiv s.length)).toNat).foldl (fun n _ => n.fdiv (2 * most - 1)) (nth s (k % s.length) / 2))
      have := b' ((List.range (min 59 (k.fdiv s.length)).toNat).foldl (fun n _ => n.fdiv (2 * most - 1)) (nth s (k % s.length) / 2))
      omega
    · have := a (nth s (k % s.length) / 2 * (1 + k * k))
      have := b (nth s (k % s.length) / 2 * (1 + k * k))
      dsimp only
      repeat' split
      all_goals omega

abbrev wghv (s : Scl) (b : List Int) : Int := match s.rest with
  | none => vdot s.weights b
  | some r => vdot s.weights b % r
def SclOk (s : Scl) : Prop := ∀ r, s.rest = some r → 2 ≤ r
def MulOk (s : Scl) (b : List Int) : Prop := ∀ p ∈ s.weights.zip b, IntMulOk p.1 p.2

theorem fold_dot : ∀ (l : List (Int × Int)) (a : Int), l.foldl (fun t p => t + p.1 * p.2) a = a + (l.map fun p => p.1 * p.2).sum
  | [], a => by simp
  | p :: l, a => by
    rw [List.foldl_cons, fold_dot l]
    simp only [List.map_cons, List.sum_cons]
    omega
abbrev restv (c : Int) : Int := if c % 4 = 0 then 1 - c / 4 % 3 * (c / 12 % 10 ^ (59 : Int).toNat) else if c % 4 = 1 then 2 + c / 4 % 2 else 2 + c / 4 % 10 ^ (59 : Int).toNat
theorem restv_lt (c : Int) : (restv c).natAbs < 2 ^ 200 := by
  have h0 : (0 : Int) < 10 ^ (59 : Int).toNat := by decide +kernel
  have h1 : ((10 : Int) ^ (59 : Int).toNat) * 4 < 2 ^ 200 := by decide +kernel
  have a1 := Int.emod_nonneg (c / 12) (b := 10 ^ (59 : Int).toNat) (by omega)
  have a2 := Int.emod_lt_of_pos (c / 12) h0
  have b1 := Int.emod_nonneg (c / 4) (b := 10 ^ (59 : Int).toNat) (by omega)
  have b2 := Int.emod_lt_of_pos (c / 4) h0
  have e : (2 : Int) ^ 200 = ((2 ^ 200 : Nat) : Int) := by decide +kernel
  rw [e] at h1
  unfold restv
  generalize (10 : Int) ^ (59 : Int).toNat = T at *
  generalize c / 12 % T = u at *
  generalize (2 ^ 200 : Nat) = Z at *
  split
  · have h3 : c / 4 % 3 = 0 ∨ c / 4 % 3 = 1 ∨ c / 4 % 3 = 2 := by omega
    rcases h3 with h | h | h <;> rw [h] <;> omega
  · split <;> omega
theorem cut_len {l : List Int} {lo hi : Option Int} : (cut l lo hi).length ≤ l.length := by
  unfold cut
  rw [List.length_take, List.length_drop]
  omega
theorem ent200 (s : List Int) (k : Int) : (entry s k (10 ^ (60 : Int).toNat)).natAbs < 2 ^ 200 := by
  have h := entry_lt s k ((10 : Int) ^ (60 : Int).toNat) (by decide)
  have h2 : ((10 : Int) ^ (60 : Int).toNat).natAbs < 2 ^ 200 := by decide +kernel
  omega
theorem ents_ok {s : List Int} {n : Int} {f : Nat → Int} (h : 0 ≤ n) : (((List.range n.toNat).map fun (j : Nat) => entry s (f j) (10 ^ (60 : Int).toNat)).length : Int) = n ∧ ∀ x ∈ (List.range n.toNat).map fun (j : Nat) => entry s (f j) (10 ^ (60 : Int).toNat), x.natAbs < 2 ^ 200 := by
  refine ⟨by rw [List.length_map, List.length_range]; omega, fun x hx => ?_⟩
  obtain ⟨j, _, rfl⟩ := List.mem_map.mp hx
  exact ent200 _ _
@[irreducible] def askv (s : Scl) (b : List Int) (w : Int) : Option IB × Option Exn := if s.weights.length ≠ b.length then (none, some ⟨14, none⟩) else if w = 0 then (some (.i (wghv s b)), none) else (some (.b (decide (wghv s b = 0))), none)
theorem askv1 {s : Scl} {b : List Int} {w : Int} (h : s.weights.length ≠ b.length) : askv s b w = (none, some ⟨14, none⟩) := by
  unfold askv
  exact if_pos h
theorem askv2 {s : Scl} {b : List Int} {w : Int} (h : s.weights.length = b.length) (h' : w = 0) : askv s b w = (some (.i (wghv s b)), none) := by
  unfold askv
  exact (if_neg fun z => z h).trans (if_pos h')
theorem askv3 {s : Scl} {b : List Int} {w : Int} (h : s.weights.length = b.length) (h' : w ≠ 0) : askv s b w = (some (.b (decide (wghv s b = 0))), none) := by
  unfold askv
  exact (if_neg fun z => z h).trans (if_neg h')
theorem cut262 {l : List Int} : (cut l (some 2) (some 62)).length ≤ 60 ∧ (cut l (some 2) (some 62)).length ≤ l.length - 2 := by
  rw [cut_mid l (by decide) (by decide), List.length_take, List.length_drop]
  exact ⟨Nat.min_le_left _ _, Nat.min_le_right _ _⟩
def Sm (l : List Int) : Prop := ∀ x ∈ l, x.natAbs < 2 ^ 200
theorem sm_mul {s : Scl} {b : List Int} (h : Sm s.weights) (h' : Sm b) : MulOk s b := fun p hp => mul_ok (n := 200) (m := 200) (h _ (List.of_mem_zip hp).1) (h' _ (List.of_mem_zip hp).2) (by decide)
theorem sm_mod {l : List Int} {r : Int} (h : 2 ≤ r) (h' : r.natAbs < 2 ^ 200) : Sm (l.map (· % r)) := fun x hx => by
  obtain ⟨y, _, rfl⟩ := List.mem_map.mp hx
  have := Int.emod_nonneg y (b := r) (by omega)
  have := Int.emod_lt_of_pos y (b := r) (by omega)
  show (y % r).natAbs < _
  omega
theorem vdot_mod {r : Int} : ∀ (l b : List Int), vdot (l.map (· % r)) b % r = vdot l b % r
  | [], b => rfl
  | x :: l, [] => rfl
  | x :: l, y :: b => by
    show (x % r * y + vdot (l.map (· % r)) b) % r = (x * y + vdot l b) % r
    rw [Int.add_emod, vdot_mod l b, Int.mul_emod, Int.emod_emod_of_dvd _ (Int.dvd_refl r), ← Int.mul_emod, ← Int.add_emod]
theorem sm_neg {l : List Int} (h : Sm l) (a b : Int) (n : Nat) (ha : a ∈ l) (hb : b ∈ l) : Sm ([a, 0 - b] ++ List.replicate n 0) := fun x hx => by
  rcases List.mem_append.mp hx with h1 | h1
  · rcases List.mem_cons.mp h1 with h2 | h2
    · rw [h2]; exact h _ ha
    · rw [List.mem_singleton.mp h2]
      have := h _ hb
      omega
  · rw [List.eq_of_mem_replicate h1]
    exact Nat.pow_pos (by decide)

section
variable [Γ : Ctx] {P : Program} {w : World} {mg : Str → Option Value} {base : Heap}

def SX : List Nat := [14, 18]
theorem sx_rng : ∀ c ∈ SX, 10 ≤ c ∧ c < 29 := by decide

abbrev s_Scale___init__ : Stmt := inClass (topS 25) 0
theorem sc_Scale___init__ : FnScope ["self", "weights"] ["self", "weights"] (defScope s_Scale___init__) := ⟨rfl, rfl, rfl, by decide +kernel, rfl, by decide +kernel, by decide +kernel⟩
theorem ok_Scale_init {f : Addr} {fd : FuncData} (F : Fun Γ.K "__init__" "Scale.__init__" s_Scale___init__ f fd) (B : Blt mg) (T : SF mg) : FnOk P w Γ.K mg base CX0 1 f fd ["self", "weights"] spI_Scl := by
  refine F.ok sc_Scale___init__ (fun vs H Q E h => by obtain ⟨_, _, _, _, _, _, rfl, _⟩ := h; rfl) (fun cdv A outer s H vs Q E hr h => ?_)
  obtain ⟨x, C, dx, v, fs, l, rfl, hC, hx, hl, hv, k⟩ := h
  refine ⟨_, (pss_one (ps_fld (pv 0) (pe_callTy call_list_of (by rfl) B.list (by exact (by decide +kernel : bootBuiltins ("list" : Str) = some (Value.type "list"))) (pa_cons (pv 1) pa_nil)) rfl)), ?_⟩
  obtain ⟨p, xs, rfl, hs, hp⟩ := hv
  have hcl : Cls Γ.K C ∧ NoAttr Γ.K C "weights" := by
    rcases hC with rfl | rfl
    · exact ⟨T.c2.cl, T.c2.na _ (by simp)⟩
    · exact ⟨T.c3.cl, T.c3.na _ (by simp)⟩
  have exs : xs = l.map V.int := paired_scal hp
  subst exs
  exact ⟨_, rfl, p, _, rfl, .inl hs, fun q hq => ⟨_, rfl, x, C, dx, fs, rfl, by rw [upd_ne (fun c => by rw [c, hq] at hx; cases hx)]; exact hx, hcl.1, hcl.2, by omega, k q hq⟩⟩
abbrev s_Rest___init__ : Stmt := inClass (topS 27) 0
theorem sc_Rest___init__ : FnScope ["self", "rest", "weights", "weight"] ["self", "rest", "weights"] (defScope s_Rest___init__) := ⟨rfl, rfl, rfl, by decide +kernel, rfl, by decide +kernel, by decide +kernel⟩
theorem ok_Rest_init {f fS : Addr} {fd fdS : FuncData} (F : Fun Γ.K "__init__" "Rest.__init__" s_Rest___init__ f fd) (B : Blt mg) (T : SF mg) (FS : FnOk P w Γ.K mg base CX0 1 fS fdS ["self", "weights"] spI_Scl) (bS : Binds Γ.K fdS ["self", "weights"] []) (I6 : BI fS) : FnOk P w Γ.K mg base CX0 2 f fd ["self", "rest", "weights"] spI_Rest := by
  have SC := sc_Rest___init__
  refine F.ok SC (fun vs H Q E h => by obtain ⟨_, _, _, _, _, _, rfl, _⟩ := h; rfl) (fun cdv A outer s H vs Q E hr h => ?_)
  obtain ⟨x, dx, v, r, l, B0, rfl, hx, hB, hs, hv, h2, k⟩ := h
  refine ⟨_, (pss_cons (ps_if (pt_cmpR op_lt (pv 1) pe_int (nomark _)) pss_never pss_nil) (pss_cons (ps_fld (pv 0) (pv 1) rfl) (pss_one (ps_expr (pe_binit (E := fun _ _ _ _ => False) rfl T.m6 I6.r I6.c I6.k FS (hr.mono (by decide)) bS pass0S (pa_cons (pv 0) (pa_cons (pe_lc (own := [("weight", 3)]) (g := (gName 3)) (tt := tYes) rfl SC.nd (pi_list (pe_lok (pv 2))) (blkOk_by (N := ["self", "rest", "weights", "weight"]) (sc := (defScope s_Rest___init__)) (by decide +kernel)) (fun _ _ _ _ _ => (pg_name (i := 3) SC.nd rfl (Or.inl rfl))) (fun _ _ _ _ _ => pts_nil) (fun _ _ _ _ _ => (pe_op op_mod (pv 3) (pv 1)))) pa_nil))))))), ?_⟩
  exact rest_run rfl T hx hB hs hv h2 k (dr_lc0 (n := true) (di_sc rfl (dr_var rfl)) (gv_name (by decide)) (fun x hx => (dg_name (by exact of_decide_eq_true rfl))) (fun x hx => (dr_mod (dr_var rfl) (dr_var rfl) (by omega))))
theorem okX_Rest_init {f fS : Addr} {fd fdS : FuncData} (F : Fun Γ.K "__init__" "Rest.__init__" s_Rest___init__ f fd) (B : Blt mg) (T : SF mg) (FS : FnOk P w Γ.K mg base CX0 1 fS fdS ["self", "weights"] spI_Scl) (bS : Binds Γ.K fdS ["self", "weights"] []) (I6 : BI fS) (XR_BadRest : XR1 mg "BadRest" 18) : FnOk P w Γ.K mg base (L2.CX P w) 4 f fd ["self", "rest", "weights"] sprI_Rest := by
  have SC := sc_Rest___init__
  refine F.okX SC (fun vs H Q E h => by obtain ⟨_, _, _, rfl, _⟩ := h; rfl) (fun cdv A outer s H vs Q E hr h => ?_)
  obtain ⟨x, v, r, rfl, h2, k⟩ := h
  refine ⟨_, (pss_cons (ps_if (pt_cmpR op_lt (pv 1) pe_int (nomark _)) (pss_one (ps_raise rfl takes_def (pmk_own PySem.F.excBase_ValueError XR_BadRest.ex XR_BadRest.mg XR_BadRest.kp (raises_x rfl XR_BadRest) rfl))) pss_nil) (pss_cons (ps_fld (pv 0) (pv 1) rfl) (pss_one (ps_expr (pe_binit (E := fun _ _ _ _ => False) rfl T.m6 I6.r I6.c I6.k FS (hr.mono (by decide)) bS pass0S (pa_cons (pv 0) (pa_cons (pe_lc (own := [("weight", 3)]) (g := (gName 3)) (tt := tYes) rfl SC.nd (pi_list (pe_lok (pv 2))) (blkOk_by (N := ["self", "rest", "weights", "weight"]) (sc := (defScope s_Rest___init__)) (by decide +kernel)) (fun _ _ _ _ _ => (pg_name (i := 3) SC.nd rfl (Or.inl rfl))) (fun _ _ _ _ _ => pts_nil) (fun _ _ _ _ _ => (pe_op op_mod (pv 3) (pv 1)))) pa_nil))))))), ?_⟩
  exact rest_runX (K := Γ.K) h2 k

abbrev s_look_alike : Stmt := topS 22
theorem sc_look_alike : FnScope ["one", "other"] ["one", "other"] (defScope s_look_alike) := ⟨rfl, rfl, rfl, by decide +kernel, rfl, by decide +kernel, by decide +kernel⟩
def v_look_alike (one : List Int) (other : List Int) : Unit := ()
def w_look_alike (one : List Int) (other : List Int) : Wf := ⟨one.length = other.length, sh (v_look_alike one other)⟩
theorem okF_look_alike {f : Addr} {fd : FuncData} (F : Fun Γ.K "look_alike" "look_alike" s_look_alike f fd) (B : Blt mg)      : FnOk P w Γ.K mg base CX0 1 f fd ["one", "other"] (sp2 w_look_alike) := by
  have SC := sc_look_alike
  refine fn2 F SC fun cdv A outer s H E hr => ⟨_, (pss_one (ps_if (pt_cmpR op_ne (pe_callB call_len_seq (by rfl) B.len PySem.boot_len (pa_cons (pv 0) pa_nil)) (pe_callB call_len_seq (by rfl) B.len PySem.boot_len (pa_cons (pv 1) pa_nil)) (nomark _)) pss_never pss_nil)), ?_⟩
  intro one other hp
  have hp : one.length = other.length := hp
  show DS [some (G.st one), some (G.st other)] _ _
  refine ds_if (dt_of (dr_ne2 (dr_len rfl (dr_bo (dr_var rfl))) (dr_len rfl (dr_bo (dr_var rfl))))) (fun hc => ?_) (fun hc => ?_)
  · skip
    exact ds_never (by simp at hc; omega)
  · try simp only [id, decide_eq_true_eq, decide_eq_false_iff_not, Bool.and_eq_true, Bool.or_eq_true, Bool.and_eq_false_iff, Bool.or_eq_false_iff, Bool.not_eq_true', Bool.not_eq_false', ne_eq, Decidable.not_not, Bool.true_eq_false, Bool.false_eq_true, false_or, or_false, true_and, and_true, not_false_eq_true, not_true_eq_false] at hc
    refine ds_next ?_
    rfl
theorem ok_look_alike (D : Dfn mg "look_alike" s_look_alike ["one", "other"]) (B : Blt mg)      : Cal P w mg base "look_alike" 1 ["one", "other"] (sp2 w_look_alike) := cal_of D fun f fd F => okF_look_alike F B  
def xr_look_alike (one : List Int) (other : List Int) (e_ : Exn) : Prop := one.length ≠ other.length ∧ e_ = ⟨10, none⟩
theorem okX_look_alike {f : Addr} {fd : FuncData} (F : Fun Γ.K "look_alike" "look_alike" s_look_alike f fd) (B : Blt mg)     (XR_NotAlike : XR1 mg "NotAlike" 10)  : FnOk P w Γ.K mg base (L2.CX P w) 3 f fd ["one", "other"] (spr2 xr_look_alike) := by
  have SC := sc_look_alike
  refine fnx2 F SC fun cdv A outer s H E hr => ?_
  have po := passes_of (X := cxOf (L2.CX P w) P w Γ.K mg base ["one", "other"] "look_alike" (defScope s_look_alike) f cdv A outer s H E) rfl
  refine ⟨_, fun Wx tk => by refine pss_fix (pss_one (ps_if (pt_cmpR op_ne (pe_callB call_len_seq (by rfl) B.len PySem.boot_len (pa_cons (pv 0) pa_nil)) (pe_callB call_len_seq (by rfl) B.len PySem.boot_len (pa_cons (pv 1) pa_nil)) (nomark _)) (pss_one (ps_raise rfl tk (pmk_own PySem.F.excBase_ValueError XR_NotAlike.ex XR_NotAlike.mg XR_NotAlike.kp (raises_x rfl XR_NotAlike) rfl))) pss_nil)) ?_; (try simp only [nox_K, cxOf_K]) <;> rfl, ?_⟩
  intro one other e_ hp Wx
  have hp : one.length ≠ other.length ∧ e_ = ⟨10, none⟩ := hp
  show DSX _ _ [some (G.st one), some (G.st other)] _ _
  obtain ⟨hne, he⟩ := hp
  refine dsx_if (dt_of (dr_ne2 (dr_len rfl (dr_bo (dr_var rfl))) (dr_len rfl (dr_bo (dr_var rfl))))) (fun hc => ?_) (fun hc => ?_)
  · try simp only [id, decide_eq_true_eq, decide_eq_false_iff_not, Bool.and_eq_true, Bool.or_eq_true, Bool.and_eq_false_iff, Bool.or_eq_false_iff, Bool.not_eq_true', Bool.not_eq_false', ne_eq, Decidable.not_not, Bool.true_eq_false, Bool.false_eq_true, false_or, or_false, true_and, and_true, not_false_eq_true, not_true_eq_false] at hc
    refine dsx_raise (c := 10) ?_
    exact he.symm
  · try simp only [id, decide_eq_true_eq, decide_eq_false_iff_not, Bool.and_eq_true, Bool.or_eq_true, Bool.and_eq_false_iff, Bool.or_eq_false_iff, Bool.not_eq_true', Bool.not_eq_false', ne_eq, Decidable.not_not, Bool.true_eq_false, Bool.false_eq_true, false_or, or_false, true_and, and_true, not_false_eq_true, not_true_eq_false] at hc
    refine dsx_next ?_
    exact False.elim (by omega)
abbrev s_weighed : Stmt := topS 23
theorem sc_weighed : FnScope ["one", "other", "left", "right"] ["one", "other"] (defScope s_weighed) := ⟨rfl, rfl, rfl, by decide +kernel, rfl, by decide +kernel, by decide +kernel⟩
def v_weighed (one : List Int) (other : List Int) : Int := vdot one other
def w_weighed (one : List Int) (other : List Int) : Wf := ⟨one.length = other.length ∧ ∀ p ∈ one.zip other, IntMulOk p.1 p.2, sh (v_weighed one other)⟩
theorem okF_weighed {f : Addr} {fd : FuncData} (F : Fun Γ.K "weighed" "weighed" s_weighed f fd) (B : Blt mg) (C_look_alike : Cal P w mg base "look_alike" 1 ["one", "other"] (sp2 w_look_alike))     : FnOk P w Γ.K mg base CX0 2 f fd ["one", "other"] (sp2 w_weighed) := by
  obtain ⟨f_look_alike, fd_look_alike, G_look_alike, m_look_alike, k_look_alike, b_look_alike⟩ := C_look_alike
  have SC := sc_weighed
  refine fn2 F SC fun cdv A outer s H E hr => ⟨_, (pss_cons (ps_expr (pe_call G_look_alike (hr.mono (by decide)) rfl m_look_alike k_look_alike b_look_alike .nil pass0 (pa_cons (pv 0) (pa_cons (pv 1) pa_nil)))) (pss_one (ps_ret (pe_callB (cr_sum rfl) (by rfl) B.sum (by decide +kernel) (pa_cons (pe_lc (own := [("left", 2), ("right", 3)]) (g := (gTup Γ.K 2 (gCons (gName 2) (gCons (gName 3) gNil)))) (tt := tYes) rfl SC.nd (pi_zip rfl B.zip (pa_cons (pe_lok (pv 0)) (pa_cons (pv 1) pa_nil))) (blkOk_by (N := ["one", "other", "left", "right"]) (sc := (defScope s_weighed)) (by decide +kernel)) (fun _ _ _ _ _ => by refine pg_fix (pg_tup rfl (pgs_cons (pg_name (i := 2) SC.nd rfl (Or.inl rfl)) (pgs_cons (pg_name (i := 3) SC.nd rfl (Or.inl rfl)) pgs_nil))) ?_; (try simp only [blk_K, nox_K, cxOf_K]) <;> rfl) (fun _ _ _ _ _ => pts_nil) (fun _ _ _ _ _ => (pe_op op_mulK (pv 2) (pv 3)))) pa_nil))))), ?_⟩
  intro one other hp
  have hp : one.length = other.length ∧ ∀ p ∈ one.zip other, IntMulOk p.1 p.2 := hp
  show DS [some (G.st one), some (G.st other), none, none] _ _
  refine ds_seq ?_
  refine ds_drop (dr_call2 (da_sh (dr_var rfl) (da_sh (dr_var rfl) da_nil)) (by exact hp.1) reb_sc) ?_
  show DS _ _ _
  try simp only [setE, wipeE, List.set_cons_zero, List.set_cons_succ]
  refine ds_ret (dr_sum rfl (dr_bo (dr_frz (n := true) (dr_lc0 (n := true) (di_zip  rfl (fun _ => rfl) (fun _ => rfl) (dr_var rfl) (dr_var rfl)) (gv_two (by decide) (by decide)) (fun x hx => (dg_pr rfl (by exact of_decide_eq_true rfl) (by exact of_decide_eq_true rfl))) (fun x hx => (dr_mul (dr_var rfl) (dr_var rfl) (by exact hp.2 _ hx))))))) ?_
  refine congrArg (sh (α := Int)) (?_ : _ = (vdot one other : Int))
  first | rfl | (simp_all; done)
theorem ok_weighed (D : Dfn mg "weighed" s_weighed ["one", "other"]) (B : Blt mg) (C_look_alike : Cal P w mg base "look_alike" 1 ["one", "other"] (sp2 w_look_alike))     : Cal P w mg base "weighed" 2 ["one", "other"] (sp2 w_weighed) := cal_of D fun f fd F => okF_weighed F B C_look_alike 
def xr_weighed (one : List Int) (other : List Int) (e_ : Exn) : Prop := one.length ≠ other.length ∧ e_ = ⟨10, none⟩
theorem okX_weighed {f : Addr} {fd : FuncData} (F : Fun Γ.K "weighed" "weighed" s_weighed f fd) (B : Blt mg) (CX_look_alike : CalX P w mg base "look_alike" 3 ["one", "other"] (spo (sp2 w_look_alike) (spr2 xr_look_alike)))     : FnOk P w Γ.K mg base (L2.CX P w) 4 f fd ["one", "other"] (spr2 xr_weighed) := by
  obtain ⟨fX_look_alike, fdX_look_alike, GX_look_alike, mX_look_alike, kX_look_alike, bX_look_alike⟩ := CX_look_alike
  have SC := sc_weighed
  refine fnx2 F SC fun cdv A outer s H E hr => ?_
  have po := passes_of (X := cxOf (L2.CX P w) P w Γ.K mg base ["one", "other", "left", "right"] "weighed" (defScope s_weighed) f cdv A outer s H E) rfl
  refine ⟨_, fun Wx tk => by refine pss_fix (pss_cons (ps_expr (pe_callS GX_look_alike (hr.mono (by decide)) rfl mX_look_alike kX_look_alike bX_look_alike (fun σ => passAt tk σ) (pa_cons (pv 0) (pa_cons (pv 1) pa_nil)))) pss_never) ?_; (try simp only [nox_K, cxOf_K]) <;> rfl, ?_⟩
  intro one other e_ hp Wx
  have hp : one.length ≠ other.length ∧ e_ = ⟨10, none⟩ := hp
  show DSX _ _ [some (G.st one), some (G.st other), none, none] _ _
  refine dsx_seq ?_
  refine dsx_dropE (de_call2 (x := ⟨10, none⟩) (da_sh (dr_var rfl) (da_sh (dr_var rfl) da_nil)) (by exact ⟨hp.1, rfl⟩) ?_)
  exact hp.2.symm
abbrev s_Scale_summed : Stmt := inClass (topS 25) 1
theorem sc_Scale_summed : FnScope ["self", "basket"] ["self", "basket"] (defScope s_Scale_summed) := ⟨rfl, rfl, rfl, by decide +kernel, rfl, by decide +kernel, by decide +kernel⟩
def v_Scale_summed (self : Scl) (basket : List Int) : Int := vdot self.weights basket
def w_Scale_summed (self : Scl) (basket : List Int) : Wf := ⟨self.weights.length = basket.length ∧ MulOk self basket, sh (v_Scale_summed self basket)⟩
theorem okF_Scale_summed {f : Addr} {fd : FuncData} (F : Fun Γ.K "summed" "Scale.summed" s_Scale_summed f fd) (B : Blt mg) (C_weighed : Cal P w mg base "weighed" 2 ["one", "other"] (sp2 w_weighed))    (XSF : SF mg)  : FnOk P w Γ.K mg base CX0 3 f fd ["self", "basket"] (sp2 w_Scale_summed) := by
  obtain ⟨f_weighed, fd_weighed, G_weighed, m_weighed, k_weighed, b_weighed⟩ := C_weighed
  have SC := sc_Scale_summed
  refine fn2 F SC fun cdv A outer s H E hr => ⟨_, (pss_cons (ps_if (pt_cmpR op_ne (pe_callB call_len_seq (by rfl) B.len PySem.boot_len (pa_cons (pv 1) pa_nil)) (pe_callB call_len_seq (by rfl) B.len PySem.boot_len (pa_cons (pe_fld (pv 0) rfl) pa_nil)) (nomark _)) pss_never pss_nil) (pss_one (ps_ret (pe_call G_weighed (hr.mono (by decide)) rfl m_weighed k_weighed b_weighed .nil pass0 (pa_cons (pe_fld (pv 0) rfl) (pa_cons (pv 1) pa_nil)))))), ?_⟩
  intro self basket hp
  have hp : self.weights.length = basket.length ∧ MulOk self basket := hp
  show DS [some (G.st self), some (G.st basket)] _ _
  refine ds_seq ?_
  refine ds_if (dt_of (dr_ne2 (dr_len rfl (dr_bo (dr_var rfl))) (dr_len rfl (dr_bo (dr_Scl_weights rfl XSF (dr_var rfl)))))) (fun hc => ?_) (fun hc => ?_)
  · skip
    exact ds_never (by simp at hc; omega)
  · try simp only [id, decide_eq_true_eq, decide_eq_false_iff_not, Bool.and_eq_true, Bool.or_eq_true, Bool.and_eq_false_iff, Bool.or_eq_false_iff, Bool.not_eq_true', Bool.not_eq_false', ne_eq, Decidable.not_not, Bool.true_eq_false, Bool.false_eq_true, false_or, or_false, true_and, and_true, not_false_eq_true, not_true_eq_false] at hc
    refine ds_next ?_
    show DS _ _ _
    try simp only [setE, wipeE, List.set_cons_zero, List.set_cons_succ]
    refine ds_ret (dr_call2 (da_sh (dr_Scl_weights rfl XSF (dr_var rfl)) (da_sh (dr_var rfl) da_nil)) (by exact hp) reb_sc) ?_
    refine congrArg (sh (α := Int)) (?_ : _ = (vdot self.weights basket : Int))
    first | rfl | (simp_all; done)
def xr_Scale_summed (self : Scl) (basket : List Int) (e_ : Exn) : Prop := basket.length ≠ self.weights.length ∧ e_ = ⟨14, none⟩
theorem okX_Scale_summed {f : Addr} {fd : FuncData} (F : Fun Γ.K "summed" "Scale.summed" s_Scale_summed f fd) (B : Blt mg) (CX_weighed : CalX P w mg base "weighed" 4 ["one", "other"] (spo (sp2 w_weighed) (spr2 xr_weighed)))    (XSF : SF mg) (XR_BadBasket : XR1 mg "BadBasket" 14)  : FnOk P w Γ.K mg base (L2.CX P w) 5 f fd ["self", "basket"] (spr2 xr_Scale_summed) := by
  obtain ⟨fX_weighed, fdX_weighed, GX_weighed, mX_weighed, kX_weighed, bX_weighed⟩ := CX_weighed
  have SC := sc_Scale_summed
  refine fnx2 F SC fun cdv A outer s H E hr => ?_
  have po := passes_of (X := cxOf (L2.CX P w) P w Γ.K mg base ["self", "basket"] "Scale.summed" (defScope s_Scale_summed) f cdv A outer s H E) rfl
  refine ⟨_, fun Wx tk => by refine pss_fix (pss_cons (ps_if (pt_cmpR op_ne (pe_callB call_len_seq (by rfl) B.len PySem.boot_len (pa_cons (pv 1) pa_nil)) (pe_callB call_len_seq (by rfl) B.len PySem.boot_len (pa_cons (pe_fld (pv 0) rfl) pa_nil)) (nomark _)) (pss_one (ps_raise rfl tk (pmk_own PySem.F.excBase_ValueError XR_BadBasket.ex XR_BadBasket.mg XR_BadBasket.kp (raises_x rfl XR_BadBasket) rfl))) pss_nil) (pss_one (ps_ret (pe_callS GX_weighed (hr.mono (by decide)) rfl mX_weighed kX_weighed bX_weighed (fun σ => passAt tk σ) (pa_cons (pe_fld (pv 0) rfl) (pa_cons (pv 1) pa_nil)))))) ?_; (try simp only [nox_K, cxOf_K]) <;> rfl, ?_⟩
  intro self basket e_ hp Wx
  have hp : basket.length ≠ self.weights.length ∧ e_ = ⟨14, none⟩ := hp
  show DSX _ _ [some (G.st self), some (G.st basket)] _ _
  obtain ⟨hne, he⟩ := hp
  refine dsx_seq ?_
  refine dsx_if (dt_of (dr_ne2 (dr_len rfl (dr_bo (dr_var rfl))) (dr_len rfl (dr_bo (dr_Scl_weights rfl XSF (dr_var rfl)))))) (fun hc => ?_) (fun hc => ?_)
  · try simp only [id, decide_eq_true_eq, decide_eq_false_iff_not, Bool.and_eq_true, Bool.or_eq_true, Bool.and_eq_false_iff, Bool.or_eq_false_iff, Bool.not_eq_true', Bool.not_eq_false', ne_eq, Decidable.not_not, Bool.true_eq_false, Bool.false_eq_true, false_or, or_false, true_and, and_true, not_false_eq_true, not_true_eq_false] at hc
    refine dsx_raise (c := 14) ?_
    exact he.symm
  · try simp only [id, decide_eq_true_eq, decide_eq_false_iff_not, Bool.and_eq_true, Bool.or_eq_true, Bool.and_eq_false_iff, Bool.or_eq_false_iff, Bool.not_eq_true', Bool.not_eq_false', ne_eq, Decidable.not_not, Bool.true_eq_false, Bool.false_eq_true, false_or, or_false, true_and, and_true, not_false_eq_true, not_true_eq_false] at hc
    refine dsx_next ?_
    show DSX _ _ _ _ _
    try simp only [setE, wipeE, List.set_cons_zero, List.set_cons_succ]
    refine dsx_of (ds_ret (dr_callS2 (da_sh (dr_Scl_weights rfl XSF (dr_var rfl)) (da_sh (dr_var rfl) da_nil)) (by exact absurd hp.1 (by omega)) reb_sc) ?_)
    exact False.elim (by omega)
abbrev s_Scale_weigh : Stmt := inClass (topS 25) 2
theorem sc_Scale_weigh : FnScope ["self", "basket"] ["self", "basket"] (defScope s_Scale_weigh) := ⟨rfl, rfl, rfl, by decide +kernel, rfl, by decide +kernel, by decide +kernel⟩
def v_Scale_weigh (self : Scl) (basket : List Int) : Int := wghv self basket
def w_Scale_weigh (self : Scl) (basket : List Int) : Wf := ⟨self.rest = none ∧ self.weights.length = basket.length ∧ MulOk self basket, sh (v_Scale_weigh self basket)⟩
theorem okF_Scale_weigh {f : Addr} {fd : FuncData} (F : Fun Γ.K "weigh" "Scale.weigh" s_Scale_weigh f fd) (B : Blt mg)     (XSF : SF mg) (CM_summed : CalM P w mg base CX0 "summed" 3 ["self", "basket"] ["self", "basket"] (sp2 w_Scale_summed) (sp2 w_Scale_summed))  : FnOk P w Γ.K mg base CX0 4 f fd ["self", "basket"] (sp2 w_Scale_weigh) := by
  obtain ⟨f_summed, fd_summed, f2_summed, fd2_summed, G_summed, G2_summed, M_summed, M2_summed, b_summed, b2_summed⟩ := CM_summed
  have SC := sc_Scale_weigh
  refine fn2 F SC fun cdv A outer s H E hr => ⟨_, (pss_one (ps_ret (pe_methS (E := fun _ _ _ _ => False) (pv 0) XSF.c2.cl XSF.c3.cl M_summed M2_summed G_summed G2_summed (hr.mono (by decide)) b_summed b2_summed pass0S (pa_cons (pv 1) pa_nil)))), ?_⟩
  intro self basket hp
  have hp : self.rest = none ∧ self.weights.length = basket.length ∧ MulOk self basket := hp
  show DS [some (G.st self), some (G.st basket)] _ _
  refine ds_ret (dr_methS hs_id hs_id (by decide +kernel) (by decide +kernel) (dr_var rfl) (da_sh (dr_var rfl) da_nil) (fun hq => (by exact hp.2)) (fun hq => (by exact hp.2)) reb_sc reb_sc) ?_
  refine congrArg (sh (α := Int)) (?_ : _ = (wghv self basket : Int))
  rw [wghv, hp.1]; rfl
def xr_Scale_weigh (self : Scl) (basket : List Int) (e_ : Exn) : Prop := basket.length ≠ self.weights.length ∧ e_ = ⟨14, none⟩
theorem okX_Scale_weigh {f : Addr} {fd : FuncData} (F : Fun Γ.K "weigh" "Scale.weigh" s_Scale_weigh f fd) (B : Blt mg)     (XSF : SF mg) (CMX_summed : CalM P w mg base (L2.CX P w) "summed" 5 ["self", "basket"] ["self", "basket"] (spo (sp2 w_Scale_summed) (spr2 xr_Scale_summed)) (spo (sp2 w_Scale_summed) (spr2 xr_Scale_summed)))  : FnOk P w Γ.K mg base (L2.CX P w) 6 f fd ["self", "basket"] (spr2 xr_Scale_weigh) := by
  obtain ⟨fX_summed, fdX_summed, fX2_summed, fdX2_summed, GX_summed, GX2_summed, MX_summed, MX2_summed, bX_summed, bX2_summed⟩ := CMX_summed
  have SC := sc_Scale_weigh
  refine fnx2 F SC fun cdv A outer s H E hr => ?_
  have po := passes_of (X := cxOf (L2.CX P w) P w Γ.K mg base ["self", "basket"] "Scale.weigh" (defScope s_Scale_weigh) f cdv A outer s H E) rfl
  refine ⟨_, fun Wx tk => by refine pss_fix (pss_one (ps_ret (pe_methS  (pv 0) XSF.c2.cl XSF.c3.cl MX_summed MX2_summed GX_summed GX2_summed (hr.mono (by decide)) bX_summed bX2_summed (fun σ => passAt tk σ) (pa_cons (pv 1) pa_nil)))) ?_; (try simp only [nox_K, cxOf_K]) <;> rfl, ?_⟩
  intro self basket e_ hp Wx
  have hp : basket.length ≠ self.weights.length ∧ e_ = ⟨14, none⟩ := hp
  show DSX _ _ [some (G.st self), some (G.st basket)] _ _
  refine dsx_retE (de_methS (z := ⟨14, none⟩) hs_r hs_r (by decide +kernel) (by decide +kernel) (dr_var rfl) (da_sh (dr_var rfl) da_nil) (fun hq => by exact ⟨hp.1, rfl⟩) (fun hq => by exact ⟨hp.1, rfl⟩) ?_)
  exact hp.2.symm
abbrev s_Rest_weigh : Stmt := inClass (topS 27) 1
theorem sc_Rest_weigh : FnScope ["self", "basket"] ["self", "basket"] (defScope s_Rest_weigh) := ⟨rfl, rfl, rfl, by decide +kernel, rfl, by decide +kernel, by decide +kernel⟩
def v_Rest_weigh (self : Scl) (basket : List Int) : Int := wghv self basket
def w_Rest_weigh (self : Scl) (basket : List Int) : Wf := ⟨self.rest.isSome = true ∧ SclOk self ∧ self.weights.length = basket.length ∧ MulOk self basket, sh (v_Rest_weigh self basket)⟩
theorem okF_Rest_weigh {f : Addr} {fd : FuncData} (F : Fun Γ.K "weigh" "Rest.weigh" s_Rest_weigh f fd) (B : Blt mg)     (XSF : SF mg) (CM_summed : CalM P w mg base CX0 "summed" 3 ["self", "basket"] ["self", "basket"] (sp2 w_Scale_summed) (sp2 w_Scale_summed))  : FnOk P w Γ.K mg base CX0 4 f fd ["self", "basket"] (sp2 w_Rest_weigh) := by
  obtain ⟨f_summed, fd_summed, f2_summed, fd2_summed, G_summed, G2_summed, M_summed, M2_summed, b_summed, b2_summed⟩ := CM_summed
  have SC := sc_Rest_weigh
  refine fn2 F SC fun cdv A outer s H E hr => ⟨_, (pss_one (ps_ret (pe_op op_mod (pe_methS (E := fun _ _ _ _ => False) (pv 0) XSF.c2.cl XSF.c3.cl M_summed M2_summed G_summed G2_summed (hr.mono (by decide)) b_summed b2_summed pass0S (pa_cons (pv 1) pa_nil)) (pe_fld (pv 0) rfl)))), ?_⟩
  intro self basket hp
  have hp : self.rest.isSome = true ∧ SclOk self ∧ self.weights.length = basket.length ∧ MulOk self basket := hp
  show DS [some (G.st self), some (G.st basket)] _ _
  obtain ⟨r_, hr_⟩ := Option.isSome_iff_exists.mp hp.1
  have h2_ := hp.2.1 _ hr_
  refine ds_ret (dr_mod (dr_methS hs_id hs_id (by decide +kernel) (by decide +kernel) (dr_var rfl) (da_sh (dr_var rfl) da_nil) (fun hq => (by exact hp.2.2)) (fun hq => (by exact hp.2.2)) reb_sc reb_sc) (dr_Scl_rest rfl XSF (dr_var rfl) (by exact hr_)) (by omega)) ?_
  refine congrArg (sh (α := Int)) (?_ : _ = (wghv self basket : Int))
  rw [wghv, hr_]; rfl
def xr_Rest_weigh (self : Scl) (basket : List Int) (e_ : Exn) : Prop := basket.length ≠ self.weights.length ∧ e_ = ⟨14, none⟩
theorem okX_Rest_weigh {f : Addr} {fd : FuncData} (F : Fun Γ.K "weigh" "Rest.weigh" s_Rest_weigh f fd) (B : Blt mg)     (XSF : SF mg) (CMX_summed : CalM P w mg base (L2.CX P w) "summed" 5 ["self", "basket"] ["self", "basket"] (spo (sp2 w_Scale_summed) (spr2 xr_Scale_summed)) (spo (sp2 w_Scale_summed) (spr2 xr_Scale_summed)))  : FnOk P w Γ.K mg base (L2.CX P w) 6 f fd ["self", "basket"] (spr2 xr_Rest_weigh) := by
  obtain ⟨fX_summed, fdX_summed, fX2_summed, fdX2_summed, GX_summed, GX2_summed, MX_summed, MX2_summed, bX_summed, bX2_summed⟩ := CMX_summed
  have SC := sc_Rest_weigh
  refine fnx2 F SC fun cdv A outer s H E hr => ?_
  have po := passes_of (X := cxOf (L2.CX P w) P w Γ.K mg base ["self", "basket"] "Rest.weigh" (defScope s_Rest_weigh) f cdv A outer s H E) rfl
  refine ⟨_, fun Wx tk => by refine pss_fix (pss_one (ps_ret (pe_op op_mod (pe_methS  (pv 0) XSF.c2.cl XSF.c3.cl MX_summed MX2_summed GX_summed GX2_summed (hr.mono (by decide)) bX_summed bX2_summed (fun σ => passAt tk σ) (pa_cons (pv 1) pa_nil)) (pe_fld (pv 0) rfl)))) ?_; (try simp only [nox_K, cxOf_K]) <;> rfl, ?_⟩
  intro self basket e_ hp Wx
  have hp : basket.length ≠ self.weights.length ∧ e_ = ⟨14, none⟩ := hp
  show DSX _ _ [some (G.st self), some (G.st basket)] _ _
  refine dsx_retE (de_op (de_methS (z := ⟨14, none⟩) hs_r hs_r (by decide +kernel) (by decide +kernel) (dr_var rfl) (da_sh (dr_var rfl) da_nil) (fun hq => by exact ⟨hp.1, rfl⟩) (fun hq => by exact ⟨hp.1, rfl⟩) ?_))
  exact hp.2.symm
abbrev s_Scale_levels : Stmt := inClass (topS 25) 3
theorem sc_Scale_levels : FnScope ["self", "basket"] ["self", "basket"] (defScope s_Scale_levels) := ⟨rfl, rfl, rfl, by decide +kernel, rfl, by decide +kernel, by decide +kernel⟩
def v_Scale_levels (self : Scl) (basket : List Int) : Bool := decide (wghv self basket = 0)
def w_Scale_levels (self : Scl) (basket : List Int) : Wf := ⟨SclOk self ∧ self.weights.length = basket.length ∧ MulOk self basket, sh (v_Scale_levels self basket)⟩
theorem okF_Scale_levels {f : Addr} {fd : FuncData} (F : Fun Γ.K "levels" "Scale.levels" s_Scale_levels f fd) (B : Blt mg)     (XSF : SF mg) (CM_weigh : CalM P w mg base CX0 "weigh" 4 ["self", "basket"] ["self", "basket"] (sp2 w_Scale_weigh) (sp2 w_Rest_weigh))  : FnOk P w Γ.K mg base CX0 5 f fd ["self", "basket"] (sp2 w_Scale_levels) := by
  obtain ⟨f_weigh, fd_weigh, f2_weigh, fd2_weigh, G_weigh, G2_weigh, M_weigh, M2_weigh, b_weigh, b2_weigh⟩ := CM_weigh
  have SC := sc_Scale_levels
  refine fn2 F SC fun cdv A outer s H E hr => ⟨_, (pss_one (ps_ret (pe_cmpR op_eq (pe_methS (E := fun _ _ _ _ => False) (pv 0) XSF.c2.cl XSF.c3.cl M_weigh M2_weigh G_weigh G2_weigh (hr.mono (by decide)) b_weigh b2_weigh pass0S (pa_cons (pv 1) pa_nil)) pe_int (nomark _)))), ?_⟩
  intro self basket hp
  have hp : SclOk self ∧ self.weights.length = basket.length ∧ MulOk self basket := hp
  show DS [some (G.st self), some (G.st basket)] _ _
  refine ds_ret (dr_eq2 (dr_methS hs_id hs_id (by decide +kernel) (by decide +kernel) (dr_var rfl) (da_sh (dr_var rfl) da_nil) (fun hq => (by first | exact ⟨hq, hp.2⟩ | exact ⟨hq, hp⟩)) (fun hq => (by first | exact ⟨hq, hp.2⟩ | exact ⟨hq, hp⟩)) reb_sc reb_sc) (dr_const (a := (0 : Int)))) ?_
  refine congrArg (sh (α := Bool)) (?_ : _ = (decide (wghv self basket = 0) : Bool))
  rfl
def xr_Scale_levels (self : Scl) (basket : List Int) (e_ : Exn) : Prop := basket.length ≠ self.weights.length ∧ e_ = ⟨14, none⟩
theorem okX_Scale_levels {f : Addr} {fd : FuncData} (F : Fun Γ.K "levels" "Scale.levels" s_Scale_levels f fd) (B : Blt mg)     (XSF : SF mg) (CMX_weigh : CalM P w mg base (L2.CX P w) "weigh" 6 ["self", "basket"] ["self", "basket"] (spo (sp2 w_Scale_weigh) (spr2 xr_Scale_weigh)) (spo (sp2 w_Rest_weigh) (spr2 xr_Rest_weigh)))  : FnOk P w Γ.K mg base (L2.CX P w) 7 f fd ["self", "basket"] (spr2 xr_Scale_levels) := by
  obtain ⟨fX_weigh, fdX_weigh, fX2_weigh, fdX2_weigh, GX_weigh, GX2_weigh, MX_weigh, MX2_weigh, bX_weigh, bX2_weigh⟩ := CMX_weigh
  have SC := sc_Scale_levels
  refine fnx2 F SC fun cdv A outer s H E hr => ?_
  have po := passes_of (X := cxOf (L2.CX P w) P w Γ.K mg base ["self", "basket"] "Scale.levels" (defScope s_Scale_levels) f cdv A outer s H E) rfl
  refine ⟨_, fun Wx tk => by refine pss_fix (pss_one (ps_ret (pe_cmpR op_eq (pe_methS  (pv 0) XSF.c2.cl XSF.c3.cl MX_weigh MX2_weigh GX_weigh GX2_weigh (hr.mono (by decide)) bX_weigh bX2_weigh (fun σ => passAt tk σ) (pa_cons (pv 1) pa_nil)) pe_int (nomark _)))) ?_; (try simp only [nox_K, cxOf_K]) <;> rfl, ?_⟩
  intro self basket e_ hp Wx
  have hp : basket.length ≠ self.weights.length ∧ e_ = ⟨14, none⟩ := hp
  show DSX _ _ [some (G.st self), some (G.st basket)] _ _
  refine dsx_retE (de_op (de_methS (z := ⟨14, none⟩) hs_r hs_r (by decide +kernel) (by decide +kernel) (dr_var rfl) (da_sh (dr_var rfl) da_nil) (fun hq => by exact ⟨hp.1, rfl⟩) (fun hq => by exact ⟨hp.1, rfl⟩) ?_))
  exact hp.2.symm
abbrev s_law_whole : Stmt := topS 29
theorem sc_law_whole : FnScope ["_law_found"] ["_law_found"] (defScope s_law_whole) := ⟨rfl, rfl, rfl, by decide +kernel, rfl, by decide +kernel, by decide +kernel⟩
def v_law_whole (law_found : Int) : Bool := true
def w_law_whole (law_found : Int) : Wf := ⟨True, sh (v_law_whole law_found)⟩
theorem okF_law_whole {f : Addr} {fd : FuncData} (F : Fun Γ.K "_law_whole" "_law_whole" s_law_whole f fd) (B : Blt mg)      : FnOk P w Γ.K mg base CX0 1 f fd ["_law_found"] (sp1 w_law_whole) := by
  have SC := sc_law_whole
  refine fn1 F SC fun cdv A outer s H E hr => ⟨_, (pss_one (ps_ret (pe_and (pe_callB call_isi (by rfl) B.isinstance (by decide +kernel) (pa_cons (pv 0) (pa_cons (pe_bltn (v := .ty "int") (by rfl) B.int (by decide +kernel) rfl) pa_nil))) (pe_one (pe_not (pe_callB call_isi (by rfl) B.isinstance (by decide +kernel) (pa_cons (pv 0) (pa_cons (pe_bltn (v := .ty "bool") (by rfl) B.bool (by decide +kernel) rfl) pa_nil)))))))), ?_⟩
  intro law_found hp
  have hp : True := hp
  show DS [some (G.st law_found)] _ _
  refine ds_ret (dr_and (dr_isi (b := true) rfl (dr_var rfl) rfl (by exact (by decide +kernel : kitB "int" "int" = some true))) (fun hb => (dr_not (dr_isi (b := false) rfl (dr_var rfl) rfl (by exact (by decide +kernel : kitB "int" "bool" = some false)))))) ?_
  refine congrArg (sh (α := Bool)) (?_ : _ = (true : Bool))
  rfl
theorem ok_law_whole (D : Dfn mg "_law_whole" s_law_whole ["_law_found"]) (B : Blt mg)      : Cal P w mg base "_law_whole" 1 ["_law_found"] (sp1 w_law_whole) := cal_of D fun f fd F => okF_law_whole F B  
abbrev s_law_same : Stmt := topS 30
theorem sc_law_same : FnScope ["_law_found", "_law_due", "_law_one"] ["_law_found", "_law_due"] (defScope s_law_same) := ⟨rfl, rfl, rfl, by decide +kernel, rfl, by decide +kernel, by decide +kernel⟩
def v_law_same (law_found : List Int) (law_due : List Int) : Bool := decide (law_found = law_due)
def w_law_same (law_found : List Int) (law_due : List Int) : Wf := ⟨True, sh (v_law_same law_found law_due)⟩
theorem okF_law_same {f : Addr} {fd : FuncData} (F : Fun Γ.K "_law_same" "_law_same" s_law_same f fd) (B : Blt mg) (C_law_whole : Cal P w mg base "_law_whole" 1 ["_law_found"] (sp1 w_law_whole))     : FnOk P w Γ.K mg base CX0 2 f fd ["_law_found", "_law_due"] (sp2 w_law_same) := by
  obtain ⟨f_law_whole, fd_law_whole, G_law_whole, m_law_whole, k_law_whole, b_law_whole⟩ := C_law_whole
  have SC := sc_law_same
  refine fn2 F SC fun cdv A outer s H E hr => ⟨_, (pss_cons (ps_if (PW.pt (pw_or (pt_not (pt_val (pe_callB call_isi (by rfl) B.isinstance (by decide +kernel) (pa_cons (pv 0) (pa_cons (pe_bltn (v := .ty "list") (by rfl) B.list (by decide +kernel) rfl) pa_nil))))) (pw_or1 (pt_cmpR op_ne (pe_callB call_len_seq (by rfl) B.len PySem.boot_len (pa_cons (pv 0) pa_nil)) (pe_callB call_len_seq (by rfl) B.len PySem.boot_len (pa_cons (pv 1) pa_nil)) (nomark _))))) (pss_one (ps_ret pe_bl)) pss_nil) (pss_one (ps_ret (pe_and (pe_callB (cr_all rfl) (by rfl) B.all (by decide +kernel) (pa_cons (pe_lc (own := [("_law_one", 2)]) (g := (gName 2)) (tt := tYes) rfl SC.nd (pi_list (pe_lok (pv 0))) (blkOk_by (N := ["_law_found", "_law_due", "_law_one"]) (sc := (defScope s_law_same)) (by decide +kernel)) (fun _ _ _ _ _ => (pg_name (i := 2) SC.nd rfl (Or.inl rfl))) (fun _ _ _ _ _ => pts_nil) (fun _ _ _ _ _ => by refine pe_fix (pe_call G_law_whole (hr.mono (by decide)) rfl m_law_whole k_law_whole b_law_whole .nil pass0 (pa_cons (pv 2) pa_nil)) ?_; (try simp only [blk_K, nox_K, cxOf_K]) <;> rfl)) pa_nil)) (pe_one (pe_cmpR (op_eqD hr.units) (pv 0) (pv 1) (nomark _))))))), ?_⟩
  intro law_found law_due hp
  have hp : True := hp
  show DS [some (G.st law_found), some (G.st law_due), none] _ _
  refine ds_seq ?_
  refine ds_if (dt_or (dt_not (dt_ofB (dr_isi (b := true) rfl (dr_var rfl) rfl (by exact (by decide +kernel : kitB "list" "list" = some true))))) (fun hb => (dt_of (dr_ne2 (dr_len rfl (dr_bo (dr_var rfl))) (dr_len rfl (dr_bo (dr_var rfl))))))) (fun hc => ?_) (fun hc => ?_)
  · try simp only [id, decide_eq_true_eq, decide_eq_false_iff_not, Bool.and_eq_true, Bool.or_eq_true, Bool.and_eq_false_iff, Bool.or_eq_false_iff, Bool.not_eq_true', Bool.not_eq_false', ne_eq, Decidable.not_not, Bool.true_eq_false, Bool.false_eq_true, false_or, or_false, true_and, and_true, not_false_eq_true, not_true_eq_false] at hc
    refine ds_ret (dr_const (a := false)) ?_
    refine congrArg (sh (α := Bool)) (?_ : _ = (decide (law_found = law_due) : Bool))
    exact (decide_eq_false fun e => hc (by rw [e])).symm
  · try simp only [id, decide_eq_true_eq, decide_eq_false_iff_not, Bool.and_eq_true, Bool.or_eq_true, Bool.and_eq_false_iff, Bool.or_eq_false_iff, Bool.not_eq_true', Bool.not_eq_false', ne_eq, Decidable.not_not, Bool.true_eq_false, Bool.false_eq_true, false_or, or_false, true_and, and_true, not_false_eq_true, not_true_eq_false] at hc
    refine ds_next ?_
    show DS _ _ _
    try simp only [setE, wipeE, List.set_cons_zero, List.set_cons_succ]
    refine ds_ret (dr_and (dr_all rfl (dr_bo (dr_frz (n := true) (dr_lc0 (n := true) (di_sc rfl (dr_var rfl)) (gv_name (by decide)) (fun x hx => (dg_name (by exact of_decide_eq_true rfl))) (fun x hx => (dr_call1 (da_sh (dr_var rfl) da_nil) (by exact trivial) reb_sc)))))) (fun hb => (dr_eqd rfl (dr_var rfl) (dr_var rfl)))) ?_
    refine congrArg (sh (α := Bool)) (?_ : _ = (decide (law_found = law_due) : Bool))
    simp [v_law_whole]
theorem ok_law_same (D : Dfn mg "_law_same" s_law_same ["_law_found", "_law_due"]) (B : Blt mg) (C_law_whole : Cal P w mg base "_law_whole" 1 ["_law_found"] (sp1 w_law_whole))     : Cal P w mg base "_law_same" 2 ["_law_found", "_law_due"] (sp2 w_law_same) := cal_of D fun f fd F => okF_law_same F B C_law_whole 
abbrev s_law_flags : Stmt := topS 31
theorem sc_law_flags : FnScope ["_law_caught", "_law_flags_here"] ["_law_caught"] (defScope s_law_flags) := ⟨rfl, rfl, rfl, by decide +kernel, rfl, by decide +kernel, by decide +kernel⟩
def v_law_flags (law_caught : Exn) : List Bool := flagsv law_caught.c
def w_law_flags (law_caught : Exn) : Wf := ⟨law_caught.c ∈ SX ∧ law_caught.pl = none, ow (v_law_flags law_caught)⟩
theorem okF_law_flags {f : Addr} {fd : FuncData} (F : Fun Γ.K "_law_flags" "_law_flags" s_law_flags f fd) (B : Blt mg)     (XS : Xs mg) (XE : ∀ c ∈ SX, XK1 c)  : FnOk P w Γ.K mg base CX0 1 f fd ["_law_caught"] (sp1 w_law_flags) := by
  have SC := sc_law_flags
  refine fn1 F SC fun cdv A outer s H E hr => ⟨_, (pss_cons (ps_set (i := 1) SC.nd rfl (Or.inl rfl) (pe_lst (pa_cons (pe_callB call_isX (by rfl) B.isinstance (by decide +kernel) (pa_cons (pv 0) (pa_cons (pe_glob (v := .ref (Γ.cls 10)) rfl (by exact XS.ad 0 (by decide)) rfl) pa_nil))) (pa_cons (pe_callB call_isX (by rfl) B.isinstance (by decide +kernel) (pa_cons (pv 0) (pa_cons (pe_glob (v := .ref (Γ.cls 11)) rfl (by exact XS.ad 1 (by decide)) rfl) pa_nil))) (pa_cons (pe_callB call_isX (by rfl) B.isinstance (by decide +kernel) (pa_cons (pv 0) (pa_cons (pe_glob (v := .ref (Γ.cls 12)) rfl (by exact XS.ad 2 (by decide)) rfl) pa_nil))) pa_nil))))) (pss_cons (ps_set (i := 1) SC.nd rfl (Or.inl rfl) (pe_op op_catG (pv 1) (pe_lst (pa_cons (pe_callB call_isX (by rfl) B.isinstance (by decide +kernel) (pa_cons (pv 0) (pa_cons (pe_glob (v := .ref (Γ.cls 13)) rfl (by exact XS.ad 3 (by decide)) rfl) pa_nil))) (pa_cons (pe_callB call_isX (by rfl) B.isinstance (by decide +kernel) (pa_cons (pv 0) (pa_cons (pe_glob (v := .ref (Γ.cls 14)) rfl (by exact XS.ad 4 (by decide)) rfl) pa_nil))) (pa_cons (pe_callB call_isX (by rfl) B.isinstance (by decide +kernel) (pa_cons (pv 0) (pa_cons (pe_glob (v := .ref (Γ.cls 15)) rfl (by exact XS.ad 5 (by decide)) rfl) pa_nil))) pa_nil)))))) (pss_cons (ps_set (i := 1) SC.nd rfl (Or.inl rfl) (pe_op op_catG (pv 1) (pe_lst (pa_cons (pe_callB call_isX (by rfl) B.isinstance (by decide +kernel) (pa_cons (pv 0) (pa_cons (pe_glob (v := .ref (Γ.cls 16)) rfl (by exact XS.ad 6 (by decide)) rfl) pa_nil))) (pa_cons (pe_callB call_isX (by rfl) B.isinstance (by decide +kernel) (pa_cons (pv 0) (pa_cons (pe_glob (v := .ref (Γ.cls 17)) rfl (by exact XS.ad 7 (by decide)) rfl) pa_nil))) (pa_cons (pe_callB call_isX (by rfl) B.isinstance (by decide +kernel) (pa_cons (pv 0) (pa_cons (pe_glob (v := .ref (Γ.cls 18)) rfl (by exact XS.ad 8 (by decide)) rfl) pa_nil))) pa_nil)))))) (pss_cons (ps_set (i := 1) SC.nd rfl (Or.inl rfl) (pe_op op_catG (pv 1) (pe_lst (pa_cons (pe_callB call_isX (by rfl) B.isinstance (by decide +kernel) (pa_cons (pv 0) (pa_cons (pe_glob (v := .ref (Γ.cls 19)) rfl (by exact XS.ad 9 (by decide)) rfl) pa_nil))) (pa_cons (pe_callB call_isX (by rfl) B.isinstance (by decide +kernel) (pa_cons (pv 0) (pa_cons (pe_glob (v := .ref (Γ.cls 20)) rfl (by exact XS.ad 10 (by decide)) rfl) pa_nil))) (pa_cons (pe_callB call_isX (by rfl) B.isinstance (by decide +kernel) (pa_cons (pv 0) (pa_cons (pe_glob (v := .ref (Γ.cls 21)) rfl (by exact XS.ad 11 (by decide)) rfl) pa_nil))) pa_nil)))))) (pss_cons (ps_set (i := 1) SC.nd rfl (Or.inl rfl) (pe_op op_catG (pv 1) (pe_lst (pa_cons (pe_callB call_isX (by rfl) B.isinstance (by decide +kernel) (pa_cons (pv 0) (pa_cons (pe_glob (v := .ref (Γ.cls 22)) rfl (by exact XS.ad 12 (by decide)) rfl) pa_nil))) (pa_cons (pe_callB call_isX (by rfl) B.isinstance (by decide +kernel) (pa_cons (pv 0) (pa_cons (pe_glob (v := .ref (Γ.cls 23)) rfl (by exact XS.ad 13 (by decide)) rfl) pa_nil))) (pa_cons (pe_callB call_isX (by rfl) B.isinstance (by decide +kernel) (pa_cons (pv 0) (pa_cons (pe_glob (v := .ref (Γ.cls 24)) rfl (by exact XS.ad 14 (by decide)) rfl) pa_nil))) pa_nil)))))) (pss_cons (ps_set (i := 1) SC.nd rfl (Or.inl rfl) (pe_op op_catG (pv 1) (pe_lst (pa_cons (pe_callB call_isX (by rfl) B.isinstance (by decide +kernel) (pa_cons (pv 0) (pa_cons (pe_glob (v := .ref (Γ.cls 25)) rfl (by exact XS.ad 15 (by decide)) rfl) pa_nil))) (pa_cons (pe_callB call_isX (by rfl) B.isinstance (by decide +kernel) (pa_cons (pv 0) (pa_cons (pe_glob (v := .ref (Γ.cls 26)) rfl (by exact XS.ad 16 (by decide)) rfl) pa_nil))) (pa_cons (pe_callB call_isX (by rfl) B.isinstance (by decide +kernel) (pa_cons (pv 0) (pa_cons (pe_glob (v := .ref (Γ.cls 27)) rfl (by exact XS.ad 17 (by decide)) rfl) pa_nil))) pa_nil)))))) (pss_one (ps_ret (pe_op op_catG (pv 1) (pe_lst (pa_cons (pe_callB call_isX (by rfl) B.isinstance (by decide +kernel) (pa_cons (pv 0) (pa_cons (pe_glob (v := .ref (Γ.cls 28)) rfl (by exact XS.ad 18 (by decide)) rfl) pa_nil))) pa_nil))))))))))), ?_⟩
  intro law_caught hp
  have hp : law_caught.c ∈ SX ∧ law_caught.pl = none := hp
  show DS [some (G.st law_caught), none] _ _
  have hE := XE _ hp.1
  have hpl := hp.2
  have hrng := sx_rng _ hp.1
  refine ds_seq ?_
  refine ds_settl (dr_frz (n := true) (dr_lst (n := true) (α := Bool) (l := [_, _, _]) (da_sh (dr_isX (b := decide (_ = 10)) rfl hE.ec hpl (dr_var rfl) rfl (fun u h => h) (kit_e XS hE hrng.1 hrng.2 (j := 0) (by decide))) (da_sh (dr_isX (b := decide (_ = 11)) rfl hE.ec hpl (dr_var rfl) rfl (fun u h => h) (kit_e XS hE hrng.1 hrng.2 (j := 1) (by decide))) (da_sh (dr_isX (b := decide (_ = 12)) rfl hE.ec hpl (dr_var rfl) rfl (fun u h => h) (kit_e XS hE hrng.1 hrng.2 (j := 2) (by decide))) da_nil))) (by show 3 ≤ sizeLine; decide))) (by exact of_decide_eq_true rfl) ?_
  show DS _ _ _
  try simp only [setE, wipeE, List.set_cons_zero, List.set_cons_succ]
  refine ds_seq ?_
  refine ds_settl (dr_frz (n := true) (dr_catb rfl (dr_bo (dr_var rfl)) (dr_bo (dr_frz (n := true) (dr_lst (n := true) (α := Bool) (l := [_, _, _]) (da_sh (dr_isX (b := decide (_ = 13)) rfl hE.ec hpl (dr_var rfl) rfl (fun u h => h) (kit_e XS hE hrng.1 hrng.2 (j := 3) (by decide))) (da_sh (dr_isX (b := decide (_ = 14)) rfl hE.ec hpl (dr_var rfl) rfl (fun u h => h) (kit_e XS hE hrng.1 hrng.2 (j := 4) (by decide))) (da_sh (dr_isX (b := decide (_ = 15)) rfl hE.ec hpl (dr_var rfl) rfl (fun u h => h) (kit_e XS hE hrng.1 hrng.2 (j := 5) (by decide))) da_nil))) (by show 3 ≤ sizeLine; decide)))) (by simp [sizeLine_eq]))) (by exact of_decide_eq_true rfl) ?_
  show DS _ _ _
  try simp only [setE, wipeE, List.set_cons_zero, List.set_cons_succ]
  refine ds_seq ?_
  refine ds_settl (dr_frz (n := true) (dr_catb rfl (dr_bo (dr_var rfl)) (dr_bo (dr_frz (n := true) (dr_lst (n := true) (α := Bool) (l := [_, _, _]) (da_sh (dr_isX (b := decide (_ = 16)) rfl hE.ec hpl (dr_var rfl) rfl (fun u h => h) (kit_e XS hE hrng.1 hrng.2 (j := 6) (by decide))) (da_sh (dr_isX (b := decide (_ = 17)) rfl hE.ec hpl (dr_var rfl) rfl (fun u h => h) (kit_e XS hE hrng.1 hrng.2 (j := 7) (by decide))) (da_sh (dr_isX (b := decide (_ = 18)) rfl hE.ec hpl (dr_var rfl) rfl (fun u h => h) (kit_e XS hE hrng.1 hrng.2 (j := 8) (by decide))) da_nil))) (by show 3 ≤ sizeLine; decide)))) (by simp [sizeLine_eq]))) (by exact of_decide_eq_true rfl) ?_
  show DS _ _ _
  try simp only [setE, wipeE, List.set_cons_zero, List.set_cons_succ]
  refine ds_seq ?_
  refine ds_settl (dr_frz (n := true) (dr_catb rfl (dr_bo (dr_var rfl)) (dr_bo (dr_frz (n := true) (dr_lst (n := true) (α := Bool) (l := [_, _, _]) (da_sh (dr_isX (b := decide (_ = 19)) rfl hE.ec hpl (dr_var rfl) rfl (fun u h => h) (kit_e XS hE hrng.1 hrng.2 (j := 9) (by decide))) (da_sh (dr_isX (b := decide (_ = 20)) rfl hE.ec hpl (dr_var rfl) rfl (fun u h => h) (kit_e XS hE hrng.1 hrng.2 (j := 10) (by decide))) (da_sh (dr_isX (b := decide (_ = 21)) rfl hE.ec hpl (dr_var rfl) rfl (fun u h => h) (kit_e XS hE hrng.1 hrng.2 (j := 11) (by decide))) da_nil))) (by show 3 ≤ sizeLine; decide)))) (by simp [sizeLine_eq]))) (by exact of_decide_eq_true rfl) ?_
  show DS _ _ _
  try simp only [setE, wipeE, List.set_cons_zero, List.set_cons_succ]
  refine ds_seq ?_
  refine ds_settl (dr_frz (n := true) (dr_catb rfl (dr_bo (dr_var rfl)) (dr_bo (dr_frz (n := true) (dr_lst (n := true) (α := Bool) (l := [_, _, _]) (da_sh (dr_isX (b := decide (_ = 22)) rfl hE.ec hpl (dr_var rfl) rfl (fun u h => h) (kit_e XS hE hrng.1 hrng.2 (j := 12) (by decide))) (da_sh (dr_isX (b := decide (_ = 23)) rfl hE.ec hpl (dr_var rfl) rfl (fun u h => h) (kit_e XS hE hrng.1 hrng.2 (j := 13) (by decide))) (da_sh (dr_isX (b := decide (_ = 24)) rfl hE.ec hpl (dr_var rfl) rfl (fun u h => h) (kit_e XS hE hrng.1 hrng.2 (j := 14) (by decide))) da_nil))) (by show 3 ≤ sizeLine; decide)))) (by simp [sizeLine_eq]))) (by exact of_decide_eq_true rfl) ?_
  show DS _ _ _
  try simp only [setE, wipeE, List.set_cons_zero, List.set_cons_succ]
  refine ds_seq ?_
  refine ds_settl (dr_frz (n := true) (dr_catb rfl (dr_bo (dr_var rfl)) (dr_bo (dr_frz (n := true) (dr_lst (n := true) (α := Bool) (l := [_, _, _]) (da_sh (dr_isX (b := decide (_ = 25)) rfl hE.ec hpl (dr_var rfl) rfl (fun u h => h) (kit_e XS hE hrng.1 hrng.2 (j := 15) (by decide))) (da_sh (dr_isX (b := decide (_ = 26)) rfl hE.ec hpl (dr_var rfl) rfl (fun u h => h) (kit_e XS hE hrng.1 hrng.2 (j := 16) (by decide))) (da_sh (dr_isX (b := decide (_ = 27)) rfl hE.ec hpl (dr_var rfl) rfl (fun u h => h) (kit_e XS hE hrng.1 hrng.2 (j := 17) (by decide))) da_nil))) (by show 3 ≤ sizeLine; decide)))) (by simp [sizeLine_eq]))) (by exact of_decide_eq_true rfl) ?_
  show DS _ _ _
  try simp only [setE, wipeE, List.set_cons_zero, List.set_cons_succ]
  refine ds_ret (dr_catb rfl (dr_bo (dr_var rfl)) (dr_bo (dr_frz (n := true) (dr_lst (n := true) (α := Bool) (l := [_]) (da_sh (dr_isX (b := decide (_ = 28)) rfl hE.ec hpl (dr_var rfl) rfl (fun u h => h) (kit_e XS hE hrng.1 hrng.2 (j := 18) (by decide))) da_nil) (by show 1 ≤ sizeLine; decide)))) (by simp [sizeLine_eq])) ?_
  refine congrArg (ow (α := Bool)) (?_ : _ = (flagsv law_caught.c : List Bool))
  rfl
theorem ok_law_flags (D : Dfn mg "_law_flags" s_law_flags ["_law_caught"]) (B : Blt mg)     (XS : Xs mg) (XE : ∀ c ∈ SX, XK1 c)  : Cal P w mg base "_law_flags" 1 ["_law_caught"] (sp1 w_law_flags) := cal_of D fun f fd F => okF_law_flags F B  XS XE
abbrev s_law_only : Stmt := topS 32
theorem sc_law_only : FnScope ["_law_caught", "_law_name", "_law_names", "_law_other"] ["_law_caught", "_law_name"] (defScope s_law_only) := ⟨rfl, rfl, rfl, by decide +kernel, rfl, by decide +kernel, by decide +kernel⟩
def v_law_only (law_caught : Exn) (law_name : PySem.Str) : Bool := decide (flagsv law_caught.c = namesv law_name)
def w_law_only (law_caught : Exn) (law_name : PySem.Str) : Wf := ⟨law_caught.c ∈ SX ∧ law_caught.pl = none, sh (v_law_only law_caught law_name)⟩
theorem okF_law_only {f : Addr} {fd : FuncData} (F : Fun Γ.K "_law_only" "_law_only" s_law_only f fd) (B : Blt mg) (C_law_flags : Cal P w mg base "_law_flags" 1 ["_law_caught"] (sp1 w_law_flags))    (XS : Xs mg) (XE : ∀ c ∈ SX, XK1 c)  : FnOk P w Γ.K mg base CX0 2 f fd ["_law_caught", "_law_name"] (sp2 w_law_only) := by
  obtain ⟨f_law_flags, fd_law_flags, G_law_flags, m_law_flags, k_law_flags, b_law_flags⟩ := C_law_flags
  have SC := sc_law_only
  refine fn2 F SC fun cdv A outer s H E hr => ⟨_, (pss_cons (ps_set (i := 2) SC.nd rfl (Or.inl rfl) (pe_lst (pa_cons pe_str (pa_cons pe_str (pa_cons pe_str (pa_cons pe_str (pa_cons pe_str (pa_cons pe_str (pa_cons pe_str (pa_cons pe_str pa_nil)))))))))) (pss_cons (ps_set (i := 2) SC.nd rfl (Or.inl rfl) (pe_op op_catG (pv 2) (pe_lst (pa_cons pe_str (pa_cons pe_str (pa_cons pe_str (pa_cons pe_str (pa_cons pe_str (pa_cons pe_str (pa_cons pe_str pa_nil)))))))))) (pss_cons (ps_set (i := 2) SC.nd rfl (Or.inl rfl) (pe_op op_catG (pv 2) (pe_lst (pa_cons pe_str (pa_cons pe_str (pa_cons pe_str (pa_cons pe_str pa_nil))))))) (pss_one (ps_ret (pe_and (pe_callB call_isX (by rfl) B.isinstance (by decide +kernel) (pa_cons (pv 0) (pa_cons (pe_bltn (v := .ty "ValueError") (by rfl) B.verr (by decide +kernel) rfl) pa_nil))) (pe_one (pe_cmpR (op_eqD hr.units) (pe_call G_law_flags (hr.mono (by decide)) rfl m_law_flags k_law_flags b_law_flags .nil pass0 (pa_cons (pv 0) pa_nil)) (pe_lc (own := [("_law_other", 3)]) (g := (gName 3)) (tt := tYes) rfl SC.nd (pi_list (pe_lok (pv 2))) (blkOk_by (N := ["_law_caught", "_law_name", "_law_names", "_law_other"]) (sc := (defScope s_law_only)) (by decide +kernel)) (fun _ _ _ _ _ => (pg_name (i := 3) SC.nd rfl (Or.inl rfl))) (fun _ _ _ _ _ => pts_nil) (fun _ _ _ _ _ => (pe_cmpR op_eq (pv 3) (pv 1) (nomark _)))) (nomark _))))))))), ?_⟩
  intro law_caught law_name hp
  have hp : law_caught.c ∈ SX ∧ law_caught.pl = none := hp
  show DS [some (G.st law_caught), some (G.st law_name), none, none] _ _
  have hE := XE _ hp.1
  have hpl := hp.2
  have hrng := sx_rng _ hp.1
  refine ds_seq ?_
  refine ds_settl (dr_frz (n := true) (dr_lst (n := true) (α := PySem.Str) (l := [_, _, _, _, _, _, _, _]) (da_sh (dr_const (a := ("NotAlike" : PySem.Str))) (da_sh (dr_const (a := ("BadWares" : PySem.Str))) (da_sh (dr_const (a := ("TooMany" : PySem.Str))) (da_sh (dr_const (a := ("BadSwap" : PySem.Str))) (da_sh (dr_const (a := ("BadBasket" : PySem.Str))) (da_sh (dr_const (a := ("BadRoad" : PySem.Str))) (da_sh (dr_const (a := ("Endless" : PySem.Str))) (da_sh (dr_const (a := ("TooGreat" : PySem.Str))) da_nil)))))))) (by show 8 ≤ sizeLine; decide))) (by exact of_decide_eq_true rfl) ?_
  show DS _ _ _
  try simp only [setE, wipeE, List.set_cons_zero, List.set_cons_succ]
  refine ds_seq ?_
  refine ds_settl (dr_frz (n := true) (dr_catb rfl (dr_bo (dr_var rfl)) (dr_bo (dr_frz (n := true) (dr_lst (n := true) (α := PySem.Str) (l := [_, _, _, _, _, _, _]) (da_sh (dr_const (a := ("BadRest" : PySem.Str))) (da_sh (dr_const (a := ("BadScale" : PySem.Str))) (da_sh (dr_const (a := ("OtherWares" : PySem.Str))) (da_sh (dr_const (a := ("BadBaskets" : PySem.Str))) (da_sh (dr_const (a := ("NotKept" : PySem.Str))) (da_sh (dr_const (a := ("OtherBook" : PySem.Str))) (da_sh (dr_const (a := ("NoLine" : PySem.Str))) da_nil))))))) (by show 7 ≤ sizeLine; decide)))) (by simp [sizeLine_eq]))) (by exact of_decide_eq_true rfl) ?_
  show DS _ _ _
  try simp only [setE, wipeE, List.set_cons_zero, List.set_cons_succ]
  refine ds_seq ?_
  refine ds_settl (dr_frz (n := true) (dr_catb rfl (dr_bo (dr_var rfl)) (dr_bo (dr_frz (n := true) (dr_lst (n := true) (α := PySem.Str) (l := [_, _, _, _]) (da_sh (dr_const (a := ("BadNames" : PySem.Str))) (da_sh (dr_const (a := ("NoBook" : PySem.Str))) (da_sh (dr_const (a := ("NoName" : PySem.Str))) (da_sh (dr_const (a := ("NoSwap" : PySem.Str))) da_nil)))) (by show 4 ≤ sizeLine; decide)))) (by simp [sizeLine_eq]))) (by exact of_decide_eq_true rfl) ?_
  show DS _ _ _
  try simp only [setE, wipeE, List.set_cons_zero, List.set_cons_succ]
  refine ds_ret (dr_and (dr_isX (b := true) rfl hE.ec hpl (dr_var rfl) rfl (fun u h => h) (kit_ve hE)) (fun hb => (dr_eqd rfl (dr_frz (n := true) (dr_call1 (da_sh (dr_var rfl) da_nil) (by exact hp) reb_scl)) (dr_frz (n := true) (dr_lc0 (n := true) (di_sc rfl (dr_var rfl)) (gv_name (by decide)) (fun x hx => (dg_name (by exact of_decide_eq_true rfl))) (fun x hx => (dr_eq2 (dr_var rfl) (dr_var rfl)))))))) ?_
  refine congrArg (sh (α := Bool)) (?_ : _ = (decide (flagsv law_caught.c = namesv law_name) : Bool))
  rfl
theorem ok_law_only (D : Dfn mg "_law_only" s_law_only ["_law_caught", "_law_name"]) (B : Blt mg) (C_law_flags : Cal P w mg base "_law_flags" 1 ["_law_caught"] (sp1 w_law_flags))    (XS : Xs mg) (XE : ∀ c ∈ SX, XK1 c)  : Cal P w mg base "_law_only" 2 ["_law_caught", "_law_name"] (sp2 w_law_only) := cal_of D fun f fd F => okF_law_only F B C_law_flags XS XE
abbrev s_law_at : Stmt := topS 33
theorem sc_law_at : FnScope ["_law_script", "_law_k"] ["_law_script", "_law_k"] (defScope s_law_at) := ⟨rfl, rfl, rfl, by decide +kernel, rfl, by decide +kernel, by decide +kernel⟩
def v_law_at (law_script : List Int) (law_k : Int) : Int := if law_k < law_script.length then nth law_script law_k else 0
def w_law_at (law_script : List Int) (law_k : Int) : Wf := ⟨0 ≤ law_k, sh (v_law_at law_script law_k)⟩
theorem okF_law_at {f : Addr} {fd : FuncData} (F : Fun Γ.K "_law_at" "_law_at" s_law_at f fd) (B : Blt mg)      : FnOk P w Γ.K mg base CX0 1 f fd ["_law_script", "_law_k"] (sp2 w_law_at) := by
  have SC := sc_law_at
  refine fn2 F SC fun cdv A outer s H E hr => ⟨_, (pss_cons (ps_if (pt_cmpR op_lt (pv 1) (pe_callB call_len_seq (by rfl) B.len PySem.boot_len (pa_cons (pv 0) pa_nil)) (nomark _)) (pss_one (ps_ret (pe_ix ix_list (pv 0) (pv 1) (fun _ _ => rfl)))) pss_nil) (pss_one (ps_ret pe_int))), ?_⟩
  intro law_script law_k hp
  have hp : 0 ≤ law_k := hp
  show DS [some (G.st law_script), some (G.st law_k)] _ _
  refine ds_seq ?_
  refine ds_if (dt_of (dr_lt (dr_var rfl) (dr_len rfl (dr_bo (dr_var rfl))))) (fun hc => ?_) (fun hc => ?_)
  · try simp only [id, decide_eq_true_eq, decide_eq_false_iff_not, Bool.and_eq_true, Bool.or_eq_true, Bool.and_eq_false_iff, Bool.or_eq_false_iff, Bool.not_eq_true', Bool.not_eq_false', ne_eq, Decidable.not_not, Bool.true_eq_false, Bool.false_eq_true, false_or, or_false, true_and, and_true, not_false_eq_true, not_true_eq_false] at hc
    refine ds_ret (dr_flat (m' := .nw) (dr_ix rfl (dr_var rfl) (dr_var rfl) (by exact atI_nth (by first | omega | (rw [sizeLine_eq]; omega) | (simp at *; omega)) (by first | omega | (rw [sizeLine_eq]; omega) | (simp at *; omega))))) ?_
    refine congrArg (sh (α := Int)) (?_ : _ = (if law_k < law_script.length then nth law_script law_k else 0 : Int))
    first | (rw [if_pos hc]; done) | (rw [if_neg hc]; done)
  · try simp only [id, decide_eq_true_eq, decide_eq_false_iff_not, Bool.and_eq_true, Bool.or_eq_true, Bool.and_eq_false_iff, Bool.or_eq_false_iff, Bool.not_eq_true', Bool.not_eq_false', ne_eq, Decidable.not_not, Bool.true_eq_false, Bool.false_eq_true, false_or, or_false, true_and, and_true, not_false_eq_true, not_true_eq_false] at hc
    refine ds_next ?_
    show DS _ _ _
    try simp only [setE, wipeE, List.set_cons_zero, List.set_cons_succ]
    refine ds_ret (dr_const (a := (0 : Int))) ?_
    refine congrArg (sh (α := Int)) (?_ : _ = (if law_k < law_script.length then nth law_script law_k else 0 : Int))
    first | (rw [if_pos hc]; done) | (rw [if_neg hc]; done)
theorem ok_law_at (D : Dfn mg "_law_at" s_law_at ["_law_script", "_law_k"]) (B : Blt mg)      : Cal P w mg base "_law_at" 1 ["_law_script", "_law_k"] (sp2 w_law_at) := cal_of D fun f fd F => okF_law_at F B  
abbrev s_law_entry : Stmt := topS 34
theorem sc_law_entry : FnScope ["_law_script", "_law_k", "_law_most", "_law_cell", "_law_number", "_law_step", "_law_mixed"] ["_law_script", "_law_k", "_law_most"] (defScope s_law_entry) := ⟨rfl, rfl, rfl, by decide +kernel, rfl, by decide +kernel, by decide +kernel⟩
def v_law_entry (law_script : List Int) (law_k : Int) (law_most : Int) : Int := entry law_script law_k law_most
def w_law_entry (law_script : List Int) (law_k : Int) (law_most : Int) : Wf := ⟨0 ≤ law_k ∧ law_k ≤ 3000 ∧ 7 ≤ law_most ∧ law_most.natAbs < 2 ^ 200 ∧ law_script.length ≤ 63, sh (v_law_entry law_script law_k law_most)⟩
theorem okF_law_entry {f : Addr} {fd : FuncData} (F : Fun Γ.K "_law_entry" "_law_entry" s_law_entry f fd) (B : Blt mg)      : FnOk P w Γ.K mg base CX0 1 f fd ["_law_script", "_law_k", "_law_most"] (sp3 w_law_entry) := by
  have SC := sc_law_entry
  refine fn3 F SC fun cdv A outer s H E hr => ⟨_, (pss_cons (ps_if (pt_cmpR op_eq (pe_callB call_len_seq (by rfl) B.len PySem.boot_len (pa_cons (pv 0) pa_nil)) pe_int (nomark _)) (pss_one (ps_ret pe_int)) pss_nil) (pss_cons (ps_set (i := 3) SC.nd rfl (Or.inl rfl) (pe_ix ix_list (pv 0) (pe_op op_mod (pv 1) (pe_callB call_len_seq (by rfl) B.len PySem.boot_len (pa_cons (pv 0) pa_nil))) (fun _ _ => rfl))) (pss_cons (ps_set (i := 4) SC.nd rfl (Or.inl rfl) (pe_op op_fdiv (pv 3) pe_int)) (pss_cons (ps_if (pt_cmpR op_eq (pe_op op_mod (pv 3) pe_int) pe_int (nomark _)) (pss_cons (ps_for PassesOwn.never rfl (pi_range1 rfl B.range (pa_cons (pe_callB (call_min2 rfl) (by rfl) B.min (by decide +kernel) (pa_cons pe_int (pa_cons (pe_op op_fdivK (pv 1) (pe_callB call_len_seq (by rfl) B.len PySem.boot_len (pa_cons (pv 0) pa_nil))) pa_nil))) pa_nil)) (pg_name (i := 5) SC.nd rfl (Or.inl rfl)) (pss_one (ps_set (i := 4) SC.nd rfl (Or.inl rfl) (pe_op op_fdivK (pv 4) (pe_op op_sub (pe_op op_mulK pe_int (pv 2)) pe_int))))) (pss_one (ps_ret (pe_op op_add (pe_op op_sub (pe_op op_mod (pv 4) (pe_op op_sub (pe_op op_mulK pe_int (pv 2)) pe_int)) (pv 2)) pe_int)))) pss_nil) (pss_cons (ps_set (i := 6) SC.nd rfl (Or.inl rfl) (pe_op op_mod (pe_op op_mulK (pv 4) (pe_op op_add pe_int (pe_op op_mulK (pv 1) (pv 1)))) (pv 2))) (pss_cons (ps_if (pt_cmpR op_eq (pe_op op_mod (pe_op op_add (pv 4) (pv 1)) pe_int) pe_int (nomark _)) (pss_one (ps_set (i := 6) SC.nd rfl (Or.inl rfl) (pe_op op_mod (pv 6) pe_int))) pss_nil) (pss_cons (ps_if (pt_cmpR op_eq (pe_op op_mod (pe_op op_add (pv 4) (pv 1)) pe_int) pe_int (nomark _)) (pss_one (ps_set (i := 6) SC.nd rfl (Or.inl rfl) pe_int)) pss_nil) (pss_cons (ps_if (pt_cmpR op_eq (pe_op op_mod (pe_op op_fdiv (pv 4) pe_int) pe_int) pe_int (nomark _)) (pss_one (ps_ret (pe_op op_sub pe_int (pv 6)))) pss_nil) (pss_one (ps_ret (pv 6))))))))))), ?_⟩
  intro law_script law_k law_most hp
  have hp : 0 ≤ law_k ∧ law_k ≤ 3000 ∧ 7 ≤ law_most ∧ law_most.natAbs < 2 ^ 200 ∧ law_script.length ≤ 63 := hp
  show DS [some (G.st law_script), some (G.st law_k), some (G.st law_most), none, none, none, none] _ _
  have hkk : 0 ≤ law_k * law_k ∧ law_k * law_k ≤ 9000000 := ⟨Int.mul_nonneg hp.1 hp.1, by have := Int.mul_le_mul hp.2.1 hp.2.1 hp.1 (by omega : (0 : Int) ≤ 3000); omega⟩
  have hfd := Int.fdiv_nonneg hp.1 (by omega : (0 : Int) ≤ law_script.length)
  refine ds_seq ?_
  refine ds_if (dt_of (dr_eq2 (dr_len rfl (dr_bo (dr_var rfl))) (dr_const (a := (0 : Int))))) (fun hc => ?_) (fun hc => ?_)
  · try simp only [id, decide_eq_true_eq, decide_eq_false_iff_not, Bool.and_eq_true, Bool.or_eq_true, Bool.and_eq_false_iff, Bool.or_eq_false_iff, Bool.not_eq_true', Bool.not_eq_false', ne_eq, Decidable.not_not, Bool.true_eq_false, Bool.false_eq_true, false_or, or_false, true_and, and_true, not_false_eq_true, not_true_eq_false] at hc
    refine ds_ret (dr_const (a := (0 : Int))) ?_
    refine congrArg (sh (α := Int)) (?_ : _ = (entry law_script law_k law_most : Int))
    unfold entry; dsimp only; simp only [*, if_true, if_false, ite_true, ite_false, reduceIte]
  · try simp only [id, decide_eq_true_eq, decide_eq_false_iff_not, Bool.and_eq_true, Bool.or_eq_true, Bool.and_eq_false_iff, Bool.or_eq_false_iff, Bool.not_eq_true', Bool.not_eq_false', ne_eq, Decidable.not_not, Bool.true_eq_false, Bool.false_eq_true, false_or, or_false, true_and, and_true, not_false_eq_true, not_true_eq_false] at hc
    refine ds_next ?_
    show DS _ _ _
    try simp only [setE, wipeE, List.set_cons_zero, List.set_cons_succ]
    refine ds_seq ?_
    refine ds_settl (dr_flat (m' := .nw) (dr_ix rfl (dr_var rfl) (dr_mod (dr_var rfl) (dr_len rfl (dr_bo (dr_var rfl))) (by omega)) (by exact atI_nth (by have := Int.emod_nonneg law_k (b := law_script.length) (by omega); omega) (by exact Int.emod_lt_of_pos _ (by omega))))) (by exact of_decide_eq_true rfl) ?_
    show DS _ _ _
    try simp only [setE, wipeE, List.set_cons_zero, List.set_cons_succ]
    refine ds_seq ?_
    refine ds_settl (dr_div (dr_var rfl) (dr_const (a := (2 : Int))) ⟨by decide, by decide⟩) (by exact of_decide_eq_true rfl) ?_
    show DS _ _ _
    try simp only [setE, wipeE, List.set_cons_zero, List.set_cons_succ]
    refine ds_seq ?_
    refine ds_if (dt_of (dr_eq2 (dr_mod (dr_var rfl) (dr_const (a := (2 : Int))) (by decide)) (dr_const (a := (1 : Int))))) (fun hc => ?_) (fun hc => ?_)
    · try simp only [id, decide_eq_true_eq, decide_eq_false_iff_not, Bool.and_eq_true, Bool.or_eq_true, Bool.and_eq_false_iff, Bool.or_eq_false_iff, Bool.not_eq_true', Bool.not_eq_false', ne_eq, Decidable.not_not, Bool.true_eq_false, Bool.false_eq_true, false_or, or_false, true_and, and_true, not_false_eq_true, not_true_eq_false] at hc
      refine ds_seq ?_
      refine ds_loop (τ := Int) [5] (fun z_ => [(4, sh (z_ : Int))]) (fun _ _ => True) (fun n _ => n.fdiv (2 * law_most - 1)) (nth law_script (law_k % law_script.length) / 2) (di_range1 (dr_min2 (dr_const (a := (59 : Int))) (dr_fdiv (dr_var rfl) (dr_len rfl (dr_bo (dr_var rfl))) (by first | exact ⟨by omega, np_of (n := 201) (by omega) (by decide)⟩ | exact ⟨by omega, PyProof.noPylong_small (by omega)⟩))) (by first | omega | (rw [sizeLine_eq]; omega)) (by first | omega | (rw [sizeLine_eq]; omega))) (by try simp only [setE, wipeE, List.set_cons_zero, List.set_cons_succ]; exact (LeL.keep rfl (LeL.keep rfl (LeL.keep rfl (LeL.keep rfl (LeL.keep rfl (LeL.drop (LeL.drop LeL.nil)))))))) ?_ ?_ ?_
      · trivial
      · intro i x law_number hx hj
        have hxm := List.mem_of_getElem? hx
        refine ⟨?_, fun hz => ⟨_, (dg_name (by exact of_decide_eq_true rfl)), ?_⟩⟩
        · trivial
        · try simp only [setE, wipeE, List.set_cons_zero, List.set_cons_succ]
          refine ds_settl (dr_fdiv (dr_var rfl) (dr_sub (dr_mul (dr_const (a := (2 : Int))) (dr_var rfl) (by first | exact IntMulOk.of_left (intBits_le_64 (by omega) (by omega)) | exact IntMulOk.of_right (intBits_le_64 (by omega) (by omega)) | assumption)) (dr_const (a := (1 : Int)))) (by first | exact ⟨by omega, np_of (n := 201) (by omega) (by decide)⟩ | exact ⟨by omega, PyProof.noPylong_small (by omega)⟩)) (by exact of_decide_eq_true rfl) ?_
          show LeL _ _
          try simp only [setE, wipeE, List.set_cons_zero, List.set_cons_succ]
          exact (LeL.keep rfl (LeL.keep rfl (LeL.keep rfl (LeL.keep rfl (LeL.keep rfl (LeL.drop (LeL.drop LeL.nil)))))))
      · intro hj
        try simp only [setE, wipeE, List.set_cons_zero, List.set_cons_succ]
        show DS _ _ _
        try simp only [setE, wipeE, List.set_cons_zero, List.set_cons_succ]
        refine ds_ret (dr_add (dr_sub (dr_mod (dr_var rfl) (dr_sub (dr_mul (dr_const (a := (2 : Int))) (dr_var rfl) (by first | exact IntMulOk.of_left (intBits_le_64 (by omega) (by omega)) | exact IntMulOk.of_right (intBits_le_64 (by omega) (by omega)) | assumption)) (dr_const (a := (1 : Int)))) (by omega)) (dr_var rfl)) (dr_const (a := (1 : Int)))) ?_
        refine congrArg (sh (α := Int)) (?_ : _ = (entry law_script law_k law_most : Int))
        unfold entry; dsimp only; simp only [*, if_true, if_false, ite_true, ite_false, reduceIte]
    · try simp only [id, decide_eq_true_eq, decide_eq_false_iff_not, Bool.and_eq_true, Bool.or_eq_true, Bool.and_eq_false_iff, Bool.or_eq_false_iff, Bool.not_eq_true', Bool.not_eq_false', ne_eq, Decidable.not_not, Bool.true_eq_false, Bool.false_eq_true, false_or, or_false, true_and, and_true, not_false_eq_true, not_true_eq_false] at hc
      refine ds_next ?_
      show DS _ _ _
      try simp only [setE, wipeE, List.set_cons_zero, List.set_cons_succ]
      refine ds_seq ?_
      refine ds_settl (dr_mod (dr_mul (dr_var rfl) (dr_add (dr_const (a := (1 : Int))) (dr_mul (dr_var rfl) (dr_var rfl) (by first | exact IntMulOk.of_left (intBits_le_64 (by omega) (by omega)) | exact IntMulOk.of_right (intBits_le_64 (by omega) (by omega)) | assumption))) (by first | exact IntMulOk.of_left (intBits_le_64 (by omega) (by omega)) | exact IntMulOk.of_right (intBits_le_64 (by omega) (by omega)) | assumption)) (dr_var rfl) (by omega)) (by exact of_decide_eq_true rfl) ?_
      show DS _ _ _
      try simp only [setE, wipeE, List.set_cons_zero, List.set_cons_succ]
      refine ds_seq ?_
      refine ds_if (dt_of (dr_eq2 (dr_mod (dr_add (dr_var rfl) (dr_var rfl)) (dr_const (a := (3 : Int))) (by decide)) (dr_const (a := (1 : Int))))) (fun hc => ?_) (fun hc => ?_)
      · try simp only [id, decide_eq_true_eq, decide_eq_false_iff_not, Bool.and_eq_true, Bool.or_eq_true, Bool.and_eq_false_iff, Bool.or_eq_false_iff, Bool.not_eq_true', Bool.not_eq_false', ne_eq, Decidable.not_not, Bool.true_eq_false, Bool.false_eq_true, false_or, or_false, true_and, and_true, not_false_eq_true, not_true_eq_false] at hc
        refine ds_settl (dr_mod (dr_var rfl) (dr_const (a := (7 : Int))) (by decide)) (by exact of_decide_eq_true rfl) ?_
        show DS _ _ _
        try simp only [setE, wipeE, List.set_cons_zero, List.set_cons_succ]
        refine ds_seq ?_
        refine ds_if (dt_of (dr_eq2 (dr_mod (dr_add (dr_var rfl) (dr_var rfl)) (dr_const (a := (7 : Int))) (by decide)) (dr_const (a := (2 : Int))))) (fun hc => ?_) (fun hc => ?_)
        · try simp only [id, decide_eq_true_eq, decide_eq_false_iff_not, Bool.and_eq_true, Bool.or_eq_true, Bool.and_eq_false_iff, Bool.or_eq_false_iff, Bool.not_eq_true', Bool.not_eq_false', ne_eq, Decidable.not_not, Bool.true_eq_false, Bool.false_eq_true, false_or, or_false, true_and, and_true, not_false_eq_true, not_true_eq_false] at hc
          refine ds_settl (dr_const (a := (0 : Int))) (by exact of_decide_eq_true rfl) ?_
          show DS _ _ _
          try simp only [setE, wipeE, List.set_cons_zero, List.set_cons_succ]
          refine ds_seq ?_
          refine ds_if (dt_of (dr_eq2 (dr_mod (dr_div (dr_var rfl) (dr_const (a := (2 : Int))) ⟨by decide, by decide⟩) (dr_const (a := (2 : Int))) (by decide)) (dr_const (a := (1 : Int))))) (fun hc => ?_) (fun hc => ?_)
          · try simp only [id, decide_eq_true_eq, decide_eq_false_iff_not, Bool.and_eq_true, Bool.or_eq_true, Bool.and_eq_false_iff, Bool.or_eq_false_iff, Bool.not_eq_true', Bool.not_eq_false', ne_eq, Decidable.not_not, Bool.true_eq_false, Bool.false_eq_true, false_or, or_false, true_and, and_true, not_false_eq_true, not_true_eq_false] at hc
            refine ds_ret (dr_sub (dr_const (a := (0 : Int))) (dr_var rfl)) ?_
            refine congrArg (sh (α := Int)) (?_ : _ = (entry law_script law_k law_most : Int))
            unfold entry; dsimp only; simp only [*, if_true, if_false, ite_true, ite_false, reduceIte]
          · try simp only [id, decide_eq_true_eq, decide_eq_false_iff_not, Bool.and_eq_true, Bool.or_eq_true, Bool.and_eq_false_iff, Bool.or_eq_false_iff, Bool.not_eq_true', Bool.not_eq_false', ne_eq, Decidable.not_not, Bool.true_eq_false, Bool.false_eq_true, false_or, or_false, true_and, and_true, not_false_eq_true, not_true_eq_false] at hc
            refine ds_next ?_
            show DS _ _ _
            try simp only [setE, wipeE, List.set_cons_zero, List.set_cons_succ]
            refine ds_ret (dr_var rfl) ?_
            refine congrArg (sh (α := Int)) (?_ : _ = (entry law_script law_k law_most : Int))
            unfold entry; dsimp only; simp only [*, if_true, if_false, ite_true, ite_false, reduceIte]
        · try simp only [id, decide_eq_true_eq, decide_eq_false_iff_not, Bool.and_eq_true, Bool.or_eq_true, Bool.and_eq_false_iff, Bool.or_eq_false_iff, Bool.not_eq_true', Bool.not_eq_false', ne_eq, Decidable.not_not, Bool.true_eq_false, Bool.false_eq_true, false_or, or_false, true_and, and_true, not_false_eq_true, not_true_eq_false] at hc
          refine ds_next ?_
          show DS _ _ _
          try simp only [setE, wipeE, List.set_cons_zero, List.set_cons_succ]
          refine ds_seq ?_
          refine ds_if (dt_of (dr_eq2 (dr_mod (dr_div (dr_var rfl) (dr_const (a := (2 : Int))) ⟨by decide, by decide⟩) (dr_const (a := (2 : Int))) (by decide)) (dr_const (a := (1 : Int))))) (fun hc => ?_) (fun hc => ?_)
          · try simp only [id, decide_eq_true_eq, decide_eq_false_iff_not, Bool.and_eq_true, Bool.or_eq_true, Bool.and_eq_false_iff, Bool.or_eq_false_iff, Bool.not_eq_true', Bool.not_eq_false', ne_eq, Decidable.not_not, Bool.true_eq_false, Bool.false_eq_true, false_or, or_false, true_and, and_true, not_false_eq_true, not_true_eq_false] at hc
            refine ds_ret (dr_sub (dr_const (a := (0 : Int))) (dr_var rfl)) ?_
            refine congrArg (sh (α := Int)) (?_ : _ = (entry law_script law_k law_most : Int))
            unfold entry; dsimp only; simp only [*, if_true, if_false, ite_true, ite_false, reduceIte]
          · try simp only [id, decide_eq_true_eq, decide_eq_false_iff_not, Bool.and_eq_true, Bool.or_eq_true, Bool.and_eq_false_iff, Bool.or_eq_false_iff, Bool.not_eq_true', Bool.not_eq_false', ne_eq, Decidable.not_not, Bool.true_eq_false, Bool.false_eq_true, false_or, or_false, true_and, and_true, not_false_eq_true, not_true_eq_false] at hc
            refine ds_next ?_
            show DS _ _ _
            try simp only [setE, wipeE, List.set_cons_zero, List.set_cons_succ]
            refine ds_ret (dr_var rfl) ?_
            refine congrArg (sh (α := Int)) (?_ : _ = (entry law_script law_k law_most : Int))
            unfold entry; dsimp only; simp only [*, if_true, if_false, ite_true, ite_false, reduceIte]
      · try simp only [id, decide_eq_true_eq, decide_eq_false_iff_not, Bool.and_eq_true, Bool.or_eq_true, Bool.and_eq_false_iff, Bool.or_eq_false_iff, Bool.not_eq_true', Bool.not_eq_false', ne_eq, Decidable.not_not, Bool.true_eq_false, Bool.false_eq_true, false_or, or_false, true_and, and_true, not_false_eq_true, not_true_eq_false] at hc
        refine ds_next ?_
        show DS _ _ _
        try simp only [setE, wipeE, List.set_cons_zero, List.set_cons_succ]
        refine ds_seq ?_
        refine ds_if (dt_of (dr_eq2 (dr_mod (dr_add (dr_var rfl) (dr_var rfl)) (dr_const (a := (7 : Int))) (by decide)) (dr_const (a := (2 : Int))))) (fun hc => ?_) (fun hc => ?_)
        · try simp only [id, decide_eq_true_eq, decide_eq_false_iff_not, Bool.and_eq_true, Bool.or_eq_true, Bool.and_eq_false_iff, Bool.or_eq_false_iff, Bool.not_eq_true', Bool.not_eq_false', ne_eq, Decidable.not_not, Bool.true_eq_false, Bool.false_eq_true, false_or, or_false, true_and, and_true, not_false_eq_true, not_true_eq_false] at hc
          refine ds_settl (dr_const (a := (0 : Int))) (by exact of_decide_eq_true rfl) ?_
          show DS _ _ _
          try simp only [setE, wipeE, List.set_cons_zero, List.set_cons_succ]
          refine ds_seq ?_
          refine ds_if (dt_of (dr_eq2 (dr_mod (dr_div (dr_var rfl) (dr_const (a := (2 : Int))) ⟨by decide, by decide⟩) (dr_const (a := (2 : Int))) (by decide)) (dr_const (a := (1 : Int))))) (fun hc => ?_) (fun hc => ?_)
          · try simp only [id, decide_eq_true_eq, decide_eq_false_iff_not, Bool.and_eq_true, Bool.or_eq_true, Bool.and_eq_false_iff, Bool.or_eq_false_iff, Bool.not_eq_true', Bool.not_eq_false', ne_eq, Decidable.not_not, Bool.true_eq_false, Bool.false_eq_true, false_or, or_false, true_and, and_true, not_false_eq_true, not_true_eq_false] at hc
            refine ds_ret (dr_sub (dr_const (a := (0 : Int))) (dr_var rfl)) ?_
            refine congrArg (sh (α := Int)) (?_ : _ = (entry law_script law_k law_most : Int))
            unfold entry; dsimp only; simp only [*, if_true, if_false, ite_true, ite_false, reduceIte]
          · try simp only [id, decide_eq_true_eq, decide_eq_false_iff_not, Bool.and_eq_true, Bool.or_eq_true, Bool.and_eq_false_iff, Bool.or_eq_false_iff, Bool.not_eq_true', Bool.not_eq_false', ne_eq, Decidable.not_not, Bool.true_eq_false, Bool.false_eq_true, false_or, or_false, true_and, and_true, not_false_eq_true, not_true_eq_false] at hc
            refine ds_next ?_
            show DS _ _ _
            try simp only [setE, wipeE, List.set_cons_zero, List.set_cons_succ]
            refine ds_ret (dr_var rfl) ?_
            refine congrArg (sh (α := Int)) (?_ : _ = (entry law_script law_k law_most : Int))
            unfold entry; dsimp only; simp only [*, if_true, if_false, ite_true, ite_false, reduceIte]
        · try simp only [id, decide_eq_true_eq, decide_eq_false_iff_not, Bool.and_eq_true, Bool.or_eq_true, Bool.and_eq_false_iff, Bool.or_eq_false_iff, Bool.not_eq_true', Bool.not_eq_false', ne_eq, Decidable.not_not, Bool.true_eq_false, Bool.false_eq_true, false_or, or_false, true_and, and_true, not_false_eq_true, not_true_eq_false] at hc
          refine ds_next ?_
          show DS _ _ _
          try simp only [setE, wipeE, List.set_cons_zero, List.set_cons_succ]
          refine ds_seq ?_
          refine ds_if (dt_of (dr_eq2 (dr_mod (dr_div (dr_var rfl) (dr_const (a := (2 : Int))) ⟨by decide, by decide⟩) (dr_const (a := (2 : Int))) (by decide)) (dr_const (a := (1 : Int))))) (fun hc => ?_) (fun hc => ?_)
          · try simp only [id, decide_eq_true_eq, decide_eq_false_iff_not, Bool.and_eq_true, Bool.or_eq_true, Bool.and_eq_false_iff, Bool.or_eq_false_iff, Bool.not_eq_true', Bool.not_eq_false', ne_eq, Decidable.not_not, Bool.true_eq_false, Bool.false_eq_true, false_or, or_false, true_and, and_true, not_false_eq_true, not_true_eq_false] at hc
            refine ds_ret (dr_sub (dr_const (a := (0 : Int))) (dr_var rfl)) ?_
            refine congrArg (sh (α := Int)) (?_ : _ = (entry law_script law_k law_most : Int))
            unfold entry; dsimp only; simp only [*, if_true, if_false, ite_true, ite_false, reduceIte]
          · try simp only [id, decide_eq_true_eq, decide_eq_false_iff_not, Bool.and_eq_true, Bool.or_eq_true, Bool.and_eq_false_iff, Bool.or_eq_false_iff, Bool.not_eq_true', Bool.not_eq_false', ne_eq, Decidable.not_not, Bool.true_eq_false, Bool.false_eq_true, false_or, or_false, true_and, and_true, not_false_eq_true, not_true_eq_false] at hc
            refine ds_next ?_
            show DS _ _ _
            try simp only [setE, wipeE, List.set_cons_zero, List.set_cons_succ]
            refine ds_ret (dr_var rfl) ?_
            refine congrArg (sh (α := Int)) (?_ : _ = (entry law_script law_k law_most : Int))
            unfold entry; dsimp only; simp only [*, if_true, if_false, ite_true, ite_false, reduceIte]
theorem ok_law_entry (D : Dfn mg "_law_entry" s_law_entry ["_law_script", "_law_k", "_law_most"]) (B : Blt mg)      : Cal P w mg base "_law_entry" 1 ["_law_script", "_law_k", "_law_most"] (sp3 w_law_entry) := cal_of D fun f fd F => okF_law_entry F B  
abbrev s_law_rest : Stmt := topS 35
theorem sc_law_rest : FnScope ["_law_cell"] ["_law_cell"] (defScope s_law_rest) := ⟨rfl, rfl, rfl, by decide +kernel, rfl, by decide +kernel, by decide +kernel⟩
def v_law_rest (law_cell : Int) : Int := restv law_cell
def w_law_rest (law_cell : Int) : Wf := ⟨True, sh (v_law_rest law_cell)⟩
theorem okF_law_rest {f : Addr} {fd : FuncData} (F : Fun Γ.K "_law_rest" "_law_rest" s_law_rest f fd) (B : Blt mg)      : FnOk P w Γ.K mg base CX0 1 f fd ["_law_cell"] (sp1 w_law_rest) := by
  have SC := sc_law_rest
  refine fn1 F SC fun cdv A outer s H E hr => ⟨_, (pss_cons (ps_if (pt_cmpR op_eq (pe_op op_mod (pv 0) pe_int) pe_int (nomark _)) (pss_one (ps_ret (pe_op op_sub pe_int (pe_op op_mulK (pe_op op_mod (pe_op op_fdiv (pv 0) pe_int) pe_int) (pe_op op_mod (pe_op op_fdiv (pv 0) pe_int) (pe_op op_pow pe_int pe_int)))))) pss_nil) (pss_cons (ps_if (pt_cmpR op_eq (pe_op op_mod (pv 0) pe_int) pe_int (nomark _)) (pss_one (ps_ret (pe_op op_add pe_int (pe_op op_mod (pe_op op_fdiv (pv 0) pe_int) pe_int)))) pss_nil) (pss_one (ps_ret (pe_op op_add pe_int (pe_op op_mod (pe_op op_fdiv (pv 0) pe_int) (pe_op op_pow pe_int pe_int))))))), ?_⟩
  intro law_cell hp
  have hp : True := hp
  show DS [some (G.st law_cell)] _ _
  refine ds_seq ?_
  refine ds_if (dt_of (dr_eq2 (dr_mod (dr_var rfl) (dr_const (a := (4 : Int))) (by decide)) (dr_const (a := (0 : Int))))) (fun hc => ?_) (fun hc => ?_)
  · try simp only [id, decide_eq_true_eq, decide_eq_false_iff_not, Bool.and_eq_true, Bool.or_eq_true, Bool.and_eq_false_iff, Bool.or_eq_false_iff, Bool.not_eq_true', Bool.not_eq_false', ne_eq, Decidable.not_not, Bool.true_eq_false, Bool.false_eq_true, false_or, or_false, true_and, and_true, not_false_eq_true, not_true_eq_false] at hc
    refine ds_ret (dr_sub (dr_const (a := (1 : Int))) (dr_mul (dr_mod (dr_div (dr_var rfl) (dr_const (a := (4 : Int))) ⟨by decide, by decide⟩) (dr_const (a := (3 : Int))) (by decide)) (dr_mod (dr_div (dr_var rfl) (dr_const (a := (12 : Int))) ⟨by decide, by decide⟩) (dr_pow (dr_const (a := (10 : Int))) (dr_const (a := (59 : Int))) ⟨by decide, by decide, by decide⟩) (by decide +kernel)) (by first | exact IntMulOk.of_left (intBits_le_64 (by omega) (by omega)) | exact IntMulOk.of_right (intBits_le_64 (by omega) (by omega)) | assumption))) ?_
    refine congrArg (sh (α := Int)) (?_ : _ = (restv law_cell : Int))
    first | (rw [restv, if_pos hc]; done) | (rw [restv, if_neg ‹¬ law_cell % 4 = 0›, if_pos hc]; done) | (rw [restv, if_neg ‹¬ law_cell % 4 = 0›, if_neg hc]; done)
  · try simp only [id, decide_eq_true_eq, decide_eq_false_iff_not, Bool.and_eq_true, Bool.or_eq_true, Bool.and_eq_false_iff, Bool.or_eq_false_iff, Bool.not_eq_true', Bool.not_eq_false', ne_eq, Decidable.not_not, Bool.true_eq_false, Bool.false_eq_true, false_or, or_false, true_and, and_true, not_false_eq_true, not_true_eq_false] at hc
    refine ds_next ?_
    show DS _ _ _
    try simp only [setE, wipeE, List.set_cons_zero, List.set_cons_succ]
    refine ds_seq ?_
    refine ds_if (dt_of (dr_eq2 (dr_mod (dr_var rfl) (dr_const (a := (4 : Int))) (by decide)) (dr_const (a := (1 : Int))))) (fun hc => ?_) (fun hc => ?_)
    · try simp only [id, decide_eq_true_eq, decide_eq_false_iff_not, Bool.and_eq_true, Bool.or_eq_true, Bool.and_eq_false_iff, Bool.or_eq_false_iff, Bool.not_eq_true', Bool.not_eq_false', ne_eq, Decidable.not_not, Bool.true_eq_false, Bool.false_eq_true, false_or, or_false, true_and, and_true, not_false_eq_true, not_true_eq_false] at hc
      refine ds_ret (dr_add (dr_const (a := (2 : Int))) (dr_mod (dr_div (dr_var rfl) (dr_const (a := (4 : Int))) ⟨by decide, by decide⟩) (dr_const (a := (2 : Int))) (by decide))) ?_
      refine congrArg (sh (α := Int)) (?_ : _ = (restv law_cell : Int))
      first | (rw [restv, if_pos hc]; done) | (rw [restv, if_neg ‹¬ law_cell % 4 = 0›, if_pos hc]; done) | (rw [restv, if_neg ‹¬ law_cell % 4 = 0›, if_neg hc]; done)
    · try simp only [id, decide_eq_true_eq, decide_eq_false_iff_not, Bool.and_eq_true, Bool.or_eq_true, Bool.and_eq_false_iff, Bool.or_eq_false_iff, Bool.not_eq_true', Bool.not_eq_false', ne_eq, Decidable.not_not, Bool.true_eq_false, Bool.false_eq_true, false_or, or_false, true_and, and_true, not_false_eq_true, not_true_eq_false] at hc
      refine ds_next ?_
      show DS _ _ _
      try simp only [setE, wipeE, List.set_cons_zero, List.set_cons_succ]
      refine ds_ret (dr_add (dr_const (a := (2 : Int))) (dr_mod (dr_div (dr_var rfl) (dr_const (a := (4 : Int))) ⟨by decide, by decide⟩) (dr_pow (dr_const (a := (10 : Int))) (dr_const (a := (59 : Int))) ⟨by decide, by decide, by decide⟩) (by decide +kernel))) ?_
      refine congrArg (sh (α := Int)) (?_ : _ = (restv law_cell : Int))
      first | (rw [restv, if_pos hc]; done) | (rw [restv, if_neg ‹¬ law_cell % 4 = 0›, if_pos hc]; done) | (rw [restv, if_neg ‹¬ law_cell % 4 = 0›, if_neg hc]; done)
theorem ok_law_rest (D : Dfn mg "_law_rest" s_law_rest ["_law_cell"]) (B : Blt mg)      : Cal P w mg base "_law_rest" 1 ["_law_cell"] (sp1 w_law_rest) := cal_of D fun f fd F => okF_law_rest F B  
abbrev s_law_basket : Stmt := topS 36
theorem sc_law_basket : FnScope ["_law_script", "_law_weights", "_law_k", "_law_size", "_law_basket_here", "_law_cell", "_law_j"] ["_law_script", "_law_weights", "_law_k"] (defScope s_law_basket) := ⟨rfl, rfl, rfl, by decide +kernel, rfl, by decide +kernel, by decide +kernel⟩
def x_law_basket (law_script : List Int) (law_weights : List Int) (law_k : Int) (r : List Int) : Prop := r.length ≤ 9 ∧ Sm r
def w_law_basket (law_script : List Int) (law_weights : List Int) (law_k : Int) : Wf := ⟨(law_weights.length ≤ 8 ∧ 1 ≤ law_weights.length ∧ Sm law_weights) ∧ 0 ≤ law_k ∧ law_k ≤ 60 ∧ law_script.length ≤ 63 ∧ 2 + law_k < law_script.length, exS (x_law_basket law_script law_weights law_k) fun (r : List Int) => sh r⟩
theorem okF_law_basket {f : Addr} {fd : FuncData} (F : Fun Γ.K "_law_basket" "_law_basket" s_law_basket f fd) (B : Blt mg) (C_law_entry : Cal P w mg base "_law_entry" 1 ["_law_script", "_law_k", "_law_most"] (sp3 w_law_entry))     : FnOk P w Γ.K mg base CX0 2 f fd ["_law_script", "_law_weights", "_law_k"] (sp3 w_law_basket) := by
  obtain ⟨f_law_entry, fd_law_entry, G_law_entry, m_law_entry, k_law_entry, b_law_entry⟩ := C_law_entry
  have SC := sc_law_basket
  refine fn3 F SC fun cdv A outer s H E hr => ⟨_, (pss_cons (ps_set (i := 3) SC.nd rfl (Or.inl rfl) (pe_callB call_len_seq (by rfl) B.len PySem.boot_len (pa_cons (pv 1) pa_nil))) (pss_cons (ps_setLc (i := 4) (own := [("_law_j", 6)]) (g := (gName 6)) (tt := tYes) rfl SC.nd rfl rfl (sw_true rfl rfl rfl (by decide +kernel)) (pi_range1 rfl B.range (pa_cons (pv 3) pa_nil)) (blkOk_by (N := ["_law_script", "_law_weights", "_law_k", "_law_size", "_law_basket_here", "_law_cell", "_law_j"]) (sc := (defScope s_law_basket)) (by decide +kernel)) (fun _ _ _ _ _ => (pg_name (i := 6) SC.nd rfl (Or.inl rfl))) (fun _ _ _ _ _ => pts_nil) (fun _ _ _ _ _ => by refine pe_fix (pe_call G_law_entry (hr.mono (by decide)) rfl m_law_entry k_law_entry b_law_entry .nil pass0 (pa_cons (pe_slice sl_list (pv 0) (po_some pe_int) po_none) (pa_cons (pe_op op_add (pe_op op_add (pe_op op_mulK pe_int (pv 2)) (pv 6)) pe_int) (pa_cons (pe_op op_pow pe_int pe_int) pa_nil)))) ?_; (try simp only [blk_K, nox_K, cxOf_K]) <;> rfl)) (pss_cons (ps_set (i := 5) SC.nd rfl (Or.inl rfl) (pe_ix ix_list (pv 0) (pe_op op_add pe_int (pv 2)) (fun _ _ => rfl))) (pss_cons (ps_if (pt_cmpR op_eq (pe_op op_mod (pv 5) pe_int) pe_int (nomark _)) (pss_one (ps_ret (pe_slice sl_list (pv 4) (po_some pe_int) po_none))) pss_nil) (pss_cons (ps_if (pt_cmpR op_eq (pe_op op_mod (pv 5) pe_int) pe_int (nomark _)) (pss_one (ps_ret (pe_op op_catG (pv 4) (pe_lst (pa_cons pe_int pa_nil))))) pss_nil) (pss_cons (ps_if (PW.pt (pw_and (pt_cmpR op_eq (pe_op op_mod (pv 5) pe_int) pe_int (nomark _)) (pw_and1 (pt_cmpR op_gt (pv 3) pe_int (nomark _))))) (pss_one (ps_ret (pe_op op_catG (pe_lst (pa_cons (pe_ix ix_list (pv 1) pe_int (fun _ _ => rfl)) (pa_cons (pe_op op_sub pe_int (pe_ix ix_list (pv 1) pe_int (fun _ _ => rfl))) pa_nil))) (pe_op op_rep (pe_lst (pa_cons pe_int pa_nil)) (pe_op op_sub (pv 3) pe_int))))) pss_nil) (pss_one (ps_ret (pv 4))))))))), ?_⟩
  intro law_script law_weights law_k hp
  have hp : (law_weights.length ≤ 8 ∧ 1 ≤ law_weights.length ∧ Sm law_weights) ∧ 0 ≤ law_k ∧ law_k ≤ 60 ∧ law_script.length ≤ 63 ∧ 2 + law_k < law_script.length := hp
  show DS [some (G.st law_script), some (G.st law_weights), some (G.st law_k), none, none, none, none] _ _
  refine ds_seq ?_
  refine ds_settl (dr_len rfl (dr_bo (dr_var rfl))) (by exact of_decide_eq_true rfl) ?_
  show DS _ _ _
  try simp only [setE, wipeE, List.set_cons_zero, List.set_cons_succ]
  refine ds_seq ?_
  refine ds_settl (dr_frz (n := true) (dr_lc0 (n := true) (di_range1 (dr_var rfl) (by first | omega | (rw [sizeLine_eq]; omega)) (by first | omega | (rw [sizeLine_eq]; omega))) (gv_name (by decide)) (fun x hx => (dg_name (by exact of_decide_eq_true rfl))) (fun x hx => (dr_call3 (da_sh (dr_frz (n := true) (dr_slb rfl (dr_bo (dr_var rfl)) (dp_some (dr_const (a := (3 : Int)))) dp_none)) (da_sh (dr_add (dr_add (dr_mul (dr_const (a := (41 : Int))) (dr_var rfl) (by first | exact IntMulOk.of_left (intBits_le_64 (by omega) (by omega)) | exact IntMulOk.of_right (intBits_le_64 (by omega) (by omega)) | assumption)) (dr_var rfl)) (dr_const (a := (11 : Int)))) (da_sh (dr_pow (dr_const (a := (10 : Int))) (dr_const (a := (60 : Int))) ⟨by decide, by decide, by decide⟩) da_nil))) (by have hx' := List.mem_range.mp hx; exact ⟨by omega, by omega, by decide, by decide +kernel, Nat.le_trans cut_len hp.2.2.2.1⟩) reb_sc)))) (by exact of_decide_eq_true rfl) ?_
  show DS _ _ _
  try simp only [setE, wipeE, List.set_cons_zero, List.set_cons_succ]
  refine ds_abs (i := 4) (fun (law_basket_here : List Int) => (law_basket_here.length : Int) = law_weights.length ∧ Sm law_basket_here) rfl (by exact ents_ok (by omega)) (fun law_basket_here h_law_basket_here => ?_)
  try simp only [setE, wipeE, List.set_cons_zero, List.set_cons_succ]
  show DS _ _ _
  try simp only [setE, wipeE, List.set_cons_zero, List.set_cons_succ]
  refine ds_seq ?_
  refine ds_settl (dr_flat (m' := .nw) (dr_ix rfl (dr_var rfl) (dr_add (dr_const (a := (2 : Int))) (dr_var rfl)) (by first | exact atI_nth (by omega) (by omega)))) (by exact of_decide_eq_true rfl) ?_
  show DS _ _ _
  try simp only [setE, wipeE, List.set_cons_zero, List.set_cons_succ]
  refine ds_seq ?_
  refine ds_if (dt_of (dr_eq2 (dr_mod (dr_var rfl) (dr_const (a := (8 : Int))) (by decide)) (dr_const (a := (1 : Int))))) (fun hc => ?_) (fun hc => ?_)
  · try simp only [id, decide_eq_true_eq, decide_eq_false_iff_not, Bool.and_eq_true, Bool.or_eq_true, Bool.and_eq_false_iff, Bool.or_eq_false_iff, Bool.not_eq_true', Bool.not_eq_false', ne_eq, Decidable.not_not, Bool.true_eq_false, Bool.false_eq_true, false_or, or_false, true_and, and_true, not_false_eq_true, not_true_eq_false] at hc
    refine ds_ret (dr_ex (s := fun (r : List Int) => sh r) ?_ (dr_frz (n := true) (dr_slb rfl (dr_bo (dr_var rfl)) (dp_some (dr_const (a := (1 : Int)))) dp_none))) rfl
    exact ⟨by first | exact Nat.le_trans cut_len (by omega), fun x hx => h_law_basket_here.2 x (List.mem_of_mem_drop (List.mem_of_mem_take hx))⟩
  · try simp only [id, decide_eq_true_eq, decide_eq_false_iff_not, Bool.and_eq_true, Bool.or_eq_true, Bool.and_eq_false_iff, Bool.or_eq_false_iff, Bool.not_eq_true', Bool.not_eq_false', ne_eq, Decidable.not_not, Bool.true_eq_false, Bool.false_eq_true, false_or, or_false, true_and, and_true, not_false_eq_true, not_true_eq_false] at hc
    refine ds_next ?_
    show DS _ _ _
    try simp only [setE, wipeE, List.set_cons_zero, List.set_cons_succ]
    refine ds_seq ?_
    refine ds_if (dt_of (dr_eq2 (dr_mod (dr_var rfl) (dr_const (a := (8 : Int))) (by decide)) (dr_const (a := (2 : Int))))) (fun hc => ?_) (fun hc => ?_)
    · try simp only [id, decide_eq_true_eq, decide_eq_false_iff_not, Bool.and_eq_true, Bool.or_eq_true, Bool.and_eq_false_iff, Bool.or_eq_false_iff, Bool.not_eq_true', Bool.not_eq_false', ne_eq, Decidable.not_not, Bool.true_eq_false, Bool.false_eq_true, false_or, or_false, true_and, and_true, not_false_eq_true, not_true_eq_false] at hc
      refine ds_ret (dr_ex (s := fun (r : List Int) => sh r) ?_ (dr_frz (n := true) (dr_catb rfl (dr_bo (dr_var rfl)) (dr_bo (dr_frz (n := true) (dr_lst (n := true) (α := Int) (l := [_]) (da_sh (dr_const (a := (0 : Int))) da_nil) (by show 1 ≤ sizeLine; decide)))) (by simp; rw [sizeLine_eq]; omega)))) rfl
      exact ⟨by rw [List.length_append]; show _ + 1 ≤ 9; omega, fun x hx => (List.mem_append.mp hx).elim (h_law_basket_here.2 x) fun h => by rw [List.mem_singleton.mp h]; exact Nat.pow_pos (by decide)⟩
    · try simp only [id, decide_eq_true_eq, decide_eq_false_iff_not, Bool.and_eq_true, Bool.or_eq_true, Bool.and_eq_false_iff, Bool.or_eq_false_iff, Bool.not_eq_true', Bool.not_eq_false', ne_eq, Decidable.not_not, Bool.true_eq_false, Bool.false_eq_true, false_or, or_false, true_and, and_true, not_false_eq_true, not_true_eq_false] at hc
      refine ds_next ?_
      show DS _ _ _
      try simp only [setE, wipeE, List.set_cons_zero, List.set_cons_succ]
      refine ds_seq ?_
      refine ds_if (dt_and (dt_of (dr_eq2 (dr_mod (dr_var rfl) (dr_const (a := (4 : Int))) (by decide)) (dr_const (a := (3 : Int))))) (fun hb => (dt_of (dr_gt (dr_var rfl) (dr_const (a := (1 : Int))))))) (fun hc => ?_) (fun hc => ?_)
      · try simp only [id, decide_eq_true_eq, decide_eq_false_iff_not, Bool.and_eq_true, Bool.or_eq_true, Bool.and_eq_false_iff, Bool.or_eq_false_iff, Bool.not_eq_true', Bool.not_eq_false', ne_eq, Decidable.not_not, Bool.true_eq_false, Bool.false_eq_true, false_or, or_false, true_and, and_true, not_false_eq_true, not_true_eq_false] at hc
        refine ds_ret (dr_ex (s := fun (r : List Int) => sh r) ?_ (dr_frz (n := true) (dr_catb rfl (dr_bo (dr_frz (n := true) (dr_lst (n := true) (α := Int) (l := [_, _]) (da_sh (dr_flat (m' := .nw) (dr_ix rfl (dr_var rfl) (dr_const (a := (1 : Int))) (by first | exact atI_nth (by omega) (by omega)))) (da_sh (dr_sub (dr_const (a := (0 : Int))) (dr_ix rfl (dr_var rfl) (dr_const (a := (0 : Int))) (by first | exact atI_nth (by omega) (by omega)))) da_nil)) (by show 2 ≤ sizeLine; decide)))) (dr_bo (dr_frz (n := true) (dr_rep (dr_lst (n := true) (α := Int) (l := [_]) (da_sh (dr_const (a := (0 : Int))) da_nil) (by show 1 ≤ sizeLine; decide)) (dr_sub (dr_var rfl) (dr_const (a := (2 : Int)))) (by first | omega | (rw [sizeLine_eq]; omega) | (simp at *; omega)) (by first | omega | (rw [sizeLine_eq]; omega) | (simp at *; omega)) (by simp [sizeLine_eq]; omega)))) (by simp; rw [sizeLine_eq]; omega)))) rfl
        rw [show (List.replicate ((law_weights.length : Int) - 2).toNat [(0 : Int)]).flatten = List.replicate ((law_weights.length : Int) - 2).toNat 0 from by rw [List.flatten_replicate_singleton]]
        exact ⟨by simp; omega, sm_neg hp.1.2.2 _ _ _ (nth_in (by omega) (by omega)) (nth_in (by omega) (by omega))⟩
      · try simp only [id, decide_eq_true_eq, decide_eq_false_iff_not, Bool.and_eq_true, Bool.or_eq_true, Bool.and_eq_false_iff, Bool.or_eq_false_iff, Bool.not_eq_true', Bool.not_eq_false', ne_eq, Decidable.not_not, Bool.true_eq_false, Bool.false_eq_true, false_or, or_false, true_and, and_true, not_false_eq_true, not_true_eq_false] at hc
        refine ds_next ?_
        show DS _ _ _
        try simp only [setE, wipeE, List.set_cons_zero, List.set_cons_succ]
        refine ds_ret (dr_ex (s := fun (r : List Int) => sh r) ?_ (dr_var rfl)) rfl
        exact ⟨by omega, h_law_basket_here.2⟩
theorem ok_law_basket (D : Dfn mg "_law_basket" s_law_basket ["_law_script", "_law_weights", "_law_k"]) (B : Blt mg) (C_law_entry : Cal P w mg base "_law_entry" 1 ["_law_script", "_law_k", "_law_most"] (sp3 w_law_entry))     : Cal P w mg base "_law_basket" 2 ["_law_script", "_law_weights", "_law_k"] (sp3 w_law_basket) := cal_of D fun f fd F => okF_law_basket F B C_law_entry 
abbrev s_law_asked : Stmt := topS 37
theorem sc_law_asked : FnScope ["_law_scale", "_law_basket_here", "_law_way", "_law_found", "_law_caught", "e"] ["_law_scale", "_law_basket_here", "_law_way"] (defScope s_law_asked) := ⟨rfl, rfl, rfl, by decide +kernel, rfl, by decide +kernel, by decide +kernel⟩
def v_law_asked (law_scale : Scl) (law_basket_here : List Int) (law_way : Int) : ((Option IB) × (Option Exn)) := askv law_scale law_basket_here law_way
def w_law_asked (law_scale : Scl) (law_basket_here : List Int) (law_way : Int) : Wf := ⟨SclOk law_scale ∧ MulOk law_scale law_basket_here, sh (v_law_asked law_scale law_basket_here law_way)⟩
theorem okF_law_asked {f : Addr} {fd : FuncData} (F : Fun Γ.K "_law_asked" "_law_asked" s_law_asked f fd) (B : Blt mg)     (XSF : SF mg) (CMX_weigh : CalM P w mg base (L2.CX P w) "weigh" 6 ["self", "basket"] ["self", "basket"] (spo (sp2 w_Scale_weigh) (spr2 xr_Scale_weigh)) (spo (sp2 w_Rest_weigh) (spr2 xr_Rest_weigh))) (CMX_levels : CalM P w mg base (L2.CX P w) "levels" 7 ["self", "basket"] ["self", "basket"] (spo (sp2 w_Scale_levels) (spr2 xr_Scale_levels)) (spo (sp2 w_Scale_levels) (spr2 xr_Scale_levels))) (XS : Xs mg) (XE : ∀ c ∈ SX, XK1 c)  : FnOk P w Γ.K mg base CX0 8 f fd ["_law_scale", "_law_basket_here", "_law_way"] (sp3 w_law_asked) := by
  obtain ⟨fX_weigh, fdX_weigh, fX2_weigh, fdX2_weigh, GX_weigh, GX2_weigh, MX_weigh, MX2_weigh, bX_weigh, bX2_weigh⟩ := CMX_weigh
  obtain ⟨fX_levels, fdX_levels, fX2_levels, fdX2_levels, GX_levels, GX2_levels, MX_levels, MX2_levels, bX_levels, bX2_levels⟩ := CMX_levels
  have SC := sc_law_asked
  refine fn3 F SC fun cdv A outer s H E hr => ⟨_, (pss_cons (ps_set (i := 3) SC.nd rfl (Or.inl rfl) pe_non) (pss_cons (ps_set (i := 4) SC.nd rfl (Or.inl rfl) pe_non) (pss_cons (ps_try_tt (i := 5) (j := 4) rfl rfl rfl SC.nd rfl rfl ⟨rfl, rfl, .inl (by exact XS.ad 19 (by decide))⟩ (fun W pn xe tk po => by refine pss_fix (pss_one (ps_if (pt_cmpR op_eq (pv 2) pe_int (nomark _)) (pss_one (ps_set (i := 3) SC.nd rfl (Or.inl rfl) (pe_methS  (pv 0) XSF.c2.cl XSF.c3.cl MX_weigh MX2_weigh GX_weigh GX2_weigh (hr.mono (by decide)) bX_weigh bX2_weigh (fun σ => passAt tk σ) (pa_cons (pv 1) pa_nil)))) (pss_one (ps_set (i := 3) SC.nd rfl (Or.inl rfl) (pe_methS  (pv 0) XSF.c2.cl XSF.c3.cl MX_levels MX2_levels GX_levels GX2_levels (hr.mono (by decide)) bX_levels bX2_levels (fun σ => passAt tk σ) (pa_cons (pv 1) pa_nil)))))) ?_; (try simp only [tr_K, nox_K, cxOf_K]) <;> rfl) (fun a oe cls d pn hz hf => pss_one (ps_set (i := 4) SC.nd rfl (Or.inl rfl) (pv 5)))) (pss_one (ps_ret (pe_tup (pa_cons (pv 3) (pa_cons (pv 4) pa_nil)))))))), ?_⟩
  intro law_scale law_basket_here law_way hp
  have hp : SclOk law_scale ∧ MulOk law_scale law_basket_here := hp
  show DS [some (G.st law_scale), some (G.st law_basket_here), some (G.st law_way), none, none, none] _ _
  refine ds_seq ?_
  refine ds_settl (dr_none (α := IB) (m := .nw)) (by exact of_decide_eq_true rfl) ?_
  show DS _ _ _
  try simp only [setE, wipeE, List.set_cons_zero, List.set_cons_succ]
  refine ds_seq ?_
  refine ds_settl (dr_none (α := Exn) (m := .nw)) (by exact of_decide_eq_true rfl) ?_
  show DS _ _ _
  try simp only [setE, wipeE, List.set_cons_zero, List.set_cons_succ]
  refine ds_seq ?_
  refine ds_try rfl (by decide) (fun Wx => ?_)
  refine dsx_if (dt_of (dr_eq2 (dr_var rfl) (dr_const (a := (0 : Int))))) (fun hc => ?_) (fun hc => ?_)
  · try simp only [id, decide_eq_true_eq, decide_eq_false_iff_not, Bool.and_eq_true, Bool.or_eq_true, Bool.and_eq_false_iff, Bool.or_eq_false_iff, Bool.not_eq_true', Bool.not_eq_false', ne_eq, Decidable.not_not, Bool.true_eq_false, Bool.false_eq_true, false_or, or_false, true_and, and_true, not_false_eq_true, not_true_eq_false] at hc
    by_cases hxr : law_scale.weights.length ≠ law_basket_here.length
    · refine dsx_asgE (de_methS (z := ⟨14, none⟩) hs_r hs_r (by decide +kernel) (by decide +kernel) (dr_var rfl) (da_sh (dr_var rfl) da_nil) (fun hq => by exact ⟨fun h => hxr h.symm, rfl⟩) (fun hq => by exact ⟨fun h => hxr h.symm, rfl⟩) ?_)
      refine ⟨(by exact of_decide_eq_true rfl), (by exact of_decide_eq_true rfl), exm_sw XS (XE _ (by decide)), ?_⟩
      show DS _ _ _
      try simp only [setE, wipeE, List.set_cons_zero, List.set_cons_succ]
      show DS _ _ _
      try simp only [setE, wipeE, List.set_cons_zero, List.set_cons_succ]
      refine ds_ret (dr_tup2 (n := true) (dr_var rfl) (dr_var rfl)) ?_
      refine congrArg (sh (α := ((Option IB) × (Option Exn)))) (?_ : _ = (askv law_scale law_basket_here law_way : ((Option IB) × (Option Exn))))
      first | exact (askv1 hxr).symm | exact (askv2 (Decidable.not_not.mp hxr) hc).symm | exact (askv3 (Decidable.not_not.mp hxr) hc).symm
    · refine dsx_of (ds_settl (dr_some (dr_IBi (dr_methS hs_l hs_l (by decide +kernel) (by decide +kernel) (dr_var rfl) (da_sh (dr_var rfl) da_nil) (fun hq => (by have h9 : law_scale.weights.length = law_basket_here.length := Decidable.not_not.mp hxr; first | exact ⟨hq, h9, hp.2⟩ | exact ⟨hq, hp.1, h9, hp.2⟩)) (fun hq => (by have h9 : law_scale.weights.length = law_basket_here.length := Decidable.not_not.mp hxr; first | exact ⟨hq, h9, hp.2⟩ | exact ⟨hq, hp.1, h9, hp.2⟩)) reb_sc reb_sc))) (by exact of_decide_eq_true rfl) ?_)
      show DS _ _ _
      try simp only [setE, wipeE, List.set_cons_zero, List.set_cons_succ]
      show DS _ _ _
      try simp only [setE, wipeE, List.set_cons_zero, List.set_cons_succ]
      refine ds_ret (dr_tup2 (n := true) (dr_var rfl) (dr_var rfl)) ?_
      refine congrArg (sh (α := ((Option IB) × (Option Exn)))) (?_ : _ = (askv law_scale law_basket_here law_way : ((Option IB) × (Option Exn))))
      first | exact (askv1 hxr).symm | exact (askv2 (Decidable.not_not.mp hxr) hc).symm | exact (askv3 (Decidable.not_not.mp hxr) hc).symm
  · try simp only [id, decide_eq_true_eq, decide_eq_false_iff_not, Bool.and_eq_true, Bool.or_eq_true, Bool.and_eq_false_iff, Bool.or_eq_false_iff, Bool.not_eq_true', Bool.not_eq_false', ne_eq, Decidable.not_not, Bool.true_eq_false, Bool.false_eq_true, false_or, or_false, true_and, and_true, not_false_eq_true, not_true_eq_false] at hc
    by_cases hxr : law_scale.weights.length ≠ law_basket_here.length
    · refine dsx_asgE (de_methS (z := ⟨14, none⟩) hs_r hs_r (by decide +kernel) (by decide +kernel) (dr_var rfl) (da_sh (dr_var rfl) da_nil) (fun hq => by exact ⟨fun h => hxr h.symm, rfl⟩) (fun hq => by exact ⟨fun h => hxr h.symm, rfl⟩) ?_)
      refine ⟨(by exact of_decide_eq_true rfl), (by exact of_decide_eq_true rfl), exm_sw XS (XE _ (by decide)), ?_⟩
      show DS _ _ _
      try simp only [setE, wipeE, List.set_cons_zero, List.set_cons_succ]
      show DS _ _ _
      try simp only [setE, wipeE, List.set_cons_zero, List.set_cons_succ]
      refine ds_ret (dr_tup2 (n := true) (dr_var rfl) (dr_var rfl)) ?_
      refine congrArg (sh (α := ((Option IB) × (Option Exn)))) (?_ : _ = (askv law_scale law_basket_here law_way : ((Option IB) × (Option Exn))))
      first | exact (askv1 hxr).symm | exact (askv2 (Decidable.not_not.mp hxr) hc).symm | exact (askv3 (Decidable.not_not.mp hxr) hc).symm
    · refine dsx_of (ds_settl (dr_some (dr_IBb (dr_methS hs_l hs_l (by decide +kernel) (by decide +kernel) (dr_var rfl) (da_sh (dr_var rfl) da_nil) (fun hq => (by have h9 : law_scale.weights.length = law_basket_here.length := Decidable.not_not.mp hxr; exact ⟨hp.1, h9, hp.2⟩)) (fun hq => (by have h9 : law_scale.weights.length = law_basket_here.length := Decidable.not_not.mp hxr; exact ⟨hp.1, h9, hp.2⟩)) reb_sc reb_sc))) (by exact of_decide_eq_true rfl) ?_)
      show DS _ _ _
      try simp only [setE, wipeE, List.set_cons_zero, List.set_cons_succ]
      show DS _ _ _
      try simp only [setE, wipeE, List.set_cons_zero, List.set_cons_succ]
      refine ds_ret (dr_tup2 (n := true) (dr_var rfl) (dr_var rfl)) ?_
      refine congrArg (sh (α := ((Option IB) × (Option Exn)))) (?_ : _ = (askv law_scale law_basket_here law_way : ((Option IB) × (Option Exn))))
      first | exact (askv1 hxr).symm | exact (askv2 (Decidable.not_not.mp hxr) hc).symm | exact (askv3 (Decidable.not_not.mp hxr) hc).symm
theorem ok_law_asked (D : Dfn mg "_law_asked" s_law_asked ["_law_scale", "_law_basket_here", "_law_way"]) (B : Blt mg)     (XSF : SF mg) (CMX_weigh : CalM P w mg base (L2.CX P w) "weigh" 6 ["self", "basket"] ["self", "basket"] (spo (sp2 w_Scale_weigh) (spr2 xr_Scale_weigh)) (spo (sp2 w_Rest_weigh) (spr2 xr_Rest_weigh))) (CMX_levels : CalM P w mg base (L2.CX P w) "levels" 7 ["self", "basket"] ["self", "basket"] (spo (sp2 w_Scale_levels) (spr2 xr_Scale_levels)) (spo (sp2 w_Scale_levels) (spr2 xr_Scale_levels))) (XS : Xs mg) (XE : ∀ c ∈ SX, XK1 c)  : Cal P w mg base "_law_asked" 8 ["_law_scale", "_law_basket_here", "_law_way"] (sp3 w_law_asked) := cal_of D fun f fd F => okF_law_asked F B  XSF CMX_weigh CMX_levels XS XE
abbrev s_law_good : Stmt := topS 38
theorem sc_law_good : FnScope ["_law_scale", "_law_basket_here", "_law_size", "_law_due", "_law_ahead", "_law_handed", "_law_way", "_law_found", "_law_caught"] ["_law_scale", "_law_basket_here", "_law_size", "_law_due", "_law_ahead"] (defScope s_law_good) := ⟨rfl, rfl, rfl, by decide +kernel, rfl, by decide +kernel, by decide +kernel⟩
def v_law_good (law_scale : Scl) (law_basket_here : List Int) (law_size : Int) (law_due : Int) (law_ahead : Int) : Bool := true
def w_law_good (law_scale : Scl) (law_basket_here : List Int) (law_size : Int) (law_due : Int) (law_ahead : Int) : Wf := ⟨SclOk law_scale ∧ MulOk law_scale law_basket_here ∧ law_basket_here.length ≤ 9 ∧ law_size = law_scale.weights.length ∧ (law_scale.weights.length = law_basket_here.length → law_due = wghv law_scale law_basket_here) ∧ 0 ≤ law_ahead ∧ law_ahead ≤ 1, sh (v_law_good law_scale law_basket_here law_size law_due law_ahead)⟩
theorem okF_law_good {f : Addr} {fd : FuncData} (F : Fun Γ.K "_law_good" "_law_good" s_law_good f fd) (B : Blt mg) (C_law_asked : Cal P w mg base "_law_asked" 8 ["_law_scale", "_law_basket_here", "_law_way"] (sp3 w_law_asked)) (C_law_only : Cal P w mg base "_law_only" 2 ["_law_caught", "_law_name"] (sp2 w_law_only)) (C_law_whole : Cal P w mg base "_law_whole" 1 ["_law_found"] (sp1 w_law_whole))     : FnOk P w Γ.K mg base CX0 9 f fd ["_law_scale", "_law_basket_here", "_law_size", "_law_due", "_law_ahead"] (sp5 w_law_good) := by
  obtain ⟨f_law_asked, fd_law_asked, G_law_asked, m_law_asked, k_law_asked, b_law_asked⟩ := C_law_asked
  obtain ⟨f_law_only, fd_law_only, G_law_only, m_law_only, k_law_only, b_law_only⟩ := C_law_only
  obtain ⟨f_law_whole, fd_law_whole, G_law_whole, m_law_whole, k_law_whole, b_law_whole⟩ := C_law_whole
  have SC := sc_law_good
  refine fn5 F SC fun cdv A outer s H E hr => ⟨_, (pss_cons (ps_set (i := 5) SC.nd rfl (Or.inl rfl) (pe_callTy call_list_of (by rfl) B.list (by exact (by decide +kernel : bootBuiltins ("list" : Str) = some (Value.type "list"))) (pa_cons (pv 1) pa_nil))) (pss_cons (ps_for PassesOwn.never rfl (pi_list (pe_lok (pe_lst (pa_cons (pv 4) (pa_cons (pe_op op_sub pe_int (pv 4)) pa_nil))))) (pg_name (i := 6) SC.nd rfl (Or.inl rfl)) (pss_cons (ps_asg (pe_call G_law_asked (hr.mono (by decide)) rfl m_law_asked k_law_asked b_law_asked .nil pass0 (pa_cons (pv 0) (pa_cons (pv 5) (pa_cons (pv 6) pa_nil)))) (pg_tup rfl (pgs_cons (pg_name (i := 7) SC.nd rfl (Or.inl rfl)) (pgs_cons (pg_name (i := 8) SC.nd rfl (Or.inl rfl)) pgs_nil)))) (pss_cons (ps_if (pt_cmpR (op_neD hr.units) (pv 5) (pv 1) (nomark _)) pss_never pss_nil) (pss_one (ps_if (pt_cmpR op_ne (pe_callB call_len_seq (by rfl) B.len PySem.boot_len (pa_cons (pv 1) pa_nil)) (pv 2) (nomark _)) (pss_one (ps_if (pt_not (pt_val (pe_call G_law_only (hr.mono (by decide)) rfl m_law_only k_law_only b_law_only .nil pass0 (pa_cons (pv 8) (pa_cons pe_str pa_nil))))) pss_never pss_nil)) (pss_one (ps_if (PW.pt (pw_and (pt_cmpR op_eq (pv 6) pe_int (nomark _)) (pw_and1 (PW.pt (pw_or (pt_not (pt_val (pe_call G_law_whole (hr.mono (by decide)) rfl m_law_whole k_law_whole b_law_whole .nil pass0 (pa_cons (pv 7) pa_nil)))) (pw_or1 (pt_cmpR op_ne (pv 7) (pv 3) (nomark _)))))))) pss_never (pss_one (ps_if (PW.pt (pw_and (pt_cmpR op_eq (pv 6) pe_int (nomark _)) (pw_and1 (PW.pt (pw_or (pt_not (pt_val (pe_callB call_isi (by rfl) B.isinstance (by decide +kernel) (pa_cons (pv 7) (pa_cons (pe_bltn (v := .ty "bool") (by rfl) B.bool (by decide +kernel) rfl) pa_nil))))) (pw_or1 (pt_cmpR op_ne (pv 7) (pe_cmpR op_eq (pv 3) pe_int (nomark _)) (nomark _)))))))) pss_never pss_nil))))))))) (pss_one (ps_ret pe_bl)))), ?_⟩
  intro law_scale law_basket_here law_size law_due law_ahead hp
  have hp : SclOk law_scale ∧ MulOk law_scale law_basket_here ∧ law_basket_here.length ≤ 9 ∧ law_size = law_scale.weights.length ∧ (law_scale.weights.length = law_basket_here.length → law_due = wghv law_scale law_basket_here) ∧ 0 ≤ law_ahead ∧ law_ahead ≤ 1 := hp
  show DS [some (G.st law_scale), some (G.st law_basket_here), some (G.st law_size), some (G.st law_due), some (G.st law_ahead), none, none, none, none] _ _
  refine ds_seq ?_
  refine ds_settl (dr_frz (n := true) (dr_listb rfl (dr_bo (dr_var rfl)))) (by exact of_decide_eq_true rfl) ?_
  show DS _ _ _
  try simp only [setE, wipeE, List.set_cons_zero, List.set_cons_succ]
  refine ds_seq ?_
  refine ds_loop (τ := Unit) [7, 8, 6] (fun z_ => []) (fun _ _ => True) (fun _ _ => ()) (()) (di_scf (n := true) rfl (dr_frz (n := true) (dr_lst (n := true) (α := Int) (l := [_, _]) (da_sh (dr_flat (m' := .nw) (dr_var rfl)) (da_sh (dr_sub (dr_const (a := (1 : Int))) (dr_var rfl)) da_nil)) (by show 2 ≤ sizeLine; decide)))) (by try simp only [setE, wipeE, List.set_cons_zero, List.set_cons_succ]; exact (LeL.keep rfl (LeL.keep rfl (LeL.keep rfl (LeL.keep rfl (LeL.keep rfl (LeL.keep rfl (LeL.drop (LeL.drop (LeL.drop LeL.nil)))))))))) ?_ ?_ ?_
  · trivial
  · intro iw xw z_ hxw hjw
    have hxmw := List.mem_of_getElem? hxw
    have hw : xw = law_ahead ∨ xw = 1 - law_ahead := (by simpa using hxmw); have hA1 : law_scale.weights.length ≠ law_basket_here.length → askv law_scale law_basket_here xw = _ := askv1; have hA2 : law_scale.weights.length = law_basket_here.length → xw = 0 → askv law_scale law_basket_here xw = _ := askv2; have hA3 : law_scale.weights.length = law_basket_here.length → xw ≠ 0 → askv law_scale law_basket_here xw = _ := askv3
    refine ⟨?_, fun hz => ⟨_, (dg_name (by exact of_decide_eq_true rfl)), ?_⟩⟩
    · trivial
    · try simp only [setE, wipeE, List.set_cons_zero, List.set_cons_succ]
      refine ds_seq ?_
      refine ds_asg (dr_call3 (da_sh (dr_var rfl) (da_sh (dr_var rfl) (da_sh (dr_var rfl) da_nil))) (by exact ⟨hp.1, hp.2.1⟩) reb_sh) (fun h => tlF h) (dg_pair rfl (by exact of_decide_eq_true rfl) (by exact of_decide_eq_true rfl)) ?_
      show DS _ _ _
      try simp only [setE, wipeE, List.set_cons_zero, List.set_cons_succ]
      refine ds_seq ?_
      refine ds_if (dt_of (dr_ned rfl (dr_var rfl) (dr_var rfl))) (fun hc => ?_) (fun hc => ?_)
      · skip
        exact ds_never (by simp at hc)
      · try simp only [id, decide_eq_true_eq, decide_eq_false_iff_not, Bool.and_eq_true, Bool.or_eq_true, Bool.and_eq_false_iff, Bool.or_eq_false_iff, Bool.not_eq_true', Bool.not_eq_false', ne_eq, Decidable.not_not, Bool.true_eq_false, Bool.false_eq_true, false_or, or_false, true_and, and_true, not_false_eq_true, not_true_eq_false] at hc
        refine ds_next ?_
        show DS _ _ _
        try simp only [setE, wipeE, List.set_cons_zero, List.set_cons_succ]
        refine ds_if (dt_of (dr_ne2 (dr_len rfl (dr_bo (dr_var rfl))) (dr_var rfl))) (fun hc => ?_) (fun hc => ?_)
        · try simp only [id, decide_eq_true_eq, decide_eq_false_iff_not, Bool.and_eq_true, Bool.or_eq_true, Bool.and_eq_false_iff, Bool.or_eq_false_iff, Bool.not_eq_true', Bool.not_eq_false', ne_eq, Decidable.not_not, Bool.true_eq_false, Bool.false_eq_true, false_or, or_false, true_and, and_true, not_false_eq_true, not_true_eq_false] at hc
          refine ds_if (dt_not (dt_ofB (dr_call2 (da_sh (dr_unsome2 (dr_var rfl) (by exact congrArg (fun z => Option.isSome z.2) (hA1 (by omega)))) (da_sh (dr_const (a := ("BadBasket" : PySem.Str))) da_nil)) (by have h9 := hA1 (by omega); show (Option.getD (askv _ _ _).2 default).c ∈ SX ∧ (Option.getD (askv _ _ _).2 default).pl = none; rw [h9]; exact ⟨by decide, rfl⟩) reb_sc))) (fun hc => ?_) (fun hc => ?_)
          · skip
            exact ds_never (by have h9 := hA1 (by omega); change (!v_law_only (Option.getD (askv _ _ _).2 default) _) = true at hc; rw [h9] at hc; exact absurd hc (by decide +kernel))
          · try simp only [id, decide_eq_true_eq, decide_eq_false_iff_not, Bool.and_eq_true, Bool.or_eq_true, Bool.and_eq_false_iff, Bool.or_eq_false_iff, Bool.not_eq_true', Bool.not_eq_false', ne_eq, Decidable.not_not, Bool.true_eq_false, Bool.false_eq_true, false_or, or_false, true_and, and_true, not_false_eq_true, not_true_eq_false] at hc
            refine ds_next ?_
            show LeL _ _
            try simp only [setE, wipeE, List.set_cons_zero, List.set_cons_succ]
            exact (LeL.keep rfl (LeL.keep rfl (LeL.keep rfl (LeL.keep rfl (LeL.keep rfl (LeL.keep rfl (LeL.drop (LeL.drop (LeL.drop LeL.nil)))))))))
        · try simp only [id, decide_eq_true_eq, decide_eq_false_iff_not, Bool.and_eq_true, Bool.or_eq_true, Bool.and_eq_false_iff, Bool.or_eq_false_iff, Bool.not_eq_true', Bool.not_eq_false', ne_eq, Decidable.not_not, Bool.true_eq_false, Bool.false_eq_true, false_or, or_false, true_and, and_true, not_false_eq_true, not_true_eq_false] at hc
          refine ds_if (dt_and (dt_of (dr_eq2 (dr_var rfl) (dr_const (a := (0 : Int))))) (fun hb => (dt_or (dt_not (dt_ofB (dr_call1 (da_sh (dr_unI (dr_var rfl) (by first | exact congrArg Prod.fst (hA2 (by omega) (of_decide_eq_true ‹decide (xw = 0) = true›)) | exact congrArg Prod.fst (hA3 (by omega) (by have h9 := of_decide_eq_true ‹decide (xw = 1) = true›; omega)))) da_nil) (by exact trivial) reb_sc))) (fun hb => (dt_of (dr_ne2 (dr_unI (dr_var rfl) (by first | exact congrArg Prod.fst (hA2 (by omega) (of_decide_eq_true ‹decide (xw = 0) = true›)) | exact congrArg Prod.fst (hA3 (by omega) (by have h9 := of_decide_eq_true ‹decide (xw = 1) = true›; omega)))) (dr_var rfl))))))) (fun hc => ?_) (fun hc => ?_)
          · skip
            exact ds_never (by have h9 := hp.2.2.2.2.1 (by omega); simp [v_law_whole] at hc; exact hc.2 h9.symm)
          · try simp only [id, decide_eq_true_eq, decide_eq_false_iff_not, Bool.and_eq_true, Bool.or_eq_true, Bool.and_eq_false_iff, Bool.or_eq_false_iff, Bool.not_eq_true', Bool.not_eq_false', ne_eq, Decidable.not_not, Bool.true_eq_false, Bool.false_eq_true, false_or, or_false, true_and, and_true, not_false_eq_true, not_true_eq_false] at hc
            refine ds_if (dt_and (dt_of (dr_eq2 (dr_var rfl) (dr_const (a := (1 : Int))))) (fun hb => (dt_or (dt_not (dt_ofB (dr_isi (b := true) rfl (dr_unB (dr_var rfl) (by first | exact congrArg Prod.fst (hA2 (by omega) (of_decide_eq_true ‹decide (xw = 0) = true›)) | exact congrArg Prod.fst (hA3 (by omega) (by have h9 := of_decide_eq_true ‹decide (xw = 1) = true›; omega)))) rfl (by exact (by decide +kernel : kitB "bool" "bool" = some true))))) (fun hb => (dt_of (dr_ne2 (dr_unB (dr_var rfl) (by first | exact congrArg Prod.fst (hA2 (by omega) (of_decide_eq_true ‹decide (xw = 0) = true›)) | exact congrArg Prod.fst (hA3 (by omega) (by have h9 := of_decide_eq_true ‹decide (xw = 1) = true›; omega)))) (dr_eq2 (dr_var rfl) (dr_const (a := (0 : Int)))))))))) (fun hc => ?_) (fun hc => ?_)
            · skip
              exact ds_never (by have h9 := hp.2.2.2.2.1 (by omega); rw [h9] at hc; simp at hc)
            · try simp only [id, decide_eq_true_eq, decide_eq_false_iff_not, Bool.and_eq_true, Bool.or_eq_true, Bool.and_eq_false_iff, Bool.or_eq_false_iff, Bool.not_eq_true', Bool.not_eq_false', ne_eq, Decidable.not_not, Bool.true_eq_false, Bool.false_eq_true, false_or, or_false, true_and, and_true, not_false_eq_true, not_true_eq_false] at hc
              refine ds_next ?_
              show LeL _ _
              try simp only [setE, wipeE, List.set_cons_zero, List.set_cons_succ]
              exact (LeL.keep rfl (LeL.keep rfl (LeL.keep rfl (LeL.keep rfl (LeL.keep rfl (LeL.keep rfl (LeL.drop (LeL.drop (LeL.drop LeL.nil)))))))))
  · intro hj
    try simp only [setE, wipeE, List.set_cons_zero, List.set_cons_succ]
    show DS _ _ _
    try simp only [setE, wipeE, List.set_cons_zero, List.set_cons_succ]
    refine ds_ret (dr_const (a := true)) ?_
    refine congrArg (sh (α := Bool)) (?_ : _ = (true : Bool))
    rfl
theorem ok_law_good (D : Dfn mg "_law_good" s_law_good ["_law_scale", "_law_basket_here", "_law_size", "_law_due", "_law_ahead"]) (B : Blt mg) (C_law_asked : Cal P w mg base "_law_asked" 8 ["_law_scale", "_law_basket_here", "_law_way"] (sp3 w_law_asked)) (C_law_only : Cal P w mg base "_law_only" 2 ["_law_caught", "_law_name"] (sp2 w_law_only)) (C_law_whole : Cal P w mg base "_law_whole" 1 ["_law_found"] (sp1 w_law_whole))     : Cal P w mg base "_law_good" 9 ["_law_scale", "_law_basket_here", "_law_size", "_law_due", "_law_ahead"] (sp5 w_law_good) := cal_of D fun f fd F => okF_law_good F B C_law_asked C_law_only C_law_whole 
abbrev s_law_weight : Stmt := topS 39
theorem sc_law_weight : FnScope ["_law_weights", "_law_basket_here", "_law_total", "_law_one", "_law_other"] ["_law_weights", "_law_basket_here"] (defScope s_law_weight) := ⟨rfl, rfl, rfl, by decide +kernel, rfl, by decide +kernel, by decide +kernel⟩
def v_law_weight (law_weights : List Int) (law_basket_here : List Int) : Int := vdot law_weights law_basket_here
def w_law_weight (law_weights : List Int) (law_basket_here : List Int) : Wf := ⟨∀ p ∈ law_weights.zip law_basket_here, IntMulOk p.1 p.2, sh (v_law_weight law_weights law_basket_here)⟩
theorem okF_law_weight {f : Addr} {fd : FuncData} (F : Fun Γ.K "_law_weight" "_law_weight" s_law_weight f fd) (B : Blt mg)      : FnOk P w Γ.K mg base CX0 1 f fd ["_law_weights", "_law_basket_here"] (sp2 w_law_weight) := by
  have SC := sc_law_weight
  refine fn2 F SC fun cdv A outer s H E hr => ⟨_, (pss_cons (ps_set (i := 2) SC.nd rfl (Or.inl rfl) pe_int) (pss_cons (ps_for PassesOwn.never rfl (pi_zip rfl B.zip (pa_cons (pe_lok (pv 0)) (pa_cons (pv 1) pa_nil))) (pg_tup rfl (pgs_cons (pg_name (i := 3) SC.nd rfl (Or.inl rfl)) (pgs_cons (pg_name (i := 4) SC.nd rfl (Or.inl rfl)) pgs_nil))) (pss_one (ps_set (i := 2) SC.nd rfl (Or.inl rfl) (pe_op op_add (pv 2) (pe_op op_mulK (pv 3) (pv 4)))))) (pss_one (ps_ret (pv 2))))), ?_⟩
  intro law_weights law_basket_here hp
  have hp : ∀ p ∈ law_weights.zip law_basket_here, IntMulOk p.1 p.2 := hp
  show DS [some (G.st law_weights), some (G.st law_basket_here), none, none, none] _ _
  refine ds_seq ?_
  refine ds_settl (dr_const (a := (0 : Int))) (by exact of_decide_eq_true rfl) ?_
  show DS _ _ _
  try simp only [setE, wipeE, List.set_cons_zero, List.set_cons_succ]
  refine ds_seq ?_
  refine ds_loop (τ := Int) [3, 4] (fun z_ => [(2, sh (z_ : Int))]) (fun _ _ => True) (fun t p => t + p.1 * p.2) (0) (di_zip (m := nmd false) (m' := nmd false) rfl nmd_ne nmd_ne (dr_var rfl) (dr_var rfl)) (by try simp only [setE, wipeE, List.set_cons_zero, List.set_cons_succ]; exact (LeL.keep rfl (LeL.keep rfl (LeL.keep rfl (LeL.drop (LeL.drop LeL.nil)))))) ?_ ?_ ?_
  · trivial
  · intro i x law_total hx hj
    have hxm := List.mem_of_getElem? hx
    refine ⟨?_, fun hz => ⟨_, (dg_pr rfl (by exact of_decide_eq_true rfl) (by exact of_decide_eq_true rfl)), ?_⟩⟩
    · trivial
    · try simp only [setE, wipeE, List.set_cons_zero, List.set_cons_succ]
      refine ds_settl (dr_add (dr_var rfl) (dr_mul (dr_var rfl) (dr_var rfl) (by exact hp _ hxm))) (by exact of_decide_eq_true rfl) ?_
      show LeL _ _
      try simp only [setE, wipeE, List.set_cons_zero, List.set_cons_succ]
      exact (LeL.keep rfl (LeL.keep rfl (LeL.keep rfl (LeL.drop (LeL.drop LeL.nil)))))
  · intro hj
    try simp only [setE, wipeE, List.set_cons_zero, List.set_cons_succ]
    show DS _ _ _
    try simp only [setE, wipeE, List.set_cons_zero, List.set_cons_succ]
    refine ds_ret (dr_var rfl) ?_
    refine congrArg (sh (α := Int)) (?_ : _ = (vdot law_weights law_basket_here : Int))
    rw [fold_dot]; exact Int.zero_add _
theorem ok_law_weight (D : Dfn mg "_law_weight" s_law_weight ["_law_weights", "_law_basket_here"]) (B : Blt mg)      : Cal P w mg base "_law_weight" 1 ["_law_weights", "_law_basket_here"] (sp2 w_law_weight) := cal_of D fun f fd F => okF_law_weight F B  
abbrev s_law_too_little : Stmt := topS 40
theorem sc_law_too_little : FnScope ["_law_rest_here", "_law_weights", "_law_caught", "e"] ["_law_rest_here", "_law_weights"] (defScope s_law_too_little) := ⟨rfl, rfl, rfl, by decide +kernel, rfl, by decide +kernel, by decide +kernel⟩
def v_law_too_little (law_rest_here : Int) (law_weights : List Int) : Bool := true
def w_law_too_little (law_rest_here : Int) (law_weights : List Int) : Wf := ⟨law_rest_here < 2, sh (v_law_too_little law_rest_here law_weights)⟩
theorem okF_law_too_little {f : Addr} {fd : FuncData} (F : Fun Γ.K "_law_too_little" "_law_too_little" s_law_too_little f fd) (B : Blt mg) (C_law_only : Cal P w mg base "_law_only" 2 ["_law_caught", "_law_name"] (sp2 w_law_only))    (XSF : SF mg) (NX_Rest : MkrS P w mg base (L2.CX P w) "Rest" 3 4 ["self", "rest", "weights"] sprI_Rest) (XS : Xs mg) (XE : ∀ c ∈ SX, XK1 c) (XR_BadRest : XR1 mg "BadRest" 18)  : FnOk P w Γ.K mg base CX0 6 f fd ["_law_rest_here", "_law_weights"] (sp2 w_law_too_little) := by
  obtain ⟨f_law_only, fd_law_only, G_law_only, m_law_only, k_law_only, b_law_only⟩ := C_law_only
  obtain ⟨fIX_Rest, fdIX_Rest, MX_Rest, IX_Rest, mX_Rest, bX_Rest⟩ := NX_Rest
  have SC := sc_law_too_little
  refine fn2 F SC fun cdv A outer s H E hr => ⟨_, (pss_cons (ps_set (i := 2) SC.nd rfl (Or.inl rfl) pe_non) (pss_cons (ps_try_tt (i := 3) (j := 2) rfl rfl rfl SC.nd rfl rfl ⟨rfl, rfl, .inl (by exact XS.ad 19 (by decide))⟩ (fun W pn xe tk po => by refine pss_fix (pss_one (ps_expr (pe_makeS MX_Rest IX_Rest (hr.mono (by decide)) rfl mX_Rest bX_Rest (fun σ => passAt tk σ) (pa_cons (pv 0) (pa_cons (pv 1) pa_nil))))) ?_; (try simp only [tr_K, nox_K, cxOf_K]) <;> rfl) (fun a oe cls d pn hz hf => pss_one (ps_set (i := 2) SC.nd rfl (Or.inl rfl) (pv 3)))) (pss_one (ps_ret (pe_call G_law_only (hr.mono (by decide)) rfl m_law_only k_law_only b_law_only .nil pass0 (pa_cons (pv 2) (pa_cons pe_str pa_nil))))))), ?_⟩
  intro law_rest_here law_weights hp
  have hp : law_rest_here < 2 := hp
  show DS [some (G.st law_rest_here), some (G.st law_weights), none, none] _ _
  refine ds_seq ?_
  refine ds_settl (dr_none (α := Exn) (m := .nw)) (by exact of_decide_eq_true rfl) ?_
  show DS _ _ _
  try simp only [setE, wipeE, List.set_cons_zero, List.set_cons_succ]
  refine ds_seq ?_
  refine ds_try rfl (by decide) (fun Wx => ?_)
  refine dsx_dropE (de_mkRest hs_id (da_sh (dr_var rfl) (da_sh (dr_var rfl) da_nil)) (by exact hp) ?_)
  refine ⟨(by exact of_decide_eq_true rfl), (by exact of_decide_eq_true rfl), exm_sw XS (XE _ (by decide)), ?_⟩
  show DS _ _ _
  try simp only [setE, wipeE, List.set_cons_zero, List.set_cons_succ]
  show DS _ _ _
  try simp only [setE, wipeE, List.set_cons_zero, List.set_cons_succ]
  refine ds_ret (dr_call2 (da_sh (dr_unsome2 (dr_var rfl) (by rfl)) (da_sh (dr_const (a := ("BadRest" : PySem.Str))) da_nil)) (by exact ⟨by decide, rfl⟩) reb_sc) ?_
  refine congrArg (sh (α := Bool)) (?_ : _ = (true : Bool))
  exact (by decide +kernel : decide (flagsv 18 = namesv "BadRest") = true)
theorem ok_law_too_little (D : Dfn mg "_law_too_little" s_law_too_little ["_law_rest_here", "_law_weights"]) (B : Blt mg) (C_law_only : Cal P w mg base "_law_only" 2 ["_law_caught", "_law_name"] (sp2 w_law_only))    (XSF : SF mg) (NX_Rest : MkrS P w mg base (L2.CX P w) "Rest" 3 4 ["self", "rest", "weights"] sprI_Rest) (XS : Xs mg) (XE : ∀ c ∈ SX, XK1 c) (XR_BadRest : XR1 mg "BadRest" 18)  : Cal P w mg base "_law_too_little" 6 ["_law_rest_here", "_law_weights"] (sp2 w_law_too_little) := cal_of D fun f fd F => okF_law_too_little F B C_law_only XSF NX_Rest XS XE XR_BadRest
abbrev s_law : Stmt := topS 41
theorem sc_law : FnScope ["_law_script", "_law_size", "_law_k", "_law_weights", "_law_rest_here", "_law_handed", "_law_scales", "_law_basket_here", "_law_total", "_law_ahead", "_law_due", "_law_weight_here"] ["_law_script"] (defScope s_law) := ⟨rfl, rfl, rfl, by decide +kernel, rfl, by decide +kernel, by decide +kernel⟩
def v_law (law_script : List Int) : Bool := true
def w_law (law_script : List Int) : Wf := ⟨law_script.length ≤ 63, sh (v_law law_script)⟩
theorem okF_law {f : Addr} {fd : FuncData} (F : Fun Γ.K "law" "law" s_law f fd) (B : Blt mg) (C_law_at : Cal P w mg base "_law_at" 1 ["_law_script", "_law_k"] (sp2 w_law_at)) (C_law_entry : Cal P w mg base "_law_entry" 1 ["_law_script", "_law_k", "_law_most"] (sp3 w_law_entry)) (C_law_rest : Cal P w mg base "_law_rest" 1 ["_law_cell"] (sp1 w_law_rest)) (C_law_too_little : Cal P w mg base "_law_too_little" 6 ["_law_rest_here", "_law_weights"] (sp2 w_law_too_little)) (C_law_basket : Cal P w mg base "_law_basket" 2 ["_law_script", "_law_weights", "_law_k"] (sp3 w_law_basket)) (C_law_weight : Cal P w mg base "_law_weight" 1 ["_law_weights", "_law_basket_here"] (sp2 w_law_weight)) (C_law_good : Cal P w mg base "_law_good" 9 ["_law_scale", "_law_basket_here", "_law_size", "_law_due", "_law_ahead"] (sp5 w_law_good)) (C_law_same : Cal P w mg base "_law_same" 2 ["_law_found", "_law_due"] (sp2 w_law_same)) (C_law_whole : Cal P w mg base "_law_whole" 1 ["_law_found"] (sp1 w_law_whole))    (XSF : SF mg) (N_Line : MkrS P w mg base CX0 "Line" 2 1 ["self", "weights"] spI_Scl) (N_Rest : MkrS P w mg base CX0 "Rest" 3 2 ["self", "rest", "weights"] spI_Rest)  : FnOk P w Γ.K mg base CX0 10 f fd ["_law_script"] (sp1 w_law) := by
  obtain ⟨f_law_at, fd_law_at, G_law_at, m_law_at, k_law_at, b_law_at⟩ := C_law_at
  obtain ⟨f_law_entry, fd_law_entry, G_law_entry, m_law_entry, k_law_entry, b_law_entry⟩ := C_law_entry
  obtain ⟨f_law_rest, fd_law_rest, G_law_rest, m_law_rest, k_law_rest, b_law_rest⟩ := C_law_rest
  obtain ⟨f_law_too_little, fd_law_too_little, G_law_too_little, m_law_too_little, k_law_too_little, b_law_too_little⟩ := C_law_too_little
  obtain ⟨f_law_basket, fd_law_basket, G_law_basket, m_law_basket, k_law_basket, b_law_basket⟩ := C_law_basket
  obtain ⟨f_law_weight, fd_law_weight, G_law_weight, m_law_weight, k_law_weight, b_law_weight⟩ := C_law_weight
  obtain ⟨f_law_good, fd_law_good, G_law_good, m_law_good, k_law_good, b_law_good⟩ := C_law_good
  obtain ⟨f_law_same, fd_law_same, G_law_same, m_law_same, k_law_same, b_law_same⟩ := C_law_same
  obtain ⟨f_law_whole, fd_law_whole, G_law_whole, m_law_whole, k_law_whole, b_law_whole⟩ := C_law_whole
  obtain ⟨fI_Line, fdI_Line, M_Line, I_Line, m_Line, b_Line⟩ := N_Line
  obtain ⟨fI_Rest, fdI_Rest, M_Rest, I_Rest, m_Rest, b_Rest⟩ := N_Rest
  have SC := sc_law
  refine fn1 F SC fun cdv A outer s H E hr => ⟨_, (pss_cons (ps_set (i := 1) SC.nd rfl (Or.inl rfl) (pe_op op_add pe_int (pe_op op_mod (pe_call G_law_at (hr.mono (by decide)) rfl m_law_at k_law_at b_law_at .nil pass0 (pa_cons (pv 0) (pa_cons pe_int pa_nil))) pe_int))) (pss_cons (ps_setLc (i := 3) (own := [("_law_k", 2)]) (g := (gName 2)) (tt := tYes) rfl SC.nd rfl rfl (sw_true rfl rfl rfl (by decide +kernel)) (pi_range1 rfl B.range (pa_cons (pv 1) pa_nil)) (blkOk_by (N := ["_law_script", "_law_size", "_law_k", "_law_weights", "_law_rest_here", "_law_handed", "_law_scales", "_law_basket_here", "_law_total", "_law_ahead", "_law_due", "_law_weight_here"]) (sc := (defScope s_law)) (by decide +kernel)) (fun _ _ _ _ _ => (pg_name (i := 2) SC.nd rfl (Or.inl rfl))) (fun _ _ _ _ _ => pts_nil) (fun _ _ _ _ _ => by refine pe_fix (pe_call G_law_entry (hr.mono (by decide)) rfl m_law_entry k_law_entry b_law_entry .nil pass0 (pa_cons (pe_slice sl_list (pv 0) (po_some pe_int) po_none) (pa_cons (pv 2) (pa_cons (pe_op op_pow pe_int pe_int) pa_nil)))) ?_; (try simp only [blk_K, nox_K, cxOf_K]) <;> rfl)) (pss_cons (ps_set (i := 4) SC.nd rfl (Or.inr rfl) (pe_call G_law_rest (hr.mono (by decide)) rfl m_law_rest k_law_rest b_law_rest .nil pass0 (pa_cons (pe_call G_law_at (hr.mono (by decide)) rfl m_law_at k_law_at b_law_at .nil pass0 (pa_cons (pv 0) (pa_cons pe_int pa_nil))) pa_nil))) (pss_cons (ps_set (i := 5) SC.nd rfl (Or.inl rfl) (pe_callTy call_list_of (by rfl) B.list (by exact (by decide +kernel : bootBuiltins ("list" : Str) = some (Value.type "list"))) (pa_cons (pv 3) pa_nil))) (pss_cons (ps_if (pt_cmpR op_lt (pv 4) pe_int (nomark _)) (pss_cons (ps_if (pt_not (pt_val (pe_call G_law_too_little (hr.mono (by decide)) rfl m_law_too_little k_law_too_little b_law_too_little .nil pass0 (pa_cons (pv 4) (pa_cons (pv 5) pa_nil))))) pss_never pss_nil) (pss_one (ps_set (i := 4) SC.nd rfl (Or.inr rfl) pe_int))) pss_nil) (pss_cons (ps_set (i := 6) SC.nd rfl (Or.inl rfl) (pe_lst (pa_cons (pe_make M_Line I_Line (hr.mono (by decide)) rfl m_Line b_Line .nil pass0 (pa_cons (pv 5) pa_nil)) (pa_cons (pe_make M_Rest I_Rest (hr.mono (by decide)) rfl m_Rest b_Rest .nil pass0 (pa_cons (pv 4) (pa_cons (pv 5) pa_nil))) pa_nil)))) (pss_cons (ps_if (pt_cmpR (op_neD hr.units) (pv 5) (pv 3) (nomark _)) pss_never pss_nil) (pss_cons (ps_expr (pe_bm PySem.F.plainAttrs_list PySem.F.slot_list_append PySem.F.type_list_append mt_append (pv 5) (pa_cons pe_int pa_nil))) (pss_cons (ps_for PassesOwn.never rfl (pi_range1 rfl B.range (pa_cons (pe_callB call_len_seq (by rfl) B.len PySem.boot_len (pa_cons (pe_slice sl_list (pv 0) (po_some pe_int) (po_some pe_int)) pa_nil)) pa_nil)) (pg_name (i := 2) SC.nd rfl (Or.inl rfl)) (pss_cons (ps_set (i := 7) SC.nd rfl (Or.inl rfl) (pe_call G_law_basket (hr.mono (by decide)) rfl m_law_basket k_law_basket b_law_basket .nil pass0 (pa_cons (pv 0) (pa_cons (pv 3) (pa_cons (pv 2) pa_nil))))) (pss_cons (ps_set (i := 8) SC.nd rfl (Or.inl rfl) (pe_call G_law_weight (hr.mono (by decide)) rfl m_law_weight k_law_weight b_law_weight .nil pass0 (pa_cons (pv 3) (pa_cons (pv 7) pa_nil)))) (pss_cons (ps_set (i := 9) SC.nd rfl (Or.inl rfl) (pe_op op_mod (pe_op op_fdiv (pe_ix ix_list (pv 0) (pe_op op_add pe_int (pv 2)) (fun _ _ => rfl)) pe_int) pe_int)) (pss_cons (ps_if (pt_not (pt_val (pe_call G_law_good (hr.mono (by decide)) rfl m_law_good k_law_good b_law_good .nil pass0 (pa_cons (pe_ix ix_list (pv 6) pe_int (fun _ _ => rfl)) (pa_cons (pv 7) (pa_cons (pv 1) (pa_cons (pv 8) (pa_cons (pv 9) pa_nil)))))))) pss_never pss_nil) (pss_one (ps_if (pt_not (pt_val (pe_call G_law_good (hr.mono (by decide)) rfl m_law_good k_law_good b_law_good .nil pass0 (pa_cons (pe_ix ix_list (pv 6) pe_int (fun _ _ => rfl)) (pa_cons (pv 7) (pa_cons (pv 1) (pa_cons (pe_op op_mod (pv 8) (pv 4)) (pa_cons (pv 9) pa_nil)))))))) pss_never pss_nil))))))) (pss_cons (ps_if (PW.pt (pw_or (pt_not (pt_val (pe_callB call_isi (by rfl) B.isinstance (by decide +kernel) (pa_cons (pe_ix ix_list (pv 6) pe_int (fun _ _ => rfl)) (pa_cons (pe_glob (v := .ref (Γ.cls 6)) rfl XSF.m6 rfl) pa_nil))))) (pw_or1 (pt_not (pt_val (pe_callB call_isi (by rfl) B.isinstance (by decide +kernel) (pa_cons (pe_ix ix_list (pv 6) pe_int (fun _ _ => rfl)) (pa_cons (pe_glob (v := .ref (Γ.cls 6)) rfl XSF.m6 rfl) pa_nil)))))))) pss_never pss_nil) (pss_cons (ps_if (PW.pt (pw_or (pt_not (pt_val (pe_callB call_isi (by rfl) B.isinstance (by decide +kernel) (pa_cons (pe_ix ix_list (pv 6) pe_int (fun _ _ => rfl)) (pa_cons (pe_glob (v := .ref (Γ.cls 2)) rfl XSF.i2.mg rfl) pa_nil))))) (pw_or1 (pt_not (pt_val (pe_callB call_isi (by rfl) B.isinstance (by decide +kernel) (pa_cons (pe_ix ix_list (pv 6) pe_int (fun _ _ => rfl)) (pa_cons (pe_glob (v := .ref (Γ.cls 3)) rfl XSF.i3.mg rfl) pa_nil)))))))) pss_never pss_nil) (pss_cons (ps_if (PW.pt (pw_or (pt_not (pt_val (pe_call G_law_same (hr.mono (by decide)) rfl m_law_same k_law_same b_law_same .nil pass0 (pa_cons (pe_fld (pe_ix ix_list (pv 6) pe_int (fun _ _ => rfl)) rfl) (pa_cons (pv 3) pa_nil))))) (pw_or1 (pt_not (pt_val (pe_call G_law_whole (hr.mono (by decide)) rfl m_law_whole k_law_whole b_law_whole .nil pass0 (pa_cons (pe_fld (pe_ix ix_list (pv 6) pe_int (fun _ _ => rfl)) rfl) pa_nil))))))) pss_never pss_nil) (pss_cons (ps_setLc (i := 10) (own := [("_law_weight_here", 11)]) (g := (gName 11)) (tt := tYes) rfl SC.nd rfl rfl (sw_true rfl rfl rfl (by decide +kernel)) (pi_list (pe_lok (pv 3))) (blkOk_by (N := ["_law_script", "_law_size", "_law_k", "_law_weights", "_law_rest_here", "_law_handed", "_law_scales", "_law_basket_here", "_law_total", "_law_ahead", "_law_due", "_law_weight_here"]) (sc := (defScope s_law)) (by decide +kernel)) (fun _ _ _ _ _ => (pg_name (i := 11) SC.nd rfl (Or.inl rfl))) (fun _ _ _ _ _ => pts_nil) (fun _ _ _ _ _ => (pe_op op_mod (pv 11) (pv 4)))) (pss_one (ps_ret (pe_and (pe_cmpR op_eq (pe_fld (pe_ix ix_list (pv 6) pe_int (fun _ _ => rfl)) rfl) (pv 4) (nomark _)) (pe_one (pe_call G_law_same (hr.mono (by decide)) rfl m_law_same k_law_same b_law_same .nil pass0 (pa_cons (pe_fld (pe_ix ix_list (pv 6) pe_int (fun _ _ => rfl)) rfl) (pa_cons (pv 10) pa_nil)))))))))))))))))))), ?_⟩
  intro law_script hp
  have hp : law_script.length ≤ 63 := hp
  show DS [some (G.st law_script), none, none, none, none, none, none, none, none, none, none, none] _ _
  refine ds_seq ?_
  refine ds_settl (dr_add (dr_const (a := (1 : Int))) (dr_mod (dr_call2 (da_sh (dr_var rfl) (da_sh (dr_const (a := (0 : Int))) da_nil)) (by first | exact (by decide : (0 : Int) ≤ 0) | exact (by decide : (0 : Int) ≤ 1)) reb_sc) (dr_const (a := (8 : Int))) (by decide))) (by exact of_decide_eq_true rfl) ?_
  show DS _ _ _
  try simp only [setE, wipeE, List.set_cons_zero, List.set_cons_succ]
  refine ds_abs (i := 1) (fun (law_size : Int) => 1 ≤ law_size ∧ law_size ≤ 8) rfl (by omega) (fun law_size h_law_size => ?_)
  try simp only [setE, wipeE, List.set_cons_zero, List.set_cons_succ]
  show DS _ _ _
  try simp only [setE, wipeE, List.set_cons_zero, List.set_cons_succ]
  refine ds_seq ?_
  refine ds_settl (dr_frz (n := true) (dr_lc0 (n := true) (di_range1 (dr_var rfl) (by first | omega | (have h9 := cut_len (l := law_script) (lo := some 2) (hi := some 62); omega) | (rw [sizeLine_eq]; omega) | (rw [sizeLine_eq]; have h9 := cut_len (l := law_script) (lo := some 2) (hi := some 62); omega)) (by first | omega | (have h9 := cut_len (l := law_script) (lo := some 2) (hi := some 62); omega) | (rw [sizeLine_eq]; omega) | (rw [sizeLine_eq]; have h9 := cut_len (l := law_script) (lo := some 2) (hi := some 62); omega))) (gv_name (by decide)) (fun x hx => (dg_name (by exact of_decide_eq_true rfl))) (fun x hx => (dr_call3 (da_sh (dr_frz (n := true) (dr_slb rfl (dr_bo (dr_var rfl)) (dp_some (dr_const (a := (3 : Int)))) dp_none)) (da_sh (dr_var rfl) (da_sh (dr_pow (dr_const (a := (10 : Int))) (dr_const (a := (60 : Int))) ⟨by decide, by decide, by decide⟩) da_nil))) (by have hx' := List.mem_range.mp hx; exact ⟨by omega, by omega, by decide, by decide +kernel, Nat.le_trans cut_len hp⟩) reb_sc)))) (by exact of_decide_eq_true rfl) ?_
  show DS _ _ _
  try simp only [setE, wipeE, List.set_cons_zero, List.set_cons_succ]
  refine ds_abs (i := 3) (fun (law_weights : List Int) => (law_weights.length : Int) = law_size ∧ Sm law_weights) rfl (by exact ents_ok (by omega)) (fun law_weights h_law_weights => ?_)
  try simp only [setE, wipeE, List.set_cons_zero, List.set_cons_succ]
  show DS _ _ _
  try simp only [setE, wipeE, List.set_cons_zero, List.set_cons_succ]
  refine ds_seq ?_
  refine ds_settl (dr_call1 (da_sh (dr_call2 (da_sh (dr_var rfl) (da_sh (dr_const (a := (1 : Int))) da_nil)) (by first | exact (by decide : (0 : Int) ≤ 0) | exact (by decide : (0 : Int) ≤ 1)) reb_sc) da_nil) (by exact trivial) reb_sc) (by exact of_decide_eq_true rfl) ?_
  show DS _ _ _
  try simp only [setE, wipeE, List.set_cons_zero, List.set_cons_succ]
  refine ds_abs (i := 4) (fun (law_rest_here : Int) => law_rest_here.natAbs < 2 ^ 200) rfl (by exact restv_lt _) (fun law_rest_here h_law_rest_here => ?_)
  try simp only [setE, wipeE, List.set_cons_zero, List.set_cons_succ]
  show DS _ _ _
  try simp only [setE, wipeE, List.set_cons_zero, List.set_cons_succ]
  refine ds_seq ?_
  refine ds_setow (dr_listb rfl (dr_bo (dr_var rfl))) (by exact of_decide_eq_true rfl) ?_
  show DS _ _ _
  try simp only [setE, wipeE, List.set_cons_zero, List.set_cons_succ]
  refine ds_seqk (ι := Int) [] (fun z_ => [(4, sh (z_ : Int))]) (fun z_ => (fun (law_rest_here : Int) => 2 ≤ law_rest_here ∧ law_rest_here.natAbs < 2 ^ 200) (z_)) ?_ ?_
  · refine ds_if (dt_of (dr_lt (dr_var rfl) (dr_const (a := (2 : Int))))) (fun hc => ?_) (fun hc => ?_)
    · try simp only [id, decide_eq_true_eq, decide_eq_false_iff_not, Bool.and_eq_true, Bool.or_eq_true, Bool.and_eq_false_iff, Bool.or_eq_false_iff, Bool.not_eq_true', Bool.not_eq_false', ne_eq, Decidable.not_not, Bool.true_eq_false, Bool.false_eq_true, false_or, or_false, true_and, and_true, not_false_eq_true, not_true_eq_false] at hc
      refine ds_seq ?_
      refine ds_if (dt_not (dt_ofB (dr_call2 (da_sh (dr_var rfl) (da_sh (dr_varo rfl) da_nil)) (by first | exact hp | (dsimp only [w_law_too_little]; first | omega | assumption)) reb_sc))) (fun hc => ?_) (fun hc => ?_)
      · skip
        exact ds_never (by simp [v_law_too_little] at hc)
      · try simp only [id, decide_eq_true_eq, decide_eq_false_iff_not, Bool.and_eq_true, Bool.or_eq_true, Bool.and_eq_false_iff, Bool.or_eq_false_iff, Bool.not_eq_true', Bool.not_eq_false', ne_eq, Decidable.not_not, Bool.true_eq_false, Bool.false_eq_true, false_or, or_false, true_and, and_true, not_false_eq_true, not_true_eq_false] at hc
        refine ds_next ?_
        show DS _ _ _
        try simp only [setE, wipeE, List.set_cons_zero, List.set_cons_succ]
        refine ds_settl (dr_const (a := (2 : Int))) (by exact of_decide_eq_true rfl) ?_
        show ∃ x, _ ∧ LeL _ _
        exact join_in1 (LeL.keep rfl (LeL.keep rfl (LeL.drop (LeL.keep rfl (LeL.keep rfl (LeL.keep rfl (LeL.drop (LeL.drop (LeL.drop (LeL.drop (LeL.drop (LeL.drop LeL.nil)))))))))))) (by (try dsimp only); first | exact ⟨by decide, by decide +kernel⟩ | exact ⟨by omega, h_law_rest_here⟩)
    · try simp only [id, decide_eq_true_eq, decide_eq_false_iff_not, Bool.and_eq_true, Bool.or_eq_true, Bool.and_eq_false_iff, Bool.or_eq_false_iff, Bool.not_eq_true', Bool.not_eq_false', ne_eq, Decidable.not_not, Bool.true_eq_false, Bool.false_eq_true, false_or, or_false, true_and, and_true, not_false_eq_true, not_true_eq_false] at hc
      refine ds_next ?_
      show ∃ x, _ ∧ LeL _ _
      exact join_in1 (LeL.keep rfl (LeL.keep rfl (LeL.drop (LeL.keep rfl (LeL.keep rfl (LeL.keep rfl (LeL.drop (LeL.drop (LeL.drop (LeL.drop (LeL.drop (LeL.drop LeL.nil)))))))))))) (by (try dsimp only); first | exact ⟨by decide, by decide +kernel⟩ | exact ⟨by omega, h_law_rest_here⟩)
  · intro law_rest_here h_law_rest_here2
    have h_law_rest_here2 : 2 ≤ law_rest_here ∧ law_rest_here.natAbs < 2 ^ 200 := h_law_rest_here2
    show DS _ _ _
    try simp only [setE, wipeE, List.set_cons_zero, List.set_cons_succ]
    refine ds_seq ?_
    refine ds_settl (dr_frz (n := true) (dr_lst (n := true) (α := Scl) (l := [_, _]) (da_sh (dr_mkLine (da_sh (dr_varo rfl) da_nil)) (da_sh (dr_mkRest (da_sh (dr_var rfl) (da_sh (dr_varo rfl) da_nil)) (by first | exact h_law_rest_here2.1 | rfl | omega)) da_nil)) (by show 2 ≤ sizeLine; decide))) (by exact of_decide_eq_true rfl) ?_
    show DS _ _ _
    try simp only [setE, wipeE, List.set_cons_zero, List.set_cons_succ]
    refine ds_abs (i := 6) (fun (law_scales : List Scl) => law_scales = [⟨none, law_weights⟩, ⟨some law_rest_here, law_weights.map (· % law_rest_here)⟩]) rfl (by rfl) (fun law_scales h_law_scales => ?_)
    try simp only [setE, wipeE, List.set_cons_zero, List.set_cons_succ]
    show DS _ _ _
    try simp only [setE, wipeE, List.set_cons_zero, List.set_cons_succ]
    subst h_law_scales
    refine ds_seq ?_
    refine ds_if (dt_of (dr_ned rfl (dr_varo rfl) (dr_var rfl))) (fun hc => ?_) (fun hc => ?_)
    · skip
      exact ds_never (by simp at hc)
    · try simp only [id, decide_eq_true_eq, decide_eq_false_iff_not, Bool.and_eq_true, Bool.or_eq_true, Bool.and_eq_false_iff, Bool.or_eq_false_iff, Bool.not_eq_true', Bool.not_eq_false', ne_eq, Decidable.not_not, Bool.true_eq_false, Bool.false_eq_true, false_or, or_false, true_and, and_true, not_false_eq_true, not_true_eq_false] at hc
      refine ds_next ?_
      show DS _ _ _
      try simp only [setE, wipeE, List.set_cons_zero, List.set_cons_succ]
      refine ds_seq ?_
      refine ds_append rfl (by repeat (first | exact Sd.nil | apply sd_sh | apply sd_st | apply sd_ow | apply sd_oow | apply sd_onl | apply sd_oA | apply Sd.non | apply Sd.lose)) rfl (dr_const (a := (1 : Int))) (by first | omega | (rw [sizeLine_eq]; omega) | (simp at *; omega)) ?_
      show DS _ _ _
      try simp only [setE, wipeE, List.set_cons_zero, List.set_cons_succ]
      refine ds_seq ?_
      refine ds_loop (τ := Unit) [7, 8, 9, 2] (fun z_ => []) (fun _ _ => True) (fun _ _ => ()) (()) (di_range1 (dr_len rfl (dr_bo (dr_frz (n := true) (dr_slb rfl (dr_bo (dr_var rfl)) (dp_some (dr_const (a := (2 : Int)))) (dp_some (dr_const (a := (62 : Int)))))))) (by first | omega | (have h9 := cut_len (l := law_script) (lo := some 2) (hi := some 62); omega) | (rw [sizeLine_eq]; omega) | (rw [sizeLine_eq]; have h9 := cut_len (l := law_script) (lo := some 2) (hi := some 62); omega)) (by first | omega | (have h9 := cut_len (l := law_script) (lo := some 2) (hi := some 62); omega) | (rw [sizeLine_eq]; omega) | (rw [sizeLine_eq]; have h9 := cut_len (l := law_script) (lo := some 2) (hi := some 62); omega))) (by try simp only [setE, wipeE, List.set_cons_zero, List.set_cons_succ]; exact (LeL.keep rfl (LeL.keep rfl (LeL.drop (LeL.keep rfl (LeL.keep rfl (LeL.keep rfl (LeL.keep rfl (LeL.drop (LeL.drop (LeL.drop (LeL.drop (LeL.drop LeL.nil))))))))))))) ?_ ?_ ?_
      · trivial
      · intro ik xk z_ hxk hjk
        have hxmk := List.mem_of_getElem? hxk
        have hxk' := List.mem_range.mp hxmk; have hcc := cut262 (l := law_script)
        refine ⟨?_, fun hz => ⟨_, (dg_name (by exact of_decide_eq_true rfl)), ?_⟩⟩
        · trivial
        · try simp only [setE, wipeE, List.set_cons_zero, List.set_cons_succ]
          refine ds_seq ?_
          refine ds_setext (dr_call3 (da_sh (dr_var rfl) (da_sh (dr_var rfl) (da_sh (dr_var rfl) da_nil))) (by exact ⟨⟨by omega, by omega, h_law_weights.2⟩, by omega, by omega, hp, by omega⟩) (reb_ex fun _ => reb_sh)) (by exact of_decide_eq_true rfl) (fun law_basket_here h_law_basket_here => ?_)
          show DS _ _ _
          try simp only [setE, wipeE, List.set_cons_zero, List.set_cons_succ]
          show DS _ _ _
          try simp only [setE, wipeE, List.set_cons_zero, List.set_cons_succ]
          refine ds_seq ?_
          refine ds_settl (dr_call2 (da_sh (dr_var rfl) (da_sh (dr_var rfl) da_nil)) (by exact sm_mul (s := ⟨none, law_weights⟩) h_law_weights.2 h_law_basket_here.2) reb_sc) (by exact of_decide_eq_true rfl) ?_
          show DS _ _ _
          try simp only [setE, wipeE, List.set_cons_zero, List.set_cons_succ]
          refine ds_seq ?_
          refine ds_settl (dr_mod (dr_div (dr_ix rfl (dr_var rfl) (dr_add (dr_const (a := (2 : Int))) (dr_var rfl)) (by first | exact atI_nth (by omega) (by omega) | exact atI_nth (by show -((2 : Nat) : Int) ≤ 0; decide) (by show (0 : Int) < ((2 : Nat) : Int); decide) | exact atI_nth (by show -((2 : Nat) : Int) ≤ 1; decide) (by show (1 : Int) < ((2 : Nat) : Int); decide))) (dr_const (a := (8 : Int))) ⟨by decide, by decide⟩) (dr_const (a := (2 : Int))) (by decide)) (by exact of_decide_eq_true rfl) ?_
          show DS _ _ _
          try simp only [setE, wipeE, List.set_cons_zero, List.set_cons_succ]
          refine ds_seq ?_
          refine ds_if (dt_not (dt_ofB (dr_call5 (da_sh (dr_ix rfl (dr_var rfl) (dr_const (a := (0 : Int))) (by first | exact atI_nth (by omega) (by omega) | exact atI_nth (by show -((2 : Nat) : Int) ≤ 0; decide) (by show (0 : Int) < ((2 : Nat) : Int); decide) | exact atI_nth (by show -((2 : Nat) : Int) ≤ 1; decide) (by show (1 : Int) < ((2 : Nat) : Int); decide))) (da_sh (dr_var rfl) (da_sh (dr_var rfl) (da_sh (dr_var rfl) (da_sh (dr_var rfl) da_nil))))) (by first | exact ⟨fun r h => (by have h' : (none : Option Int) = some r := h; cases h'), sm_mul h_law_weights.2 h_law_basket_here.2, h_law_basket_here.1, h_law_weights.1.symm, fun _ => rfl, by omega, by omega⟩ | exact ⟨fun r h => (by have h' : some law_rest_here = some r := h; cases h'; exact h_law_rest_here2.1), sm_mul (sm_mod h_law_rest_here2.1 h_law_rest_here2.2) h_law_basket_here.2, h_law_basket_here.1, by show law_size = (((law_weights.map (· % law_rest_here)).length : Nat) : Int); rw [List.length_map]; exact h_law_weights.1.symm, fun _ => (vdot_mod law_weights law_basket_here).symm, by omega, by omega⟩) reb_sc))) (fun hc => ?_) (fun hc => ?_)
          · skip
            exact ds_never (by exact Bool.noConfusion (show false = true from hc))
          · try simp only [id, decide_eq_true_eq, decide_eq_false_iff_not, Bool.and_eq_true, Bool.or_eq_true, Bool.and_eq_false_iff, Bool.or_eq_false_iff, Bool.not_eq_true', Bool.not_eq_false', ne_eq, Decidable.not_not, Bool.true_eq_false, Bool.false_eq_true, false_or, or_false, true_and, and_true, not_false_eq_true, not_true_eq_false] at hc
            refine ds_next ?_
            show DS _ _ _
            try simp only [setE, wipeE, List.set_cons_zero, List.set_cons_succ]
            refine ds_if (dt_not (dt_ofB (dr_call5 (da_sh (dr_ix rfl (dr_var rfl) (dr_const (a := (1 : Int))) (by first | exact atI_nth (by omega) (by omega) | exact atI_nth (by show -((2 : Nat) : Int) ≤ 0; decide) (by show (0 : Int) < ((2 : Nat) : Int); decide) | exact atI_nth (by show -((2 : Nat) : Int) ≤ 1; decide) (by show (1 : Int) < ((2 : Nat) : Int); decide))) (da_sh (dr_var rfl) (da_sh (dr_var rfl) (da_sh (dr_mod (dr_var rfl) (dr_var rfl) (by first | omega | (rw [sizeLine_eq]; omega) | (simp at *; omega))) (da_sh (dr_var rfl) da_nil))))) (by first | exact ⟨fun r h => (by have h' : (none : Option Int) = some r := h; cases h'), sm_mul h_law_weights.2 h_law_basket_here.2, h_law_basket_here.1, h_law_weights.1.symm, fun _ => rfl, by omega, by omega⟩ | exact ⟨fun r h => (by have h' : some law_rest_here = some r := h; cases h'; exact h_law_rest_here2.1), sm_mul (sm_mod h_law_rest_here2.1 h_law_rest_here2.2) h_law_basket_here.2, h_law_basket_here.1, by show law_size = (((law_weights.map (· % law_rest_here)).length : Nat) : Int); rw [List.length_map]; exact h_law_weights.1.symm, fun _ => (vdot_mod law_weights law_basket_here).symm, by omega, by omega⟩) reb_sc))) (fun hc => ?_) (fun hc => ?_)
            · skip
              exact ds_never (by exact Bool.noConfusion (show false = true from hc))
            · try simp only [id, decide_eq_true_eq, decide_eq_false_iff_not, Bool.and_eq_true, Bool.or_eq_true, Bool.and_eq_false_iff, Bool.or_eq_false_iff, Bool.not_eq_true', Bool.not_eq_false', ne_eq, Decidable.not_not, Bool.true_eq_false, Bool.false_eq_true, false_or, or_false, true_and, and_true, not_false_eq_true, not_true_eq_false] at hc
              refine ds_next ?_
              show LeL _ _
              try simp only [setE, wipeE, List.set_cons_zero, List.set_cons_succ]
              exact (LeL.keep rfl (LeL.keep rfl (LeL.drop (LeL.keep rfl (LeL.keep rfl (LeL.keep rfl (LeL.keep rfl (LeL.drop (LeL.drop (LeL.drop (LeL.drop (LeL.drop LeL.nil))))))))))))
      · intro hj
        try simp only [setE, wipeE, List.set_cons_zero, List.set_cons_succ]
        show DS _ _ _
        try simp only [setE, wipeE, List.set_cons_zero, List.set_cons_succ]
        refine ds_seq ?_
        refine ds_if (dt_or (dt_not (dt_ofB (dr_isiS (c := 6) rfl XSF (dr_ix rfl (dr_var rfl) (dr_const (a := (0 : Int))) (by first | exact atI_nth (by omega) (by omega) | exact atI_nth (by show -((2 : Nat) : Int) ≤ 0; decide) (by show (0 : Int) < ((2 : Nat) : Int); decide) | exact atI_nth (by show -((2 : Nat) : Int) ≤ 1; decide) (by show (1 : Int) < ((2 : Nat) : Int); decide))) rfl (is6 XSF)))) (fun hb => (dt_not (dt_ofB (dr_isiS (c := 6) rfl XSF (dr_ix rfl (dr_var rfl) (dr_const (a := (1 : Int))) (by first | exact atI_nth (by omega) (by omega) | exact atI_nth (by show -((2 : Nat) : Int) ≤ 0; decide) (by show (0 : Int) < ((2 : Nat) : Int); decide) | exact atI_nth (by show -((2 : Nat) : Int) ≤ 1; decide) (by show (1 : Int) < ((2 : Nat) : Int); decide))) rfl (is6 XSF)))))) (fun hc => ?_) (fun hc => ?_)
        · skip
          exact ds_never (by exact Bool.noConfusion (show false = true from hc))
        · try simp only [id, decide_eq_true_eq, decide_eq_false_iff_not, Bool.and_eq_true, Bool.or_eq_true, Bool.and_eq_false_iff, Bool.or_eq_false_iff, Bool.not_eq_true', Bool.not_eq_false', ne_eq, Decidable.not_not, Bool.true_eq_false, Bool.false_eq_true, false_or, or_false, true_and, and_true, not_false_eq_true, not_true_eq_false] at hc
          refine ds_next ?_
          show DS _ _ _
          try simp only [setE, wipeE, List.set_cons_zero, List.set_cons_succ]
          refine ds_seq ?_
          refine ds_if (dt_or (dt_not (dt_ofB (dr_isiS (c := 2) rfl XSF (dr_ix rfl (dr_var rfl) (dr_const (a := (0 : Int))) (by first | exact atI_nth (by omega) (by omega) | exact atI_nth (by show -((2 : Nat) : Int) ≤ 0; decide) (by show (0 : Int) < ((2 : Nat) : Int); decide) | exact atI_nth (by show -((2 : Nat) : Int) ≤ 1; decide) (by show (1 : Int) < ((2 : Nat) : Int); decide))) rfl (is2 XSF)))) (fun hb => (dt_not (dt_ofB (dr_isiS (c := 3) rfl XSF (dr_ix rfl (dr_var rfl) (dr_const (a := (1 : Int))) (by first | exact atI_nth (by omega) (by omega) | exact atI_nth (by show -((2 : Nat) : Int) ≤ 0; decide) (by show (0 : Int) < ((2 : Nat) : Int); decide) | exact atI_nth (by show -((2 : Nat) : Int) ≤ 1; decide) (by show (1 : Int) < ((2 : Nat) : Int); decide))) rfl (is3 XSF)))))) (fun hc => ?_) (fun hc => ?_)
          · skip
            exact ds_never (by exact Bool.noConfusion (show false = true from hc))
          · try simp only [id, decide_eq_true_eq, decide_eq_false_iff_not, Bool.and_eq_true, Bool.or_eq_true, Bool.and_eq_false_iff, Bool.or_eq_false_iff, Bool.not_eq_true', Bool.not_eq_false', ne_eq, Decidable.not_not, Bool.true_eq_false, Bool.false_eq_true, false_or, or_false, true_and, and_true, not_false_eq_true, not_true_eq_false] at hc
            refine ds_next ?_
            show DS _ _ _
            try simp only [setE, wipeE, List.set_cons_zero, List.set_cons_succ]
            refine ds_seq ?_
            refine ds_if (dt_or (dt_not (dt_ofB (dr_call2 (da_sh (dr_Scl_weights rfl XSF (dr_ix rfl (dr_var rfl) (dr_const (a := (0 : Int))) (by first | exact atI_nth (by omega) (by omega) | exact atI_nth (by show -((2 : Nat) : Int) ≤ 0; decide) (by show (0 : Int) < ((2 : Nat) : Int); decide) | exact atI_nth (by show -((2 : Nat) : Int) ≤ 1; decide) (by show (1 : Int) < ((2 : Nat) : Int); decide)))) (da_sh (dr_var rfl) da_nil)) (by exact trivial) reb_sc))) (fun hb => (dt_not (dt_ofB (dr_call1 (da_sh (dr_Scl_rest rfl XSF (dr_ix rfl (dr_var rfl) (dr_const (a := (1 : Int))) (by first | exact atI_nth (by omega) (by omega) | exact atI_nth (by show -((2 : Nat) : Int) ≤ 0; decide) (by show (0 : Int) < ((2 : Nat) : Int); decide) | exact atI_nth (by show -((2 : Nat) : Int) ≤ 1; decide) (by show (1 : Int) < ((2 : Nat) : Int); decide))) (by first | exact h_law_rest_here2.1 | rfl | omega)) da_nil) (by exact trivial) reb_sc))))) (fun hc => ?_) (fun hc => ?_)
            · skip
              exact ds_never (by change (!decide (law_weights = law_weights) || !true) = true at hc; simp at hc)
            · try simp only [id, decide_eq_true_eq, decide_eq_false_iff_not, Bool.and_eq_true, Bool.or_eq_true, Bool.and_eq_false_iff, Bool.or_eq_false_iff, Bool.not_eq_true', Bool.not_eq_false', ne_eq, Decidable.not_not, Bool.true_eq_false, Bool.false_eq_true, false_or, or_false, true_and, and_true, not_false_eq_true, not_true_eq_false] at hc
              refine ds_next ?_
              show DS _ _ _
              try simp only [setE, wipeE, List.set_cons_zero, List.set_cons_succ]
              refine ds_seq ?_
              refine ds_settl (dr_frz (n := true) (dr_lc0 (n := true) (di_sc rfl (dr_var rfl)) (gv_name (by decide)) (fun x hx => (dg_name (by exact of_decide_eq_true rfl))) (fun x hx => (dr_mod (dr_var rfl) (dr_var rfl) (by first | omega | (rw [sizeLine_eq]; omega) | (simp at *; omega)))))) (by exact of_decide_eq_true rfl) ?_
              show DS _ _ _
              try simp only [setE, wipeE, List.set_cons_zero, List.set_cons_succ]
              refine ds_ret (dr_and (dr_eq2 (dr_Scl_rest rfl XSF (dr_ix rfl (dr_var rfl) (dr_const (a := (1 : Int))) (by first | exact atI_nth (by omega) (by omega) | exact atI_nth (by show -((2 : Nat) : Int) ≤ 0; decide) (by show (0 : Int) < ((2 : Nat) : Int); decide) | exact atI_nth (by show -((2 : Nat) : Int) ≤ 1; decide) (by show (1 : Int) < ((2 : Nat) : Int); decide))) (by first | exact h_law_rest_here2.1 | rfl | omega)) (dr_var rfl)) (fun hb => (dr_call2 (da_sh (dr_Scl_weights rfl XSF (dr_ix rfl (dr_var rfl) (dr_const (a := (1 : Int))) (by first | exact atI_nth (by omega) (by omega) | exact atI_nth (by show -((2 : Nat) : Int) ≤ 0; decide) (by show (0 : Int) < ((2 : Nat) : Int); decide) | exact atI_nth (by show -((2 : Nat) : Int) ≤ 1; decide) (by show (1 : Int) < ((2 : Nat) : Int); decide)))) (da_sh (dr_var rfl) da_nil)) (by exact trivial) reb_sc))) ?_
              refine congrArg (sh (α := Bool)) (?_ : _ = (true : Bool))
              show (decide (law_rest_here = law_rest_here) && decide (law_weights.map (fun x => x % law_rest_here) = law_weights.map (fun x => x % law_rest_here))) = true; simp
theorem ok_law (D : Dfn mg "law" s_law ["_law_script"]) (B : Blt mg) (C_law_at : Cal P w mg base "_law_at" 1 ["_law_script", "_law_k"] (sp2 w_law_at)) (C_law_entry : Cal P w mg base "_law_entry" 1 ["_law_script", "_law_k", "_law_most"] (sp3 w_law_entry)) (C_law_rest : Cal P w mg base "_law_rest" 1 ["_law_cell"] (sp1 w_law_rest)) (C_law_too_little : Cal P w mg base "_law_too_little" 6 ["_law_rest_here", "_law_weights"] (sp2 w_law_too_little)) (C_law_basket : Cal P w mg base "_law_basket" 2 ["_law_script", "_law_weights", "_law_k"] (sp3 w_law_basket)) (C_law_weight : Cal P w mg base "_law_weight" 1 ["_law_weights", "_law_basket_here"] (sp2 w_law_weight)) (C_law_good : Cal P w mg base "_law_good" 9 ["_law_scale", "_law_basket_here", "_law_size", "_law_due", "_law_ahead"] (sp5 w_law_good)) (C_law_same : Cal P w mg base "_law_same" 2 ["_law_found", "_law_due"] (sp2 w_law_same)) (C_law_whole : Cal P w mg base "_law_whole" 1 ["_law_found"] (sp1 w_law_whole))    (XSF : SF mg) (N_Line : MkrS P w mg base CX0 "Line" 2 1 ["self", "weights"] spI_Scl) (N_Rest : MkrS P w mg base CX0 "Rest" 3 2 ["self", "rest", "weights"] spI_Rest)  : Cal P w mg base "law" 10 ["_law_script"] (sp1 w_law) := cal_of D fun f fd F => okF_law F B C_law_at C_law_entry C_law_rest C_law_too_little C_law_basket C_law_weight C_law_good C_law_same C_law_whole XSF N_Line N_Rest
end
theorem all_mk {P : Program} {w : World} {K : PySem.W.Frag} {h : Heap} {mg : Str → Option Value} {fa : Addr} (X : K.In h) (G : h.Ns mainGlobals mg) (hfa : mg "law" = some (.ref fa))
    {cLine cRest cScale : Addr}
    {f1 : Addr} {od1 an1 : Option Addr} {sl1 : Array (Option Value)} {oc1 kV1 dc1 pm1 cd1 ct1 : Value}
    {f2 : Addr} {od2 an2 : Option Addr} {sl2 : Array (Option Value)} {oc2 kV2 dc2 pm2 cd2 ct2 : Value}
    {f3 : Addr} {od3 an3 : Option Addr} {sl3 : Array (Option Value)} {oc3 kV3 dc3 pm3 cd3 ct3 : Value}
    {f4 : Addr} {od4 an4 : Option Addr} {sl4 : Array (Option Value)} {oc4 kV4 dc4 pm4 cd4 ct4 : Value}
    {f5 : Addr} {od5 an5 : Option Addr} {sl5 : Array (Option Value)} {oc5 kV5 dc5 pm5 cd5 ct5 : Value}
    {f6 : Addr} {od6 an6 : Option Addr} {sl6 : Array (Option Value)} {oc6 kV6 dc6 pm6 cd6 ct6 : Value}
    {f7 : Addr} {od7 an7 : Option Addr} {sl7 : Array (Option Value)} {oc7 kV7 dc7 pm7 cd7 ct7 : Value}
    {f8 : Addr} {od8 an8 : Option Addr} {sl8 : Array (Option Value)} {oc8 kV8 dc8 pm8 cd8 ct8 : Value}
    {f9 : Addr} {od9 an9 : Option Addr} {sl9 : Array (Option Value)} {oc9 kV9 dc9 pm9 cd9 ct9 : Value}
    {f10 : Addr} {od10 an10 : Option Addr} {sl10 : Array (Option Value)} {oc10 kV10 dc10 pm10 cd10 ct10 : Value}
    {f11 : Addr} {od11 an11 : Option Addr} {sl11 : Array (Option Value)} {oc11 kV11 dc11 pm11 cd11 ct11 : Value}
    {f12 : Addr} {od12 an12 : Option Addr} {sl12 : Array (Option Value)} {oc12 kV12 dc12 pm12 cd12 ct12 : Value}
    {f13 : Addr} {od13 an13 : Option Addr} {sl13 : Array (Option Value)} {oc13 kV13 dc13 pm13 cd13 ct13 : Value}
    {f14 : Addr} {od14 an14 : Option Addr} {sl14 : Array (Option Value)} {oc14 kV14 dc14 pm14 cd14 ct14 : Value}
    {f15 : Addr} {od15 an15 : Option Addr} {sl15 : Array (Option Value)} {oc15 kV15 dc15 pm15 cd15 ct15 : Value}
    {f16 : Addr} {od16 an16 : Option Addr} {sl16 : Array (Option Value)} {oc16 kV16 dc16 pm16 cd16 ct16 : Value}
    {f17 : Addr} {od17 an17 : Option Addr} {sl17 : Array (Option Value)} {oc17 kV17 dc17 pm17 cd17 ct17 : Value}
    {f18 : Addr} {od18 an18 : Option Addr} {sl18 : Array (Option Value)} {oc18 kV18 dc18 pm18 cd18 ct18 : Value}
    {f19 : Addr} {od19 an19 : Option Addr} {sl19 : Array (Option Value)} {oc19 kV19 dc19 pm19 cd19 ct19 : Value}
    {x0 : Addr}
    {x1 : Addr}
    {x2 : Addr}
    {x3 : Addr}
    {x4 : Addr}
    {x5 : Addr}
    {x6 : Addr}
    {x7 : Addr}
    {x8 : Addr}
    {x9 : Addr}
    {x10 : Addr}
    {x11 : Addr}
    {x12 : Addr}
    {x13 : Addr}
    {x14 : Addr}
    {x15 : Addr}
    {x16 : Addr}
    {x17 : Addr}
    {x18 : Addr}
    {x19 : Addr}
    {xm4 xq4 : Str} {xb4 xu4 : List Value} {xN4 : Addr} {xl4 : List Str} {xe4 xd4 : Bool} {xo4 : Option Bool}
    {xm8 xq8 : Str} {xb8 xu8 : List Value} {xN8 : Addr} {xl8 : List Str} {xe8 xd8 : Bool} {xo8 : Option Bool}
    {qmLine qqLine : Str} {qbLine quLine : List Value} {qNLine : Addr} {qlLine : List Str} {qeLine qdLine qhLine : Bool} {qoLine : Option Bool}
    {qmRest qqRest : Str} {qbRest quRest : List Value} {qNRest : Addr} {qlRest : List Str} {qeRest qdRest qhRest : Bool} {qoRest : Option Bool}
    {fiScale : Addr} {odiScale aniScale : Option Addr} {sliScale : Array (Option Value)} {ociScale kViScale dciScale pmiScale cdiScale ctiScale : Value}
    {fiRest : Addr} {odiRest aniRest : Option Addr} {sliRest : Array (Option Value)} {ociRest kViRest dciRest pmiRest cdiRest ctiRest : Value}
    (acLine : PySem.W.nsIn K mainGlobals "Line" = some (some (.ref cLine)))
    (acRest : PySem.W.nsIn K mainGlobals "Rest" = some (some (.ref cRest)))
    (acScale : PySem.W.nsIn K mainGlobals "Scale" = some (some (.ref cScale)))
    (pgcLine : PySem.W.plainGet K cLine Str.empty = true) (hdcLine : PySem.W.hasDictIn K cLine = true) (pocLine : PySem.W.plainOver K cLine = true) (sacLine : PySem.W.findIn K (.ref cLine) "__setattr__" = some (some (.builtin "object.__setattr__")))
    (cacLine : PySem.W.findIn K (.ref cLine) "__class__" = some (some (.builtin "object.__class__"))) (cgcLine : PySem.W.specialIn K (.builtin "object.__class__") "__get__" = some (some (.builtin "getset_descriptor.__get__"))) (ctcLine_ : PySem.W.takesIn K (.builtin "object.__class__") = some true) (cmcLine : PySem.W.mroIn K cLine (.type "object") = some true)
    (nweightscLine : PySem.W.findIn K (.ref cLine) "weights" = some none)
    (pgcRest : PySem.W.plainGet K cRest Str.empty = true) (hdcRest : PySem.W.hasDictIn K cRest = true) (pocRest : PySem.W.plainOver K cRest = true) (sacRest : PySem.W.findIn K (.ref cRest) "__setattr__" = some (some (.builtin "object.__setattr__")))
    (cacRest : PySem.W.findIn K (.ref cRest) "__class__" = some (some (.builtin "object.__class__"))) (cgcRest : PySem.W.specialIn K (.builtin "object.__class__") "__get__" = some (some (.builtin "getset_descriptor.__get__"))) (ctcRest_ : PySem.W.takesIn K (.builtin "object.__class__") = some true) (cmcRest : PySem.W.mroIn K cRest (.type "object") = some true)
    (nrestcRest : PySem.W.findIn K (.ref cRest) "rest" = some none)
    (nweightscRest : PySem.W.findIn K (.ref cRest) "weights" = some none)
    (qcLine : PySem.W.isClsIn K cLine = true) (qtLine : PySem.W.typeIn K (.ref cLine) = some (.type "type"))
    (qcRest : PySem.W.isClsIn K cRest = true) (qtRest : PySem.W.typeIn K (.ref cRest) = some (.type "type"))
    (qcScale : PySem.W.isClsIn K cScale = true) (qtScale : PySem.W.typeIn K (.ref cScale) = some (.type "type"))
    (qgLine : PySem.W.clsIn K cLine = some { name := qmLine, bases := qbLine, mro := [.ref cLine, .ref cScale, .type "object"], ns := qNLine, qualname := qqLine, hasDict := qhLine, slotNames := qlLine, subclasses := quLine, abstract := qeLine, collection := qoLine, hasDel := qdLine })
    (qgRest : PySem.W.clsIn K cRest = some { name := qmRest, bases := qbRest, mro := [.ref cRest, .ref cScale, .type "object"], ns := qNRest, qualname := qqRest, hasDict := qhRest, slotNames := qlRest, subclasses := quRest, abstract := qeRest, collection := qoRest, hasDel := qdRest })
    (qnd : ([cLine, cRest, cScale] : List Addr).Nodup)
    (biScale : PySem.W.findIn K (.ref cLine) "__init__" = some (some (.ref fiScale))) (iiScale : PySem.W.isFn K (.ref fiScale) = true) (liScale : K.lookup fiScale = some ⟨ociScale, odiScale, .func (PySem.W.fnOf "__init__" "Scale.__init__" (defArgs s_Scale___init__) (defBody s_Scale___init__) (defScope s_Scale___init__) .none kViScale dciScale pmiScale aniScale cdiScale ctiScale), sliScale⟩) (ciScale : PySem.W.codeIn K cdiScale "Scale.__init__" = true) (kiScale : PySem.W.keepIn K (.ref fiScale) = true) (mkiScale : PySem.W.makesIn K cLine = true) (kciScale : PySem.W.keepIn K (.ref cLine) = true)
    (biRest : PySem.W.findIn K (.ref cRest) "__init__" = some (some (.ref fiRest))) (iiRest : PySem.W.isFn K (.ref fiRest) = true) (liRest : K.lookup fiRest = some ⟨ociRest, odiRest, .func (PySem.W.fnOf "__init__" "Rest.__init__" (defArgs s_Rest___init__) (defBody s_Rest___init__) (defScope s_Rest___init__) .none kViRest dciRest pmiRest aniRest cdiRest ctiRest), sliRest⟩) (ciRest : PySem.W.codeIn K cdiRest "Rest.__init__" = true) (kiRest : PySem.W.keepIn K (.ref fiRest) = true) (mkiRest : PySem.W.makesIn K cRest = true) (kciRest : PySem.W.keepIn K (.ref cRest) = true)
    (cr1 : PySem.W.readsIn K cScale (.type "type") = true) (cr2 : PySem.W.specialIn K (.ref cScale) "__getattribute__" = some (some (.builtin "type.__getattribute__"))) (cr3 : PySem.W.findCls K (.ref cScale) (.type "type") "__init__" = some (.val (.ref fiScale)))
    (a1 : PySem.W.nsIn K mainGlobals "look_alike" = some (some (.ref f1))) (l1 : K.lookup f1 = some ⟨oc1, od1, .func (PySem.W.fnOf "look_alike" "look_alike" (defArgs s_look_alike) (defBody s_look_alike) (defScope s_look_alike) .none kV1 dc1 pm1 an1 cd1 ct1), sl1⟩) (c1 : PySem.W.codeIn K cd1 "look_alike" = true) (k1 : PySem.W.keepIn K (.ref f1) = true)
    (a2 : PySem.W.nsIn K mainGlobals "weighed" = some (some (.ref f2))) (l2 : K.lookup f2 = some ⟨oc2, od2, .func (PySem.W.fnOf "weighed" "weighed" (defArgs s_weighed) (defBody s_weighed) (defScope s_weighed) .none kV2 dc2 pm2 an2 cd2 ct2), sl2⟩) (c2 : PySem.W.codeIn K cd2 "weighed" = true) (k2 : PySem.W.keepIn K (.ref f2) = true)
    (ma03 : PySem.W.findIn K (.ref cLine) "summed" = some (some (.ref f3)))
    (ma13 : PySem.W.findIn K (.ref cRest) "summed" = some (some (.ref f3)))
    (l3 : K.lookup f3 = some ⟨oc3, od3, .func (PySem.W.fnOf "summed" "Scale.summed" (defArgs s_Scale_summed) (defBody s_Scale_summed) (defScope s_Scale_summed) .none kV3 dc3 pm3 an3 cd3 ct3), sl3⟩) (c3 : PySem.W.codeIn K cd3 "Scale.summed" = true) (k3 : PySem.W.keepIn K (.ref f3) = true) (fn3 : PySem.W.isFn K (.ref f3) = true)
    (ma04 : PySem.W.findIn K (.ref cLine) "weigh" = some (some (.ref f4)))
    (l4 : K.lookup f4 = some ⟨oc4, od4, .func (PySem.W.fnOf "weigh" "Scale.weigh" (defArgs s_Scale_weigh) (defBody s_Scale_weigh) (defScope s_Scale_weigh) .none kV4 dc4 pm4 an4 cd4 ct4), sl4⟩) (c4 : PySem.W.codeIn K cd4 "Scale.weigh" = true) (k4 : PySem.W.keepIn K (.ref f4) = true) (fn4 : PySem.W.isFn K (.ref f4) = true)
    (ma15 : PySem.W.findIn K (.ref cRest) "weigh" = some (some (.ref f5)))
    (l5 : K.lookup f5 = some ⟨oc5, od5, .func (PySem.W.fnOf "weigh" "Rest.weigh" (defArgs s_Rest_weigh) (defBody s_Rest_weigh) (defScope s_Rest_weigh) .none kV5 dc5 pm5 an5 cd5 ct5), sl5⟩) (c5 : PySem.W.codeIn K cd5 "Rest.weigh" = true) (k5 : PySem.W.keepIn K (.ref f5) = true) (fn5 : PySem.W.isFn K (.ref f5) = true)
    (ma06 : PySem.W.findIn K (.ref cLine) "levels" = some (some (.ref f6)))
    (ma16 : PySem.W.findIn K (.ref cRest) "levels" = some (some (.ref f6)))
    (l6 : K.lookup f6 = some ⟨oc6, od6, .func (PySem.W.fnOf "levels" "Scale.levels" (defArgs s_Scale_levels) (defBody s_Scale_levels) (defScope s_Scale_levels) .none kV6 dc6 pm6 an6 cd6 ct6), sl6⟩) (c6 : PySem.W.codeIn K cd6 "Scale.levels" = true) (k6 : PySem.W.keepIn K (.ref f6) = true) (fn6 : PySem.W.isFn K (.ref f6) = true)
    (a7 : PySem.W.nsIn K mainGlobals "_law_whole" = some (some (.ref f7))) (l7 : K.lookup f7 = some ⟨oc7, od7, .func (PySem.W.fnOf "_law_whole" "_law_whole" (defArgs s_law_whole) (defBody s_law_whole) (defScope s_law_whole) .none kV7 dc7 pm7 an7 cd7 ct7), sl7⟩) (c7 : PySem.W.codeIn K cd7 "_law_whole" = true) (k7 : PySem.W.keepIn K (.ref f7) = true)
    (a8 : PySem.W.nsIn K mainGlobals "_law_same" = some (some (.ref f8))) (l8 : K.lookup f8 = some ⟨oc8, od8, .func (PySem.W.fnOf "_law_same" "_law_same" (defArgs s_law_same) (defBody s_law_same) (defScope s_law_same) .none kV8 dc8 pm8 an8 cd8 ct8), sl8⟩) (c8 : PySem.W.codeIn K cd8 "_law_same" = true) (k8 : PySem.W.keepIn K (.ref f8) = true)
    (a9 : PySem.W.nsIn K mainGlobals "_law_flags" = some (some (.ref f9))) (l9 : K.lookup f9 = some ⟨oc9, od9, .func (PySem.W.fnOf "_law_flags" "_law_flags" (defArgs s_law_flags) (defBody s_law_flags) (defScope s_law_flags) .none kV9 dc9 pm9 an9 cd9 ct9), sl9⟩) (c9 : PySem.W.codeIn K cd9 "_law_flags" = true) (k9 : PySem.W.keepIn K (.ref f9) = true)
    (a10 : PySem.W.nsIn K mainGlobals "_law_only" = some (some (.ref f10))) (l10 : K.lookup f10 = some ⟨oc10, od10, .func (PySem.W.fnOf "_law_only" "_law_only" (defArgs s_law_only) (defBody s_law_only) (defScope s_law_only) .none kV10 dc10 pm10 an10 cd10 ct10), sl10⟩) (c10 : PySem.W.codeIn K cd10 "_law_only" = true) (k10 : PySem.W.keepIn K (.ref f10) = true)
    (a11 : PySem.W.nsIn K mainGlobals "_law_at" = some (some (.ref f11))) (l11 : K.lookup f11 = some ⟨oc11, od11, .func (PySem.W.fnOf "_law_at" "_law_at" (defArgs s_law_at) (defBody s_law_at) (defScope s_law_at) .none kV11 dc11 pm11 an11 cd11 ct11), sl11⟩) (c11 : PySem.W.codeIn K cd11 "_law_at" = true) (k11 : PySem.W.keepIn K (.ref f11) = true)
    (a12 : PySem.W.nsIn K mainGlobals "_law_entry" = some (some (.ref f12))) (l12 : K.lookup f12 = some ⟨oc12, od12, .func (PySem.W.fnOf "_law_entry" "_law_entry" (defArgs s_law_entry) (defBody s_law_entry) (defScope s_law_entry) .none kV12 dc12 pm12 an12 cd12 ct12), sl12⟩) (c12 : PySem.W.codeIn K cd12 "_law_entry" = true) (k12 : PySem.W.keepIn K (.ref f12) = true)
    (a13 : PySem.W.nsIn K mainGlobals "_law_rest" = some (some (.ref f13))) (l13 : K.lookup f13 = some ⟨oc13, od13, .func (PySem.W.fnOf "_law_rest" "_law_rest" (defArgs s_law_rest) (defBody s_law_rest) (defScope s_law_rest) .none kV13 dc13 pm13 an13 cd13 ct13), sl13⟩) (c13 : PySem.W.codeIn K cd13 "_law_rest" = true) (k13 : PySem.W.keepIn K (.ref f13) = true)
    (a14 : PySem.W.nsIn K mainGlobals "_law_basket" = some (some (.ref f14))) (l14 : K.lookup f14 = some ⟨oc14, od14, .func (PySem.W.fnOf "_law_basket" "_law_basket" (defArgs s_law_basket) (defBody s_law_basket) (defScope s_law_basket) .none kV14 dc14 pm14 an14 cd14 ct14), sl14⟩) (c14 : PySem.W.codeIn K cd14 "_law_basket" = true) (k14 : PySem.W.keepIn K (.ref f14) = true)
    (a15 : PySem.W.nsIn K mainGlobals "_law_asked" = some (some (.ref f15))) (l15 : K.lookup f15 = some ⟨oc15, od15, .func (PySem.W.fnOf "_law_asked" "_law_asked" (defArgs s_law_asked) (defBody s_law_asked) (defScope s_law_asked) .none kV15 dc15 pm15 an15 cd15 ct15), sl15⟩) (c15 : PySem.W.codeIn K cd15 "_law_asked" = true) (k15 : PySem.W.keepIn K (.ref f15) = true)
    (a16 : PySem.W.nsIn K mainGlobals "_law_good" = some (some (.ref f16))) (l16 : K.lookup f16 = some ⟨oc16, od16, .func (PySem.W.fnOf "_law_good" "_law_good" (defArgs s_law_good) (defBody s_law_good) (defScope s_law_good) .none kV16 dc16 pm16 an16 cd16 ct16), sl16⟩) (c16 : PySem.W.codeIn K cd16 "_law_good" = true) (k16 : PySem.W.keepIn K (.ref f16) = true)
    (a17 : PySem.W.nsIn K mainGlobals "_law_weight" = some (some (.ref f17))) (l17 : K.lookup f17 = some ⟨oc17, od17, .func (PySem.W.fnOf "_law_weight" "_law_weight" (defArgs s_law_weight) (defBody s_law_weight) (defScope s_law_weight) .none kV17 dc17 pm17 an17 cd17 ct17), sl17⟩) (c17 : PySem.W.codeIn K cd17 "_law_weight" = true) (k17 : PySem.W.keepIn K (.ref f17) = true)
    (a18 : PySem.W.nsIn K mainGlobals "_law_too_little" = some (some (.ref f18))) (l18 : K.lookup f18 = some ⟨oc18, od18, .func (PySem.W.fnOf "_law_too_little" "_law_too_little" (defArgs s_law_too_little) (defBody s_law_too_little) (defScope s_law_too_little) .none kV18 dc18 pm18 an18 cd18 ct18), sl18⟩) (c18 : PySem.W.codeIn K cd18 "_law_too_little" = true) (k18 : PySem.W.keepIn K (.ref f18) = true)
    (a19 : PySem.W.nsIn K mainGlobals "law" = some (some (.ref f19))) (l19 : K.lookup f19 = some ⟨oc19, od19, .func (PySem.W.fnOf "law" "law" (defArgs s_law) (defBody s_law) (defScope s_law) .none kV19 dc19 pm19 an19 cd19 ct19), sl19⟩) (c19 : PySem.W.codeIn K cd19 "law" = true) (k19 : PySem.W.keepIn K (.ref f19) = true)
    (xa0 : PySem.W.nsIn K mainGlobals "NotAlike" = some (some (.ref x0))) (xc0 : PySem.W.isClsIn K x0 = true) (xt0 : PySem.W.typeIn K (.ref x0) = some (.type "type"))
    (xa1 : PySem.W.nsIn K mainGlobals "BadWares" = some (some (.ref x1))) (xc1 : PySem.W.isClsIn K x1 = true) (xt1 : PySem.W.typeIn K (.ref x1) = some (.type "type"))
    (xa2 : PySem.W.nsIn K mainGlobals "TooMany" = some (some (.ref x2))) (xc2 : PySem.W.isClsIn K x2 = true) (xt2 : PySem.W.typeIn K (.ref x2) = some (.type "type"))
    (xa3 : PySem.W.nsIn K mainGlobals "BadSwap" = some (some (.ref x3))) (xc3 : PySem.W.isClsIn K x3 = true) (xt3 : PySem.W.typeIn K (.ref x3) = some (.type "type"))
    (xa4 : PySem.W.nsIn K mainGlobals "BadBasket" = some (some (.ref x4))) (xc4 : PySem.W.isClsIn K x4 = true) (xt4 : PySem.W.typeIn K (.ref x4) = some (.type "type"))
    (xa5 : PySem.W.nsIn K mainGlobals "BadRoad" = some (some (.ref x5))) (xc5 : PySem.W.isClsIn K x5 = true) (xt5 : PySem.W.typeIn K (.ref x5) = some (.type "type"))
    (xa6 : PySem.W.nsIn K mainGlobals "Endless" = some (some (.ref x6))) (xc6 : PySem.W.isClsIn K x6 = true) (xt6 : PySem.W.typeIn K (.ref x6) = some (.type "type"))
    (xa7 : PySem.W.nsIn K mainGlobals "TooGreat" = some (some (.ref x7))) (xc7 : PySem.W.isClsIn K x7 = true) (xt7 : PySem.W.typeIn K (.ref x7) = some (.type "type"))
    (xa8 : PySem.W.nsIn K mainGlobals "BadRest" = some (some (.ref x8))) (xc8 : PySem.W.isClsIn K x8 = true) (xt8 : PySem.W.typeIn K (.ref x8) = some (.type "type"))
    (xa9 : PySem.W.nsIn K mainGlobals "BadScale" = some (some (.ref x9))) (xc9 : PySem.W.isClsIn K x9 = true) (xt9 : PySem.W.typeIn K (.ref x9) = some (.type "type"))
    (xa10 : PySem.W.nsIn K mainGlobals "OtherWares" = some (some (.ref x10))) (xc10 : PySem.W.isClsIn K x10 = true) (xt10 : PySem.W.typeIn K (.ref x10) = some (.type "type"))
    (xa11 : PySem.W.nsIn K mainGlobals "BadBaskets" = some (some (.ref x11))) (xc11 : PySem.W.isClsIn K x11 = true) (xt11 : PySem.W.typeIn K (.ref x11) = some (.type "type"))
    (xa12 : PySem.W.nsIn K mainGlobals "NotKept" = some (some (.ref x12))) (xc12 : PySem.W.isClsIn K x12 = true) (xt12 : PySem.W.typeIn K (.ref x12) = some (.type "type"))
    (xa13 : PySem.W.nsIn K mainGlobals "OtherBook" = some (some (.ref x13))) (xc13 : PySem.W.isClsIn K x13 = true) (xt13 : PySem.W.typeIn K (.ref x13) = some (.type "type"))
    (xa14 : PySem.W.nsIn K mainGlobals "NoLine" = some (some (.ref x14))) (xc14 : PySem.W.isClsIn K x14 = true) (xt14 : PySem.W.typeIn K (.ref x14) = some (.type "type"))
    (xa15 : PySem.W.nsIn K mainGlobals "BadNames" = some (some (.ref x15))) (xc15 : PySem.W.isClsIn K x15 = true) (xt15 : PySem.W.typeIn K (.ref x15) = some (.type "type"))
    (xa16 : PySem.W.nsIn K mainGlobals "NoBook" = some (some (.ref x16))) (xc16 : PySem.W.isClsIn K x16 = true) (xt16 : PySem.W.typeIn K (.ref x16) = some (.type "type"))
    (xa17 : PySem.W.nsIn K mainGlobals "NoName" = some (some (.ref x17))) (xc17 : PySem.W.isClsIn K x17 = true) (xt17 : PySem.W.typeIn K (.ref x17) = some (.type "type"))
    (xa18 : PySem.W.nsIn K mainGlobals "NoSwap" = some (some (.ref x18))) (xc18 : PySem.W.isClsIn K x18 = true) (xt18 : PySem.W.typeIn K (.ref x18) = some (.type "type"))
    (xa19 : PySem.W.nsIn K mainGlobals "SwapError" = some (some (.ref x19))) (xc19 : PySem.W.isClsIn K x19 = true) (xt19 : PySem.W.typeIn K (.ref x19) = some (.type "type"))
    (xsw : PySem.W.subIn K (.ref x19) (.type "BaseException") = some true) (xnd : ([x0, x1, x2, x3, x4, x5, x6, x7, x8, x9, x10, x11, x12, x13, x14, x15, x16, x17, x18, x19] : List Addr).Nodup)
    (xg4 : PySem.W.clsIn K x4 = some { name := xm4, bases := xb4, mro := [.ref x4, .ref x19, .type "ValueError", .type "Exception", .type "BaseException", .type "object"], ns := xN4, qualname := xq4, hasDict := true, slotNames := xl4, subclasses := xu4, abstract := xe4, collection := xo4, hasDel := xd4 })
    (xi4 : PySem.W.findIn K (.ref x4) "__getattribute__" = some (some (.builtin "BaseException.__getattribute__"))) (xj4 : PySem.W.findIn K (.ref x4) "__getattr__" = some none) (xk4 : PySem.W.subIn K (.ref x4) (.type "BaseException") = some true) (xf4 : PySem.W.hasDictIn K x4 = true)
    (xv4 : PySem.W.findIn K (.ref x4) "__class__" = some (some (.builtin "object.__class__"))) (xw4 : PySem.W.specialIn K (.builtin "object.__class__") "__get__" = some (some (.builtin "getset_descriptor.__get__"))) (xy4 : PySem.W.takesIn K (.builtin "object.__class__") = some true) (xz4 : PySem.W.mroIn K x4 (.type "object") = some true)
    (xg8 : PySem.W.clsIn K x8 = some { name := xm8, bases := xb8, mro := [.ref x8, .ref x19, .type "ValueError", .type "Exception", .type "BaseException", .type "object"], ns := xN8, qualname := xq8, hasDict := true, slotNames := xl8, subclasses := xu8, abstract := xe8, collection := xo8, hasDel := xd8 })
    (xi8 : PySem.W.findIn K (.ref x8) "__getattribute__" = some (some (.builtin "BaseException.__getattribute__"))) (xj8 : PySem.W.findIn K (.ref x8) "__getattr__" = some none) (xk8 : PySem.W.subIn K (.ref x8) (.type "BaseException") = some true) (xf8 : PySem.W.hasDictIn K x8 = true)
    (xv8 : PySem.W.findIn K (.ref x8) "__class__" = some (some (.builtin "object.__class__"))) (xw8 : PySem.W.specialIn K (.builtin "object.__class__") "__get__" = some (some (.builtin "getset_descriptor.__get__"))) (xy8 : PySem.W.takesIn K (.builtin "object.__class__") = some true) (xz8 : PySem.W.mroIn K x8 (.type "object") = some true)
    (ye4 : PySem.W.excIn K x4 [.type "ValueError", .type "Exception", .type "BaseException", .type "object"] "ValueError.__new__" = true) (yk4 : PySem.W.keepIn K (.ref x4) = true) (ys4 : PySem.W.subIn K (.ref x4) (.type "BaseException") = some true)
    (ye8 : PySem.W.excIn K x8 [.type "ValueError", .type "Exception", .type "BaseException", .type "object"] "ValueError.__new__" = true) (yk8 : PySem.W.keepIn K (.ref x8) = true) (ys8 : PySem.W.subIn K (.ref x8) (.type "BaseException") = some true)
    (ye0 : PySem.W.excIn K x0 [.type "ValueError", .type "Exception", .type "BaseException", .type "object"] "ValueError.__new__" = true) (yk0 : PySem.W.keepIn K (.ref x0) = true) (ys0 : PySem.W.subIn K (.ref x0) (.type "BaseException") = some true)
    (z_len : PySem.W.nsIn K mainGlobals "len" = some none)
    (z_range : PySem.W.nsIn K mainGlobals "range" = some none)
    (z_zip : PySem.W.nsIn K mainGlobals "zip" = some none)
    (z_list : PySem.W.nsIn K mainGlobals "list" = some none)
    (z_enumerate : PySem.W.nsIn K mainGlobals "enumerate" = some none)
    (z_int : PySem.W.nsIn K mainGlobals "int" = some none)
    (z_bool : PySem.W.nsIn K mainGlobals "bool" = some none)
    (z_str : PySem.W.nsIn K mainGlobals "str" = some none)
    (z_tuple : PySem.W.nsIn K mainGlobals "tuple" = some none)
    (z_reversed : PySem.W.nsIn K mainGlobals "reversed" = some none)
    (z_any : PySem.W.nsIn K mainGlobals "any" = some none)
    (z_all : PySem.W.nsIn K mainGlobals "all" = some none)
    (z_sum : PySem.W.nsIn K mainGlobals "sum" = some none)
    (z_abs : PySem.W.nsIn K mainGlobals "abs" = some none)
    (z_min : PySem.W.nsIn K mainGlobals "min" = some none)
    (z_max : PySem.W.nsIn K mainGlobals "max" = some none)
    (z_isinstance : PySem.W.nsIn K mainGlobals "isinstance" = some none)
    (z_set : PySem.W.nsIn K mainGlobals "set" = some none)
    (z_verr : PySem.W.nsIn K mainGlobals "ValueError" = some none) :
    ∃ fd : FuncData, (∀ (s : Shared) (u : Value), BindsTo s fd ⟨[u], []⟩ [("_law_script", u)]) ∧ ∀ base : Heap, K.In base → base.Ns mainGlobals mg → FnOk P w K mg base CX0 10 fa fd ["_law_script"] (spL K) := by
  letI Γ : Ctx := ⟨K, fun i => ([0, 0, cLine, cRest, 0, 0, cScale, 0, 0, 0, x0, x1, x2, x3, x4, x5, x6, x7, x8, x9, x10, x11, x12, x13, x14, x15, x16, x17, x18, x19] : List Addr).getD i 0⟩
  have e := hfa.symm.trans (PySem.W.mg_of X G a19)
  cases e
  have B : Blt mg := ⟨PySem.W.mg_none_of X G z_len, PySem.W.mg_none_of X G z_range, PySem.W.mg_none_of X G z_zip, PySem.W.mg_none_of X G z_list, PySem.W.mg_none_of X G z_enumerate, PySem.W.mg_none_of X G z_int, PySem.W.mg_none_of X G z_bool, PySem.W.mg_none_of X G z_str, PySem.W.mg_none_of X G z_tuple, PySem.W.mg_none_of X G z_reversed, PySem.W.mg_none_of X G z_any, PySem.W.mg_none_of X G z_all, PySem.W.mg_none_of X G z_sum, PySem.W.mg_none_of X G z_abs, PySem.W.mg_none_of X G z_min, PySem.W.mg_none_of X G z_max, PySem.W.mg_none_of X G z_isinstance, PySem.W.mg_none_of X G z_set, PySem.W.mg_none_of X G z_verr⟩
  have XSF : SF mg := by
    have q2 : Cls Γ.K (Γ.cls 2) := ⟨pgcLine, hdcLine, pocLine, sacLine⟩
    have q3 : Cls Γ.K (Γ.cls 3) := ⟨pgcRest, hdcRest, pocRest, sacRest⟩
    have qnd3 : cLine ≠ cRest ∧ cScale ≠ cRest ∧ cScale ≠ cLine := by
      simp only [List.nodup_cons, List.mem_cons, List.not_mem_nil, or_false, not_or] at qnd
      exact ⟨qnd.1.1, fun h => qnd.2.1 h.symm, fun h => qnd.1.2 h.symm⟩
    refine ⟨⟨q2, fun f hf => ?_⟩, ⟨q3, fun f hf => ?_⟩, ⟨q2, cacLine, cgcLine, ctcLine_, cmcLine, PySem.W.mg_of X G acLine⟩, ⟨q3, cacRest, cgcRest, ctcRest_, cmcRest, PySem.W.mg_of X G acRest⟩, PySem.W.mg_of X G acScale, kit_no qgLine qnd3.1 qnd3.2.1 qcRest qtRest, kit_up qgLine qcScale qtScale, kit_no qgRest (Ne.symm qnd3.1) qnd3.2.2 qcLine qtLine, kit_up qgRest qcScale qtScale⟩
    · simp only [List.mem_cons, List.not_mem_nil, or_false] at hf
      subst hf
      exact nweightscLine
    · simp only [List.mem_cons, List.not_mem_nil, or_false] at hf
      rcases hf with rfl | rfl
      · exact nrestcRest
      · exact nweightscRest
  have XS : Xs mg := ⟨fun k hk => match k, hk with | 0, _ => PySem.W.mg_of X G xa0 | 1, _ => PySem.W.mg_of X G xa1 | 2, _ => PySem.W.mg_of X G xa2 | 3, _ => PySem.W.mg_of X G xa3 | 4, _ => PySem.W.mg_of X G xa4 | 5, _ => PySem.W.mg_of X G xa5 | 6, _ => PySem.W.mg_of X G xa6 | 7, _ => PySem.W.mg_of X G xa7 | 8, _ => PySem.W.mg_of X G xa8 | 9, _ => PySem.W.mg_of X G xa9 | 10, _ => PySem.W.mg_of X G xa10 | 11, _ => PySem.W.mg_of X G xa11 | 12, _ => PySem.W.mg_of X G xa12 | 13, _ => PySem.W.mg_of X G xa13 | 14, _ => PySem.W.mg_of X G xa14 | 15, _ => PySem.W.mg_of X G xa15 | 16, _ => PySem.W.mg_of X G xa16 | 17, _ => PySem.W.mg_of X G xa17 | 18, _ => PySem.W.mg_of X G xa18 | 19, _ => PySem.W.mg_of X G xa19 | _ + 20, h => absurd h (by omega), fun k hk => match k, hk with | 0, _ => ⟨xc0, xt0⟩ | 1, _ => ⟨xc1, xt1⟩ | 2, _ => ⟨xc2, xt2⟩ | 3, _ => ⟨xc3, xt3⟩ | 4, _ => ⟨xc4, xt4⟩ | 5, _ => ⟨xc5, xt5⟩ | 6, _ => ⟨xc6, xt6⟩ | 7, _ => ⟨xc7, xt7⟩ | 8, _ => ⟨xc8, xt8⟩ | 9, _ => ⟨xc9, xt9⟩ | 10, _ => ⟨xc10, xt10⟩ | 11, _ => ⟨xc11, xt11⟩ | 12, _ => ⟨xc12, xt12⟩ | 13, _ => ⟨xc13, xt13⟩ | 14, _ => ⟨xc14, xt14⟩ | 15, _ => ⟨xc15, xt15⟩ | 16, _ => ⟨xc16, xt16⟩ | 17, _ => ⟨xc17, xt17⟩ | 18, _ => ⟨xc18, xt18⟩ | 19, _ => ⟨xc19, xt19⟩ | _ + 20, h => absurd h (by omega), xs_nd xnd, xsw⟩
  have XE : ∀ c ∈ SX, XK1 c := fun c hc => by
    simp only [SX, List.mem_cons, List.not_mem_nil, or_false] at hc
    rcases hc with rfl | rfl
    · exact ⟨⟨xi4, xj4, xk4, xf4, xv4, xw4, xy4, xz4⟩, _, xg4, rfl⟩
    · exact ⟨⟨xi8, xj8, xk8, xf8, xv8, xw8, xy8, xz8⟩, _, xg8, rfl⟩
  have XR_BadBasket : XR1 mg "BadBasket" 14 := ⟨ye4, yk4, ys4, xt4, PySem.W.mg_of X G xa4⟩
  have XR_BadRest : XR1 mg "BadRest" 18 := ⟨ye8, yk8, ys8, xt8, PySem.W.mg_of X G xa8⟩
  have XR_NotAlike : XR1 mg "NotAlike" 10 := ⟨ye0, yk0, ys0, xt0, PySem.W.mg_of X G xa0⟩
  have F1 := fun_mk (st := s_look_alike) l1 c1 k1
  have D1 : Dfn mg "look_alike" s_look_alike ["one", "other"] := ⟨_, _, F1, PySem.W.mg_of X G a1, k1, F1.binds (ps := ["one", "other"]) fun _ _ _ _ _ _ us hl => match us, hl with | [_, _], _ => rfl⟩
  have F2 := fun_mk (st := s_weighed) l2 c2 k2
  have D2 : Dfn mg "weighed" s_weighed ["one", "other"] := ⟨_, _, F2, PySem.W.mg_of X G a2, k2, F2.binds (ps := ["one", "other"]) fun _ _ _ _ _ _ us hl => match us, hl with | [_, _], _ => rfl⟩
  have F3 := fun_mk (st := s_Scale_summed) l3 c3 k3
  have F4 := fun_mk (st := s_Scale_weigh) l4 c4 k4
  have F5 := fun_mk (st := s_Rest_weigh) l5 c5 k5
  have F6 := fun_mk (st := s_Scale_levels) l6 c6 k6
  have F7 := fun_mk (st := s_law_whole) l7 c7 k7
  have D7 : Dfn mg "_law_whole" s_law_whole ["_law_found"] := ⟨_, _, F7, PySem.W.mg_of X G a7, k7, F7.binds (ps := ["_law_found"]) fun _ _ _ _ _ _ us hl => match us, hl with | [_], _ => rfl⟩
  have F8 := fun_mk (st := s_law_same) l8 c8 k8
  have D8 : Dfn mg "_law_same" s_law_same ["_law_found", "_law_due"] := ⟨_, _, F8, PySem.W.mg_of X G a8, k8, F8.binds (ps := ["_law_found", "_law_due"]) fun _ _ _ _ _ _ us hl => match us, hl with | [_, _], _ => rfl⟩
  have F9 := fun_mk (st := s_law_flags) l9 c9 k9
  have D9 : Dfn mg "_law_flags" s_law_flags ["_law_caught"] := ⟨_, _, F9, PySem.W.mg_of X G a9, k9, F9.binds (ps := ["_law_caught"]) fun _ _ _ _ _ _ us hl => match us, hl with | [_], _ => rfl⟩
  have F10 := fun_mk (st := s_law_only) l10 c10 k10
  have D10 : Dfn mg "_law_only" s_law_only ["_law_caught", "_law_name"] := ⟨_, _, F10, PySem.W.mg_of X G a10, k10, F10.binds (ps := ["_law_caught", "_law_name"]) fun _ _ _ _ _ _ us hl => match us, hl with | [_, _], _ => rfl⟩
  have F11 := fun_mk (st := s_law_at) l11 c11 k11
  have D11 : Dfn mg "_law_at" s_law_at ["_law_script", "_law_k"] := ⟨_, _, F11, PySem.W.mg_of X G a11, k11, F11.binds (ps := ["_law_script", "_law_k"]) fun _ _ _ _ _ _ us hl => match us, hl with | [_, _], _ => rfl⟩
  have F12 := fun_mk (st := s_law_entry) l12 c12 k12
  have D12 : Dfn mg "_law_entry" s_law_entry ["_law_script", "_law_k", "_law_most"] := ⟨_, _, F12, PySem.W.mg_of X G a12, k12, F12.binds (ps := ["_law_script", "_law_k", "_law_most"]) fun _ _ _ _ _ _ us hl => match us, hl with | [_, _, _], _ => rfl⟩
  have F13 := fun_mk (st := s_law_rest) l13 c13 k13
  have D13 : Dfn mg "_law_rest" s_law_rest ["_law_cell"] := ⟨_, _, F13, PySem.W.mg_of X G a13, k13, F13.binds (ps := ["_law_cell"]) fun _ _ _ _ _ _ us hl => match us, hl with | [_], _ => rfl⟩
  have F14 := fun_mk (st := s_law_basket) l14 c14 k14
  have D14 : Dfn mg "_law_basket" s_law_basket ["_law_script", "_law_weights", "_law_k"] := ⟨_, _, F14, PySem.W.mg_of X G a14, k14, F14.binds (ps := ["_law_script", "_law_weights", "_law_k"]) fun _ _ _ _ _ _ us hl => match us, hl with | [_, _, _], _ => rfl⟩
  have F15 := fun_mk (st := s_law_asked) l15 c15 k15
  have D15 : Dfn mg "_law_asked" s_law_asked ["_law_scale", "_law_basket_here", "_law_way"] := ⟨_, _, F15, PySem.W.mg_of X G a15, k15, F15.binds (ps := ["_law_scale", "_law_basket_here", "_law_way"]) fun _ _ _ _ _ _ us hl => match us, hl with | [_, _, _], _ => rfl⟩
  have F16 := fun_mk (st := s_law_good) l16 c16 k16
  have D16 : Dfn mg "_law_good" s_law_good ["_law_scale", "_law_basket_here", "_law_size", "_law_due", "_law_ahead"] := ⟨_, _, F16, PySem.W.mg_of X G a16, k16, F16.binds (ps := ["_law_scale", "_law_basket_here", "_law_size", "_law_due", "_law_ahead"]) fun _ _ _ _ _ _ us hl => match us, hl with | [_, _, _, _, _], _ => rfl⟩
  have F17 := fun_mk (st := s_law_weight) l17 c17 k17
  have D17 : Dfn mg "_law_weight" s_law_weight ["_law_weights", "_law_basket_here"] := ⟨_, _, F17, PySem.W.mg_of X G a17, k17, F17.binds (ps := ["_law_weights", "_law_basket_here"]) fun _ _ _ _ _ _ us hl => match us, hl with | [_, _], _ => rfl⟩
  have F18 := fun_mk (st := s_law_too_little) l18 c18 k18
  have D18 : Dfn mg "_law_too_little" s_law_too_little ["_law_rest_here", "_law_weights"] := ⟨_, _, F18, PySem.W.mg_of X G a18, k18, F18.binds (ps := ["_law_rest_here", "_law_weights"]) fun _ _ _ _ _ _ us hl => match us, hl with | [_, _], _ => rfl⟩
  refine ⟨PySem.W.fnOf "law" "law" (defArgs s_law) (defBody s_law) (defScope s_law) .none kV19 dc19 pm19 an19 cd19 ct19, fun s v => .of_eq rfl, fun base _ _ => ?_⟩
  have FI_Scale := fun_mk (st := s_Scale___init__) liScale ciScale kiScale
  have FI_Rest := fun_mk (st := s_Rest___init__) liRest ciRest kiRest
  have XBI : BI fiScale := ⟨⟨cr1, cr2⟩, cr3, kiScale⟩
  have OI := ok_Scale_init (P := P) (w := w) (base := base) FI_Scale B XSF
  have BS := FI_Scale.binds (ps := ["self", "weights"]) fun _ _ _ _ _ _ us hl => match us, hl with | [_, _], _ => rfl
  have N_Line : MkrS P w mg base CX0 "Line" 2 1 ["self", "weights"] spI_Scl := ⟨_, _, ⟨mkiScale, biScale, iiScale, kciScale⟩, OI, XSF.i2.mg, BS⟩
  have N_Rest : MkrS P w mg base CX0 "Rest" 3 2 ["self", "rest", "weights"] spI_Rest := ⟨_, _, ⟨mkiRest, biRest, iiRest, kciRest⟩, ok_Rest_init FI_Rest B XSF OI BS XBI, XSF.i3.mg, FI_Rest.binds (ps := ["self", "rest", "weights"]) fun _ _ _ _ _ _ us hl => match us, hl with | [_, _, _], _ => rfl⟩
  have NX_Rest : MkrS P w mg base (L2.CX P w) "Rest" 3 4 ["self", "rest", "weights"] sprI_Rest := ⟨_, _, ⟨mkiRest, biRest, iiRest, kciRest⟩, okX_Rest_init FI_Rest B XSF OI BS XBI XR_BadRest, XSF.i3.mg, FI_Rest.binds (ps := ["self", "rest", "weights"]) fun _ _ _ _ _ _ us hl => match us, hl with | [_, _, _], _ => rfl⟩
  have C1 := ok_look_alike (P := P) (w := w) (base := base) D1 B 
  have CX1 := calx_of (P := P) (w := w) (base := base) D1 (fun f fd F => okF_look_alike F B ) (fun f fd F => okX_look_alike F B XR_NotAlike)
  have C2 := ok_weighed (P := P) (w := w) (base := base) D2 B C1
  have CX2 := calx_of (P := P) (w := w) (base := base) D2 (fun f fd F => okF_weighed F B C1) (fun f fd F => okX_weighed F B CX1)
  have CM_summed : CalM P w mg base CX0 "summed" 3 ["self", "basket"] ["self", "basket"] (sp2 w_Scale_summed) (sp2 w_Scale_summed) := ⟨_, _, _, _, (okF_Scale_summed (P := P) (w := w) (base := base) F3 B C2 XSF).mono (by decide), (okF_Scale_summed (P := P) (w := w) (base := base) F3 B C2 XSF).mono (by decide), ⟨ma03, fn3, k3⟩, ⟨ma13, fn3, k3⟩, F3.binds (ps := ["self", "basket"]) fun _ _ _ _ _ _ us hl => match us, hl with | [_, _], _ => rfl, F3.binds (ps := ["self", "basket"]) fun _ _ _ _ _ _ us hl => match us, hl with | [_, _], _ => rfl⟩
  have CMX_summed : CalM P w mg base (L2.CX P w) "summed" 5 ["self", "basket"] ["self", "basket"] (spo (sp2 w_Scale_summed) (spr2 xr_Scale_summed)) (spo (sp2 w_Scale_summed) (spr2 xr_Scale_summed)) := ⟨_, _, _, _, (fn_or (okF_Scale_summed (P := P) (w := w) (base := base) F3 B C2 XSF) (okX_Scale_summed (P := P) (w := w) (base := base) F3 B CX2 XSF XR_BadBasket)).mono (by decide), (fn_or (okF_Scale_summed (P := P) (w := w) (base := base) F3 B C2 XSF) (okX_Scale_summed (P := P) (w := w) (base := base) F3 B CX2 XSF XR_BadBasket)).mono (by decide), ⟨ma03, fn3, k3⟩, ⟨ma13, fn3, k3⟩, F3.binds (ps := ["self", "basket"]) fun _ _ _ _ _ _ us hl => match us, hl with | [_, _], _ => rfl, F3.binds (ps := ["self", "basket"]) fun _ _ _ _ _ _ us hl => match us, hl with | [_, _], _ => rfl⟩
  have CM_weigh : CalM P w mg base CX0 "weigh" 4 ["self", "basket"] ["self", "basket"] (sp2 w_Scale_weigh) (sp2 w_Rest_weigh) := ⟨_, _, _, _, (okF_Scale_weigh (P := P) (w := w) (base := base) F4 B XSF CM_summed).mono (by decide), (okF_Rest_weigh (P := P) (w := w) (base := base) F5 B XSF CM_summed).mono (by decide), ⟨ma04, fn4, k4⟩, ⟨ma15, fn5, k5⟩, F4.binds (ps := ["self", "basket"]) fun _ _ _ _ _ _ us hl => match us, hl with | [_, _], _ => rfl, F5.binds (ps := ["self", "basket"]) fun _ _ _ _ _ _ us hl => match us, hl with | [_, _], _ => rfl⟩
  have CMX_weigh : CalM P w mg base (L2.CX P w) "weigh" 6 ["self", "basket"] ["self", "basket"] (spo (sp2 w_Scale_weigh) (spr2 xr_Scale_weigh)) (spo (sp2 w_Rest_weigh) (spr2 xr_Rest_weigh)) := ⟨_, _, _, _, (fn_or (okF_Scale_weigh (P := P) (w := w) (base := base) F4 B XSF CM_summed) (okX_Scale_weigh (P := P) (w := w) (base := base) F4 B XSF CMX_summed)).mono (by decide), (fn_or (okF_Rest_weigh (P := P) (w := w) (base := base) F5 B XSF CM_summed) (okX_Rest_weigh (P := P) (w := w) (base := base) F5 B XSF CMX_summed)).mono (by decide), ⟨ma04, fn4, k4⟩, ⟨ma15, fn5, k5⟩, F4.binds (ps := ["self", "basket"]) fun _ _ _ _ _ _ us hl => match us, hl with | [_, _], _ => rfl, F5.binds (ps := ["self", "basket"]) fun _ _ _ _ _ _ us hl => match us, hl with | [_, _], _ => rfl⟩
  have CM_levels : CalM P w mg base CX0 "levels" 5 ["self", "basket"] ["self", "basket"] (sp2 w_Scale_levels) (sp2 w_Scale_levels) := ⟨_, _, _, _, (okF_Scale_levels (P := P) (w := w) (base := base) F6 B XSF CM_weigh).mono (by decide), (okF_Scale_levels (P := P) (w := w) (base := base) F6 B XSF CM_weigh).mono (by decide), ⟨ma06, fn6, k6⟩, ⟨ma16, fn6, k6⟩, F6.binds (ps := ["self", "basket"]) fun _ _ _ _ _ _ us hl => match us, hl with | [_, _], _ => rfl, F6.binds (ps := ["self", "basket"]) fun _ _ _ _ _ _ us hl => match us, hl with | [_, _], _ => rfl⟩
  have CMX_levels : CalM P w mg base (L2.CX P w) "levels" 7 ["self", "basket"] ["self", "basket"] (spo (sp2 w_Scale_levels) (spr2 xr_Scale_levels)) (spo (sp2 w_Scale_levels) (spr2 xr_Scale_levels)) := ⟨_, _, _, _, (fn_or (okF_Scale_levels (P := P) (w := w) (base := base) F6 B XSF CM_weigh) (okX_Scale_levels (P := P) (w := w) (base := base) F6 B XSF CMX_weigh)).mono (by decide), (fn_or (okF_Scale_levels (P := P) (w := w) (base := base) F6 B XSF CM_weigh) (okX_Scale_levels (P := P) (w := w) (base := base) F6 B XSF CMX_weigh)).mono (by decide), ⟨ma06, fn6, k6⟩, ⟨ma16, fn6, k6⟩, F6.binds (ps := ["self", "basket"]) fun _ _ _ _ _ _ us hl => match us, hl with | [_, _], _ => rfl, F6.binds (ps := ["self", "basket"]) fun _ _ _ _ _ _ us hl => match us, hl with | [_, _], _ => rfl⟩
  have C7 := ok_law_whole (P := P) (w := w) (base := base) D7 B 
  have C8 := ok_law_same (P := P) (w := w) (base := base) D8 B C7
  have C9 := ok_law_flags (P := P) (w := w) (base := base) D9 B XS XE
  have C10 := ok_law_only (P := P) (w := w) (base := base) D10 B C9 XS XE
  have C11 := ok_law_at (P := P) (w := w) (base := base) D11 B 
  have C12 := ok_law_entry (P := P) (w := w) (base := base) D12 B 
  have C13 := ok_law_rest (P := P) (w := w) (base := base) D13 B 
  have C14 := ok_law_basket (P := P) (w := w) (base := base) D14 B C12
  have C15 := ok_law_asked (P := P) (w := w) (base := base) D15 B XSF CMX_weigh CMX_levels XS XE
  have C16 := ok_law_good (P := P) (w := w) (base := base) D16 B C15 C10 C7
  have C17 := ok_law_weight (P := P) (w := w) (base := base) D17 B 
  have C18 := ok_law_too_little (P := P) (w := w) (base := base) D18 B C10 XSF NX_Rest XS XE XR_BadRest
  exact (okF_law (P := P) (w := w) (base := base) (fun_mk (st := s_law) l19 c19 k19) B C11 C12 C13 C18 C14 C17 C16 C8 C7 XSF N_Line N_Rest).imp (law_imp (fun ns h => h) fun _ => rfl)
end G.k31
open PySem PySem.W PyProof.Rows in
set_option maxRecDepth 100000 in
set_option maxHeartbeats 0 in
theorem PySem.Challenge.cw_swapbook_k31_scales_holds : PySem.Challenge.rw_swapbook_k31_scales.Holds := by
  w_on; o_law; k_head; (case hw => w_witness2)
  k_fill
  refine G.walk_law (l := PySem.Challenge.rw_swapbook_k31_scales) (k := 10) rfl rfl ⟨rfl, by decide, by decide⟩ (fun w h Y => PySem.W.kIn_of Y) ?F
  case F =>
    intro w mg fa h KX G hmg
    refine' _root_.G.k31.all_mk KX G hmg ?acLine ?acRest ?acScale ?pgcLine ?hdcLine ?pocLine ?sacLine ?cacLine ?cgcLine ?ctcLine_ ?cmcLine ?nweightscLine ?pgcRest ?hdcRest ?pocRest ?sacRest ?cacRest ?cgcRest ?ctcRest_ ?cmcRest ?nrestcRest ?nweightscRest ?qcLine ?qtLine ?qcRest ?qtRest ?qcScale ?qtScale ?qgLine ?qgRest ?qnd ?biScale ?iiScale ?liScale ?ciScale ?kiScale ?mkiScale ?kciScale ?biRest ?iiRest ?liRest ?ciRest ?kiRest ?mkiRest ?kciRest ?cr1 ?cr2 ?cr3 ?a1 ?l1 ?c1 ?k1 ?a2 ?l2 ?c2 ?k2 ?ma03 ?ma13 ?l3 ?c3 ?k3 ?fn3 ?ma04 ?l4 ?c4 ?k4 ?fn4 ?ma15 ?l5 ?c5 ?k5 ?fn5 ?ma06 ?ma16 ?l6 ?c6 ?k6 ?fn6 ?a7 ?l7 ?c7 ?k7 ?a8 ?l8 ?c8 ?k8 ?a9 ?l9 ?c9 ?k9 ?a10 ?l10 ?c10 ?k10 ?a11 ?l11 ?c11 ?k11 ?a12 ?l12 ?c12 ?k12 ?a13 ?l13 ?c13 ?k13 ?a14 ?l14 ?c14 ?k14 ?a15 ?l15 ?c15 ?k15 ?a16 ?l16 ?c16 ?k16 ?a17 ?l17 ?c17 ?k17 ?a18 ?l18 ?c18 ?k18 ?a19 ?l19 ?c19 ?k19 ?xa0 ?xc0 ?xt0 ?xa1 ?xc1 ?xt1 ?xa2 ?xc2 ?xt2 ?xa3 ?xc3 ?xt3 ?xa4 ?xc4 ?xt4 ?xa5 ?xc5 ?xt5 ?xa6 ?xc6 ?xt6 ?xa7 ?xc7 ?xt7 ?xa8 ?xc8 ?xt8 ?xa9 ?xc9 ?xt9 ?xa10 ?xc10 ?xt10 ?xa11 ?xc11 ?xt11 ?xa12 ?xc12 ?xt12 ?xa13 ?xc13 ?xt13 ?xa14 ?xc14 ?xt14 ?xa15 ?xc15 ?xt15 ?xa16 ?xc16 ?xt16 ?xa17 ?xc17 ?xt17 ?xa18 ?xc18 ?xt18 ?xa19 ?xc19 ?xt19 ?xsw ?xnd ?xg4 ?xi4 ?xj4 ?xk4 ?xf4 ?xv4 ?xw4 ?xy4 ?xz4 ?xg8 ?xi8 ?xj8 ?xk8 ?xf8 ?xv8 ?xw8 ?xy8 ?xz8 ?ye4 ?yk4 ?ys4 ?ye8 ?yk8 ?ys8 ?ye0 ?yk0 ?ys0 ?z_len ?z_range ?z_zip ?z_list ?z_enumerate ?z_int ?z_bool ?z_str ?z_tuple ?z_reversed ?z_any ?z_all ?z_sum ?z_abs ?z_min ?z_max ?z_isinstance ?z_set ?z_verr
    (case acLine => k_is)
    (case acRest => k_is)
    (case acScale => k_is)
    (case pgcLine => k_is)
    (case hdcLine => k_is)
    (case pocLine => k_is)
    (case sacLine => k_is)
    (case cacLine => k_is)
    (case cgcLine => k_is)
    (case ctcLine_ => k_is)
    (case cmcLine => k_is)
    (case nweightscLine => k_is)
    (case pgcRest => k_is)
    (case hdcRest => k_is)
    (case pocRest => k_is)
    (case sacRest => k_is)
    (case cacRest => k_is)
    (case cgcRest => k_is)
    (case ctcRest_ => k_is)
    (case cmcRest => k_is)
    (case nrestcRest => k_is)
    (case nweightscRest => k_is)
    (case qcLine => k_is)
    (case qtLine => k_is)
    (case qcRest => k_is)
    (case qtRest => k_is)
    (case qcScale => k_is)
    (case qtScale => k_is)
    (case qgLine => k_is)
    (case qgRest => k_is)
    (case qnd => decide)
    (case biScale => k_is)
    (case iiScale => k_is)
    (case liScale => k_is)
    (case ciScale => k_is)
    (case kiScale => k_is)
    (case mkiScale => k_is)
    (case kciScale => k_is)
    (case biRest => k_is)
    (case iiRest => k_is)
    (case liRest => k_is)
    (case ciRest => k_is)
    (case kiRest => k_is)
    (case mkiRest => k_is)
    (case kciRest => k_is)
    (case cr1 => k_is)
    (case cr2 => k_is)
    (case cr3 => k_is)
    (case a1 => k_is)
    (case l1 => k_is)
    (case c1 => k_is)
    (case k1 => k_is)
    (case a2 => k_is)
    (case l2 => k_is)
    (case c2 => k_is)
    (case k2 => k_is)
    (case ma03 => k_is)
    (case ma13 => k_is)
    (case l3 => k_is)
    (case c3 => k_is)
    (case k3 => k_is)
    (case fn3 => k_is)
    (case ma04 => k_is)
    (case l4 => k_is)
    (case c4 => k_is)
    (case k4 => k_is)
    (case fn4 => k_is)
    (case ma15 => k_is)
    (case l5 => k_is)
    (case c5 => k_is)
    (case k5 => k_is)
    (case fn5 => k_is)
    (case ma06 => k_is)
    (case ma16 => k_is)
    (case l6 => k_is)
    (case c6 => k_is)
    (case k6 => k_is)
    (case fn6 => k_is)
    (case a7 => k_is)
    (case l7 => k_is)
    (case c7 => k_is)
    (case k7 => k_is)
    (case a8 => k_is)
    (case l8 => k_is)
    (case c8 => k_is)
    (case k8 => k_is)
    (case a9 => k_is)
    (case l9 => k_is)
    (case c9 => k_is)
    (case k9 => k_is)
    (case a10 => k_is)
    (case l10 => k_is)
    (case c10 => k_is)
    (case k10 => k_is)
    (case a11 => k_is)
    (case l11 => k_is)
    (case c11 => k_is)
    (case k11 => k_is)
    (case a12 => k_is)
    (case l12 => k_is)
    (case c12 => k_is)
    (case k12 => k_is)
    (case a13 => k_is)
    (case l13 => k_is)
    (case c13 => k_is)
    (case k13 => k_is)
    (case a14 => k_is)
    (case l14 => k_is)
    (case c14 => k_is)
    (case k14 => k_is)
    (case a15 => k_is)
    (case l15 => k_is)
    (case c15 => k_is)
    (case k15 => k_is)
    (case a16 => k_is)
    (case l16 => k_is)
    (case c16 => k_is)
    (case k16 => k_is)
    (case a17 => k_is)
    (case l17 => k_is)
    (case c17 => k_is)
    (case k17 => k_is)
    (case a18 => k_is)
    (case l18 => k_is)
    (case c18 => k_is)
    (case k18 => k_is)
    (case a19 => k_is)
    (case l19 => k_is)
    (case c19 => k_is)
    (case k19 => k_is)
    (case xa0 => k_is)
    (case xc0 => k_is)
    (case xt0 => k_is)
    (case xa1 => k_is)
    (case xc1 => k_is)
    (case xt1 => k_is)
    (case xa2 => k_is)
    (case xc2 => k_is)
    (case xt2 => k_is)
    (case xa3 => k_is)
    (case xc3 => k_is)
    (case xt3 => k_is)
    (case xa4 => k_is)
    (case xc4 => k_is)
    (case xt4 => k_is)
    (case xa5 => k_is)
    (case xc5 => k_is)
    (case xt5 => k_is)
    (case xa6 => k_is)
    (case xc6 => k_is)
    (case xt6 => k_is)
    (case xa7 => k_is)
    (case xc7 => k_is)
    (case xt7 => k_is)
    (case xa8 => k_is)
    (case xc8 => k_is)
    (case xt8 => k_is)
    (case xa9 => k_is)
    (case xc9 => k_is)
    (case xt9 => k_is)
    (case xa10 => k_is)
    (case xc10 => k_is)
    (case xt10 => k_is)
    (case xa11 => k_is)
    (case xc11 => k_is)
    (case xt11 => k_is)
    (case xa12 => k_is)
    (case xc12 => k_is)
    (case xt12 => k_is)
    (case xa13 => k_is)
    (case xc13 => k_is)
    (case xt13 => k_is)
    (case xa14 => k_is)
    (case xc14 => k_is)
    (case xt14 => k_is)
    (case xa15 => k_is)
    (case xc15 => k_is)
    (case xt15 => k_is)
    (case xa16 => k_is)
    (case xc16 => k_is)
    (case xt16 => k_is)
    (case xa17 => k_is)
    (case xc17 => k_is)
    (case xt17 => k_is)
    (case xa18 => k_is)
    (case xc18 => k_is)
    (case xt18 => k_is)
    (case xa19 => k_is)
    (case xc19 => k_is)
    (case xt19 => k_is)
    (case xsw => k_is)
    (case xnd => decide)
    (case xg4 => k_is)
    (case xi4 => k_is)
    (case xj4 => k_is)
    (case xk4 => k_is)
    (case xf4 => k_is)
    (case xv4 => k_is)
    (case xw4 => k_is)
    (case xy4 => k_is)
    (case xz4 => k_is)
    (case xg8 => k_is)
    (case xi8 => k_is)
    (case xj8 => k_is)
    (case xk8 => k_is)
    (case xf8 => k_is)
    (case xv8 => k_is)
    (case xw8 => k_is)
    (case xy8 => k_is)
    (case xz8 => k_is)
    (case ye4 => k_exc)
    (case yk4 => k_is)
    (case ys4 => k_is)
    (case ye8 => k_exc)
    (case yk8 => k_is)
    (case ys8 => k_is)
    (case ye0 => k_exc)
    (case yk0 => k_is)
    (case ys0 => k_is)
    (case z_len => k_is)
    (case z_range => k_is)
    (case z_zip => k_is)
    (case z_list => k_is)
    (case z_enumerate => k_is)
    (case z_int => k_is)
    (case z_bool => k_is)
    (case z_str => k_is)
    (case z_tuple => k_is)
    (case z_reversed => k_is)
    (case z_any => k_is)
    (case z_all => k_is)
    (case z_sum => k_is)
    (case z_abs => k_is)
    (case z_min => k_is)
    (case z_max => k_is)
    (case z_isinstance => k_is)
    (case z_set => k_is)
    (case z_verr => k_is)
