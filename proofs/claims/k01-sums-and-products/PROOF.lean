import PyProof.Rows.All
import Wide.All
import OpenK.AllK
import Wide.FinOn
import HandS.ForMost
import HandS.Exc
import HandS.Wide
import HandS.IsInst
import HandS.Conv
import HandS.RevRange
import PySem.Challenge.RW_swapbook_k01_sums_and_products
set_option Elab.async false
set_option linter.all false
set_option maxRecDepth 100000
set_option maxHeartbeats 4000000
/-! # A typed layer over the hand layer: values of Python told as Lean data, heaps hidden -/
namespace G
open PySem L2

/-- what is fixed through a proof: the written part, the classes' addresses -/
class Ctx where
  K : PySem.W.Frag
  cls : String → Addr

theorem same_tup {K : PySem.W.Frag} {H H' : Hp} {a : Addr} {xs : List V} (e : Same H H') (h : SqT K H a xs) : SqT K H' a xs := by
  rcases h with h | h
  · left
    rcases h with h | ⟨o, h⟩
    · exact .inl (e _ _ h)
    · exact .inr ⟨o, e _ _ h⟩
  · exact .inr h

section
variable [Γ : Ctx]
/-- Lean data as Python data: what value, in which heap, tells it -/
class Enc (α : Type) where
  rep : Hp → V → α → Prop
  mono : ∀ {H H' : Hp} {v : V} {a : α}, Same H H' → rep H v a → rep H' v a
/-- what value tells the data -/
abbrev rep {α : Type} [Enc α] : Hp → V → α → Prop := Enc.rep
/-- data that no heap bears -/
class Scal (α : Type) where
  toV : α → V
instance (priority := high) encScal {α : Type} [Scal α] : Enc α where
  rep := fun _ v a => v = Scal.toV a
  mono := fun _ h => h
instance : Scal Int := ⟨V.int⟩
instance : Scal Bool := ⟨V.bl⟩
instance : Scal Str := ⟨V.str⟩
instance : Scal Unit := ⟨fun _ => V.non⟩

theorem paired_mono {α β : Type} {F F' : α → β → Prop} (h : ∀ a b, F a b → F' a b) : ∀ {xs : List α} {ys : List β}, Paired F xs ys → Paired F' xs ys
  | _, _, .nil => .nil
  | _, _, .cons r t => .cons (h _ _ r) (paired_mono h t)

instance encList {α : Type} [Enc α] : Enc (List α) where
  rep := fun H v l => ∃ p xs, v = .ref p ∧ SqL Γ.K H p xs ∧ Paired (rep H) xs l
  mono := fun e ⟨p, xs, h1, h2, h3⟩ => ⟨p, xs, h1, e.seq h2, paired_mono (fun _ _ r => Enc.mono e r) h3⟩
instance encPair {α β : Type} [Enc α] [Enc β] : Enc (α × β) where
  rep := fun H v c => ∃ p x y, v = .ref p ∧ SqT Γ.K H p [x, y] ∧ rep H x c.1 ∧ rep H y c.2
  mono := fun e ⟨p, x, y, h1, h2, h3, h4⟩ => ⟨p, x, y, h1, same_tup e h2, Enc.mono e h3, Enc.mono e h4⟩
/-- tuples of three -/
structure T3 (α β γ : Type) where
  a : α
  b : β
  c : γ
instance encT3 {α β γ : Type} [Enc α] [Enc β] [Enc γ] : Enc (T3 α β γ) where
  rep := fun H v c => ∃ p x y z, v = .ref p ∧ SqT Γ.K H p [x, y, z] ∧ rep H x c.a ∧ rep H y c.b ∧ rep H z c.c
  mono := fun e ⟨p, x, y, z, h1, h2, h3, h4, h5⟩ => ⟨p, x, y, z, h1, same_tup e h2, Enc.mono e h3, Enc.mono e h4, Enc.mono e h5⟩
/-- None, or a thing that is never None -/
class NotNone (α : Type) [Enc α] : Prop where
  nn : ∀ {H : Hp} {v : V} {a : α}, rep H v a → v ≠ .non
instance encOpt {α : Type} [Enc α] : Enc (Option α) where
  rep := fun H v o => match o with
    | none => v = .non
    | some a => rep H v a
  mono := fun {H H' v a} e h => by
    cases a with
    | none => exact h
    | some a => exact Enc.mono e h
instance : NotNone Int := ⟨fun h => by cases h; exact V.noConfusion⟩
instance : NotNone Bool := ⟨fun h => by cases h; exact V.noConfusion⟩
instance : NotNone Str := ⟨fun h => by cases h; exact V.noConfusion⟩
instance {α : Type} [Enc α] : NotNone (List α) := ⟨fun ⟨_, _, h, _⟩ => by rw [h]; exact V.noConfusion⟩
instance {α β : Type} [Enc α] [Enc β] : NotNone (α × β) := ⟨fun ⟨_, _, _, h, _⟩ => by rw [h]; exact V.noConfusion⟩

/-- heaps grow: S, the part that stays for good, within H -/
structure Grow (S H S' H' : Hp) : Prop where
  s : Same S S'
  h : Same H H'
  i : Same S' H'
  n : ∀ q, S' q ≠ none → S q ≠ none ∨ H q = none
theorem Grow.refl {S H : Hp} (i : Same S H) : Grow S H S H := ⟨Same.refl _, Same.refl _, i, fun _ h => .inl h⟩
theorem Grow.trans {S H S1 H1 S2 H2 : Hp} (a : Grow S H S1 H1) (b : Grow S1 H1 S2 H2) : Grow S H S2 H2 :=
  ⟨a.s.trans b.s, a.h.trans b.h, b.i, fun q h => by
    rcases b.n q h with h | h
    · exact a.n q h
    · exact .inr (a.h.free h)⟩
theorem Grow.off {S H S' H' : Hp} (g : Grow S H S' H') {q : Addr} {o : HO} (h1 : S q = none) (h2 : H q = some o) : S' q = none := by
  cases e : S' q with
  | none => rfl
  | some u =>
    rcases g.n q (by rw [e]; simp) with h | h
    · exact absurd h1 h
    · rw [h2] at h; cases h

/-- what is told of a slot: F its own objects (written by nobody else) -/
structure Sl where
  P : Hp → Hp → V → List Addr → Prop
  mono : ∀ {S S' H H' : Hp} {v : V} {F : List Addr}, Same S S' → Same H H' → P S H v F → P S' H' v F
/-- data that stay for good -/
def sh {α : Type} [Enc α] (a : α) : Sl := ⟨fun S _ v F => rep S v a ∧ F = [], fun e _ h => ⟨Enc.mono e h.1, h.2⟩⟩
/-- data as they stand now -/
def bo {α : Type} [Enc α] (a : α) : Sl := ⟨fun _ H v F => rep H v a ∧ F = [], fun _ e h => ⟨Enc.mono e h.1, h.2⟩⟩
/-- a list of one's own, its items stay for good -/
def ow {α : Type} [Enc α] (l : List α) : Sl :=
  ⟨fun S H v F => ∃ p xs, v = .ref p ∧ F = [p] ∧ H p = some (.lst xs) ∧ Paired (rep S) xs l,
   fun e e' ⟨p, xs, h1, h2, h3, h4⟩ => ⟨p, xs, h1, h2, e' _ _ h3, paired_mono (fun _ _ r => Enc.mono e r) h4⟩⟩
abbrev En := List (Option Sl)
/-- the slots hold what is told -/
structure Ev (A H0 : Hp) (ρ : En) (S H : Hp) (σ : St) (Fs : Nat → List Addr) : Prop where
  gr : Grow A H0 S H
  len : ρ.length = σ.length
  sl : ∀ (i : Nat) (s : Sl), ρ[i]? = some (some s) → ∃ v : V, σ[i]? = some (some v) ∧ s.P S H v (Fs i)
  fr : ∀ (i : Nat) (q : Addr), q ∈ Fs i → S q = none ∧ H0 q = none ∧ ∃ o, H q = some o
  ap : ∀ (i j : Nat) (q : Addr), q ∈ Fs i → q ∈ Fs j → i = j
theorem Ev.grow {A H0 : Hp} {ρ : En} {S H S' H' : Hp} {σ : St} {Fs : Nat → List Addr} (e : Ev A H0 ρ S H σ Fs) (g : Grow S H S' H') : Ev A H0 ρ S' H' σ Fs :=
  ⟨e.gr.trans g, e.len, fun i s h => let ⟨v, h1, h2⟩ := e.sl i s h; ⟨v, h1, s.mono g.s g.h h2⟩,
   fun i q h => let ⟨h1, h2, o, h3⟩ := e.fr i q h; ⟨g.off h1 h3, h2, o, g.h _ _ h3⟩, e.ap⟩
theorem set_get {α : Type} {l : List α} {i j : Nat} {a x : α} (h : (l.set i a)[j]? = some x) : (j = i ∧ x = a) ∨ (j ≠ i ∧ l[j]? = some x) := by
  by_cases c : j = i
  · subst c
    left
    refine ⟨rfl, ?_⟩
    by_cases hl : j < l.length
    · rw [List.getElem?_set_self hl] at h
      exact (Option.some.inj h).symm
    · rw [List.getElem?_eq_none (by rw [List.length_set]; omega)] at h
      cases h
  · right
    rw [List.getElem?_set_ne (Ne.symm c)] at h
    exact ⟨c, h⟩
/-- a slot is stored -/
theorem Ev.put {A H0 : Hp} {ρ : En} {S H S' H' : Hp} {σ : St} {Fs : Nat → List Addr} {i : Nat} {s : Sl} {v : V} {F : List Addr} (e : Ev A H0 ρ S H σ Fs) (g : Grow S H S' H') (hi : i < ρ.length) (p : s.P S' H' v F)
    (hF : ∀ q ∈ F, H q = none ∧ S' q = none) (hA : ∀ q ∈ F, ∃ o, H' q = some o) : Ev A H0 (ρ.set i (some s)) S' H' (σ.set i (some v)) (fun j => if j = i then F else Fs j) := by
  have e' := e.grow g
  refine ⟨e'.gr, by rw [List.length_set, List.length_set]; exact e.len, fun j s' h => ?_, fun j q h => ?_, fun j k q h1 h2 => ?_⟩
  · rcases set_get h with ⟨rfl, hs⟩ | ⟨hj, h⟩
    · have hs' : s' = s := Option.some.inj hs
      subst hs'
      refine ⟨v, List.getElem?_set_self (by rw [← e.len]; exact hi), ?_⟩
      rw [if_pos rfl]
      exact p
    · obtain ⟨u, h1, h2⟩ := e'.sl j s' h
      refine ⟨u, by rw [List.getElem?_set_ne (Ne.symm hj)]; exact h1, ?_⟩
      rw [if_neg hj]
      exact h2
  · by_cases c : j = i
    · rw [if_pos c] at h
      exact ⟨(hF q h).2, e.gr.h.free (hF q h).1, hA q h⟩
    · rw [if_neg c] at h
      exact e'.fr j q h
  · by_cases c : j = i
    · rw [if_pos c] at h1
      by_cases c2 : k = i
      · rw [c, c2]
      · rw [if_neg c2] at h2
        obtain ⟨_, _, o, ho⟩ := e.fr k q h2
        rw [(hF q h1).1] at ho
        cases ho
    · rw [if_neg c] at h1
      by_cases c2 : k = i
      · rw [if_pos c2] at h2
        obtain ⟨_, _, o, ho⟩ := e.fr j q h1
        rw [(hF q h2).1] at ho
        cases ho
      · rw [if_neg c2] at h2
        exact e.ap j k q h1 h2
/-- slots are forgotten -/
theorem Ev.drop {A H0 : Hp} {ρ : En} {S H : Hp} {σ : St} {Fs : Nat → List Addr} (e : Ev A H0 ρ S H σ Fs) (i : Nat) : Ev A H0 (ρ.set i none) S H σ Fs := by
  refine ⟨e.gr, by rw [List.length_set]; exact e.len, fun j s h => ?_, e.fr, e.ap⟩
  rcases set_get h with ⟨_, hs⟩ | ⟨_, hs⟩
  · cases hs
  · exact e.sl j s hs
/-- every owned object of s stands -/
def Sl.Al (s : Sl) : Prop := ∀ {S H : Hp} {v : V} {F : List Addr}, s.P S H v F → ∀ q ∈ F, ∃ o, H q = some o
theorem sh_al {α : Type} [Enc α] {a : α} : (sh a).Al := fun h q hq => by rw [h.2] at hq; cases hq
theorem bo_al {α : Type} [Enc α] {a : α} : (bo a).Al := fun h q hq => by rw [h.2] at hq; cases hq
theorem ow_al {α : Type} [Enc α] {l : List α} : (ow l).Al := fun ⟨p, xs, _, h2, h3, _⟩ q hq => by
  rw [h2] at hq
  cases List.mem_singleton.mp hq
  exact ⟨_, h3⟩

/-! ### expressions -/
/-- the reading t tells r -/
def DR (ρ : En) (t : TE) (r : Sl) : Prop := ∀ (A H0 S H : Hp) (σ : St) (Fs : Nat → List Addr) (Q : VK), Ev A H0 ρ S H σ Fs →
  (∀ v S' H' F, Grow S H S' H' → r.P S' H' v F → (∀ q ∈ F, H q = none ∧ S' q = none) → Q v H') → t σ H Q
/-- .. a bool that a test makes -/
def DT (ρ : En) (t : TT) (b : Bool) : Prop := ∀ (A H0 S H : Hp) (σ : St) (Fs : Nat → List Addr) (Q : Bool → Hp → Prop), Ev A H0 ρ S H σ Fs →
  (∀ S' H', Grow S H S' H' → Q b H') → t σ H Q
/-- arguments -/
def DA (ρ : En) (t : TA) (rs : List Sl) : Prop := ∀ (A H0 S H : Hp) (σ : St) (Fs : Nat → List Addr) (Q : List V → Hp → Prop), Ev A H0 ρ S H σ Fs →
  (∀ vs S' H', Grow S H S' H' → Paired (fun (s : Sl) v => s.P S' H' v []) rs vs → Q vs H') → t σ H Q

variable {ρ : En} {α β γ : Type}
theorem dr_var [Enc α] {i : Nat} {a : α} (h : ρ[i]? = some (some (sh a))) : DR ρ (tVar i) (sh a) := fun A H0 S H σ Fs Q e k => by
  obtain ⟨v, h1, h2⟩ := e.sl i _ h
  exact ⟨v, h1, k v S H [] (Grow.refl e.gr.i) ⟨h2.1, rfl⟩ (fun q h => nomatch h)⟩
theorem dr_varb [Enc α] {i : Nat} {a : α} (h : ρ[i]? = some (some (bo a))) : DR ρ (tVar i) (bo a) := fun A H0 S H σ Fs Q e k => by
  obtain ⟨v, h1, h2⟩ := e.sl i _ h
  exact ⟨v, h1, k v S H [] (Grow.refl e.gr.i) ⟨h2.1, rfl⟩ (fun q h => nomatch h)⟩
theorem ow_bo [Enc α] {l : List α} {S H : Hp} {v : V} {F : List Addr} (g : Same S H) (h : (ow l).P S H v F) : (bo l).P S H v [] := by
  obtain ⟨p, xs, h1, h2, h3, h4⟩ := h
  exact ⟨⟨p, xs, h1, SqL.of h3, paired_mono (fun _ _ r => Enc.mono g r) h4⟩, rfl⟩
theorem dr_varo [Enc α] {i : Nat} {l : List α} (h : ρ[i]? = some (some (ow l))) : DR ρ (tVar i) (bo l) := fun A H0 S H σ Fs Q e k => by
  obtain ⟨v, h1, h2⟩ := e.sl i _ h
  exact ⟨v, h1, k v S H [] (Grow.refl e.gr.i) (ow_bo e.gr.i h2) (fun q h => nomatch h)⟩
theorem dr_const [Scal α] {a : α} {v : V} (h : v = Scal.toV a := by rfl) : DR ρ (tC v) (sh a) := fun A H0 S H σ Fs Q e k =>
  k v S H [] (Grow.refl e.gr.i) ⟨h, rfl⟩ (fun q h => nomatch h)
/-- weaker tellings -/
theorem dr_bo [Enc α] {t : TE} {a : α} (h : DR ρ t (sh a)) : DR ρ t (bo a) := fun A H0 S H σ Fs Q e k =>
  h A H0 S H σ Fs Q e fun v S' H' F g p hF => k v S' H' F g ⟨Enc.mono g.i p.1, p.2⟩ hF
theorem dr_flat [Scal α] {t : TE} {a : α} (h : DR ρ t (bo a)) : DR ρ t (sh a) := fun A H0 S H σ Fs Q e k =>
  h A H0 S H σ Fs Q e fun v S' H' F g p hF => k v S' H' F g ⟨p.1, p.2⟩ hF
theorem dr_eq {t : TE} {r r' : Sl} (h : DR ρ t r) (e : r = r') : DR ρ t r' := e ▸ h
/-- a new list of one's own is left as it is from now on -/
def add (S : Hp) (p : Addr) (o : HO) : Hp := upd S p o
theorem grow_add {S H S' H' : Hp} {p : Addr} {o : HO} (g : Grow S H S' H') (h1 : H' p = some o) (h2 : H p = none) (h3 : S' p = none) : Grow S H (upd S' p o) H' :=
  ⟨g.s.trans fun b u hb => by rw [upd_ne (ne_of_none hb h3)]; exact hb, g.h, fun b u hb => by
    by_cases c : b = p
    · subst c
      rw [upd_same] at hb
      cases hb
      exact h1
    · rw [upd_ne c] at hb
      exact g.i _ _ hb, fun q hq => by
    by_cases c : q = p
    · subst c
      exact .inr h2
    · rw [upd_ne c] at hq
      exact g.n q hq⟩
theorem same_upd {S : Hp} {p : Addr} {o : HO} (h : S p = none) : Same S (upd S p o) := fun b u hb => by
  rw [upd_ne (ne_of_none hb h)]
  exact hb
theorem ow_sh [Enc α] {l : List α} {S H : Hp} {v : V} {F : List Addr} (h : (ow l).P S H v F) (hF : ∀ q ∈ F, S q = none) : ∃ p o, F = [p] ∧ H p = some o ∧ (sh l).P (upd S p o) H v [] := by
  obtain ⟨p, xs, h1, h2, h3, h4⟩ := h
  have hp : S p = none := hF p (by rw [h2]; exact List.mem_singleton.mpr rfl)
  exact ⟨p, _, h2, h3, ⟨p, xs, h1, SqL.of upd_same, paired_mono (fun _ _ r => Enc.mono (same_upd hp) r) h4⟩, rfl⟩
theorem dr_frz [Enc α] {t : TE} {l : List α} (h : DR ρ t (ow l)) : DR ρ t (sh l) := fun A H0 S H σ Fs Q e k =>
  h A H0 S H σ Fs Q e fun v S' H' F g p hF => by
    obtain ⟨q, o, h1, h2, h3⟩ := ow_sh p fun q hq => (hF q hq).2
    have hq := hF q (by rw [h1]; exact List.mem_singleton.mpr rfl)
    exact k v (upd S' q o) H' [] (grow_add g h2 hq.1 hq.2) h3 (fun q h => nomatch h)
theorem dr_owbo [Enc α] {t : TE} {l : List α} (h : DR ρ t (ow l)) : DR ρ t (bo l) := dr_bo (dr_frz h)

/-! arguments -/
theorem da_nil : DA ρ tNil [] := fun A H0 S H σ Fs Q e k => k [] S H (Grow.refl e.gr.i) .nil
theorem da_cons {ta : TE} {tr : TA} {r : Sl} {rs : List Sl} (h1 : DR ρ ta r) (hr : ∀ {S H v F}, r.P S H v F → F = []) (h2 : DA ρ tr rs) : DA ρ (tCons ta tr) (r :: rs) := fun A H0 S H σ Fs Q e k =>
  h1 A H0 S H σ Fs _ e fun v S1 H1 F g1 p1 _ => h2 A H0 S1 H1 σ Fs _ (e.grow g1) fun vs S2 H2 g2 p2 =>
    k (v :: vs) S2 H2 (g1.trans g2) (.cons (r.mono g2.s g2.h (hr p1 ▸ p1)) p2)
theorem da_sh [Enc α] {ta : TE} {tr : TA} {a : α} {rs : List Sl} (h1 : DR ρ ta (sh a)) (h2 : DA ρ tr rs) : DA ρ (tCons ta tr) (sh a :: rs) := da_cons h1 (fun h => h.2) h2
theorem da_bo [Enc α] {ta : TE} {tr : TA} {a : α} {rs : List Sl} (h1 : DR ρ ta (bo a)) (h2 : DA ρ tr rs) : DA ρ (tCons ta tr) (bo a :: rs) := da_cons h1 (fun h => h.2) h2

/-- two in a row -/
theorem dr2 {ta tb : TE} {ra rb : Sl} (ha : DR ρ ta ra) (hb : DR ρ tb rb) {A H0 S H : Hp} {σ : St} {Fs : Nat → List Addr} {K : V → V → Hp → Prop} (e : Ev A H0 ρ S H σ Fs) (hra : ∀ {S H v F}, ra.P S H v F → F = []) (hrb : ∀ {S H v F}, rb.P S H v F → F = [])
    (k : ∀ x y S' H', Grow S H S' H' → ra.P S' H' x [] → rb.P S' H' y [] → K x y H') : ta σ H fun x H1 => tb σ H1 fun y H2 => K x y H2 :=
  ha A H0 S H σ Fs _ e fun v S1 H1 F g1 p1 _ => hb A H0 S1 H1 σ Fs _ (e.grow g1) fun w S2 H2 F' g2 p2 _ =>
    k v w S2 H2 (g1.trans g2) (ra.mono g2.s g2.h (hra p1 ▸ p1)) (hrb p2 ▸ p2)
theorem dr_op {r : R2} {ta tb : TE} {ra rb rc : Sl} (hra : ∀ {S H v F}, ra.P S H v F → F = []) (hrb : ∀ {S H v F}, rb.P S H v F → F = []) (ha : DR ρ ta ra) (hb : DR ρ tb rb)
    (k : ∀ S H x y (Q : VK), Same S H → ra.P S H x [] → rb.P S H y [] → (∀ v S' H' F, Grow S H S' H' → rc.P S' H' v F → (∀ q ∈ F, H q = none ∧ S' q = none) → Q v H') → r x y H Q) : DR ρ (tOp r ta tb) rc :=
  fun A H0 S H σ Fs Q e q => dr2 ha hb e hra hrb fun x y S' H' g p1 p2 => k S' H' x y Q g.i p1 p2 fun v S2 H2 F g2 p hF => q v S2 H2 F (g.trans g2) p fun a ha =>
    ⟨g.h.free (hF a ha).1, (hF a ha).2⟩
theorem shF [Enc α] {a : α} {S H : Hp} {v : V} {F : List Addr} (h : (sh a).P S H v F) : F = [] := h.2
theorem boF [Enc α] {a : α} {S H : Hp} {v : V} {F : List Addr} (h : (bo a).P S H v F) : F = [] := h.2
/-- ints in, a bool or an int out -/
theorem dr_ii [Scal γ] {C : Int → Int → Prop} {g : Int → Int → V} {ta tb : TE} {x y : Int} {z : γ} (ha : DR ρ ta (sh x)) (hb : DR ρ tb (sh y)) (hc : C x y) (hz : g x y = Scal.toV z) : DR ρ (tOp (rI C g) ta tb) (sh z) :=
  dr_op shF shF ha hb fun S H u v Q i p1 p2 k => ⟨x, y, p1.1, p2.1, hc, k _ S H [] (Grow.refl i) ⟨hz, rfl⟩ (fun q h => nomatch h)⟩
theorem dr_ii0 [Scal γ] {g : Int → Int → V} {ta tb : TE} {x y : Int} {z : γ} (ha : DR ρ ta (sh x)) (hb : DR ρ tb (sh y)) (hz : g x y = Scal.toV z) : DR ρ (tOp (rI0 g) ta tb) (sh z) :=
  dr_op shF shF ha hb fun S H u v Q i p1 p2 k => ⟨x, y, p1.1, p2.1, k _ S H [] (Grow.refl i) ⟨hz, rfl⟩ (fun q h => nomatch h)⟩
variable {ta tb : TE} {x y : Int}
theorem dr_add (ha : DR ρ ta (sh x)) (hb : DR ρ tb (sh y)) : DR ρ (tOp (rI0 fun i j => .int (i + j)) ta tb) (sh (x + y)) := dr_ii0 ha hb rfl
theorem dr_sub (ha : DR ρ ta (sh x)) (hb : DR ρ tb (sh y)) : DR ρ (tOp (rI0 fun i j => .int (i - j)) ta tb) (sh (x - y)) := dr_ii0 ha hb rfl
theorem dr_mul {C : Int → Int → Prop} (ha : DR ρ ta (sh x)) (hb : DR ρ tb (sh y)) (hc : C x y) : DR ρ (tOp (rI C fun i j => .int (i * j)) ta tb) (sh (x * y)) := dr_ii ha hb hc rfl
theorem dr_fdiv {C : Int → Int → Prop} (ha : DR ρ ta (sh x)) (hb : DR ρ tb (sh y)) (hc : C x y) : DR ρ (tOp (rI C fun i j => .int (i.fdiv j)) ta tb) (sh (x.fdiv y)) := dr_ii ha hb hc rfl
theorem dr_fmod {C : Int → Int → Prop} (ha : DR ρ ta (sh x)) (hb : DR ρ tb (sh y)) (hc : C x y) : DR ρ (tOp (rI C fun i j => .int (i.fmod j)) ta tb) (sh (x.fmod y)) := dr_ii ha hb hc rfl
theorem dr_lt (ha : DR ρ ta (sh x)) (hb : DR ρ tb (sh y)) : DR ρ (tOp (rI0 fun i j => .bl (decide (i < j))) ta tb) (sh (decide (x < y))) := dr_ii0 ha hb rfl
theorem dr_le (ha : DR ρ ta (sh x)) (hb : DR ρ tb (sh y)) : DR ρ (tOp (rI0 fun i j => .bl (decide (i ≤ j))) ta tb) (sh (decide (x ≤ y))) := dr_ii0 ha hb rfl
theorem dr_gt (ha : DR ρ ta (sh x)) (hb : DR ρ tb (sh y)) : DR ρ (tOp (rI0 fun i j => .bl (decide (j < i))) ta tb) (sh (decide (y < x))) := dr_ii0 ha hb rfl
theorem dr_ge (ha : DR ρ ta (sh x)) (hb : DR ρ tb (sh y)) : DR ρ (tOp (rI0 fun i j => .bl (decide (j ≤ i))) ta tb) (sh (decide (y ≤ x))) := dr_ii0 ha hb rfl
end
end G

namespace G
open PySem L2
section
variable [Γ : Ctx] {ρ : En} {α β γ δ : Type}
/-! ### tests -/
theorem dt_of {t : TE} {b : Bool} (h : DR ρ t (sh b)) : DT ρ (tTest t) b := fun A H0 S H σ Fs Q e k =>
  h A H0 S H σ Fs _ e fun v S' H' F g p _ => ⟨b, p.1, k S' H' g⟩
theorem dt_ofB {t : TE} {b : Bool} (h : DR ρ t (sh b)) : DT ρ (tB t) b := fun A H0 S H σ Fs Q e k =>
  h A H0 S H σ Fs _ e fun v S' H' F g p _ => ⟨b, p.1, k S' H' g⟩
theorem dt_and {t u : TT} {b c : Bool} (h1 : DT ρ t b) (h2 : b = true → DT ρ u c) : DT ρ (tAnd t u) (b && c) := fun A H0 S H σ Fs Q e k =>
  h1 A H0 S H σ Fs _ e fun S' H' g => by
    cases b with
    | true => exact h2 rfl A H0 S' H' σ Fs _ (e.grow g) fun S2 H2 g2 => k S2 H2 (g.trans g2)
    | false => exact k S' H' g
theorem dt_or {t u : TT} {b c : Bool} (h1 : DT ρ t b) (h2 : b = false → DT ρ u c) : DT ρ (tOr t u) (b || c) := fun A H0 S H σ Fs Q e k =>
  h1 A H0 S H σ Fs _ e fun S' H' g => by
    cases b with
    | false => exact h2 rfl A H0 S' H' σ Fs _ (e.grow g) fun S2 H2 g2 => k S2 H2 (g.trans g2)
    | true => exact k S' H' g
theorem dt_not {t : TT} {b : Bool} (h : DT ρ t b) : DT ρ (tNot t) (!b) := fun A H0 S H σ Fs Q e k => h A H0 S H σ Fs _ e k
theorem dt_yes : DT ρ tYes true := fun A H0 S H σ Fs Q e k => k S H (Grow.refl e.gr.i)
/-! .. as values -/
theorem dr_and {ta tb : TE} {b c : Bool} (h1 : DR ρ ta (sh b)) (h2 : b = true → DR ρ tb (sh c)) : DR ρ (tAndV ta tb) (sh (b && c)) := fun A H0 S H σ Fs Q e k =>
  h1 A H0 S H σ Fs _ e fun v S' H' F g p _ => ⟨b, p.1, by
    cases b with
    | true => exact h2 rfl A H0 S' H' σ Fs _ (e.grow g) fun w S2 H2 F2 g2 p2 hF => k w S2 H2 F2 (g.trans g2) p2 fun q hq => ⟨g.h.free (hF q hq).1, (hF q hq).2⟩
    | false => exact k _ S' H' [] g ⟨rfl, rfl⟩ (fun q h => nomatch h)⟩
theorem dr_or {ta tb : TE} {b c : Bool} (h1 : DR ρ ta (sh b)) (h2 : b = false → DR ρ tb (sh c)) : DR ρ (tOrV ta tb) (sh (b || c)) := fun A H0 S H σ Fs Q e k =>
  h1 A H0 S H σ Fs _ e fun v S' H' F g p _ => ⟨b, p.1, by
    cases b with
    | false => exact h2 rfl A H0 S' H' σ Fs _ (e.grow g) fun w S2 H2 F2 g2 p2 hF => k w S2 H2 F2 (g.trans g2) p2 fun q hq => ⟨g.h.free (hF q hq).1, (hF q hq).2⟩
    | true => exact k _ S' H' [] g ⟨rfl, rfl⟩ (fun q h => nomatch h)⟩
theorem dr_not {t : TE} {b : Bool} (h : DR ρ t (sh b)) : DR ρ (tNotV t) (sh (!b)) := fun A H0 S H σ Fs Q e k =>
  h A H0 S H σ Fs _ e fun v S' H' F g p _ => ⟨b, p.1, k _ S' H' [] g ⟨rfl, rfl⟩ (fun q h => nomatch h)⟩
theorem dr_if {c : TT} {ta tb : TE} {b : Bool} {r : Sl} (h : DT ρ c b) (h1 : b = true → DR ρ ta r) (h2 : b = false → DR ρ tb r) : DR ρ (tIf c ta tb) r := fun A H0 S H σ Fs Q e k =>
  h A H0 S H σ Fs _ e fun S' H' g => by
    have go : ∀ {t : TE}, DR ρ t r → t σ H' Q := fun ht => ht A H0 S' H' σ Fs Q (e.grow g) fun w S2 H2 F2 g2 p2 hF => k w S2 H2 F2 (g.trans g2) p2 fun q hq => ⟨g.h.free (hF q hq).1, (hF q hq).2⟩
    cases b with
    | true => exact go (h1 rfl)
    | false => exact go (h2 rfl)
/-- a result that no heap bears, out of arguments -/
theorem dr_cb {r : List V → Hp → VK → Prop} {t : TA} {rs : List Sl} {rc : Sl} (ha : DA ρ t rs)
    (k : ∀ S H vs (Q : VK), Same S H → Paired (fun (s : Sl) v => s.P S H v []) rs vs → (∀ v S' H' F, Grow S H S' H' → rc.P S' H' v F → (∀ q ∈ F, H q = none ∧ S' q = none) → Q v H') → r vs H Q) : DR ρ (tCB r t) rc :=
  fun A H0 S H σ Fs Q e q => ha A H0 S H σ Fs _ e fun vs S' H' g p => k S' H' vs Q g.i p fun v S2 H2 F g2 p hF => q v S2 H2 F (g.trans g2) p fun a ha =>
    ⟨g.h.free (hF a ha).1, (hF a ha).2⟩
theorem pr1 {F : Sl → V → Prop} {s : Sl} {vs : List V} (h : Paired F [s] vs) : ∃ v, vs = [v] ∧ F s v := by
  cases h with
  | cons r t =>
    cases t
    exact ⟨_, rfl, r⟩
theorem pr2 {F : Sl → V → Prop} {s s' : Sl} {vs : List V} (h : Paired F [s, s'] vs) : ∃ v w, vs = [v, w] ∧ F s v ∧ F s' w := by
  cases h with
  | cons r t =>
    obtain ⟨w, rfl, q⟩ := pr1 t
    exact ⟨_, w, rfl, r, q⟩
theorem paired_len {α β : Type} {F : α → β → Prop} : ∀ {xs : List α} {ys : List β}, Paired F xs ys → xs.length = ys.length
  | _, _, .nil => rfl
  | _, _, .cons _ t => by rw [List.length_cons, List.length_cons, paired_len t]
theorem paired_at {α β : Type} {F : α → β → Prop} : ∀ {xs : List α} {ys : List β} {i : Nat} {y : β}, Paired F xs ys → ys[i]? = some y → ∃ x, xs[i]? = some x ∧ F x y
  | _, _, _, _, .nil, e => by simp at e
  | _, _, 0, _, .cons r _, e => by simp at e; subst e; exact ⟨_, rfl, r⟩
  | _, _, i + 1, y, .cons _ t, e => by
    obtain ⟨u, h1, h2⟩ := paired_at (i := i) (y := y) t (by simpa using e)
    exact ⟨u, by simpa using h1, h2⟩
theorem paired_snoc {α β : Type} {F : α → β → Prop} {x : α} {y : β} (r : F x y) : ∀ {xs : List α} {ys : List β}, Paired F xs ys → Paired F (xs ++ [x]) (ys ++ [y])
  | _, _, .nil => .cons r .nil
  | _, _, .cons q t => .cons q (paired_snoc r t)
theorem paired_app {α β : Type} {F : α → β → Prop} : ∀ {xs xs' : List α} {ys ys' : List β}, Paired F xs ys → Paired F xs' ys' → Paired F (xs ++ xs') (ys ++ ys')
  | _, _, _, _, .nil, h => h
  | _, _, _, _, .cons q t, h => .cons q (paired_app t h)
theorem paired_set {α β : Type} {F : α → β → Prop} {x : α} {y : β} (r : F x y) : ∀ {xs : List α} {ys : List β} (i : Nat), Paired F xs ys → Paired F (xs.set i x) (ys.set i y)
  | _, _, _, .nil => .nil
  | _, _, 0, .cons _ t => .cons r t
  | _, _, i + 1, .cons q t => .cons q (paired_set r i t)
theorem paired_take {α β : Type} {F : α → β → Prop} : ∀ {xs : List α} {ys : List β} (n : Nat), Paired F xs ys → Paired F (xs.take n) (ys.take n)
  | _, _, 0, _ => .nil
  | _, _, _ + 1, .nil => .nil
  | _, _, n + 1, .cons r t => .cons r (paired_take n t)
theorem paired_drop {α β : Type} {F : α → β → Prop} : ∀ {xs : List α} {ys : List β} (n : Nat), Paired F xs ys → Paired F (xs.drop n) (ys.drop n)
  | _, _, 0, r => r
  | _, _, _ + 1, .nil => .nil
  | _, _, n + 1, .cons r t => paired_drop n t
theorem paired_scal [Scal α] {H : Hp} : ∀ {xs : List V} {l : List α}, Paired (rep H) xs l → xs = l.map Scal.toV
  | _, _, .nil => rfl
  | _, _, .cons r t => by rw [List.map_cons, ← paired_scal t]; exact congrArg (· :: _) r
theorem scal_paired [Scal α] {H : Hp} : ∀ (l : List α), Paired (rep H) (l.map Scal.toV) l
  | [] => .nil
  | _ :: l => .cons rfl (scal_paired l)
/-- a list of scalars is told by itself -/
theorem ow_any [Scal α] {l : List α} {S S' H : Hp} {v : V} {F : List Addr} (h : (ow l).P S H v F) : (ow l).P S' H v F := by
  obtain ⟨p, xs, h1, h2, h3, h4⟩ := h
  exact ⟨p, xs, h1, h2, h3, by rw [paired_scal h4]; exact scal_paired l⟩

/-! ### lists -/
/-- a seq of whatever standing, as a list that is read -/
theorem bo_seq [Enc α] {l : List α} {S H : Hp} {v : V} {F : List Addr} (h : (bo l).P S H v F) : ∃ p xs, v = .ref p ∧ SqL Γ.K H p xs ∧ Paired (rep H) xs l := h.1
theorem dr_len [Enc α] {K : PySem.W.Frag} {ta : TE} {l : List α} (hK : K = Γ.K) (h : DR ρ ta (bo l)) : DR ρ (tCB (fun xs H Q => ∃ p ys, xs = [.ref p] ∧ (SqL K H p ys ∨ SqT K H p ys) ∧ Q (.int ys.length) H) (tCons ta tNil)) (sh (l.length : Int)) :=
  dr_cb (da_bo h da_nil) fun S H vs Q i p k => by
    obtain ⟨v, rfl, q⟩ := pr1 p
    obtain ⟨a, xs, rfl, hs, hp⟩ := bo_seq q
    refine ⟨a, xs, rfl, .inl (hK ▸ hs), ?_⟩
    rw [paired_len hp]
    exact k _ S H [] (Grow.refl i) ⟨rfl, rfl⟩ (fun q h => nomatch h)
theorem dr_abs {ta : TE} {x : Int} (h : DR ρ ta (sh x)) : DR ρ (tCB (fun xs H Q => ∃ i, xs = [.int i] ∧ Q (.int (if i < 0 then -i else i)) H) (tCons ta tNil)) (sh (if x < 0 then -x else x)) :=
  dr_cb (da_sh h da_nil) fun S H vs Q i p k => by
    obtain ⟨v, rfl, q⟩ := pr1 p
    exact ⟨x, by rw [q.1]; rfl, k _ S H [] (Grow.refl i) ⟨rfl, rfl⟩ (fun q h => nomatch h)⟩
theorem dr_max2 {ta tb : TE} {x y : Int} (h : DR ρ ta (sh x)) (h' : DR ρ tb (sh y)) : DR ρ (tCB (fun xs H Q => ∃ i j, xs = [.int i, .int j] ∧ Q (.int (if j > i then j else i)) H) (tCons ta (tCons tb tNil))) (sh (max x y)) :=
  dr_cb (da_sh h (da_sh h' da_nil)) fun S H vs Q i p k => by
    obtain ⟨v, w, rfl, q, q'⟩ := pr2 p
    refine ⟨x, y, by rw [q.1, q'.1]; rfl, ?_⟩
    have e : (if y > x then y else x) = max x y := by rw [Int.max_def]; split <;> split <;> omega
    rw [e]
    exact k _ S H [] (Grow.refl i) ⟨rfl, rfl⟩ (fun q h => nomatch h)
theorem dr_min2 {ta tb : TE} {x y : Int} (h : DR ρ ta (sh x)) (h' : DR ρ tb (sh y)) : DR ρ (tCB (fun xs H Q => ∃ i j, xs = [.int i, .int j] ∧ Q (.int (if j < i then j else i)) H) (tCons ta (tCons tb tNil))) (sh (min x y)) :=
  dr_cb (da_sh h (da_sh h' da_nil)) fun S H vs Q i p k => by
    obtain ⟨v, w, rfl, q, q'⟩ := pr2 p
    refine ⟨x, y, by rw [q.1, q'.1]; rfl, ?_⟩
    have e : (if y < x then y else x) = min x y := by rw [Int.min_def]; split <;> split <;> omega
    rw [e]
    exact k _ S H [] (Grow.refl i) ⟨rfl, rfl⟩ (fun q h => nomatch h)
theorem dr_intb {ta : TE} {b : Bool} (h : DR ρ ta (sh b)) : DR ρ (tCB (fun xs H Q => (∃ i, xs = [.int i] ∧ Q (.int i) H) ∨ ∃ k, xs = [.bl k] ∧ Q (.int (if k then 1 else 0)) H) (tCons ta tNil)) (sh (if b then (1 : Int) else 0)) :=
  dr_cb (da_sh h da_nil) fun S H vs Q i p k => by
    obtain ⟨v, rfl, q⟩ := pr1 p
    exact .inr ⟨b, by rw [q.1]; rfl, k _ S H [] (Grow.refl i) ⟨rfl, rfl⟩ (fun q h => nomatch h)⟩
/-- list(xs) -/
theorem dr_list [Enc α] {K : PySem.W.Frag} {ta : TE} {l : List α} (hK : K = Γ.K) (h : DR ρ ta (sh l)) : DR ρ (tCB (fun xs H Q => ∃ p ys, xs = [.ref p] ∧ (SqL K H p ys ∨ SqT K H p ys) ∧ ∀ l, H l = none → Q (.ref l) (upd H l (.lst ys))) (tCons ta tNil)) (ow l) :=
  dr_cb (da_sh h da_nil) fun S H vs Q i p k => by
    obtain ⟨v, rfl, q⟩ := pr1 p
    obtain ⟨⟨a, xs, rfl, hs, hp⟩, _⟩ := q
    refine ⟨a, xs, rfl, .inl (hK ▸ i.seq hs), fun d hd => ?_⟩
    exact k _ S _ [d] ⟨Same.refl _, same_upd hd, i.trans (same_upd hd), fun _ h => .inl h⟩ ⟨d, xs, rfl, rfl, upd_same, hp⟩ fun q hq => by
      cases List.mem_singleton.mp hq
      exact ⟨hd, i.free hd⟩
theorem dr_listb [Scal α] {K : PySem.W.Frag} {ta : TE} {l : List α} (hK : K = Γ.K) (h : DR ρ ta (bo l)) : DR ρ (tCB (fun xs H Q => ∃ p ys, xs = [.ref p] ∧ (SqL K H p ys ∨ SqT K H p ys) ∧ ∀ l, H l = none → Q (.ref l) (upd H l (.lst ys))) (tCons ta tNil)) (ow l) :=
  dr_cb (da_bo h da_nil) fun S H vs Q i p k => by
    obtain ⟨v, rfl, q⟩ := pr1 p
    obtain ⟨a, xs, rfl, hs, hp⟩ := bo_seq q
    refine ⟨a, xs, rfl, .inl (hK ▸ hs), fun d hd => ?_⟩
    refine k _ S _ [d] ⟨Same.refl _, same_upd hd, i.trans (same_upd hd), fun _ h => .inl h⟩ ⟨d, xs, rfl, rfl, upd_same, ?_⟩ fun q hq => by
      cases List.mem_singleton.mp hq
      exact ⟨hd, i.free hd⟩
    rw [paired_scal hp]
    exact scal_paired l
/-- a new list of what came -/
theorem new_ow [Enc α] {S H : Hp} {l : List α} {xs : List V} {Q : VK} (i : Same S H) (hp : Paired (rep S) xs l)
    (k : ∀ v S' H' F, Grow S H S' H' → (ow l).P S' H' v F → (∀ q ∈ F, H q = none ∧ S' q = none) → Q v H') (d : Addr) (hd : H d = none) : Q (.ref d) (upd H d (.lst xs)) :=
  k _ S _ [d] ⟨Same.refl _, same_upd hd, i.trans (same_upd hd), fun _ h => .inl h⟩ ⟨d, xs, rfl, rfl, upd_same, hp⟩ fun q hq => by
    cases List.mem_singleton.mp hq
    exact ⟨hd, i.free hd⟩
theorem paired_args [Enc α] {S H : Hp} : ∀ {l : List α} {vs : List V}, Paired (fun (s : Sl) v => s.P S H v []) (l.map sh) vs → Paired (rep S) vs l
  | [], _, .nil => .nil
  | _ :: _, _, .cons r t => .cons r.1 (paired_args t)
theorem dr_lst [Enc α] {t : TA} {l : List α} (h : DA ρ t (l.map sh)) (hl : l.length ≤ sizeLine) : DR ρ (tLst t) (ow l) := fun A H0 S H σ Fs Q e k =>
  h A H0 S H σ Fs _ e fun vs S' H' g p => by
    have hp := paired_args p
    refine ⟨by rw [paired_len hp]; exact hl, fun d hd => new_ow g.i hp (fun v S2 H2 F g2 p2 hF => k v S2 H2 F (g.trans g2) p2 fun q hq => ⟨g.h.free (hF q hq).1, (hF q hq).2⟩) d hd⟩
/-- a pair -/
theorem dr_tup2 [Enc α] [Enc β] {ta tb : TE} {a : α} {b : β} (h1 : DR ρ ta (sh a)) (h2 : DR ρ tb (sh b)) : DR ρ (tTup (tCons ta (tCons tb tNil))) (sh (a, b)) := fun A H0 S H σ Fs Q e k =>
  da_sh h1 (da_sh h2 da_nil) A H0 S H σ Fs _ e fun vs S' H' g p => by
    obtain ⟨v, w, rfl, q1, q2⟩ := pr2 p
    refine ⟨(by show 2 ≤ sizeLine; decide), fun d hd => ?_⟩
    refine k _ (upd S' d (.tup [v, w])) _ [] (g.trans ⟨same_upd (g.i.free hd), same_upd hd, fun b u hb => ?_, fun q hq => ?_⟩) ⟨⟨d, v, w, rfl, SqT.of upd_same, Enc.mono (same_upd (g.i.free hd)) q1.1, Enc.mono (same_upd (g.i.free hd)) q2.1⟩, rfl⟩ (fun q h => nomatch h)
    · by_cases c : b = d
      · subst c
        rw [upd_same] at hb ⊢
        exact hb
      · rw [upd_ne c] at hb ⊢
        exact g.i _ _ hb
    · by_cases c : q = d
      · subst c
        exact .inr hd
      · rw [upd_ne c] at hq
        exact .inl hq
/-- xs[i] -/
theorem atI_rep {F : V → α → Prop} {xs : List V} {l : List α} {i : Int} {a : α} (hp : Paired F xs l) (h : atI l i = some a) : ∃ v, atI xs i = some v ∧ F v a := by
  unfold atI at h ⊢
  rw [paired_len hp]
  cases e : ixN l.length i with
  | none => rw [e] at h; cases h
  | some j =>
    rw [e] at h
    exact paired_at hp h
theorem dr_ix [Enc α] {K : PySem.W.Frag} {ta tb : TE} {l : List α} {i : Int} {a : α} (hK : K = Γ.K) (h : DR ρ ta (sh l)) (hi : DR ρ tb (sh i)) (ha : atI l i = some a) : DR ρ (tOp (rIxL K) ta tb) (sh a) :=
  dr_op shF shF h hi fun S H x y Q s p1 p2 k => by
    obtain ⟨⟨p, xs, rfl, hs, hp⟩, _⟩ := p1
    obtain ⟨v, hv, r⟩ := atI_rep hp ha
    exact ⟨p, xs, i, v, rfl, p2.1, hK ▸ s.seq hs, hv, k v S H [] (Grow.refl s) ⟨r, rfl⟩ (fun q h => nomatch h)⟩
theorem dr_ixb [Enc α] {K : PySem.W.Frag} {ta tb : TE} {l : List α} {i : Int} {a : α} (hK : K = Γ.K) (h : DR ρ ta (bo l)) (hi : DR ρ tb (sh i)) (ha : atI l i = some a) : DR ρ (tOp (rIxL K) ta tb) (bo a) :=
  dr_op boF shF h hi fun S H x y Q s p1 p2 k => by
    obtain ⟨⟨p, xs, rfl, hs, hp⟩, _⟩ := p1
    obtain ⟨v, hv, r⟩ := atI_rep hp ha
    exact ⟨p, xs, i, v, rfl, p2.1, hK ▸ hs, hv, k v S H [] (Grow.refl s) ⟨r, rfl⟩ (fun q h => nomatch h)⟩
/-- xs[i], xs one's own list: the item stays for good -/
theorem dr_ixo [Enc α] {K : PySem.W.Frag} {j : Nat} {tb : TE} {l : List α} {i : Int} {a : α} (hK : K = Γ.K) (h : ρ[j]? = some (some (ow l))) (hi : DR ρ tb (sh i)) (ha : atI l i = some a) : DR ρ (tOp (rIxL K) (tVar j) tb) (sh a) :=
  fun A H0 S H σ Fs Q e k => by
    obtain ⟨v, h1, h2⟩ := e.sl j _ h
    refine ⟨v, h1, hi A H0 S H σ Fs _ e fun w S' H' F g p _ => ?_⟩
    obtain ⟨p', xs, rfl, _, h4, hp⟩ := h2
    obtain ⟨u, hu, r⟩ := atI_rep hp ha
    exact ⟨p', xs, i, u, rfl, p.1, hK ▸ SqL.of (g.h _ _ h4), hu, k u S' H' [] g ⟨Enc.mono g.s r, rfl⟩ (fun q h => nomatch h)⟩
/-- slices -/
def DP (ρ : En) (t : TO) (o : Option Int) : Prop := ∀ (A H0 S H : Hp) (σ : St) (Fs : Nat → List Addr) (Q : Option Int → Hp → Prop), Ev A H0 ρ S H σ Fs →
  (∀ S' H', Grow S H S' H' → Q o H') → t σ H Q
theorem dp_none : DP ρ tNoPart none := fun A H0 S H σ Fs Q e k => k S H (Grow.refl e.gr.i)
theorem dp_some {t : TE} {i : Int} (h : DR ρ t (sh i)) : DP ρ (tPart t) (some i) := fun A H0 S H σ Fs Q e k =>
  h A H0 S H σ Fs _ e fun v S' H' F g p _ => ⟨i, p.1, k S' H' g⟩
/-- xs[lo:hi] -/
def cut {α : Type} (xs : List α) (lo hi : Option Int) : List α := (xs.drop (HT.sIx xs.length 0 lo)).take (HT.sIx xs.length xs.length hi - HT.sIx xs.length 0 lo)
theorem cut_rep {F : V → α → Prop} {xs : List V} {l : List α} (hp : Paired F xs l) (lo hi : Option Int) : Paired F (cutV xs lo hi) (cut l lo hi) := by
  unfold cutV cut
  rw [paired_len hp]
  exact paired_take _ (paired_drop _ hp)
theorem dr_sl [Enc α] {K : PySem.W.Frag} {ta : TE} {tl tr : TO} {l : List α} {lo hi : Option Int} (hK : K = Γ.K) (h : DR ρ ta (sh l)) (h1 : DP ρ tl lo) (h2 : DP ρ tr hi) : DR ρ (tSl (rSlL K) ta tl tr) (ow (cut l lo hi)) := fun A H0 S H σ Fs Q e k =>
  h A H0 S H σ Fs _ e fun v S1 H1 F g1 p1 _ => h1 A H0 S1 H1 σ Fs _ (e.grow g1) fun S2 H2 g2 => h2 A H0 S2 H2 σ Fs _ (e.grow (g1.trans g2)) fun S3 H3 g3 => by
    obtain ⟨⟨p, xs, rfl, hs, hp⟩, _⟩ := p1
    have g := g1.trans (g2.trans g3)
    refine ⟨p, xs, rfl, hK ▸ ((g1.i.trans (g2.h.trans g3.h)).seq hs), fun d hd => new_ow (l := cut l lo hi) g.i (cut_rep (paired_mono (fun _ _ r => Enc.mono (g2.s.trans g3.s) r) hp) lo hi) (fun v S2 H2 F g2 p2 hF => k v S2 H2 F (g.trans g2) p2 fun q hq => ⟨g.h.free (hF q hq).1, (hF q hq).2⟩) d hd⟩
theorem dr_slb [Scal α] {K : PySem.W.Frag} {ta : TE} {tl tr : TO} {l : List α} {lo hi : Option Int} (hK : K = Γ.K) (h : DR ρ ta (bo l)) (h1 : DP ρ tl lo) (h2 : DP ρ tr hi) : DR ρ (tSl (rSlL K) ta tl tr) (ow (cut l lo hi)) := fun A H0 S H σ Fs Q e k =>
  h A H0 S H σ Fs _ e fun v S1 H1 F g1 p1 _ => h1 A H0 S1 H1 σ Fs _ (e.grow g1) fun S2 H2 g2 => h2 A H0 S2 H2 σ Fs _ (e.grow (g1.trans g2)) fun S3 H3 g3 => by
    obtain ⟨p, xs, rfl, hs, hp⟩ := bo_seq p1
    have g := g1.trans (g2.trans g3)
    refine ⟨p, xs, rfl, hK ▸ ((g2.h.trans g3.h).seq hs), fun d hd => new_ow (l := cut l lo hi) g.i (cut_rep (F := rep S3) (show Paired (rep S3) xs l by rw [paired_scal hp]; exact scal_paired l) lo hi) (fun v S2 H2 F g2 p2 hF => k v S2 H2 F (g.trans g2) p2 fun q hq => ⟨g.h.free (hF q hq).1, (hF q hq).2⟩) d hd⟩
/-- xs + ys -/
def rCatG (K : PySem.W.Frag) : R2 := fun x y H Q => ∃ l b xs zs, x = .ref l ∧ y = .ref b ∧ SqL K H l xs ∧ SqL K H b zs ∧ xs.length + zs.length ≤ sizeLine ∧ ∀ p, H p = none → Q (.ref p) (upd H p (.lst (xs ++ zs)))
theorem op_catG {X : Cx} : OpR X (binaryOp .Add) (rCatG X.K) := by
  intro pins s σ H x y v u Q I rx ry h
  obtain ⟨l, b, xs, zs, rfl, rfl, hH, hB, hz, q⟩ := h
  cases rx
  cases ry
  obtain ⟨its, r, ⟨⟨cls, dd, data, sl⟩, n, ho, hc, hd, hs⟩, z⟩ := I.list hH
  obtain ⟨its2, r2, ⟨⟨cls2, dd2, data2, sl2⟩, n2, ho2, hc2, hd2, hs2⟩, z2⟩ := I.list hB
  simp only at hc hd hs hc2 hd2 hs2
  subst hc hd hs hc2 hd2 hs2
  have hl := r.length
  have hl2 := r2.length
  have ea : its.toArray ++ its2.toArray = (its ++ its2).toArray := by simp
  refine PySem.concat_meets ⟨_, ho, rfl⟩ ⟨_, ho2, rfl⟩ PySem.noFill_list_add PySem.seq_list_add PySem.F.slot_list_add PySem.F.entry_list_add (PySem.F.args_list_add_2 _ _) (PyProof.Rows.list_addW l b its.toArray its2.toArray n n2 none none sl sl2 (by rw [List.size_toArray, List.size_toArray]; omega)) ⟨ho, ho2, ?_⟩
  rw [ea]
  exact ⟨.ref _, _, I.lnew (t' := s.toks) (r.append r2) (by rw [List.length_append]; omega), rfl, q _ I.fresh⟩
theorem dr_cat [Enc α] {K : PySem.W.Frag} {ta tb : TE} {l l' : List α} (hK : K = Γ.K) (h : DR ρ ta (sh l)) (h' : DR ρ tb (sh l')) (hl : l.length + l'.length ≤ sizeLine) : DR ρ (tOp (rCatG K) ta tb) (ow (l ++ l')) :=
  dr_op shF shF h h' fun S H x y Q i p1 p2 k => by
    obtain ⟨⟨p, xs, rfl, hs, hp⟩, _⟩ := p1
    obtain ⟨⟨p', xs', rfl, hs', hp'⟩, _⟩ := p2
    exact ⟨p, p', xs, xs', rfl, rfl, hK ▸ i.seq hs, hK ▸ i.seq hs', by rw [paired_len hp, paired_len hp']; exact hl, fun d hd => new_ow i (paired_app hp hp') k d hd⟩
theorem dr_catb [Scal α] {K : PySem.W.Frag} {ta tb : TE} {l l' : List α} (hK : K = Γ.K) (h : DR ρ ta (bo l)) (h' : DR ρ tb (bo l')) (hl : l.length + l'.length ≤ sizeLine) : DR ρ (tOp (rCatG K) ta tb) (ow (l ++ l')) :=
  dr_op boF boF h h' fun S H x y Q i p1 p2 k => by
    obtain ⟨p, xs, rfl, hs, hp⟩ := bo_seq p1
    obtain ⟨p', xs', rfl, hs', hp'⟩ := bo_seq p2
    exact ⟨p, p', xs, xs', rfl, rfl, hK ▸ hs, hK ▸ hs', by rw [paired_len hp, paired_len hp']; exact hl, fun d hd => new_ow i (show Paired (rep S) _ (l ++ l') by rw [paired_scal hp, paired_scal hp', ← List.map_append]; exact scal_paired _) k d hd⟩
theorem paired_flat {F : V → α → Prop} {xs : List V} {l : List α} (h : Paired F xs l) : ∀ k : Nat, Paired F (List.replicate k xs).flatten (List.replicate k l).flatten
  | 0 => .nil
  | k + 1 => by
    rw [List.replicate_succ, List.replicate_succ, List.flatten_cons, List.flatten_cons]
    exact paired_app h (paired_flat h k)
/-- [..] * k, of a list just made -/
theorem dr_rep [Enc α] {ta tb : TE} {l : List α} {n : Int} (h : DR ρ ta (ow l)) (h' : DR ρ tb (sh n)) (h1 : -(2 ^ 63) ≤ n) (h2 : n < 2 ^ 63) (hl : l.length * n.toNat ≤ sizeLine) : DR ρ (tOp rRep ta tb) (ow (List.replicate n.toNat l).flatten) := fun A H0 S H σ Fs Q e k =>
  h A H0 S H σ Fs _ e fun v S1 H1 F g1 p1 hF => h' A H0 S1 H1 σ Fs _ (e.grow g1) fun w S2 H2 F2 g2 p2 _ => by
    obtain ⟨p, xs, rfl, hf, hs, hp⟩ := p1
    have g := g1.trans g2
    refine ⟨p, n, xs, rfl, p2.1, g2.h _ _ hs, h1, h2, by rw [paired_len hp]; exact hl, fun d hd => new_ow g.i (paired_flat (paired_mono (fun _ _ r => Enc.mono g2.s r) hp) n.toNat) (fun v S2 H2 F g2 p2 hF => k v S2 H2 F (g.trans g2) p2 fun q hq => ⟨g.h.free (hF q hq).1, (hF q hq).2⟩) d hd⟩
/-- sum, any, all, max, min of lists -/
theorem map_int (l : List Int) : l.map Scal.toV = l.map V.int := rfl
theorem dr_sum {K : PySem.W.Frag} {ta : TE} {l : List Int} (hK : K = Γ.K) (h : DR ρ ta (bo l)) : DR ρ (tCB (rSum K) (tCons ta tNil)) (sh l.sum) :=
  dr_cb (da_bo h da_nil) fun S H vs Q i p k => by
    obtain ⟨v, rfl, q⟩ := pr1 p
    obtain ⟨a, xs, rfl, hs, hp⟩ := bo_seq q
    rw [paired_scal hp] at hs
    exact ⟨a, l, rfl, hK ▸ hs, k _ S H [] (Grow.refl i) ⟨rfl, rfl⟩ (fun q h => nomatch h)⟩
theorem dr_any {K : PySem.W.Frag} {ta : TE} {l : List Bool} (hK : K = Γ.K) (h : DR ρ ta (bo l)) : DR ρ (tCB (rAny K) (tCons ta tNil)) (sh (l.any id)) :=
  dr_cb (da_bo h da_nil) fun S H vs Q i p k => by
    obtain ⟨v, rfl, q⟩ := pr1 p
    obtain ⟨a, xs, rfl, hs, hp⟩ := bo_seq q
    rw [paired_scal hp] at hs
    exact ⟨a, l, rfl, hK ▸ hs, k _ S H [] (Grow.refl i) ⟨rfl, rfl⟩ (fun q h => nomatch h)⟩
theorem dr_all {K : PySem.W.Frag} {ta : TE} {l : List Bool} (hK : K = Γ.K) (h : DR ρ ta (bo l)) : DR ρ (tCB (rAll K) (tCons ta tNil)) (sh (l.all id)) :=
  dr_cb (da_bo h da_nil) fun S H vs Q i p k => by
    obtain ⟨v, rfl, q⟩ := pr1 p
    obtain ⟨a, xs, rfl, hs, hp⟩ := bo_seq q
    rw [paired_scal hp] at hs
    exact ⟨a, l, rfl, hK ▸ hs, k _ S H [] (Grow.refl i) ⟨rfl, rfl⟩ (fun q h => nomatch h)⟩
end
end G

namespace G
open PySem L2
section
variable [Γ : Ctx] {ρ : En} {α β γ δ ι : Type}
/-! ### what a loop walks -/
/-- an iterator walks items, as long as the heap A stands and what stays stays -/
structure Ivs (J : It) (S1 A : Hp) (items : List Sl) : Prop where
  len : items.length ≤ sizeLine
  go : ∀ {S H : Hp}, Same S1 S → Same A H → Same S H → ∀ {i : Nat} {s : Sl}, items[i]? = some s → J.go i H ∧ ∀ x H', J.yld i H x H' → Grow S H S H' ∧ s.P S H' x []
  stop : ∀ {S H : Hp}, Same S1 S → Same A H → Same S H → J.stop items.length H
def hp (st : Bool) (S H : Hp) : Hp := match st with
  | true => S
  | false => H
theorem hp_in {st : Bool} {S H : Hp} (i : Same S H) : Same (hp st S H) H := by
  cases st with
  | true => exact i
  | false => exact Same.refl _
theorem hp_g {st : Bool} {S H S' H' : Hp} (g : Grow S H S' H') : Same (hp st S H) (hp st S' H') := by
  cases st with
  | true => exact g.s
  | false => exact g.h
/-- st: the source stays for good; else it stands now -/
def md (st : Bool) [Enc α] (a : α) : Sl := match st with
  | true => sh a
  | false => bo a
theorem md_rep {st : Bool} [Enc α] {a : α} {S H : Hp} {v : V} {F : List Addr} (h : (md st a).P S H v F) : rep (hp st S H) v a ∧ F = [] := by
  cases st with
  | true => exact h
  | false => exact h
theorem md_of {st : Bool} [Enc α] {a : α} {S H : Hp} {v : V} (h : rep (hp st S H) v a) : (md st a).P S H v [] := by
  cases st with
  | true => exact ⟨h, rfl⟩
  | false => exact ⟨h, rfl⟩
theorem mdF {st : Bool} [Enc α] {a : α} {S H : Hp} {v : V} {F : List Addr} (h : (md st a).P S H v F) : F = [] := (md_rep h).2
def DI (st : Bool) (ρ : En) (wi : TI) (items : List Sl) : Prop := ∀ (A H0 S H : Hp) (σ : St) (Fs : Nat → List Addr) (R : It → Hp → Prop), Ev A H0 ρ S H σ Fs →
  (∀ J S' H', Grow S H S' H' → Ivs J S' (hp st S' H') items → R J H') → wi σ H R
theorem map_at {α β : Type} {f : α → β} {l : List α} {i : Nat} {b : β} (h : (l.map f)[i]? = some b) : ∃ a, l[i]? = some a ∧ f a = b := by
  rw [List.getElem?_map] at h
  cases e : l[i]? with
  | none => rw [e] at h; cases h
  | some a =>
    rw [e] at h
    exact ⟨a, rfl, Option.some.inj h⟩
theorem paired_at' {α β : Type} {F : α → β → Prop} : ∀ {xs : List α} {ys : List β} {i : Nat} {x : α}, Paired F xs ys → xs[i]? = some x → ∃ y, ys[i]? = some y ∧ F x y
  | _, _, _, _, .nil, e => by simp at e
  | _, _, 0, _, .cons r _, e => by simp at e; subst e; exact ⟨_, rfl, r⟩
  | _, _, i + 1, x, .cons _ t, e => by
    obtain ⟨u, h1, h2⟩ := paired_at' (i := i) (x := x) t (by simpa using e)
    exact ⟨u, by simpa using h1, h2⟩
/-- a list that is read is no longer than lists are -/
def tL (K : PySem.W.Frag) (t : TE) : TE := fun σ H Q => t σ H fun v H1 => (∀ a xs, v = .ref a → SqL K H1 a xs → xs.length ≤ sizeLine) → Q v H1
theorem pe_lok {X : Cx} {e : Expr} {t : TE} (h : PE X e t) : PE X e (tL X.K t) := ⟨fun pins s σ H Q I q => thn (h.run pins s σ H _ I q) fun v s1 ⟨x, H1, I1, r1, q1⟩ => ⟨x, H1, I1, r1, q1 fun a xs _ hq => by
  obtain ⟨_, _, _, z⟩ := I1.list hq
  exact z⟩⟩
/-- over a list -/
theorem di_list [Enc α] {st : Bool} {K : PySem.W.Frag} {tl : TE} {l : List α} (hK : K = Γ.K) (h : DR ρ tl (md st l)) : DI st ρ (iList K (tL K tl)) (l.map (md st)) := fun A H0 S H σ Fs R e k =>
  h A H0 S H σ Fs _ e fun v S' H' F g p _ hz => by
    obtain ⟨⟨a, xs, rfl, hs, hp⟩, _⟩ := md_rep p
    refine ⟨a, rfl, ⟨xs, hK ▸ (hp_in g.i).seq hs⟩, k _ S' H' g ⟨by rw [List.length_map, ← paired_len hp]; exact hz a xs rfl (hK ▸ (hp_in g.i).seq hs), fun {S1 H1} e1 e2 e3 {i s} hi => ?_, fun {S1 H1} e1 e2 e3 => ?_⟩⟩
    · obtain ⟨b, hb, rfl⟩ := map_at hi
      obtain ⟨x, hx, r⟩ := paired_at hp hb
      refine ⟨⟨xs, x, hK ▸ e2.seq hs, hx⟩, fun y H2 ⟨q1, q2⟩ => ?_⟩
      subst q1
      have := q2 xs (hK ▸ e2.seq hs)
      rw [hx] at this
      cases this
      refine ⟨Grow.refl e3, md_of ?_⟩
      cases st with
      | true => exact Enc.mono e1 r
      | false => exact Enc.mono e2 r
    · exact ⟨xs, hK ▸ e2.seq hs, by rw [List.length_map, ← paired_len hp]; exact Nat.le_refl _⟩
theorem di_sh [Enc α] {K : PySem.W.Frag} {tl : TE} {l : List α} (hK : K = Γ.K) (h : DR ρ tl (sh l)) : DI true ρ (iList K (tL K tl)) (l.map sh) := di_list (st := true) hK h
theorem DI.imp {st : Bool} {wi : TI} {xs : List ι} {f f' : ι → Sl} (h : DI st ρ wi (xs.map f)) (hi : ∀ x S H v, (f x).P S H v [] → (f' x).P S H v []) : DI st ρ wi (xs.map f') := fun A H0 S H σ Fs R e k =>
  h A H0 S H σ Fs R e fun J S' H' g w => k J S' H' g ⟨by have := w.len; rw [List.length_map] at this ⊢; exact this, fun {S1 H1} e1 e2 e3 {i s} hs => by
    obtain ⟨b, hb, rfl⟩ := map_at hs
    obtain ⟨g1, g2⟩ := w.go e1 e2 e3 (i := i) (s := f b) (by rw [List.getElem?_map, hb]; rfl)
    exact ⟨g1, fun x H' y => ⟨(g2 x H' y).1, hi _ _ _ _ (g2 x H' y).2⟩⟩, fun {S1 H1} e1 e2 e3 => by
      have := w.stop e1 e2 e3
      rw [List.length_map] at this ⊢
      exact this⟩
theorem DI.weak {wi : TI} {items : List Sl} (h : DI true ρ wi items) : DI false ρ wi items := fun A H0 S H σ Fs R e k =>
  h A H0 S H σ Fs R e fun J S' H' g w => k J S' H' g ⟨w.len, fun e1 e2 e3 _ _ hs => w.go e1 (e1.trans e3) e3 hs, fun e1 e2 e3 => w.stop e1 (e1.trans e3) e3⟩
theorem di_bo [Enc α] {K : PySem.W.Frag} {tl : TE} {l : List α} (hK : K = Γ.K) (h : DR ρ tl (bo l)) : DI false ρ (iList K (tL K tl)) (l.map bo) := di_list (st := false) hK h
theorem di_bos [Scal α] {K : PySem.W.Frag} {tl : TE} {l : List α} (hK : K = Γ.K) (h : DR ρ tl (bo l)) : DI false ρ (iList K (tL K tl)) (l.map sh) := (di_bo hK h).imp fun _ _ _ _ p => ⟨p.1, rfl⟩
/-- over a range -/
theorem itr_walks {S1 A : Hp} {lo : Int} {n : Nat} (hn : n ≤ sizeLine) : Ivs (Itr lo n) S1 A ((List.range n).map fun (k : Nat) => sh (lo + (k : Int))) :=
  ⟨by rw [List.length_map, List.length_range]; exact hn, fun {S H} e1 e2 e3 {i s} hi => by
    obtain ⟨b, hb, rfl⟩ := map_at hi
    have hl : i < n := by
      have := (List.getElem?_eq_some_iff.mp hb).1
      rw [List.length_range] at this
      exact this
    have eb : b = i := by
      have := (List.getElem?_eq_some_iff.mp hb).2
      rw [List.getElem_range] at this
      exact this.symm
    subst eb
    exact ⟨hl, fun x H' ⟨q1, q2⟩ => by subst q1; exact ⟨Grow.refl e3, q2, rfl⟩⟩,
   fun {S H} e1 e2 e3 => by rw [List.length_map, List.length_range]; exact Nat.le_refl n⟩
theorem di_range1 {st : Bool} {ta : TE} {n : Int} (h : DR ρ ta (sh n)) (h1 : -(2 ^ 62) ≤ n) (h2 : n ≤ 16777216) : DI st ρ (iRng1 (tCons ta tNil)) ((List.range n.toNat).map fun k => sh ((k : Nat) : Int)) := fun A H0 S H σ Fs R e k =>
  da_sh h da_nil A H0 S H σ Fs _ e fun vs S' H' g p => by
    obtain ⟨v, rfl, q⟩ := pr1 p
    refine ⟨n, by rw [q.1]; rfl, h1, by omega, k _ S' H' g ?_⟩
    have w := itr_walks (S1 := S') (A := hp st S' H') (lo := 0) (n := n.toNat) (by rw [sizeLine_eq]; omega)
    have ef : (fun k : Nat => sh (0 + (k : Int))) = fun k : Nat => sh ((k : Nat) : Int) := by funext k; rw [Int.zero_add]
    rw [ef] at w
    exact w
theorem di_range2 {st : Bool} {ta tb : TE} {m n : Int} (h : DR ρ ta (sh m)) (h' : DR ρ tb (sh n)) (h1 : -(2 ^ 62) ≤ m ∧ m < 2 ^ 62 ∧ -(2 ^ 62) ≤ n ∧ n < 2 ^ 62) (h2 : n - m ≤ 16777216) : DI st ρ (iRng2 (tCons ta (tCons tb tNil))) ((List.range (n - m).toNat).map fun (k : Nat) => sh (m + (k : Int))) := fun A H0 S H σ Fs R e k =>
  da_sh h (da_sh h' da_nil) A H0 S H σ Fs _ e fun vs S' H' g p => by
    obtain ⟨v, w, rfl, q, q'⟩ := pr2 p
    exact ⟨m, n, by rw [q.1, q'.1]; rfl, h1, k _ S' H' g (itr_walks (by rw [sizeLine_eq]; omega))⟩
/-- pairs that are taken apart at once -/
def pr (s s' : Sl) : Sl := ⟨fun S H v F => F = [] ∧ ∃ T x y, v = .ref T ∧ SqT Γ.K H T [x, y] ∧ s.P S H x [] ∧ s'.P S H y [], fun e e' ⟨h0, T, x, y, h1, h2, h3, h4⟩ => ⟨h0, T, x, y, h1, same_tup e' h2, s.mono e e' h3, s'.mono e e' h4⟩⟩
theorem pair_pr [Enc α] [Enc β] {a : α} {b : β} {S H : Hp} {v : V} {F : List Addr} (i : Same S H) (h : (sh (a, b)).P S H v F) : (pr (sh a) (sh b)).P S H v F := by
  obtain ⟨⟨p, x, y, h1, h2, h3, h4⟩, hF⟩ := h
  exact ⟨hF, p, x, y, h1, same_tup i h2, ⟨h3, rfl⟩, ⟨h4, rfl⟩⟩
/-- enumerate -/
theorem di_enum [Enc α] {st : Bool} {K : PySem.W.Frag} {tl : TE} {l : List α} (hK : K = Γ.K) (h : DR ρ tl (md st l)) : DI st ρ (iEnum K (tCons (tL K tl) tNil)) (l.zipIdx.map fun p => pr (sh ((p.2 : Nat) : Int)) (md st p.1)) := fun A H0 S H σ Fs R e k =>
  h A H0 S H σ Fs _ e fun v S' H' F g q _ hz => by
    obtain ⟨⟨a, xs, rfl, hs, hp⟩, _⟩ := md_rep q
    refine ⟨a, xs, rfl, hK ▸ (hp_in g.i).seq hs, k _ S' H' g ⟨by rw [List.length_map, List.length_zipIdx, ← paired_len hp]; exact hz a xs rfl (hK ▸ (hp_in g.i).seq hs), fun {S1 H1} e1 e2 e3 {i s} hi => ?_, fun {S1 H1} e1 e2 e3 => ?_⟩⟩
    · obtain ⟨⟨b, j⟩, hb, rfl⟩ := map_at hi
      rw [List.getElem?_zipIdx] at hb
      cases hl : l[i]? with
      | none => rw [hl] at hb; cases hb
      | some c =>
        rw [hl] at hb
        simp only [Option.map_some, Option.some.injEq, Prod.mk.injEq] at hb
        obtain ⟨rfl, rfl⟩ := hb
        obtain ⟨x, hx, r⟩ := paired_at hp hl
        refine ⟨⟨xs, x, hK ▸ e2.seq hs, hx⟩, fun y H2 ⟨T, x', q0, q1, q2, q3⟩ => ?_⟩
        have := q3 xs (hK ▸ e2.seq hs)
        rw [hx] at this
        cases this
        subst q2
        refine ⟨⟨Same.refl _, same_upd q1, e3.trans (same_upd q1), fun _ h => .inl h⟩, rfl, T, _, _, q0, SqT.of upd_same, ⟨by rw [Nat.zero_add]; rfl, rfl⟩, md_of ?_⟩
        cases st with
        | true => exact Enc.mono e1 r
        | false => exact Enc.mono (e2.trans (same_upd q1)) r
    · exact ⟨xs, hK ▸ e2.seq hs, by rw [List.length_map, List.length_zipIdx, ← paired_len hp]; exact Nat.le_refl _⟩
/-- zip -/
theorem di_zip [Enc α] [Enc β] {st : Bool} {K : PySem.W.Frag} {ta tb : TE} {l : List α} {l' : List β} (hK : K = Γ.K) (h : DR ρ ta (md st l)) (h' : DR ρ tb (md st l')) : DI st ρ (iZip K (tCons (tL K ta) (tCons tb tNil))) ((l.zip l').map fun p => pr (md st p.1) (md st p.2)) := fun A H0 S H σ Fs R e k =>
  h A H0 S H σ Fs _ e fun v S1 H1 F g1 qa _ hz => h' A H0 S1 H1 σ Fs _ (e.grow g1) fun w S' H' F' g2 q' _ => by
    have g := g1.trans g2
    obtain ⟨⟨a, xs, rfl, hs1, hp1⟩, _⟩ := md_rep qa
    have hz' := hz a xs rfl (hK ▸ (hp_in g1.i).seq hs1)
    have hs := (hp_g (st := st) g2).seq hs1
    have hp := paired_mono (fun _ _ r => Enc.mono (hp_g (st := st) g2) r) hp1
    obtain ⟨⟨b, ys, rfl, hs', hp'⟩, _⟩ := md_rep q'
    refine ⟨a, b, xs, ys, rfl, hK ▸ (hp_in g.i).seq hs, hK ▸ (hp_in g.i).seq hs', k _ S' H' g ⟨by rw [List.length_map, List.length_zip, ← paired_len hp]; exact Nat.le_trans (Nat.min_le_left _ _) hz', fun {S1 H1} e1 e2 e3 {i s} hi => ?_, fun {S1 H1} e1 e2 e3 => ?_⟩⟩
    · obtain ⟨⟨c, d⟩, hb, rfl⟩ := map_at hi
      have hz : l[i]? = some c ∧ l'[i]? = some d := by
        rw [List.getElem?_zip_eq_some] at hb
        exact hb
      obtain ⟨x, hx, r⟩ := paired_at hp hz.1
      obtain ⟨y, hy, r'⟩ := paired_at hp' hz.2
      refine ⟨⟨xs, ys, x, y, hK ▸ e2.seq hs, hK ▸ e2.seq hs', hx, hy⟩, fun z H2 ⟨T, x', y', q0, q1, q2, q3, q4⟩ => ?_⟩
      have z1 := q3 xs (hK ▸ e2.seq hs)
      rw [hx] at z1
      cases z1
      have z2 := q4 ys (hK ▸ e2.seq hs')
      rw [hy] at z2
      cases z2
      subst q2
      refine ⟨⟨Same.refl _, same_upd q1, e3.trans (same_upd q1), fun _ h => .inl h⟩, rfl, T, _, _, q0, SqT.of upd_same, md_of ?_, md_of ?_⟩
      · cases st with
        | true => exact Enc.mono e1 r
        | false => exact Enc.mono (e2.trans (same_upd q1)) r
      · cases st with
        | true => exact Enc.mono e1 r'
        | false => exact Enc.mono (e2.trans (same_upd q1)) r'
    · refine ⟨xs, ys, hK ▸ e2.seq hs, hK ▸ e2.seq hs', ?_⟩
      rw [List.length_map, List.length_zip, paired_len hp, paired_len hp']
      rcases Nat.le_total l.length l'.length with c | c
      · left; omega
      · right; omega
/-- reversed(range(n)) -/
theorem di_revrange {st : Bool} {ta : TE} {n : Int} (h : DR ρ ta (sh n)) (h1 : -(2 ^ 62) ≤ n) (h2 : n ≤ 16777216) : DI st ρ (iRevR (tRg1 ta)) ((List.range n.toNat).reverse.map fun k => sh ((k : Nat) : Int)) := fun A H0 S H σ Fs R e k =>
  h A H0 S H σ Fs _ e fun v S' H' F g p _ => by
    refine ⟨n, p.1, (by decide), (by decide), h1, by omega, k _ S' H' g ⟨by rw [List.length_map, List.length_reverse, List.length_range, sizeLine_eq]; omega, fun {S1 H1} e1 e2 e3 {i s} hi => ?_, fun {S1 H1} e1 e2 e3 => ?_⟩⟩
    · obtain ⟨b, hb, rfl⟩ := map_at hi
      have hl : i < n.toNat := by
        have := (List.getElem?_eq_some_iff.mp hb).1
        rw [List.length_reverse, List.length_range] at this
        exact this
      rw [List.getElem?_reverse (by rw [List.length_range]; exact hl), List.length_range, List.getElem?_range (by omega)] at hb
      have eb := Option.some.inj hb
      subst eb
      refine ⟨(by show i < (n - 0).toNat; omega), fun x H' ⟨q1, q2⟩ => ?_⟩
      subst q1
      refine ⟨Grow.refl e3, ?_, rfl⟩
      rw [q2]
      show V.int _ = V.int _
      congr 1
      have hN : ((n - 0).toNat : Int) = n := by omega
      rw [hN]
      omega
    · rw [List.length_map, List.length_reverse, List.length_range]
      show (n - 0).toNat ≤ n.toNat
      omega
theorem di_zips [Enc α] [Enc β] {K : PySem.W.Frag} {ta tb : TE} {l : List α} {l' : List β} (hK : K = Γ.K) (h : DR ρ ta (sh l)) (h' : DR ρ tb (sh l')) : DI true ρ (iZip K (tCons (tL K ta) (tCons tb tNil))) ((l.zip l').map fun p => pr (sh p.1) (sh p.2)) := di_zip (st := true) hK h h'
theorem di_zipb [Scal α] [Scal β] {K : PySem.W.Frag} {ta tb : TE} {l : List α} {l' : List β} (hK : K = Γ.K) (h : DR ρ ta (bo l)) (h' : DR ρ tb (bo l')) : DI false ρ (iZip K (tCons (tL K ta) (tCons tb tNil))) ((l.zip l').map fun p => pr (sh p.1) (sh p.2)) := di_zip (st := false) hK h h'
theorem di_enums [Enc α] {K : PySem.W.Frag} {tl : TE} {l : List α} (hK : K = Γ.K) (h : DR ρ tl (sh l)) : DI true ρ (iEnum K (tCons (tL K tl) tNil)) (l.zipIdx.map fun p => pr (sh ((p.2 : Nat) : Int)) (sh p.1)) := di_enum (st := true) hK h
theorem di_enumb [Scal α] {K : PySem.W.Frag} {tl : TE} {l : List α} (hK : K = Γ.K) (h : DR ρ tl (bo l)) : DI false ρ (iEnum K (tCons (tL K tl) tNil)) (l.zipIdx.map fun p => pr (sh ((p.2 : Nat) : Int)) (sh p.1)) := di_enum (st := false) hK h
/-! ### targets -/
def DG (ρ : En) (s : Sl) (g : TG) (ρ' : En) : Prop := ∀ (A H0 S H : Hp) (σ : St) (Fs : Nat → List Addr) (v : V) (Q : St → Hp → Prop), Ev A H0 ρ S H σ Fs → s.P S H v [] →
  (∀ σ' Fs', Ev A H0 ρ' S H σ' Fs' → Q σ' H) → g v σ H Q
theorem dg_name {s : Sl} {i : Nat} (hi : i < ρ.length) : DG ρ s (gName i) (ρ.set i (some s)) := fun A H0 S H σ Fs v Q e p k =>
  k _ _ (e.put (Grow.refl e.gr.i) hi p (fun q h => nomatch h) (fun q h => nomatch h))
theorem dg_pr {K : PySem.W.Frag} {s s' : Sl} {i j : Nat} (hK : K = Γ.K) (hi : i < ρ.length) (hj : j < ρ.length) : DG ρ (pr s s') (gTup K 2 (gCons (gName i) (gCons (gName j) gNil))) ((ρ.set i (some s)).set j (some s')) := fun A H0 S H σ Fs v Q e p k => by
  obtain ⟨_, T, x, y, rfl, h2, h3, h4⟩ := p
  have e1 := e.put (Grow.refl e.gr.i) hi h3 (fun q h => nomatch h) (fun q h => nomatch h)
  have e2 := e1.put (i := j) (Grow.refl e.gr.i) (by rw [List.length_set]; exact hj) h4 (fun q h => nomatch h) (fun q h => nomatch h)
  exact ⟨T, [x, y], rfl, hK ▸ h2, rfl, x, [y], rfl, y, [], rfl, rfl, k _ _ e2⟩
theorem dg_pair [Enc α] [Enc β] {K : PySem.W.Frag} {a : α} {b : β} {i j : Nat} (hK : K = Γ.K) (hi : i < ρ.length) (hj : j < ρ.length) : DG ρ (sh (a, b)) (gTup K 2 (gCons (gName i) (gCons (gName j) gNil))) ((ρ.set i (some (sh a))).set j (some (sh b))) := fun A H0 S H σ Fs v Q e p k =>
  dg_pr hK hi hj A H0 S H σ Fs v Q e (pair_pr e.gr.i p) k
theorem dg_t3 [Enc α] [Enc β] [Enc γ] {K : PySem.W.Frag} {c : T3 α β γ} {i j l : Nat} (hK : K = Γ.K) (hi : i < ρ.length) (hj : j < ρ.length) (hl : l < ρ.length) :
    DG ρ (sh c) (gTup K 3 (gCons (gName i) (gCons (gName j) (gCons (gName l) gNil)))) (((ρ.set i (some (sh c.a))).set j (some (sh c.b))).set l (some (sh c.c))) := fun A H0 S H σ Fs v Q e p k => by
  obtain ⟨⟨T, x, y, z, rfl, h2, h3, h4, h5⟩, _⟩ := p
  have e1 := e.put (s := sh c.a) (Grow.refl e.gr.i) hi ⟨h3, rfl⟩ (fun q h => nomatch h) (fun q h => nomatch h)
  have e2 := e1.put (i := j) (s := sh c.b) (Grow.refl e.gr.i) (by rw [List.length_set]; exact hj) ⟨h4, rfl⟩ (fun q h => nomatch h) (fun q h => nomatch h)
  have e3 := e2.put (i := l) (s := sh c.c) (Grow.refl e.gr.i) (by rw [List.length_set, List.length_set]; exact hl) ⟨h5, rfl⟩ (fun q h => nomatch h) (fun q h => nomatch h)
  exact ⟨T, [x, y, z], rfl, hK ▸ (same_tup e.gr.i h2), rfl, x, [y, z], rfl, y, [z], rfl, z, [], rfl, rfl, k _ _ e3⟩
/-! ### comprehensions -/
def wipeE (ρ : En) : List Nat → En
  | [] => ρ
  | v :: vs => (wipeE ρ vs).set v none
theorem Ev.drop2 {A H0 : Hp} {S H : Hp} {σ : St} {Fs : Nat → List Addr} (e : Ev A H0 ρ S H σ Fs) (i : Nat) : Ev A H0 (ρ.set i none) S H (σ.set i none) Fs := by
  refine ⟨e.gr, by rw [List.length_set, List.length_set]; exact e.len, fun j s h => ?_, e.fr, e.ap⟩
  rcases set_get h with ⟨_, hs⟩ | ⟨hj, hs⟩
  · cases hs
  · obtain ⟨v, h1, h2⟩ := e.sl j s hs
    exact ⟨v, by rw [List.getElem?_set_ne (Ne.symm hj)]; exact h1, h2⟩
theorem Ev.wipe {A H0 : Hp} {S H : Hp} {σ : St} {Fs : Nat → List Addr} (e : Ev A H0 ρ S H σ Fs) : ∀ vs : List Nat, Ev A H0 (wipeE ρ vs) S H (L2.wipe σ vs) Fs
  | [] => e
  | v :: vs => (e.wipe vs).drop2 v
/-- a target stores into the block's own names alone -/
def GV (g : TG) (vs : List Nat) : Prop := ∀ (v : V) (σ : St) (H : Hp) (Q : St → Hp → Prop), g v σ H Q → g v σ H fun σ' H' => L2.wipe σ' vs = L2.wipe σ vs ∧ Q σ' H'
theorem wipe_at {σ : St} {i : Nat} : ∀ {vs : List Nat}, (L2.wipe σ vs)[i]? = if i ∈ vs ∧ i < σ.length then some none else σ[i]?
  | [] => by rw [if_neg (by simp)]; rfl
  | v :: vs => by
    show ((L2.wipe σ vs).set v none)[i]? = _
    rw [List.getElem?_set, L2.wipe_length, wipe_at (vs := vs)]
    by_cases c : v = i
    · subst c
      rw [if_pos rfl]
      by_cases hl : v < σ.length
      · rw [if_pos hl, if_pos ⟨List.mem_cons_self, hl⟩]
      · rw [if_neg hl, if_neg (fun h => hl h.2), List.getElem?_eq_none (by omega)]
    · rw [if_neg c]
      by_cases hm : i ∈ vs ∧ i < σ.length
      · rw [if_pos hm, if_pos ⟨List.mem_cons_of_mem _ hm.1, hm.2⟩]
      · rw [if_neg hm, if_neg]
        rintro ⟨h1, h2⟩
        rcases List.mem_cons.mp h1 with h | h
        · exact c h.symm
        · exact hm ⟨h, h2⟩
theorem wipe_set {σ : St} {i : Nat} {x : Option V} {vs : List Nat} (h : i ∈ vs) : L2.wipe (σ.set i x) vs = L2.wipe σ vs := by
  apply List.ext_getElem?
  intro j
  rw [wipe_at, wipe_at, List.length_set]
  by_cases c : j ∈ vs ∧ j < σ.length
  · rw [if_pos c, if_pos c]
  · rw [if_neg c, if_neg c]
    by_cases e : i = j
    · subst e
      have hl : ¬ i < σ.length := fun z => c ⟨h, z⟩
      rw [List.getElem?_eq_none (by rw [List.length_set]; omega), List.getElem?_eq_none (by omega)]
    · rw [List.getElem?_set_ne e]
theorem wipe_idem {σ : St} {vs : List Nat} : L2.wipe (L2.wipe σ vs) vs = L2.wipe σ vs := by
  apply List.ext_getElem?
  intro j
  rw [wipe_at, L2.wipe_length]
  by_cases c : j ∈ vs ∧ j < σ.length
  · rw [if_pos c, wipe_at, if_pos c]
  · rw [if_neg c]
theorem gv_name {i : Nat} {vs : List Nat} (h : i ∈ vs) : GV (gName i) vs := fun v σ H Q q => ⟨wipe_set h, q⟩
theorem gv_two {K : PySem.W.Frag} {i j : Nat} {vs : List Nat} (h : i ∈ vs) (h' : j ∈ vs) : GV (gTup K 2 (gCons (gName i) (gCons (gName j) gNil))) vs := fun v σ H Q q => by
  obtain ⟨a, xs, e1, e2, e3, x, r, e4, y, r', e5, e6, q⟩ := q
  exact ⟨a, xs, e1, e2, e3, x, r, e4, y, r', e5, e6, by show L2.wipe _ _ = _; rw [wipe_set h', wipe_set h], q⟩
/-- the list so far, told by f of the items so far -/
structure Lc (S H : Hp) (D : Addr) (Sn Hn : Hp) (l : List α) [Enc α] : Prop where
  g : Grow S H Sn Hn
  d : Sn D = none
  at_ : ∃ acc, Hn D = some (.lst acc) ∧ Paired (rep Sn) acc l
theorem lc_put {S H Sn Hn : Hp} {D : Addr} {xs : List V} (g : Grow S H Sn Hn) (hD : H D = none) (hd : Sn D = none) : Grow S H Sn (upd Hn D (.lst xs)) :=
  ⟨g.s, fun b o hb => by rw [upd_ne (ne_of_none hb hD)]; exact g.h _ _ hb, fun b o hb => by rw [upd_ne (ne_of_none hb hd)]; exact g.i _ _ hb, g.n⟩
theorem dr_lc [Enc β] {wi : TI} {g : TG} {tt : TT} {te : TE} {vs : List Nat} {xs : List ι} {fs : ι → Sl} {ρx : ι → En} {p : ι → Bool} {f : ι → β} (hi : DI false ρ wi (xs.map fs)) (hv : GV g vs)
    (hg : ∀ x ∈ xs, DG (wipeE ρ vs) (fs x) g (ρx x)) (ht : ∀ x ∈ xs, DT (ρx x) tt (p x)) (he : ∀ x ∈ xs, p x = true → DR (ρx x) te (sh (f x))) : DR ρ (tLc wi g tt te vs) (ow ((xs.filter p).map f)) := fun A H0 S H σ Fs Q e k =>
  hi A H0 S H σ Fs _ e fun J S1 H1 g1 w D hD => by
    have e1 := e.grow g1
    refine ⟨fun i m Hn => m = xs.length - i ∧ i ≤ xs.length ∧ ∃ Sn, Lc S1 H1 D Sn Hn (((xs.take i).filter p).map f), ⟨xs.length, by simp, Nat.zero_le _, S1, ⟨⟨Same.refl _, same_upd hD, g1.i.trans (same_upd hD), fun _ h => .inl h⟩, g1.i.free hD, [], upd_same, .nil⟩⟩, ?_⟩
    rintro i m Hn ⟨rfl, hin, Sn, ⟨gn, dn, acc, ha, hp⟩⟩
    have el : acc.length = (((xs.take i).filter p).map f).length := paired_len hp
    have el2 : (((xs.take i).filter p).map f).length ≤ i := by
      rw [List.length_map]
      exact Nat.le_trans (List.length_filter_le _ _) (by rw [List.length_take]; exact Nat.min_le_left _ _)
    have hl : xs.length ≤ sizeLine := by have := w.len; rw [List.length_map] at this; exact this
    by_cases hlt : i < xs.length
    · right
      have hx : xs[i]? = some xs[i] := List.getElem?_eq_getElem hlt
      obtain ⟨q1, q2⟩ := w.go gn.s (Same.trans (hp_in g1.i) gn.h) gn.i (i := i) (s := fs xs[i]) (by rw [List.getElem?_map, hx]; rfl)
      have hm : xs[i] ∈ xs := List.getElem_mem hlt
      have et : xs.take (i + 1) = xs.take i ++ [xs[i]] := by rw [List.take_succ_eq_append_getElem hlt]
      refine ⟨q1, fun H' => ∃ Sn, Lc S1 H1 D Sn H' (((xs.take (i + 1)).filter p).map f), fun H' ⟨Sn', h'⟩ => ⟨xs.length - (i + 1), by omega, rfl, hlt, Sn', h'⟩, fun y H' hy => ?_⟩
      obtain ⟨g2, p2⟩ := q2 y H' hy
      have e2 : Ev A H0 (wipeE ρ vs) Sn H' (L2.wipe σ vs) Fs := (e1.grow (gn.trans g2)).wipe vs
      have h0 := hv y (L2.wipe σ vs) H' _ (hg _ hm A H0 Sn H' _ Fs y (fun σ2 H2 => tt σ2 H2 fun b H3 => if b = true then te σ2 H3 fun y H4 => ∃ acc, H4 D = some (.lst acc) ∧ acc.length < sizeLine ∧ (∃ Sn, Lc S1 H1 D Sn (upd H4 D (.lst (acc ++ [y]))) (((xs.take (i + 1)).filter p).map f)) else ∃ Sn, Lc S1 H1 D Sn H3 (((xs.take (i + 1)).filter p).map f)) e2 p2 fun σ' Fs' e3 =>
        ht _ hm A H0 Sn H' σ' Fs' _ e3 fun S4 H4 g4 => ?_)
      · simp only [wipe_idem] at h0
        exact h0
      · have g3 := g2.trans g4
        have hD2 := g3.h _ _ ha
        have d4 : S4 D = none := g3.off dn ha
        cases ep : p xs[i] with
        | false =>
          rw [if_neg Bool.false_ne_true]
          refine ⟨S4, gn.trans g3, d4, acc, hD2, ?_⟩
          rw [et, List.filter_append, List.filter_cons_of_neg (by rw [ep]; exact Bool.false_ne_true), List.filter_nil, List.append_nil]
          exact paired_mono (fun _ _ r => Enc.mono g3.s r) hp
        | true =>
          rw [if_pos rfl]
          refine he _ hm ep A H0 S4 H4 σ' Fs' _ (e3.grow g4) fun z S5 H5 F g5 p5 _ => ?_
          have g6 := g3.trans g5
          have hD3 := g6.h _ _ ha
          have d5 : S5 D = none := g6.off dn ha
          refine ⟨acc, hD3, by omega, S5, lc_put (gn.trans g6) hD d5, d5, _, upd_same, ?_⟩
          rw [et, List.filter_append, List.filter_cons_of_pos ep, List.filter_nil, List.map_append]
          exact paired_snoc p5.1 (paired_mono (fun _ _ r => Enc.mono g6.s r) hp)
    · have ei : i = xs.length := by omega
      subst ei
      left
      refine ⟨by have := w.stop gn.s (Same.trans (hp_in g1.i) gn.h) gn.i; rw [List.length_map] at this; exact this, ?_⟩
      rw [List.take_length] at hp
      exact k (.ref D) Sn Hn [D] (g1.trans gn) ⟨D, acc, rfl, rfl, ha, hp⟩ fun q hq => by
        cases List.mem_singleton.mp hq
        exact ⟨g1.h.free hD, dn⟩
theorem dr_lc0 [Enc β] {wi : TI} {g : TG} {te : TE} {vs : List Nat} {xs : List ι} {fs : ι → Sl} {ρx : ι → En} {f : ι → β} (hi : DI false ρ wi (xs.map fs)) (hv : GV g vs)
    (hg : ∀ x ∈ xs, DG (wipeE ρ vs) (fs x) g (ρx x)) (he : ∀ x ∈ xs, DR (ρx x) te (sh (f x))) : DR ρ (tLc wi g tYes te vs) (ow (xs.map f)) := by
  have h := dr_lc (p := fun _ => true) hi hv hg (fun _ _ => dt_yes) (fun x hx _ => he x hx)
  rw [List.filter_eq_self.mpr (fun _ _ => rfl)] at h
  exact h
end
end G

namespace G
open PySem L2
section
variable [Γ : Ctx] {ρ ρ' : En} {α β γ δ ι : Type}
/-! ### statements -/
/-- what is wanted behind a statement -/
structure Wn where
  nx : En → Prop
  rt : Sl → Prop
def DS (ρ : En) (t : TS) (W : Wn) : Prop := ∀ (A H0 S H : Hp) (σ : St) (Fs : Nat → List Addr) (D : Ends), Ev A H0 ρ S H σ Fs →
  (∀ ρ' S' H' σ' Fs', W.nx ρ' → Same S S' → Ev A H0 ρ' S' H' σ' Fs' → D.nx σ' H') →
  (∀ r S' H' v F, W.rt r → Grow A H0 S' H' → r.P S' H' v F → (∀ q ∈ F, H0 q = none ∧ S' q = none) → D.rt v H') → t D σ H
variable {W : Wn}
theorem ds_next (h : W.nx ρ) : DS ρ tNext W := fun A H0 S H σ Fs D e k1 k2 => k1 ρ S H σ Fs h (Same.refl _) e
theorem ds_seq {t u : TS} (h : DS ρ t { W with nx := fun ρ' => DS ρ' u W }) : DS ρ (tSeq t u) W := fun A H0 S H σ Fs D e k1 k2 =>
  h A H0 S H σ Fs { D with nx := u D } e (fun ρ' S' H' σ' Fs' hu es e' => hu A H0 S' H' σ' Fs' D e' (fun ρ2 S2 H2 σ2 Fs2 w s2 e2 => k1 ρ2 S2 H2 σ2 Fs2 w (es.trans s2) e2) k2) k2
theorem ds_thru {t u : TS} (h : DS ρ t { W with nx := fun ρ' => DS ρ' u W }) : DS ρ (tThru t u) W := ds_seq h
/-- x = e -/
theorem ds_set {te : TE} {i : Nat} {r : Sl} (h : DR ρ te r) (ha : r.Al) (hi : i < ρ.length) (k : W.nx (ρ.set i (some r))) : DS ρ (tAsg te (gName i)) W := fun A H0 S H σ Fs D e k1 k2 =>
  h A H0 S H σ Fs _ e fun v S' H' F g p hF => k1 _ _ _ _ _ k g.s (e.put g hi p hF (ha p))
theorem ds_setsh [Enc α] {te : TE} {i : Nat} {a : α} (h : DR ρ te (sh a)) (hi : i < ρ.length) (k : W.nx (ρ.set i (some (sh a)))) : DS ρ (tAsg te (gName i)) W := ds_set h sh_al hi k
theorem ds_setbo [Enc α] {te : TE} {i : Nat} {a : α} (h : DR ρ te (bo a)) (hi : i < ρ.length) (k : W.nx (ρ.set i (some (bo a)))) : DS ρ (tAsg te (gName i)) W := ds_set h bo_al hi k
theorem ds_setow [Enc α] {te : TE} {i : Nat} {l : List α} (h : DR ρ te (ow l)) (hi : i < ρ.length) (k : W.nx (ρ.set i (some (ow l)))) : DS ρ (tAsg te (gName i)) W := ds_set h ow_al hi k
/-- a, b = e -/
theorem ds_asg {te : TE} {g : TG} {r : Sl} {ρ' : En} (h : DR ρ te r) (hr : ∀ {S H v F}, r.P S H v F → F = []) (hg : DG ρ r g ρ') (k : W.nx ρ') : DS ρ (tAsg te g) W := fun A H0 S H σ Fs D e k1 k2 =>
  h A H0 S H σ Fs _ e fun v S' H' F g2 p hF => hg A H0 S' H' σ Fs v _ (e.grow g2) (hr p ▸ p) fun σ' Fs' e' => k1 _ _ _ _ _ k g2.s e'
/-- a, b = x, y, stored at once -/
theorem ds_par [Enc α] [Enc β] {i j : Nat} {ta tb : TE} {a : α} {b : β} (h1 : DR ρ ta (sh a)) (h2 : DR ρ tb (sh b)) (hi : i < ρ.length) (hj : j < ρ.length) (k : W.nx ((ρ.set i (some (sh a))).set j (some (sh b)))) : DS ρ (tPar i j (tCons ta (tCons tb tNil))) W := fun A H0 S H σ Fs D e k1 k2 =>
  da_sh h1 (da_sh h2 da_nil) A H0 S H σ Fs _ e fun vs S' H' g p => by
    obtain ⟨v, w, rfl, q1, q2⟩ := pr2 p
    have e1 := e.put (i := i) (s := sh a) g hi q1 (fun q h => nomatch h) (fun q h => nomatch h)
    have e2 := e1.put (i := j) (s := sh b) (Grow.refl g.i) (by rw [List.length_set]; exact hj) q2 (fun q h => nomatch h) (fun q h => nomatch h)
    exact ⟨v, w, rfl, k1 _ _ _ _ _ k g.s e2⟩
theorem ds_ret {te : TE} {r : Sl} (h : DR ρ te r) (k : W.rt r) : DS ρ (tRet te) W := fun A H0 S H σ Fs D e k1 k2 =>
  h A H0 S H σ Fs _ e fun v S' H' F g p hF => k2 r S' H' v F k (e.gr.trans g) p fun q hq => ⟨e.gr.h.free (hF q hq).1, (hF q hq).2⟩
/-- return x, x one's own list -/
theorem ds_reto [Enc α] {i : Nat} {l : List α} (h : ρ[i]? = some (some (ow l))) (k : W.rt (ow l)) : DS ρ (tRet (tVar i)) W := fun A H0 S H σ Fs D e k1 k2 => by
  obtain ⟨v, h1, h2⟩ := e.sl i _ h
  exact ⟨v, h1, k2 _ S H v (Fs i) k e.gr h2 fun q hq => ⟨(e.fr i q hq).2.1, (e.fr i q hq).1⟩⟩
theorem ds_retN (k : W.rt (sh ())) : DS ρ tRetN W := fun A H0 S H σ Fs D e k1 k2 => k2 _ S H .non [] k e.gr ⟨rfl, rfl⟩ (fun q h => nomatch h)
theorem ds_drop {te : TE} {r : Sl} (h : DR ρ te r) (k : W.nx ρ) : DS ρ (tDrop te) W := fun A H0 S H σ Fs D e k1 k2 =>
  h A H0 S H σ Fs _ e fun v S' H' F g p hF => k1 _ _ _ _ _ k g.s (e.grow g)
theorem ds_if {c : TT} {t u : TS} {b : Bool} (hc : DT ρ c b) (h1 : b = true → DS ρ t W) (h2 : b = false → DS ρ u W) : DS ρ (tIfS c t u) W := fun A H0 S H σ Fs D e k1 k2 =>
  hc A H0 S H σ Fs _ e fun S' H' g => by
    cases b with
    | true => exact h1 rfl A H0 S' H' σ Fs D (e.grow g) (fun ρ2 S2 H2 σ2 Fs2 w s2 e2 => k1 ρ2 S2 H2 σ2 Fs2 w (g.s.trans s2) e2) k2
    | false => exact h2 rfl A H0 S' H' σ Fs D (e.grow g) (fun ρ2 S2 H2 σ2 Fs2 w s2 e2 => k1 ρ2 S2 H2 σ2 Fs2 w (g.s.trans s2) e2) k2
theorem ds_ifp {c : TT} {t u : TS} {p : Prop} [Decidable p] (hc : DT ρ c (decide p)) (h1 : p → DS ρ t W) (h2 : ¬ p → DS ρ u W) : DS ρ (tIfS c t u) W :=
  ds_if hc (fun h => h1 (of_decide_eq_true h)) (fun h => h2 (of_decide_eq_false h))
/-! ### forgetting and freezing -/
def Le (ρ ρ' : En) : Prop := ∀ A H0 S H σ Fs, Ev A H0 ρ S H σ Fs → ∃ S' Fs', Same S S' ∧ Ev A H0 ρ' S' H σ Fs'
theorem Le.refl (ρ : En) : Le ρ ρ := fun _ _ S _ _ Fs e => ⟨S, Fs, Same.refl _, e⟩
theorem Le.trans {ρ1 ρ2 ρ3 : En} (a : Le ρ1 ρ2) (b : Le ρ2 ρ3) : Le ρ1 ρ3 := fun A H0 S H σ Fs e => let ⟨_, _, s1, e'⟩ := a A H0 S H σ Fs e; let ⟨S2, F2, s2, e2⟩ := b _ _ _ _ _ _ e'; ⟨S2, F2, s1.trans s2, e2⟩
theorem le_drop (i : Nat) : Le ρ (ρ.set i none) := fun _ _ S _ _ Fs e => ⟨S, Fs, Same.refl _, e.drop i⟩
theorem le_eq {ρ ρ' : En} (h : ρ = ρ') : Le ρ ρ' := h ▸ Le.refl _
/-- a slot's own list stays as it is from now on -/
theorem le_frz [Enc α] {i : Nat} {l : List α} (h : ρ[i]? = some (some (ow l))) : Le ρ (ρ.set i (some (sh l))) := fun A H0 S H σ Fs e => by
  obtain ⟨v, h1, h2⟩ := e.sl i _ h
  have hF := fun q hq => e.fr i q hq
  obtain ⟨p, o, f1, f2, f3⟩ := ow_sh h2 fun q hq => (hF q hq).1
  have hp := hF p (by rw [f1]; exact List.mem_singleton.mpr rfl)
  have hin : Same (upd S p o) H := fun b u hb => by
    by_cases c : b = p
    · subst c
      rw [upd_same] at hb
      cases hb
      exact f2
    · rw [upd_ne c] at hb
      exact e.gr.i _ _ hb
  have hs : Same S (upd S p o) := same_upd hp.1
  refine ⟨upd S p o, fun j => if j = i then [] else Fs j, hs, ⟨e.gr.s.trans hs, e.gr.h, hin, fun q hq => ?_⟩, by rw [List.length_set]; exact e.len, fun j s h => ?_, fun j q h => ?_, fun j k q h1 h2 => ?_⟩
  · by_cases c : q = p
    · subst c
      exact .inr hp.2.1
    · rw [upd_ne c] at hq
      exact e.gr.n q hq
  · rcases set_get h with ⟨rfl, hs⟩ | ⟨hj, h⟩
    · have hs' : s = sh l := Option.some.inj hs
      subst hs'
      refine ⟨v, h1, ?_⟩
      rw [if_pos rfl]
      exact f3
    · obtain ⟨u, q1, q2⟩ := e.sl j s h
      refine ⟨u, q1, ?_⟩
      rw [if_neg hj]
      exact s.mono hs (Same.refl _) q2
  · by_cases c : j = i
    · rw [if_pos c] at h
      cases h
    · rw [if_neg c] at h
      obtain ⟨z1, z2, z3⟩ := e.fr j q h
      refine ⟨?_, z2, z3⟩
      rw [upd_ne]
      · exact z1
      · rintro rfl
        exact c (e.ap j i q h (by rw [f1]; exact List.mem_singleton.mpr rfl))
  · by_cases c : j = i
    · rw [if_pos c] at h1
      cases h1
    · rw [if_neg c] at h1
      by_cases c2 : k = i
      · rw [if_pos c2] at h2
        cases h2
      · rw [if_neg c2] at h2
        exact e.ap j k q h1 h2
theorem ds_le {t : TS} (h : Le ρ ρ') (k : DS ρ' t W) : DS ρ t W := fun A H0 S H σ Fs D e k1 k2 =>
  let ⟨S', Fs', s1, e'⟩ := h A H0 S H σ Fs e
  k A H0 S' H σ Fs' D e' (fun ρ2 S2 H2 σ2 Fs2 w s2 e2 => k1 ρ2 S2 H2 σ2 Fs2 w (s1.trans s2) e2) k2
theorem ds_frz [Enc α] {t : TS} {i : Nat} {l : List α} (h : ρ[i]? = some (some (ow l))) (k : DS (ρ.set i (some (sh l))) t W) : DS ρ t W := ds_le (le_frz h) k
theorem ds_fgt {t : TS} (i : Nat) (k : DS (ρ.set i none) t W) : DS ρ t W := ds_le (le_drop i) k
theorem nx_le {W : Wn} {N : En → Prop} (h : Le ρ ρ') (k : N ρ') : (fun ρ1 => ∃ ρ2, Le ρ1 ρ2 ∧ N ρ2) ρ := ⟨ρ', h, k⟩
/-! ### loops. E: the slots behind i turns -/
theorem ds_for {wi : TI} {g : TG} {tb : TS} {xs : List ι} {fs : ι → Sl} (E : Nat → En) (hi : DI true ρ wi (xs.map fs)) (h0 : Le ρ (E 0))
    (hs : ∀ i x, xs[i]? = some x → xs.length ≤ sizeLine → ∃ ρx, DG (E i) (fs x) g ρx ∧ DS ρx tb { W with nx := fun ρ' => Le ρ' (E (i + 1)) }) (hd : W.nx (E xs.length)) : DS ρ (tFor wi g tb) W := fun A H0 S H σ Fs D e k1 k2 =>
  hi A H0 S H σ Fs _ e fun J S1 H1 g1 w => by
    obtain ⟨S0, Fs0, s0, e0⟩ := h0 A H0 S1 H1 σ Fs (e.grow g1)
    refine ⟨fun i m σ H => m = xs.length - i ∧ i ≤ xs.length ∧ ∃ S Fs, Same S1 S ∧ Ev A H0 (E i) S H σ Fs, ⟨xs.length, by simp, Nat.zero_le _, S0, Fs0, s0, e0⟩, ?_⟩
    rintro i m σ2 H2 ⟨rfl, hin, S2, Fs2, s2, e2⟩
    by_cases hlt : i < xs.length
    · right
      have hx : xs[i]? = some xs[i] := List.getElem?_eq_getElem hlt
      obtain ⟨q1, q2⟩ := w.go s2 (s2.trans e2.gr.i) e2.gr.i (i := i) (s := fs xs[i]) (by rw [List.getElem?_map, hx]; rfl)
      refine ⟨q1, fun σ H => i + 1 ≤ xs.length ∧ ∃ S Fs, Same S1 S ∧ Ev A H0 (E (i + 1)) S H σ Fs, fun σ' H' ⟨hle, h'⟩ => ⟨xs.length - (i + 1), by omega, rfl, hle, h'⟩, fun y H' hy => ?_⟩
      obtain ⟨g2, p2⟩ := q2 y H' hy
      obtain ⟨ρx, d1, d2⟩ := hs i xs[i] hx (by have := w.len; rw [List.length_map] at this; exact this)
      refine d1 A H0 S2 H' σ2 Fs2 y _ (e2.grow g2) p2 fun σ3 Fs3 e3 => ?_
      refine d2 A H0 S2 H' σ3 Fs3 _ e3 (fun ρ' S4 H4 σ4 Fs4 hle s4 e4 => ?_) k2
      obtain ⟨S5, Fs5, s5, e5⟩ := hle A H0 S4 H4 σ4 Fs4 e4
      exact ⟨hlt, S5, Fs5, s2.trans (s4.trans s5), e5⟩
    · have ei : i = xs.length := by omega
      subst ei
      left
      refine ⟨by have := w.stop s2 (s2.trans e2.gr.i) e2.gr.i; rw [List.length_map] at this; exact this, k1 _ _ _ _ _ hd (g1.s.trans s2) e2⟩
/-- .. the slots told by a state that the turns step -/
theorem ds_fold {wi : TI} {g : TG} {tb : TS} {τ : Type} {xs : List ι} {fs : ι → Sl} (E : τ → En) (J : Nat → τ → Prop) (step : τ → ι → τ) (s0 : τ) (hi : DI true ρ wi (xs.map fs)) (h0 : Le ρ (E s0)) (j0 : J 0 s0)
    (hs : ∀ i x s, xs[i]? = some x → J i s → J (i + 1) (step s x) ∧ (xs.length ≤ sizeLine → ∃ ρx, DG (E s) (fs x) g ρx ∧ DS ρx tb { W with nx := fun ρ' => Le ρ' (E (step s x)) })) (hd : J xs.length (xs.foldl step s0) → W.nx (E (xs.foldl step s0))) : DS ρ (tFor wi g tb) W := by
  have hJ : ∀ i, i ≤ xs.length → J i ((xs.take i).foldl step s0) := by
    intro i
    induction i with
    | zero => intro _; exact j0
    | succ i ih =>
      intro hle
      have hx : xs[i]? = some xs[i] := List.getElem?_eq_getElem (by omega)
      rw [List.take_succ_eq_append_getElem (by omega), List.foldl_append]
      exact (hs i _ _ hx (ih (by omega))).1
  refine ds_for (fun i => E ((xs.take i).foldl step s0)) hi h0 (fun i x hx hz => ?_) ?_
  · have hlt : i < xs.length := (List.getElem?_eq_some_iff.mp hx).1
    obtain ⟨_, hq⟩ := hs i x _ hx (hJ i (by omega))
    obtain ⟨ρx, d1, d2⟩ := hq hz
    refine ⟨ρx, d1, ?_⟩
    have ex : xs[i] = x := (List.getElem?_eq_some_iff.mp hx).2
    have et : (xs.take (i + 1)).foldl step s0 = step ((xs.take i).foldl step s0) x := by
      rw [List.take_succ_eq_append_getElem hlt, List.foldl_append, ex]
      rfl
    rw [et]
    exact d2
  · have := hd (by have := hJ xs.length (Nat.le_refl _); rw [List.take_length] at this; exact this)
    show W.nx (E _)
    rw [List.take_length]
    exact this
/-- while, by a state and a measure -/
theorem ds_while {c : TT} {tb : TS} {τ : Type} (E : τ → En) (J : τ → Prop) (μ : τ → Nat) (s0 : τ) (h0 : Le ρ (E s0)) (j0 : J s0) (b : τ → Bool)
    (hc : ∀ s, J s → DT (E s) c (b s)) (hs : ∀ s, J s → b s = true → DS (E s) tb { W with nx := fun ρ' => ∃ s', J s' ∧ μ s' < μ s ∧ Le ρ' (E s') }) (hd : ∀ s, J s → b s = false → W.nx (E s)) : DS ρ (tWhile c tb) W := fun A H0 S H σ Fs D e k1 k2 => by
  obtain ⟨S0, Fs0, q0, e0⟩ := h0 A H0 S H σ Fs e
  refine ⟨fun m σ H => ∃ s S' Fs, m = μ s ∧ J s ∧ Same S S' ∧ Ev A H0 (E s) S' H σ Fs, ⟨_, s0, S0, Fs0, rfl, j0, q0, e0⟩, ?_⟩
  rintro m σ2 H2 ⟨s, S2, Fs2, rfl, js, q2, e2⟩
  refine hc s js A H0 S2 H2 σ2 Fs2 _ e2 fun S3 H3 g3 => ?_
  cases hb : b s with
  | true =>
    rw [if_pos rfl]
    refine ⟨fun σ H => ∃ s' S' Fs, μ s' < μ s ∧ J s' ∧ Same S S' ∧ Ev A H0 (E s') S' H σ Fs, fun σ' H' ⟨s', S', Fs', h1, h2, h3, h4⟩ => ⟨_, h1, s', S', Fs', rfl, h2, h3, h4⟩, ?_⟩
    refine hs s js hb A H0 S3 H3 σ2 Fs2 _ (e2.grow g3) (fun ρ' S4 H4 σ4 Fs4 ⟨s', h1, h2, hle⟩ s4 e4 => ?_) k2
    obtain ⟨S5, Fs5, s5, e5⟩ := hle A H0 S4 H4 σ4 Fs4 e4
    exact ⟨s', S5, Fs5, h2, h1, q2.trans (g3.s.trans (s4.trans s5)), e5⟩
  | false =>
    rw [if_neg Bool.false_ne_true]
    exact k1 _ _ _ _ _ (hd s js hb) (q2.trans g3.s) (e2.grow g3)
end
end G

namespace G
open PySem L2
open PyProof.Rows (envOfC)
/-! ### operators on ints of any size -/
theorem op_mulK {X : Cx} : OpR X (binaryOp .Mult) (rI IntMulOk fun i j => .int (i * j)) := opI fun _ _ _ _ _ _ _ hc q => PyProof.Rows.mul_int q hc
theorem op_fdivK {X : Cx} : OpR X (binaryOp .FloorDiv) (rI (fun i j => j ≠ 0 ∧ Builtin.divisionGoesByPylong i j = false) fun i j => .int (i.fdiv j)) := opI fun _ _ _ _ _ _ _ hc q => PyProof.Rows.floordiv_int hc.1 q (.inl hc.2)
section
variable [Γ : Ctx] {ρ ρ' : En} {α β γ δ ε ι : Type} {W : Wn}
theorem dr_div {C : Int → Int → Prop} {ta tb : TE} {x y : Int} (ha : DR ρ ta (sh x)) (hb : DR ρ tb (sh y)) (hc : C x y) : DR ρ (tOp (rI C fun i j => .int (i / j)) ta tb) (sh (x / y)) := dr_ii ha hb hc rfl
theorem dr_mod {C : Int → Int → Prop} {ta tb : TE} {x y : Int} (ha : DR ρ ta (sh x)) (hb : DR ρ tb (sh y)) (hc : C x y) : DR ρ (tOp (rI C fun i j => .int (i % j)) ta tb) (sh (x % y)) := dr_ii ha hb hc rfl
theorem dr_pow {C : Int → Int → Prop} {ta tb : TE} {x y : Int} (ha : DR ρ ta (sh x)) (hb : DR ρ tb (sh y)) (hc : C x y) : DR ρ (tOp (rI C fun i j => .int (i ^ j.toNat)) ta tb) (sh (x ^ y.toNat)) := dr_ii ha hb hc rfl
theorem dr_neg {ta : TE} {x : Int} (ha : DR ρ ta (sh x)) : DR ρ (tUn (rU fun i => .int (-i)) ta) (sh (-x)) := fun A H0 S H σ Fs Q e k =>
  ha A H0 S H σ Fs _ e fun v S' H' F g p _ => ⟨x, p.1, k _ S' H' [] g ⟨rfl, rfl⟩ (fun q h => nomatch h)⟩
/-! ### stores into one's own lists -/
def Solid (s : Sl) : Prop := ∀ {S H H' : Hp} {v : V} {F : List Addr}, (∀ q ∈ F, H' q = H q) → s.P S H v F → s.P S H' v F
theorem solid_sh [Enc α] {a : α} : Solid (sh a) := fun _ h => h
theorem solid_ow [Enc α] {l : List α} : Solid (ow l) := fun k ⟨p, xs, h1, h2, h3, h4⟩ => ⟨p, xs, h1, h2, by rw [k p (by rw [h2]; exact List.mem_singleton.mpr rfl)]; exact h3, h4⟩
/-- the slots that a store leaves -/
inductive Sd : En → En → Prop
  | nil : Sd [] []
  | non {a b} : Sd a b → Sd (none :: a) (none :: b)
  | keep {s a b} : Solid s → Sd a b → Sd (some s :: a) (some s :: b)
  | lose {s a b} : Sd a b → Sd (some s :: a) (none :: b)
theorem sd_sh [Enc α] {x : α} {a b : En} (h : Sd a b) : Sd (some (sh x) :: a) (some (sh x) :: b) := .keep solid_sh h
theorem sd_ow [Enc α] {x : List α} {a b : En} (h : Sd a b) : Sd (some (ow x) :: a) (some (ow x) :: b) := .keep solid_ow h
theorem Sd.len : ∀ {a b : En}, Sd a b → a.length = b.length
  | _, _, .nil => rfl
  | _, _, .non h => by rw [List.length_cons, List.length_cons, h.len]
  | _, _, .keep _ h => by rw [List.length_cons, List.length_cons, h.len]
  | _, _, .lose h => by rw [List.length_cons, List.length_cons, h.len]
theorem Sd.at_ : ∀ {a b : En} {i : Nat} {s : Sl}, Sd a b → b[i]? = some (some s) → a[i]? = some (some s) ∧ Solid s
  | _, _, 0, s, .keep h _, e => by
    simp only [List.getElem?_cons_zero, Option.some.injEq] at e ⊢
    subst e
    exact ⟨rfl, h⟩
  | _, _, 0, s, .non _, e => by simp at e
  | _, _, 0, s, .lose _, e => by simp at e
  | _, _, i + 1, s, .keep _ h, e => by simp only [List.getElem?_cons_succ] at e ⊢; exact h.at_ e
  | _, _, i + 1, s, .non h, e => by simp only [List.getElem?_cons_succ] at e ⊢; exact h.at_ e
  | _, _, i + 1, s, .lose h, e => by simp only [List.getElem?_cons_succ] at e ⊢; exact h.at_ e
/-- slot i's own list is written -/
theorem Ev.mut [Enc α] [Enc β] {A H0 S H : Hp} {σ : St} {Fs : Nat → List Addr} {i : Nat} {l : List α} {l' : List β} {p : Addr} {ys : List V} (e : Ev A H0 ρ S H σ Fs) (hs : Sd ρ ρ') (h1 : σ[i]? = some (some (.ref p))) (hF : Fs i = [p]) (hi : i < ρ.length)
    (hp : Paired (rep S) ys l') : Ev A H0 (ρ'.set i (some (ow l'))) S (upd H p (.lst ys)) σ Fs := by
  have hpf := e.fr i p (by rw [hF]; exact List.mem_singleton.mpr rfl)
  refine ⟨⟨e.gr.s, fun b o hb => by rw [upd_ne (ne_of_none hb hpf.2.1)]; exact e.gr.h _ _ hb, fun b o hb => by rw [upd_ne (ne_of_none hb hpf.1)]; exact e.gr.i _ _ hb, e.gr.n⟩, by rw [List.length_set, ← hs.len]; exact e.len, fun j s h => ?_, fun j q h => ?_, e.ap⟩
  · rcases set_get h with ⟨rfl, hs⟩ | ⟨hj, hs'⟩
    · have hs' : s = ow l' := Option.some.inj hs
      subst hs'
      exact ⟨_, h1, p, ys, rfl, hF, upd_same, hp⟩
    · obtain ⟨h2, h3⟩ := hs.at_ hs'
      obtain ⟨v, h4, h5⟩ := e.sl j s h2
      refine ⟨v, h4, h3 (fun q hq => ?_) h5⟩
      rw [upd_ne]
      rintro rfl
      exact hj (e.ap j i q hq (by rw [hF]; exact List.mem_singleton.mpr rfl))
  · obtain ⟨z1, z2, o, z3⟩ := e.fr j q h
    by_cases c : q = p
    · subst c
      exact ⟨z1, z2, _, upd_same⟩
    · exact ⟨z1, z2, o, by rw [upd_ne c]; exact z3⟩
/-- x.append(e) -/
theorem ds_append [Enc α] {K : PySem.W.Frag} {i : Nat} {l : List α} {a : α} {te : TE} (hK : K = Γ.K) (hs : Sd ρ ρ') (h : ρ[i]? = some (some (ow l))) (he : DR ρ te (sh a)) (hl : l.length < sizeLine) (k : W.nx (ρ'.set i (some (ow (l ++ [a]))))) :
    DS ρ (tDrop (tBM K "list" rAppend (tVar i) (tCons te tNil))) W := fun A H0 S H σ Fs D e k1 k2 => by
  obtain ⟨v, h1, p, xs, rfl, hF, h3, h4⟩ := e.sl i _ h
  refine ⟨_, h1, .inl ⟨rfl, _, SqL.of h3⟩, he A H0 S H σ Fs _ e fun u S' H' F g q _ => ?_⟩
  have e' := e.grow g
  have h4' : Paired (rep S') xs l := paired_mono (fun _ _ r => Enc.mono g.s r) h4
  have hi : i < ρ.length := (List.getElem?_eq_some_iff.mp h).1
  refine ⟨p, xs, u, rfl, rfl, g.h _ _ h3, by rw [paired_len h4]; exact hl, ?_⟩
  exact k1 _ _ _ _ _ k g.s (e'.mut (l := l) hs h1 hF hi (paired_snoc q.1 h4'))
/-- x[k] = e -/
theorem ds_setix [Enc α] {i : Nat} {l : List α} {a : α} {m : Int} {j : Nat} {te tk : TE} (hs : Sd ρ ρ') (h : ρ[i]? = some (some (ow l))) (he : DR ρ te (sh a)) (hk : DR ρ tk (sh m)) (hj : ixN l.length m = some j) (k : W.nx (ρ'.set i (some (ow (l.set j a))))) :
    DS ρ (tAsg te (gSub (tVar i) tk rSetL)) W := fun A H0 S H σ Fs D e k1 k2 => by
  obtain ⟨v, h1, p, xs, rfl, hF, h3, h4⟩ := e.sl i _ h
  refine he A H0 S H σ Fs _ e fun u S1 H1 F g1 q _ => ?_
  refine ⟨_, h1, hk A H0 S1 H1 σ Fs _ (e.grow g1) fun w S2 H2 F2 g2 q2 _ => ?_⟩
  have g := g1.trans g2
  have e' := e.grow g
  have h4' : Paired (rep S2) xs l := paired_mono (fun _ _ r => Enc.mono g.s r) h4
  have hi : i < ρ.length := (List.getElem?_eq_some_iff.mp h).1
  refine ⟨p, xs, m, j, rfl, q2.1, g.h _ _ h3, by rw [paired_len h4]; exact hj, ?_⟩
  exact k1 _ _ _ _ _ k g.s (e'.mut (l := l) hs h1 hF hi (paired_set (Enc.mono g2.s q.1) j h4'))
/-! ### defs and calls -/
/-- what a def is asked: pre; what it hands back -/
structure Wf where
  pre : Prop
  r : Sl
def Fin (w : Wf) (A H : Hp) (Q : VK) : Prop := w.pre ∧ ∀ (S' H' : Hp) (u : V) (F : List Addr), Grow A H S' H' → w.r.P S' H' u F → (∀ q ∈ F, H q = none ∧ S' q = none) → Q u H'
def sp1 [Enc α] (f : α → Wf) : Sp := fun vs H Q _ => ∃ (A : Hp) (v : V) (a : α), vs = [v] ∧ Same A H ∧ rep A v a ∧ Fin (f a) A H Q
def sp2 [Enc α] [Enc β] (f : α → β → Wf) : Sp := fun vs H Q _ => ∃ (A : Hp) (v w : V) (a : α) (b : β), vs = [v, w] ∧ Same A H ∧ (rep A v a ∧ rep A w b) ∧ Fin (f a b) A H Q
def sp3 [Enc α] [Enc β] [Enc γ] (f : α → β → γ → Wf) : Sp := fun vs H Q _ => ∃ (A : Hp) (v w x : V) (a : α) (b : β) (c : γ), vs = [v, w, x] ∧ Same A H ∧ (rep A v a ∧ rep A w b ∧ rep A x c) ∧ Fin (f a b c) A H Q
def sp4 [Enc α] [Enc β] [Enc γ] [Enc δ] (f : α → β → γ → δ → Wf) : Sp := fun vs H Q _ => ∃ (A : Hp) (v w x y : V) (a : α) (b : β) (c : γ) (d : δ), vs = [v, w, x, y] ∧ Same A H ∧ (rep A v a ∧ rep A w b ∧ rep A x c ∧ rep A y d) ∧ Fin (f a b c d) A H Q
def sp5 [Enc α] [Enc β] [Enc γ] [Enc δ] [Enc ε] (f : α → β → γ → δ → ε → Wf) : Sp := fun vs H Q _ => ∃ (A : Hp) (v w x y z : V) (a : α) (b : β) (c : γ) (d : δ) (e : ε), vs = [v, w, x, y, z] ∧ Same A H ∧ (rep A v a ∧ rep A w b ∧ rep A x c ∧ rep A y d ∧ rep A z e) ∧ Fin (f a b c d e) A H Q
theorem Grow.freeF {S H S' H' : Hp} (g : Grow S H S' H') {F : List Addr} {S2 : Hp} (h : ∀ q ∈ F, H' q = none ∧ S2 q = none) : ∀ q ∈ F, H q = none ∧ S2 q = none := fun q hq => ⟨g.h.free (h q hq).1, (h q hq).2⟩
theorem pr3 {F : Sl → V → Prop} {s s' s'' : Sl} {vs : List V} (h : Paired F [s, s', s''] vs) : ∃ v w x, vs = [v, w, x] ∧ F s v ∧ F s' w ∧ F s'' x := by
  cases h with
  | cons r t =>
    obtain ⟨w, x, rfl, q⟩ := pr2 t
    exact ⟨_, w, x, rfl, r, q⟩
theorem pr4 {F : Sl → V → Prop} {s s' s'' s3 : Sl} {vs : List V} (h : Paired F [s, s', s'', s3] vs) : ∃ v w x y, vs = [v, w, x, y] ∧ F s v ∧ F s' w ∧ F s'' x ∧ F s3 y := by
  cases h with
  | cons r t =>
    obtain ⟨w, x, y, rfl, q⟩ := pr3 t
    exact ⟨_, w, x, y, rfl, r, q⟩
theorem pr5 {F : Sl → V → Prop} {s s' s'' s3 s4 : Sl} {vs : List V} (h : Paired F [s, s', s'', s3, s4] vs) : ∃ v w x y z, vs = [v, w, x, y, z] ∧ F s v ∧ F s' w ∧ F s'' x ∧ F s3 y ∧ F s4 z := by
  cases h with
  | cons r t =>
    obtain ⟨w, x, y, z, rfl, q⟩ := pr4 t
    exact ⟨_, w, x, y, z, rfl, r, q⟩
variable {E : XK}
theorem dr_call1 [Enc α] {f : α → Wf} {a : α} {t : TA} (h : DA ρ t [sh a]) (hp : (f a).pre) : DR ρ (tCall (sp1 f) [] E t) (f a).r := fun A H0 S H σ Fs Q e k =>
  h A H0 S H σ Fs _ e fun vs S' H' g p => by
    obtain ⟨v, rfl, q⟩ := pr1 p
    exact ⟨S', v, a, rfl, g.i, q.1, hp, fun S2 H2 u F g2 p2 hF => k u S2 H2 F (g.trans g2) p2 (g.freeF hF)⟩
theorem dr_call2 [Enc α] [Enc β] {f : α → β → Wf} {a : α} {b : β} {t : TA} (h : DA ρ t [sh a, sh b]) (hp : (f a b).pre) : DR ρ (tCall (sp2 f) [] E t) (f a b).r := fun A H0 S H σ Fs Q e k =>
  h A H0 S H σ Fs _ e fun vs S' H' g p => by
    obtain ⟨v, w, rfl, q, q2⟩ := pr2 p
    exact ⟨S', v, w, a, b, rfl, g.i, ⟨q.1, q2.1⟩, hp, fun S2 H2 u F g2 p2 hF => k u S2 H2 F (g.trans g2) p2 (g.freeF hF)⟩
theorem dr_call3 [Enc α] [Enc β] [Enc γ] {f : α → β → γ → Wf} {a : α} {b : β} {c : γ} {t : TA} (h : DA ρ t [sh a, sh b, sh c]) (hp : (f a b c).pre) : DR ρ (tCall (sp3 f) [] E t) (f a b c).r := fun A H0 S H σ Fs Q e k =>
  h A H0 S H σ Fs _ e fun vs S' H' g p => by
    obtain ⟨v, w, x, rfl, q, q2, q3⟩ := pr3 p
    exact ⟨S', v, w, x, a, b, c, rfl, g.i, ⟨q.1, q2.1, q3.1⟩, hp, fun S2 H2 u F g2 p2 hF => k u S2 H2 F (g.trans g2) p2 (g.freeF hF)⟩
theorem dr_call4 [Enc α] [Enc β] [Enc γ] [Enc δ] {f : α → β → γ → δ → Wf} {a : α} {b : β} {c : γ} {d : δ} {t : TA} (h : DA ρ t [sh a, sh b, sh c, sh d]) (hp : (f a b c d).pre) : DR ρ (tCall (sp4 f) [] E t) (f a b c d).r := fun A H0 S H σ Fs Q e k =>
  h A H0 S H σ Fs _ e fun vs S' H' g p => by
    obtain ⟨v, w, x, y, rfl, q, q2, q3, q4⟩ := pr4 p
    exact ⟨S', v, w, x, y, a, b, c, d, rfl, g.i, ⟨q.1, q2.1, q3.1, q4.1⟩, hp, fun S2 H2 u F g2 p2 hF => k u S2 H2 F (g.trans g2) p2 (g.freeF hF)⟩
theorem dr_call5 [Enc α] [Enc β] [Enc γ] [Enc δ] [Enc ε] {f : α → β → γ → δ → ε → Wf} {a : α} {b : β} {c : γ} {d : δ} {e' : ε} {t : TA} (h : DA ρ t [sh a, sh b, sh c, sh d, sh e']) (hp : (f a b c d e').pre) : DR ρ (tCall (sp5 f) [] E t) (f a b c d e').r := fun A H0 S H σ Fs Q e k =>
  h A H0 S H σ Fs _ e fun vs S' H' g p => by
    obtain ⟨v, w, x, y, z, rfl, q, q2, q3, q4, q5⟩ := pr5 p
    exact ⟨S', v, w, x, y, z, a, b, c, d, e', rfl, g.i, ⟨q.1, q2.1, q3.1, q4.1, q5.1⟩, hp, fun S2 H2 u F g2 p2 hF => k u S2 H2 F (g.trans g2) p2 (g.freeF hF)⟩
/-- what a result is worth where the arguments only stand now -/
def Reb (r r' : Sl) : Prop := ∀ {S H S' H' : Hp} {v : V} {F : List Addr}, Same S H → Grow H H S' H' → r.P S' H' v F → r'.P S H' v F
theorem reb_ow [Scal α] {l : List α} : Reb (ow l) (ow l) := fun _ _ h => ow_any h
theorem reb_sh [Scal α] {a : α} : Reb (sh a) (sh a) := fun _ _ h => h
theorem reb_bo [Enc α] {a : α} : Reb (sh a) (bo a) := fun _ g h => ⟨Enc.mono g.i h.1, h.2⟩
theorem bo_args [Enc α] {ta : TE} {a : α} (h : DR ρ ta (sh a)) : DR ρ ta (bo a) := dr_bo h
theorem grow_same {S H S' H' : Hp} (i : Same S H) (g : Grow H H S' H') : Grow S H S H' := ⟨Same.refl _, g.h, i.trans g.h, fun _ h => .inl h⟩
theorem dr_call1b [Enc α] {f : α → Wf} {a : α} {t : TA} {r : Sl} (h : DA ρ t [bo a]) (hp : (f a).pre) (hr : Reb (f a).r r) : DR ρ (tCall (sp1 f) [] E t) r := fun A H0 S H σ Fs Q e k =>
  h A H0 S H σ Fs _ e fun vs S' H' g p => by
    obtain ⟨v, rfl, q⟩ := pr1 p
    exact ⟨H', v, a, rfl, Same.refl _, q.1, hp, fun S2 H2 u F g2 p2 hF => k u S' H2 F (g.trans (grow_same g.i g2)) (hr g.i g2 p2) fun q hq => ⟨g.h.free (hF q hq).1, g.i.free (hF q hq).1⟩⟩
theorem dr_call2b [Enc α] [Enc β] {f : α → β → Wf} {a : α} {b : β} {t : TA} {r : Sl} (h : DA ρ t [bo a, bo b]) (hp : (f a b).pre) (hr : Reb (f a b).r r) : DR ρ (tCall (sp2 f) [] E t) r := fun A H0 S H σ Fs Q e k =>
  h A H0 S H σ Fs _ e fun vs S' H' g p => by
    obtain ⟨v, w, rfl, q, q2⟩ := pr2 p
    exact ⟨H', v, w, a, b, rfl, Same.refl _, ⟨q.1, q2.1⟩, hp, fun S2 H2 u F g2 p2 hF => k u S' H2 F (g.trans (grow_same g.i g2)) (hr g.i g2 p2) fun q hq => ⟨g.h.free (hF q hq).1, g.i.free (hF q hq).1⟩⟩
theorem dr_call3b [Enc α] [Enc β] [Enc γ] {f : α → β → γ → Wf} {a : α} {b : β} {c : γ} {t : TA} {r : Sl} (h : DA ρ t [bo a, bo b, bo c]) (hp : (f a b c).pre) (hr : Reb (f a b c).r r) : DR ρ (tCall (sp3 f) [] E t) r := fun A H0 S H σ Fs Q e k =>
  h A H0 S H σ Fs _ e fun vs S' H' g p => by
    obtain ⟨v, w, x, rfl, q, q2, q3⟩ := pr3 p
    exact ⟨H', v, w, x, a, b, c, rfl, Same.refl _, ⟨q.1, q2.1, q3.1⟩, hp, fun S2 H2 u F g2 p2 hF => k u S' H2 F (g.trans (grow_same g.i g2)) (hr g.i g2 p2) fun q hq => ⟨g.h.free (hF q hq).1, g.i.free (hF q hq).1⟩⟩
/-- the slots at the entry -/
def ent (N : List Str) (xs : List Sl) : En := xs.map some ++ List.replicate (N.length - xs.length) none
theorem ev_ent {A H : Hp} {N : List Str} {xs : List Sl} {vs : List V} (i : Same A H) (hp : Paired (fun (s : Sl) v => s.P A H v []) xs vs) : Ev A H (ent N xs) A H (start N vs) fun _ => [] := by
  refine ⟨Grow.refl i, ?_, fun j s h => ?_, (fun _ q h => nomatch h), (fun _ _ q h => nomatch h)⟩
  · unfold ent L2.start
    rw [List.length_append, List.length_append, List.length_map, List.length_map, List.length_replicate, List.length_replicate, paired_len hp]
  · unfold ent at h
    unfold L2.start
    by_cases c : j < xs.length
    · rw [List.getElem?_append_left (by rw [List.length_map]; exact c), List.getElem?_map] at h
      rw [List.getElem?_append_left (by rw [List.length_map, ← paired_len hp]; exact c), List.getElem?_map]
      cases e : xs[j]? with
      | none => rw [e] at h; cases h
      | some s' =>
        rw [e] at h
        have es : s' = s := Option.some.inj (Option.some.inj h)
        subst es
        obtain ⟨v, hv, r⟩ := paired_at' hp e
        exact ⟨v, by rw [hv]; rfl, r⟩
    · rw [List.getElem?_append_right (by rw [List.length_map]; omega), List.getElem?_replicate] at h
      split at h
      · cases h
      · cases h
theorem run_body {N : List Str} {xs : List Sl} {vs : List V} {A H : Hp} {t : TS} {w : Wf} {Q : VK} (i : Same A H) (hp : Paired (fun (s : Sl) v => s.P A H v []) xs vs) (hf : Fin w A H Q)
    (h : w.pre → DS (ent N xs) t ⟨fun _ => w.r = sh (), fun r => r = w.r⟩) : t { nx := fun _ H' => Q .non H', rt := Q } (start N vs) H := by
  obtain ⟨pre, k⟩ := hf
  refine h pre A H A H (start N vs) _ _ (ev_ent i hp) (fun ρ' S' H' σ' Fs' hr _ e' => ?_) (fun r S' H' v F hr g p hF => ?_)
  · exact k S' H' .non [] e'.gr (by rw [hr]; exact ⟨rfl, rfl⟩) (fun q h => nomatch h)
  · subst hr
    exact k S' H' v F g p hF
section
variable {P : Program} {w : World} {mg : Str → Option Value} {base : Heap} {x qual : Str} {st : Stmt} {f : Addr} {fd : FuncData} {N : List Str} {k : Nat} {p1 p2 p3 p4 p5 : Str}
/-- a body, in whatever frame it runs -/
def Body (P : Program) (w : World) (mg : Str → Option Value) (base : Heap) (qual : Str) (st : Stmt) (f : Addr) (N : List Str) (k : Nat) (R : TS → Prop) : Prop :=
  ∀ (cdv : Value) (A : Around) (outer : List Env) (s : Shared) (H : Hp) (E : XK), Room k (A.deeper (envOfC qual (defScope st) s.heap.objs.size f cdv)) →
    ∃ t, PSs (cxOf CX0 P w Γ.K mg base N qual (defScope st) f cdv A outer s H E).nox (defBody st) t ∧ R t
theorem fn1 [Enc α] {spec : α → Wf} (F : Fun Γ.K x qual st f fd) (S : FnScope N [p1] (defScope st))
    (b : Body P w mg base qual st f N k fun t => ∀ a, (spec a).pre → DS (ent N [sh a]) t ⟨fun _ => (spec a).r = sh (), fun r => r = (spec a).r⟩) : FnOk P w Γ.K mg base CX0 (k + 1) f fd [p1] (sp1 spec) := by
  refine F.ok S (fun vs H Q E h => ?_) (fun cdv A outer s H vs Q E hr h => ?_)
  · obtain ⟨_, _, _, rfl, _⟩ := h
    rfl
  · obtain ⟨t, h1, h2⟩ := b cdv A outer s H E hr
    obtain ⟨B, v, a, rfl, i, r, hf⟩ := h
    exact ⟨t, h1, run_body (xs := [sh a]) i (.cons ⟨r, rfl⟩ .nil) hf (h2 a)⟩
theorem fn2 [Enc α] [Enc β] {spec : α → β → Wf} (F : Fun Γ.K x qual st f fd) (S : FnScope N [p1, p2] (defScope st))
    (b : Body P w mg base qual st f N k fun t => ∀ a b, (spec a b).pre → DS (ent N [sh a, sh b]) t ⟨fun _ => (spec a b).r = sh (), fun r => r = (spec a b).r⟩) : FnOk P w Γ.K mg base CX0 (k + 1) f fd [p1, p2] (sp2 spec) := by
  refine F.ok S (fun vs H Q E h => ?_) (fun cdv A outer s H vs Q E hr h => ?_)
  · obtain ⟨_, _, _, _, _, rfl, _⟩ := h
    rfl
  · obtain ⟨t, h1, h2⟩ := b cdv A outer s H E hr
    obtain ⟨B, v, v', a, b, rfl, i, ⟨r, r'⟩, hf⟩ := h
    exact ⟨t, h1, run_body (xs := [sh a, sh b]) i (.cons ⟨r, rfl⟩ (.cons ⟨r', rfl⟩ .nil)) hf (h2 a b)⟩
theorem fn3 [Enc α] [Enc β] [Enc γ] {spec : α → β → γ → Wf} (F : Fun Γ.K x qual st f fd) (S : FnScope N [p1, p2, p3] (defScope st))
    (b : Body P w mg base qual st f N k fun t => ∀ a b c, (spec a b c).pre → DS (ent N [sh a, sh b, sh c]) t ⟨fun _ => (spec a b c).r = sh (), fun r => r = (spec a b c).r⟩) : FnOk P w Γ.K mg base CX0 (k + 1) f fd [p1, p2, p3] (sp3 spec) := by
  refine F.ok S (fun vs H Q E h => ?_) (fun cdv A outer s H vs Q E hr h => ?_)
  · obtain ⟨_, _, _, _, _, _, _, rfl, _⟩ := h
    rfl
  · obtain ⟨t, h1, h2⟩ := b cdv A outer s H E hr
    obtain ⟨B, v, v', v'', a, b, c, rfl, i, ⟨r, r', r''⟩, hf⟩ := h
    exact ⟨t, h1, run_body (xs := [sh a, sh b, sh c]) i (.cons ⟨r, rfl⟩ (.cons ⟨r', rfl⟩ (.cons ⟨r'', rfl⟩ .nil))) hf (h2 a b c)⟩
theorem fn4 [Enc α] [Enc β] [Enc γ] [Enc δ] {spec : α → β → γ → δ → Wf} (F : Fun Γ.K x qual st f fd) (S : FnScope N [p1, p2, p3, p4] (defScope st))
    (b : Body P w mg base qual st f N k fun t => ∀ a b c d, (spec a b c d).pre → DS (ent N [sh a, sh b, sh c, sh d]) t ⟨fun _ => (spec a b c d).r = sh (), fun r => r = (spec a b c d).r⟩) : FnOk P w Γ.K mg base CX0 (k + 1) f fd [p1, p2, p3, p4] (sp4 spec) := by
  refine F.ok S (fun vs H Q E h => ?_) (fun cdv A outer s H vs Q E hr h => ?_)
  · obtain ⟨_, _, _, _, _, _, _, _, _, rfl, _⟩ := h
    rfl
  · obtain ⟨t, h1, h2⟩ := b cdv A outer s H E hr
    obtain ⟨B, v, v', v'', v3, a, b, c, d, rfl, i, ⟨r, r', r'', r3⟩, hf⟩ := h
    exact ⟨t, h1, run_body (xs := [sh a, sh b, sh c, sh d]) i (.cons ⟨r, rfl⟩ (.cons ⟨r', rfl⟩ (.cons ⟨r'', rfl⟩ (.cons ⟨r3, rfl⟩ .nil)))) hf (h2 a b c d)⟩
theorem fn5 [Enc α] [Enc β] [Enc γ] [Enc δ] [Enc ε] {spec : α → β → γ → δ → ε → Wf} (F : Fun Γ.K x qual st f fd) (S : FnScope N [p1, p2, p3, p4, p5] (defScope st))
    (b : Body P w mg base qual st f N k fun t => ∀ a b c d e, (spec a b c d e).pre → DS (ent N [sh a, sh b, sh c, sh d, sh e]) t ⟨fun _ => (spec a b c d e).r = sh (), fun r => r = (spec a b c d e).r⟩) : FnOk P w Γ.K mg base CX0 (k + 1) f fd [p1, p2, p3, p4, p5] (sp5 spec) := by
  refine F.ok S (fun vs H Q E h => ?_) (fun cdv A outer s H vs Q E hr h => ?_)
  · obtain ⟨_, _, _, _, _, _, _, _, _, _, _, rfl, _⟩ := h
    rfl
  · obtain ⟨t, h1, h2⟩ := b cdv A outer s H E hr
    obtain ⟨B, v, v', v'', v3, v4, a, b, c, d, e, rfl, i, ⟨r, r', r'', r3, r4⟩, hf⟩ := h
    exact ⟨t, h1, run_body (xs := [sh a, sh b, sh c, sh d, sh e]) i (.cons ⟨r, rfl⟩ (.cons ⟨r', rfl⟩ (.cons ⟨r'', rfl⟩ (.cons ⟨r3, rfl⟩ (.cons ⟨r4, rfl⟩ .nil))))) hf (h2 a b c d e)⟩
end
end
end G

namespace G
open PySem L2
/-! ### the item at a place -/
def nth {α : Type} [Inhabited α] (l : List α) (i : Int) : α := (atI l i).getD default
theorem atI_nth {α : Type} [Inhabited α] {l : List α} {i : Int} (h : -(l.length : Int) ≤ i) (h' : i < l.length) : atI l i = some (nth l i) := by
  have : ∃ a, atI l i = some a := by
    unfold atI ixN
    by_cases c : 0 ≤ i
    · rw [if_pos c, if_pos h']
      exact ⟨l[i.toNat], by show l[i.toNat]? = _; exact List.getElem?_eq_getElem (by omega)⟩
    · rw [if_neg c, if_pos h]
      exact ⟨l[(i + l.length).toNat]'(by omega), by show l[(i + l.length).toNat]? = _; exact List.getElem?_eq_getElem (by omega)⟩
  obtain ⟨a, e⟩ := this
  unfold nth
  rw [e]
  rfl
theorem nth_nat {α : Type} [Inhabited α] {l : List α} {k : Nat} : nth l (k : Int) = l.getD k default := by
  unfold nth atI ixN
  rw [if_pos (by omega)]
  by_cases c : (k : Int) < l.length
  · rw [if_pos c]
    show (l[(k : Int).toNat]?).getD _ = _
    rw [Int.toNat_natCast, List.getD_eq_getElem?_getD]
  · rw [if_neg c, List.getD_eq_getElem?_getD, List.getElem?_eq_none (by omega)]
    rfl
section
variable [Γ : Ctx] {ρ ρ' : En} {α β γ δ ε ι : Type} {W : Wn}
/-! ### == of scalars -/
theorem dec_congr {p q : Prop} [Decidable p] [Decidable q] (h : p ↔ q) : decide p = decide q := by
  by_cases c : p
  · rw [decide_eq_true c, decide_eq_true (h.mp c)]
  · rw [decide_eq_false c, decide_eq_false (fun z => c (h.mpr z))]
class Sc2 (α : Type) extends Scal α where
  de : DecidableEq α
  sc : ∀ a b : α, scal (Scal.toV a) (Scal.toV b) = true
  inj : ∀ a b : α, Scal.toV a = Scal.toV b ↔ a = b
instance : Sc2 Int := ⟨inferInstance, fun _ _ => rfl, fun a b => ⟨fun h => by injection h, fun h => by rw [h]⟩⟩
instance : Sc2 Bool := ⟨inferInstance, fun _ _ => rfl, fun a b => ⟨fun h => by injection h, fun h => by rw [h]⟩⟩
instance : Sc2 Str := ⟨inferInstance, fun _ _ => rfl, fun a b => ⟨fun h => by injection h, fun h => by rw [h]⟩⟩
theorem dr_eq2 {ta tb : TE} [Sc2 α] [DecidableEq α] {x y : α} (ha : DR ρ ta (sh x)) (hb : DR ρ tb (sh y)) : DR ρ (tOp rEq ta tb) (sh (decide (x = y))) :=
  dr_op shF shF ha hb fun S H u v Q i p1 p2 k => by
    have e1 : u = Scal.toV x := p1.1
    have e2 : v = Scal.toV y := p2.1
    subst e1 e2
    refine ⟨Sc2.sc x y, ?_⟩
    rw [dec_congr (Sc2.inj x y)]
    exact k _ S H [] (Grow.refl i) ⟨rfl, rfl⟩ (fun q h => nomatch h)
theorem dr_ne2 {ta tb : TE} [Sc2 α] [DecidableEq α] {x y : α} (ha : DR ρ ta (sh x)) (hb : DR ρ tb (sh y)) : DR ρ (tOp rNe ta tb) (sh (decide (x ≠ y))) :=
  dr_op shF shF ha hb fun S H u v Q i p1 p2 k => by
    have e1 : u = Scal.toV x := p1.1
    have e2 : v = Scal.toV y := p2.1
    subst e1 e2
    refine ⟨Sc2.sc x y, ?_⟩
    rw [dec_congr (Sc2.inj x y), ← decide_not]
    exact k _ S H [] (Grow.refl i) ⟨rfl, rfl⟩ (fun q h => nomatch h)
/-! ### == of data at any depth -/
class EqD (α : Type) [Enc α] where
  toD : α → PyData
  dn : Nat
  dp : ∀ {H : Hp} {v : V} {a : α}, rep H v a → Dp Γ.K H v (toD a)
  lay : ∀ a : α, (toD a).canLay0 = true
  dep : ∀ a : α, (toD a).depth ≤ dn
  eqv : ∀ a b : α, PyData.eqv (toD a) (toD b) = true ↔ a = b
instance : EqD Int where
  toD := .int
  dn := 0
  dp := fun h => by cases h; exact .int _
  lay := fun _ => rfl
  dep := fun _ => Nat.le_refl _
  eqv := fun a b => by
    show (a == b) = true ↔ _
    exact beq_iff_eq
instance : EqD Bool where
  toD := .bool
  dn := 0
  dp := fun h => by cases h; exact .bl _
  lay := fun _ => rfl
  dep := fun _ => Nat.le_refl _
  eqv := fun a b => by
    show (a == b) = true ↔ _
    exact beq_iff_eq
theorem dpAll [Enc α] [EqD α] {H : Hp} : ∀ {xs : List V} {l : List α}, Paired (rep H) xs l → DpAll Γ.K H xs (l.map EqD.toD)
  | _, _, .nil => .nil
  | _, _, .cons r t => .cons (EqD.dp r) (dpAll t)
theorem layAll [Enc α] [EqD α] : ∀ l : List α, PyData.canLayAll0 (l.map EqD.toD) = true
  | [] => rfl
  | a :: l => by
    show (PyData.canLay0 _ && PyData.canLayAll0 _) = true
    rw [EqD.lay a, layAll l]
    rfl
theorem depAll [Enc α] [EqD α] : ∀ l : List α, PyData.depthAll (l.map EqD.toD) ≤ EqD.dn α
  | [] => Nat.zero_le _
  | a :: l => Nat.max_le.mpr ⟨EqD.dep a, depAll l⟩
theorem eqvAll [Enc α] [EqD α] : ∀ l l' : List α, PyData.eqvAll (l.map EqD.toD) (l'.map EqD.toD) = true ↔ l = l'
  | [], [] => ⟨fun _ => rfl, fun _ => rfl⟩
  | [], _ :: _ => ⟨fun h => (by cases h), fun h => (by cases h)⟩
  | _ :: _, [] => ⟨fun h => (by cases h), fun h => (by cases h)⟩
  | a :: l, b :: l' => by
    show (PyData.eqv _ _ && PyData.eqvAll _ _) = true ↔ _
    rw [Bool.and_eq_true, EqD.eqv a b, eqvAll l l']
    simp
instance [Enc α] [EqD α] : EqD (List α) where
  toD := fun l => .list (l.map EqD.toD)
  dn := EqD.dn α + 1
  dp := fun ⟨p, xs, h1, h2, h3⟩ => by
    rw [h1]
    exact .lst h2 (dpAll h3)
  lay := fun l => layAll l
  dep := fun l => Nat.succ_le_succ (depAll l)
  eqv := fun l l' => eqvAll l l'
theorem shaped_of [Enc α] [EqD α] (a : α) (h : EqD.dn α ≤ 64) : SeqAt.shaped (EqD.toD a) = true := by
  unfold SeqAt.shaped
  rw [EqD.lay a, decide_eq_true (Nat.le_trans (EqD.dep a) h)]
  rfl
theorem dr_eqd {K : PySem.W.Frag} {ta tb : TE} [Enc α] [EqD α] [DecidableEq α] {x y : α} (hK : K = Γ.K) (ha : DR ρ ta (bo x)) (hb : DR ρ tb (bo y)) (h : EqD.dn α ≤ 64 := by exact Nat.le_of_ble_eq_true rfl) : DR ρ (tOp (rEqD K) ta tb) (sh (decide (x = y))) :=
  dr_op boF boF ha hb fun S H u v Q i p1 p2 k => by
    subst hK
    refine ⟨_, _, EqD.dp p1.1, EqD.dp p2.1, shaped_of x h, shaped_of y h, ?_⟩
    refine k _ S H [] (Grow.refl i) ⟨?_, rfl⟩ (fun q h => nomatch h)
    show V.bl _ = V.bl _
    congr 1
    rw [Bool.eq_iff_iff, EqD.eqv x y, decide_eq_true_iff]
theorem dr_ned {K : PySem.W.Frag} {ta tb : TE} [Enc α] [EqD α] [DecidableEq α] {x y : α} (hK : K = Γ.K) (ha : DR ρ ta (bo x)) (hb : DR ρ tb (bo y)) (h : EqD.dn α ≤ 64 := by exact Nat.le_of_ble_eq_true rfl) : DR ρ (tOp (rNeD K) ta tb) (sh (decide (x ≠ y))) :=
  dr_op boF boF ha hb fun S H u v Q i p1 p2 k => by
    subst hK
    refine ⟨_, _, EqD.dp p1.1, EqD.dp p2.1, shaped_of x h, shaped_of y h, ?_⟩
    refine k _ S H [] (Grow.refl i) ⟨?_, rfl⟩ (fun q h => nomatch h)
    show V.bl _ = V.bl _
    congr 1
    rw [decide_not]
    congr 1
    rw [Bool.eq_iff_iff, EqD.eqv x y, decide_eq_true_iff]
/-! ### None, isinstance -/
theorem dr_none [Enc α] : DR ρ (tC .non) (sh (none : Option α)) := fun A H0 S H σ Fs Q e k => k _ S H [] (Grow.refl e.gr.i) ⟨rfl, rfl⟩ (fun q h => nomatch h)
theorem dr_some [Enc α] {t : TE} {a : α} (h : DR ρ t (sh a)) : DR ρ t (sh (some a)) := fun A H0 S H σ Fs Q e k => h A H0 S H σ Fs Q e fun v S' H' F g p hF => k v S' H' F g ⟨p.1, p.2⟩ hF
theorem dr_someb [Enc α] {t : TE} {a : α} (h : DR ρ t (bo a)) : DR ρ t (bo (some a)) := fun A H0 S H σ Fs Q e k => h A H0 S H σ Fs Q e fun v S' H' F g p hF => k v S' H' F g ⟨p.1, p.2⟩ hF
theorem is_none [Enc α] [NotNone α] {H : Hp} {v : V} {o : Option α} (h : rep H v o) : decide (v = .non) = o.isNone := by
  cases o with
  | none => exact decide_eq_true h
  | some a => exact decide_eq_false (NotNone.nn (a := a) (show rep H v a from h))
theorem dr_isN [Enc α] [NotNone α] {ta : TE} {o : Option α} (h : DR ρ ta (bo o)) : DR ρ (tIsN ta) (sh o.isNone) := fun A H0 S H σ Fs Q e k =>
  h A H0 S H σ Fs _ e fun v S' H' F g p _ => k _ S' H' [] g ⟨by rw [is_none p.1]; rfl, rfl⟩ (fun q h => nomatch h)
theorem dr_notN [Enc α] [NotNone α] {ta : TE} {o : Option α} (h : DR ρ ta (bo o)) : DR ρ (tNotN ta) (sh o.isSome) := fun A H0 S H σ Fs Q e k =>
  h A H0 S H σ Fs _ e fun v S' H' F g p _ => k _ S' H' [] g ⟨by rw [is_none p.1]; cases o <;> rfl, rfl⟩ (fun q h => nomatch h)
/-- what type(x) is -/
class TyE (α : Type) [Enc α] where
  ty : String
  tx : ∀ {H : Hp} {v : V} {a : α}, rep H v a → TyX Γ.K H v (.type ty)
instance : TyE Int := ⟨"int", fun h => by cases h; exact .base (.int _)⟩
instance : TyE Bool := ⟨"bool", fun h => by cases h; exact .base (.bl _)⟩
instance [Enc α] : TyE (List α) := ⟨"list", fun ⟨p, xs, h1, h2, _⟩ => by
  subst h1
  rcases h2 with (h | ⟨o, h⟩) | ⟨o, its, n, h, hc, _⟩
  · exact .base (.lst h)
  · exact .base (.frz h)
  · exact .kList h hc⟩
instance : TyE Str := ⟨"str", fun h => by cases h; exact .base (.str _)⟩
theorem dr_isi [Enc α] [TyE α] {K : PySem.W.Frag} {ta tc : TE} {a : α} {n : String} {b : Bool} (hK : K = Γ.K) (h : DR ρ ta (bo a)) (hc : tc = tC (.ty n)) (hb : kitB (TyE.ty α) n = some b) : DR ρ (tCB (rIsi K) (tCons ta (tCons tc tNil))) (sh b) := fun A H0 S H σ Fs Q e k =>
  h A H0 S H σ Fs _ e fun v S' H' F g p _ => by
    subst hc hK
    exact ⟨v, .ty n, .type (TyE.ty α), .type n, b, rfl, .ty n, TyE.tx p.1, kit_ty hb, k _ S' H' [] g ⟨rfl, rfl⟩ (fun q h => nomatch h)⟩
/-! ### slots by places -/
def setE (ρ : En) : List (Nat × Sl) → En
  | [] => ρ
  | (i, s) :: r => setE (ρ.set i (some s)) r
inductive LeL : En → En → Prop
  | nil : LeL [] []
  | keep {s s' : Sl} {a b : En} : s = s' → LeL a b → LeL (some s :: a) (some s' :: b)
  | drop {x : Option Sl} {a b : En} : LeL a b → LeL (x :: a) (none :: b)
theorem LeL.at_ : ∀ {a b : En} {i : Nat} {s : Sl}, LeL a b → b[i]? = some (some s) → a[i]? = some (some s)
  | _, _, 0, s, .keep h _, e => by
    simp only [List.getElem?_cons_zero, Option.some.injEq] at e ⊢
    rw [h, e]
  | _, _, 0, s, .drop _, e => by simp at e
  | _, _, i + 1, s, .keep _ h, e => by simp only [List.getElem?_cons_succ] at e ⊢; exact h.at_ e
  | _, _, i + 1, s, .drop h, e => by simp only [List.getElem?_cons_succ] at e ⊢; exact h.at_ e
theorem LeL.len : ∀ {a b : En}, LeL a b → a.length = b.length
  | _, _, .nil => rfl
  | _, _, .keep _ h => by rw [List.length_cons, List.length_cons, h.len]
  | _, _, .drop h => by rw [List.length_cons, List.length_cons, h.len]
theorem LeL.le {a b : En} (h : LeL a b) : Le a b := fun A H0 S H σ Fs e =>
  ⟨S, Fs, Same.refl _, e.gr, by rw [← h.len]; exact e.len, fun i s hs => e.sl i s (h.at_ hs), e.fr, e.ap⟩
theorem ds_loop {wi : TI} {g : TG} {tb : TS} {τ : Type} {xs : List ι} {fs : ι → Sl} (kill : List Nat) (slots : τ → List (Nat × Sl)) (J : Nat → τ → Prop) (step : τ → ι → τ) (s0 : τ) (hi : DI true ρ wi (xs.map fs)) (h0 : LeL ρ (setE (wipeE ρ kill) (slots s0))) (j0 : J 0 s0)
    (hs : ∀ i x s, xs[i]? = some x → J i s → J (i + 1) (step s x) ∧ (xs.length ≤ sizeLine → ∃ ρx, DG (setE (wipeE ρ kill) (slots s)) (fs x) g ρx ∧ DS ρx tb { W with nx := fun ρ' => LeL ρ' (setE (wipeE ρ kill) (slots (step s x))) }))
    (hd : J xs.length (xs.foldl step s0) → W.nx (setE (wipeE ρ kill) (slots (xs.foldl step s0)))) : DS ρ (tFor wi g tb) W :=
  ds_fold (fun s => setE (wipeE ρ kill) (slots s)) J step s0 hi h0.le j0 (fun i x s h1 h2 => let ⟨q1, qq⟩ := hs i x s h1 h2; ⟨q1, fun hz => let ⟨ρx, q2, q3⟩ := qq hz; ⟨ρx, q2, fun A H0 S H σ Fs D e k1 k2 => q3 A H0 S H σ Fs D e (fun ρ' S' H' σ' Fs' w => k1 ρ' S' H' σ' Fs' (LeL.le w)) k2⟩⟩) hd
theorem ds_whil {c : TT} {tb : TS} {τ : Type} (kill : List Nat) (slots : τ → List (Nat × Sl)) (J : τ → Prop) (μ : τ → Nat) (s0 : τ) (h0 : LeL ρ (setE (wipeE ρ kill) (slots s0))) (j0 : J s0) (b : τ → Bool)
    (hc : ∀ s, J s → DT (setE (wipeE ρ kill) (slots s)) c (b s)) (hs : ∀ s, J s → b s = true → DS (setE (wipeE ρ kill) (slots s)) tb { W with nx := fun ρ' => ∃ s', J s' ∧ μ s' < μ s ∧ LeL ρ' (setE (wipeE ρ kill) (slots s')) })
    (hd : ∀ s, J s → b s = false → W.nx (setE (wipeE ρ kill) (slots s))) : DS ρ (tWhile c tb) W :=
  ds_while (fun s => setE (wipeE ρ kill) (slots s)) J μ s0 h0.le j0 b hc (fun s h1 h2 => fun A H0 S H σ Fs D e k1 k2 => hs s h1 h2 A H0 S H σ Fs D e (fun ρ' S' H' σ' Fs' ⟨s', w1, w2, w3⟩ => k1 ρ' S' H' σ' Fs' ⟨s', w1, w2, w3.le⟩) k2) hd
/-- nothing that is reached -/
theorem ds_never (h : False) : DS ρ tNever W := h.elim
/-! ### defs by name -/
section
variable (P : Program) (w : World) (mg : Str → Option Value) (base : Heap)
/-- the def x stands with the text st -/
def Dfn (x : Str) (st : Stmt) (ps : List Str) : Prop := ∃ f fd, Fun Γ.K x x st f fd ∧ mg x = some (.ref f) ∧ PySem.W.keepIn Γ.K (.ref f) = true ∧ Binds Γ.K fd ps []
/-- .. and keeps its promise -/
def Cal (x : Str) (k : Nat) (ps : List Str) (sp : Sp) : Prop := ∃ f fd, FnOk P w Γ.K mg base CX0 k f fd ps sp ∧ mg x = some (.ref f) ∧ PySem.W.keepIn Γ.K (.ref f) = true ∧ Binds Γ.K fd ps []
end
theorem cal_of {P : Program} {w : World} {mg : Str → Option Value} {base : Heap} {x : Str} {st : Stmt} {k : Nat} {ps : List Str} {sp : Sp} (d : Dfn mg x st ps) (h : ∀ f fd, Fun Γ.K x x st f fd → FnOk P w Γ.K mg base CX0 k f fd ps sp) : Cal P w mg base x k ps sp := by
  obtain ⟨f, fd, F, h1, h2, h3⟩ := d
  exact ⟨f, fd, h f fd F, h1, h2, h3⟩
/-- the built-in names are still the built-in ones -/
structure Blt (mg : Str → Option Value) : Prop where
  len : mg "len" = none
  range : mg "range" = none
  zip : mg "zip" = none
  list : mg "list" = none
  enumerate : mg "enumerate" = none
  int : mg "int" = none
  bool : mg "bool" = none
  str : mg "str" = none
  tuple : mg "tuple" = none
  reversed : mg "reversed" = none
  any : mg "any" = none
  all : mg "all" = none
  sum : mg "sum" = none
  abs : mg "abs" = none
  min : mg "min" = none
  max : mg "max" = none
  isinstance : mg "isinstance" = none
  set : mg "set" = none
  verr : mg "ValueError" = none
end
end G

namespace G
open PySem L2
theorem ixN_nat {n k : Nat} (h : k < n) : ixN n (k : Int) = some k := by
  unfold ixN
  rw [if_pos (by omega), if_pos (by omega), Int.toNat_natCast]
theorem mul_ok {a b : Int} {n m : Nat} (ha : a.natAbs < 2 ^ n) (hb : b.natAbs < 2 ^ m) (h : n + m ≤ 900000) : IntMulOk a b :=
  (wide_mul (a := n + 1) (b := m + 1) (Nat.lt_of_lt_of_le ha (Nat.pow_le_pow_right (by decide) (by omega))) (Nat.lt_of_lt_of_le hb (Nat.pow_le_pow_right (by decide) (by omega))) (by omega) (by omega) (by omega)).ok
section
variable [Γ : Ctx] {ρ ρ' : En} {α β γ δ ε ι : Type} {W : Wn}
theorem dr_lens {ta : TE} {x : PySem.Str} (h : DR ρ ta (sh x)) (hl : x.length ≤ sizeLine) : DR ρ (tCB (fun xs H Q => ∃ z, xs = [.str z] ∧ z.length ≤ sizeLine ∧ Q (.int z.length) H) (tCons ta tNil)) (sh (x.length : Int)) :=
  dr_cb (da_sh h da_nil) fun S H vs Q i p k => by
    obtain ⟨v, rfl, q⟩ := pr1 p
    exact ⟨x, by rw [q.1]; rfl, hl, k _ S H [] (Grow.refl i) ⟨rfl, rfl⟩ (fun q h => nomatch h)⟩
theorem gv_three {K : PySem.W.Frag} {i j l : Nat} {vs : List Nat} (h : i ∈ vs) (h' : j ∈ vs) (h'' : l ∈ vs) : GV (gTup K 3 (gCons (gName i) (gCons (gName j) (gCons (gName l) gNil)))) vs := fun v σ H Q q => by
  obtain ⟨a, xs, e1, e2, e3, x, r, e4, y, r', e5, z, r2, e6, e7, q⟩ := q
  exact ⟨a, xs, e1, e2, e3, x, r, e4, y, r', e5, z, r2, e6, e7, by show L2.wipe _ _ = _; rw [wipe_set h'', wipe_set h', wipe_set h], q⟩
/-- t[k], t a tuple told -/
theorem dr_tix20 [Enc α] [Enc β] {K : PySem.W.Frag} {ta : TE} {c : α × β} (hK : K = Γ.K) (h : DR ρ ta (sh c)) : DR ρ (tOp (rIxT K) ta (tC (.int 0))) (sh c.1) :=
  dr_op shF shF h (dr_const (a := (0 : Int))) fun S H x y Q s p1 p2 k => by
    obtain ⟨⟨p, u, v, rfl, h2, h3, h4⟩, _⟩ := p1
    exact ⟨p, [u, v], 0, u, rfl, p2.1, hK ▸ same_tup s h2, rfl, k u S H [] (Grow.refl s) ⟨h3, rfl⟩ (fun q h => nomatch h)⟩
theorem dr_tix21 [Enc α] [Enc β] {K : PySem.W.Frag} {ta : TE} {c : α × β} (hK : K = Γ.K) (h : DR ρ ta (sh c)) : DR ρ (tOp (rIxT K) ta (tC (.int 1))) (sh c.2) :=
  dr_op shF shF h (dr_const (a := (1 : Int))) fun S H x y Q s p1 p2 k => by
    obtain ⟨⟨p, u, v, rfl, h2, h3, h4⟩, _⟩ := p1
    exact ⟨p, [u, v], 1, v, rfl, p2.1, hK ▸ same_tup s h2, rfl, k v S H [] (Grow.refl s) ⟨h4, rfl⟩ (fun q h => nomatch h)⟩
/-- f(..).append(e): the list just made goes -/
theorem ds_tmpapp [Enc α] {K : PySem.W.Frag} {l : List α} {a : α} {to te : TE} (hK : K = Γ.K) (ho : DR ρ to (ow l)) (he : DR ρ te (sh a)) (hl : l.length < sizeLine) (k : W.nx ρ) :
    DS ρ (tDrop (tBM K "list" rAppend to (tCons te tNil))) W := fun A H0 S H σ Fs D e k1 k2 =>
  ho A H0 S H σ Fs _ e fun v S1 H1 F g1 p1 hF => by
    obtain ⟨p, xs, rfl, hf, h3, h4⟩ := p1
    have hp := hF p (by rw [hf]; exact List.mem_singleton.mpr rfl)
    refine ⟨.inl ⟨rfl, _, SqL.of h3⟩, he A H0 S1 H1 σ Fs _ (e.grow g1) fun u S2 H2 F2 g2 q _ => ?_⟩
    refine ⟨p, xs, u, rfl, rfl, g2.h _ _ h3, by rw [paired_len h4]; exact hl, ?_⟩
    have g := g1.trans g2
    have d2 : S2 p = none := g2.off hp.2 h3
    exact k1 _ _ _ _ _ k g.s (e.grow (lc_put g hp.1 d2))
theorem ds_augadd {i : Nat} {te : TE} {x y : Int} (h : ρ[i]? = some (some (sh x))) (he : DR ρ te (sh y)) (k : W.nx (ρ.set i (some (sh (x + y))))) : DS ρ (tAug i te (ipI fun i j => i + j)) W := fun A H0 S H σ Fs D e k1 k2 => by
  obtain ⟨v, h1, h2⟩ := e.sl i _ h
  refine ⟨v, h1, he A H0 S H σ Fs _ e fun u S' H' F g p _ => ⟨x, y, h2.1, p.1, ?_⟩⟩
  exact k1 _ _ _ _ _ k g.s (e.put (s := sh (x + y)) g (List.getElem?_eq_some_iff.mp h).1 ⟨rfl, rfl⟩ (fun q h => nomatch h) (fun q h => nomatch h))
/-- a slot's value by what is known of it -/
theorem ds_abs [Enc α] {t : TS} {i : Nat} {a : α} (P : α → Prop) (h : ρ[i]? = some (some (sh a))) (hp : P a) (k : ∀ a, P a → DS (ρ.set i (some (sh a))) t W) : DS ρ t W := by
  have e : ρ.set i (some (sh a)) = ρ := by
    apply List.ext_getElem?
    intro j
    by_cases c : i = j
    · subst c
      rw [List.getElem?_set_self (List.getElem?_eq_some_iff.mp h).1, h]
    · rw [List.getElem?_set_ne c]
  have := k a hp
  rw [e] at this
  exact this
theorem ds_abso [Enc α] {t : TS} {i : Nat} {a : List α} (P : List α → Prop) (h : ρ[i]? = some (some (ow a))) (hp : P a) (k : ∀ a, P a → DS (ρ.set i (some (ow a))) t W) : DS ρ t W := by
  have e : ρ.set i (some (ow a)) = ρ := by
    apply List.ext_getElem?
    intro j
    by_cases c : i = j
    · subst c
      rw [List.getElem?_set_self (List.getElem?_eq_some_iff.mp h).1, h]
    · rw [List.getElem?_set_ne c]
  have := k a hp
  rw [e] at this
  exact this
end
/-! ### the law's own promise -/
def spL (K : PySem.W.Frag) : Sp := fun vs H Q _ => ∃ (a : Addr) (ns : List Int), vs = [.ref a] ∧ SqL K H a (ns.map V.int) ∧ ns.length ≤ 63 ∧ ∀ H', Q (.bl true) H'
theorem law_imp [Γ : Ctx] {f : List Int → Wf} (hp : ∀ ns : List Int, ns.length ≤ 63 → (f ns).pre) (hr : ∀ ns : List Int, (f ns).r = sh true) : ∀ vs H Q E, spL Γ.K vs H Q E → sp1 f vs H Q E := fun vs H Q E ⟨a, ns, h1, h2, h3, h4⟩ =>
  ⟨H, .ref a, ns, h1, Same.refl _, ⟨a, ns.map V.int, rfl, h2, scal_paired (H := H) ns⟩, hp ns h3, fun S' H' u F g p _ => by
    rw [hr ns] at p
    have e : u = .bl true := p.1
    rw [e]
    exact h4 H'⟩
theorem walk_law {l : PySem.W.OpenLaw} {q : Program} {loose : List Str} {XP : (Str → Option Value) → Heap → Prop} {YP : World → Heap → Prop} {d : DefRec} {K : Params → PySem.W.Frag} {k : Nat} (hn : l.most = some 63) (hdf : d.params.defaults = []) (hr : Room k callerA)
    (hY : ∀ (w : World) (h : Heap), YP w h → (K w.params).In h)
    (F : ∀ (w : World) (mg : Str → Option Value) (fa : Addr) (h : Heap), (K w.params).In h → h.Ns mainGlobals mg → mg d.name = some (.ref fa) →
      ∃ fd : FuncData, (∀ (s : Shared) (u : Value), BindsTo s fd ⟨[u], []⟩ [("_law_script", u)]) ∧ ∀ base : Heap, (K w.params).In base → base.Ns mainGlobals mg → FnOk l.prog w (K w.params) mg base CX0 k fa fd ["_law_script"] (spL (K w.params))) :
    PySem.W.WalkO q loose XP YP l.row.toRowW d [] (fun f vs => PySem.call f vs) :=
  L2.walk_of (n := 63) (k := k) (x := "_law_script") (CX := fun _ => CX0) (sp := fun w => spL (K w.params)) hn (by decide) hdf hr hY F (fun _ _ a ns hl _ hS => ⟨a, ns, rfl, hS, hl, fun _ => rfl⟩) fun _ _ _ _ _ z => z
/-! ### slices by takes and drops -/
theorem cut_to {α : Type} (l : List α) {i : Int} (h : 0 ≤ i) : cut l none (some i) = l.take i.toNat := by
  obtain ⟨k, rfl⟩ : ∃ k : Nat, i = k := ⟨i.toNat, by omega⟩
  unfold cut
  rw [HT.sIx_none, HT.sIx_nat, List.drop_zero, Nat.sub_zero, Int.toNat_natCast]
  rcases Nat.le_total k l.length with c | c
  · rw [Nat.min_eq_left c]
  · rw [Nat.min_eq_right c, List.take_of_length_le (Nat.le_refl _), List.take_of_length_le c]
theorem cut_from {α : Type} (l : List α) {i : Int} (h : 0 ≤ i) : cut l (some i) none = l.drop i.toNat := by
  obtain ⟨k, rfl⟩ : ∃ k : Nat, i = k := ⟨i.toNat, by omega⟩
  unfold cut
  rw [HT.sIx_none, HT.sIx_nat, Int.toNat_natCast]
  rcases Nat.le_total k l.length with c | c
  · rw [Nat.min_eq_left c, List.take_of_length_le (by rw [List.length_drop]; exact Nat.le_refl _)]
  · rw [Nat.min_eq_right c, Nat.sub_self, List.take_zero, List.drop_eq_nil_of_le c]
theorem cut_mid {α : Type} (l : List α) {i j : Int} (h : 0 ≤ i) (h' : 0 ≤ j) : cut l (some i) (some j) = (l.drop i.toNat).take (j.toNat - i.toNat) := by
  obtain ⟨k, rfl⟩ : ∃ k : Nat, i = k := ⟨i.toNat, by omega⟩
  obtain ⟨m, rfl⟩ : ∃ k : Nat, j = k := ⟨j.toNat, by omega⟩
  unfold cut
  rw [HT.sIx_nat, HT.sIx_nat, Int.toNat_natCast, Int.toNat_natCast]
  rcases Nat.le_total k l.length with c | c
  · rw [Nat.min_eq_left c]
    rcases Nat.le_total m l.length with c' | c'
    · rw [Nat.min_eq_left c']
    · rw [Nat.min_eq_right c', List.take_of_length_le (by rw [List.length_drop]; exact Nat.le_refl _), List.take_of_length_le (by rw [List.length_drop]; omega)]
  · rw [Nat.min_eq_right c, List.drop_eq_nil_of_le (Nat.le_refl _), List.drop_eq_nil_of_le c, List.take_nil, List.take_nil]
end G

namespace G.k01
open PySem L2 G
def topS (i : Nat) : Stmt := PySem.Challenge.pw_swapbook_k01_sums_and_products.main.body.getD i (.Pass ⟨0, 0, 0, 0⟩)

theorem zip_mem {one other : List Int} {k : Nat} (h : one.length = other.length) (hk : k < one.length) : (nth one (k : Int), nth other (k : Int)) ∈ one.zip other := by
  rw [nth_nat, nth_nat, List.getD_eq_getElem?_getD, List.getD_eq_getElem?_getD, List.getElem?_eq_getElem hk, List.getElem?_eq_getElem (h ▸ hk)]
  rw [List.mem_iff_getElem]
  exact ⟨k, by rw [List.length_zip]; omega, by rw [List.getElem_zip]; rfl⟩
theorem fold_zip : ∀ (one other : List Int) (t : Int), one.length = other.length → (List.range one.length).foldl (fun t k => t + nth one ((k : Nat) : Int) * nth other ((k : Nat) : Int)) t = t + ((one.zip other).map fun p => p.1 * p.2).sum
  | [], [], t, _ => by simp
  | a :: l, b :: l', t, h => by
    rw [List.length_cons, List.range_succ_eq_map, List.foldl_cons, List.foldl_map]
    have ih := fold_zip l l' (t + a * b) (by simpa using h)
    rw [List.zip_cons_cons, List.map_cons, List.sum_cons]
    have e : ∀ (k : Nat) (x : Int) (l : List Int), nth (x :: l) ((k.succ : Nat) : Int) = nth l ((k : Nat) : Int) := fun k x l => by rw [nth_nat, nth_nat]; rfl
    simp only [e]
    have e0 : nth (a :: l) ((0 : Nat) : Int) * nth (b :: l') ((0 : Nat) : Int) = a * b := by rw [nth_nat, nth_nat]; rfl
    rw [e0, ih]
    omega

section
variable [Γ : Ctx] {P : Program} {w : World} {mg : Str → Option Value} {base : Heap}

abbrev s_look_alike : Stmt := topS 4
theorem sc_look_alike : FnScope ["one", "other"] ["one", "other"] (defScope s_look_alike) := ⟨rfl, rfl, rfl, by decide +kernel, rfl, by decide +kernel, by decide +kernel⟩
def v_look_alike (one : List Int) (other : List Int) : Unit := ()
def w_look_alike (one : List Int) (other : List Int) : Wf := ⟨one.length = other.length, sh (v_look_alike one other)⟩
theorem okF_look_alike {f : Addr} {fd : FuncData} (F : Fun Γ.K "look_alike" "look_alike" s_look_alike f fd) (B : Blt mg)   : FnOk P w Γ.K mg base CX0 1 f fd ["one", "other"] (sp2 w_look_alike) := by
  have SC := sc_look_alike
  refine fn2 F SC fun cdv A outer s H E hr => ⟨_, (pss_one (ps_if (pt_cmpR op_ne (pe_callB call_len_seq (by rfl) B.len PySem.boot_len (pa_cons (pv 0) pa_nil)) (pe_callB call_len_seq (by rfl) B.len PySem.boot_len (pa_cons (pv 1) pa_nil)) (nomark _)) pss_never pss_nil)), ?_⟩
  intro one other hp
  have hp : one.length = other.length := hp
  show DS [some (sh one), some (sh other)] _ _
  refine ds_if (dt_of (dr_ne2 (dr_len rfl (dr_bo (dr_var rfl))) (dr_len rfl (dr_bo (dr_var rfl))))) (fun hc => ?_) (fun hc => ?_)
  · skip
    exact ds_never (by simp at hc; omega)
  · try simp only [id, decide_eq_true_eq, decide_eq_false_iff_not, Bool.and_eq_true, Bool.or_eq_true, Bool.and_eq_false_iff, Bool.or_eq_false_iff, Bool.not_eq_true', Bool.not_eq_false', ne_eq, Decidable.not_not, Bool.true_eq_false, Bool.false_eq_true, false_or, or_false, true_and, and_true, not_false_eq_true, not_true_eq_false] at hc
    refine ds_next ?_
    rfl
theorem ok_look_alike (D : Dfn mg "look_alike" s_look_alike ["one", "other"]) (B : Blt mg)   : Cal P w mg base "look_alike" 1 ["one", "other"] (sp2 w_look_alike) := cal_of D fun f fd F => okF_look_alike F B  
abbrev s_plus : Stmt := topS 5
theorem sc_plus : FnScope ["one", "other", "left", "right"] ["one", "other"] (defScope s_plus) := ⟨rfl, rfl, rfl, by decide +kernel, rfl, by decide +kernel, by decide +kernel⟩
def v_plus (one : List Int) (other : List Int) : List Int := (one.zip other).map fun p => p.1 + p.2
def w_plus (one : List Int) (other : List Int) : Wf := ⟨one.length = other.length, ow (v_plus one other)⟩
theorem okF_plus {f : Addr} {fd : FuncData} (F : Fun Γ.K "plus" "plus" s_plus f fd) (B : Blt mg) (C_look_alike : Cal P w mg base "look_alike" 1 ["one", "other"] (sp2 w_look_alike))  : FnOk P w Γ.K mg base CX0 2 f fd ["one", "other"] (sp2 w_plus) := by
  obtain ⟨f_look_alike, fd_look_alike, G_look_alike, m_look_alike, k_look_alike, b_look_alike⟩ := C_look_alike
  have SC := sc_plus
  refine fn2 F SC fun cdv A outer s H E hr => ⟨_, (pss_cons (ps_expr (pe_call G_look_alike (hr.mono (by decide)) rfl m_look_alike k_look_alike b_look_alike .nil pass0 (pa_cons (pv 0) (pa_cons (pv 1) pa_nil)))) (pss_one (ps_ret (pe_lc (own := [("left", 2), ("right", 3)]) (g := (gTup Γ.K 2 (gCons (gName 2) (gCons (gName 3) gNil)))) (tt := tYes) rfl SC.nd (pi_zip rfl B.zip (pa_cons (pe_lok (pv 0)) (pa_cons (pv 1) pa_nil))) (blkOk_by (N := ["one", "other", "left", "right"]) (sc := (defScope s_plus)) (by decide +kernel)) (fun _ _ _ _ _ => (pg_tup rfl (pgs_cons (pg_name (i := 2) SC.nd rfl (Or.inl rfl)) (pgs_cons (pg_name (i := 3) SC.nd rfl (Or.inl rfl)) pgs_nil)))) (fun _ _ _ _ _ => pts_nil) (fun _ _ _ _ _ => (pe_op op_add (pv 2) (pv 3))))))), ?_⟩
  intro one other hp
  have hp : one.length = other.length := hp
  show DS [some (sh one), some (sh other), none, none] _ _
  refine ds_seq ?_
  refine ds_drop (dr_call2 (da_sh (dr_var rfl) (da_sh (dr_var rfl) da_nil)) (by first | exact hp | (dsimp only [w_look_alike]; first | omega | assumption))) ?_
  show DS _ _ _
  try simp only [setE, wipeE, List.set_cons_zero, List.set_cons_succ]
  refine ds_ret (dr_lc0 (DI.weak (di_zips rfl (dr_var rfl) (dr_var rfl))) (gv_two (by decide) (by decide)) (fun x hx => (dg_pr rfl (by exact of_decide_eq_true rfl) (by exact of_decide_eq_true rfl))) (fun x hx => (dr_add (dr_var rfl) (dr_var rfl)))) ?_
  refine congrArg (ow (α := Int)) (?_ : _ = ((one.zip other).map fun p => p.1 + p.2 : List Int))
  first | rfl | (simp_all; done)
theorem ok_plus (D : Dfn mg "plus" s_plus ["one", "other"]) (B : Blt mg) (C_look_alike : Cal P w mg base "look_alike" 1 ["one", "other"] (sp2 w_look_alike))  : Cal P w mg base "plus" 2 ["one", "other"] (sp2 w_plus) := cal_of D fun f fd F => okF_plus F B C_look_alike 
abbrev s_less : Stmt := topS 6
theorem sc_less : FnScope ["one", "other", "left", "right"] ["one", "other"] (defScope s_less) := ⟨rfl, rfl, rfl, by decide +kernel, rfl, by decide +kernel, by decide +kernel⟩
def v_less (one : List Int) (other : List Int) : List Int := (one.zip other).map fun p => p.1 - p.2
def w_less (one : List Int) (other : List Int) : Wf := ⟨one.length = other.length, ow (v_less one other)⟩
theorem okF_less {f : Addr} {fd : FuncData} (F : Fun Γ.K "less" "less" s_less f fd) (B : Blt mg) (C_look_alike : Cal P w mg base "look_alike" 1 ["one", "other"] (sp2 w_look_alike))  : FnOk P w Γ.K mg base CX0 2 f fd ["one", "other"] (sp2 w_less) := by
  obtain ⟨f_look_alike, fd_look_alike, G_look_alike, m_look_alike, k_look_alike, b_look_alike⟩ := C_look_alike
  have SC := sc_less
  refine fn2 F SC fun cdv A outer s H E hr => ⟨_, (pss_cons (ps_expr (pe_call G_look_alike (hr.mono (by decide)) rfl m_look_alike k_look_alike b_look_alike .nil pass0 (pa_cons (pv 0) (pa_cons (pv 1) pa_nil)))) (pss_one (ps_ret (pe_lc (own := [("left", 2), ("right", 3)]) (g := (gTup Γ.K 2 (gCons (gName 2) (gCons (gName 3) gNil)))) (tt := tYes) rfl SC.nd (pi_zip rfl B.zip (pa_cons (pe_lok (pv 0)) (pa_cons (pv 1) pa_nil))) (blkOk_by (N := ["one", "other", "left", "right"]) (sc := (defScope s_less)) (by decide +kernel)) (fun _ _ _ _ _ => (pg_tup rfl (pgs_cons (pg_name (i := 2) SC.nd rfl (Or.inl rfl)) (pgs_cons (pg_name (i := 3) SC.nd rfl (Or.inl rfl)) pgs_nil)))) (fun _ _ _ _ _ => pts_nil) (fun _ _ _ _ _ => (pe_op op_sub (pv 2) (pv 3))))))), ?_⟩
  intro one other hp
  have hp : one.length = other.length := hp
  show DS [some (sh one), some (sh other), none, none] _ _
  refine ds_seq ?_
  refine ds_drop (dr_call2 (da_sh (dr_var rfl) (da_sh (dr_var rfl) da_nil)) (by first | exact hp | (dsimp only [w_look_alike]; first | omega | assumption))) ?_
  show DS _ _ _
  try simp only [setE, wipeE, List.set_cons_zero, List.set_cons_succ]
  refine ds_ret (dr_lc0 (DI.weak (di_zips rfl (dr_var rfl) (dr_var rfl))) (gv_two (by decide) (by decide)) (fun x hx => (dg_pr rfl (by exact of_decide_eq_true rfl) (by exact of_decide_eq_true rfl))) (fun x hx => (dr_sub (dr_var rfl) (dr_var rfl)))) ?_
  refine congrArg (ow (α := Int)) (?_ : _ = ((one.zip other).map fun p => p.1 - p.2 : List Int))
  first | rfl | (simp_all; done)
theorem ok_less (D : Dfn mg "less" s_less ["one", "other"]) (B : Blt mg) (C_look_alike : Cal P w mg base "look_alike" 1 ["one", "other"] (sp2 w_look_alike))  : Cal P w mg base "less" 2 ["one", "other"] (sp2 w_less) := cal_of D fun f fd F => okF_less F B C_look_alike 
abbrev s_times : Stmt := topS 7
theorem sc_times : FnScope ["some", "many", "number"] ["some", "many"] (defScope s_times) := ⟨rfl, rfl, rfl, by decide +kernel, rfl, by decide +kernel, by decide +kernel⟩
def v_times (some_ : List Int) (many : Int) : List Int := some_.map fun x => x * many
def w_times (some_ : List Int) (many : Int) : Wf := ⟨∀ x ∈ some_, IntMulOk x many, ow (v_times some_ many)⟩
theorem okF_times {f : Addr} {fd : FuncData} (F : Fun Γ.K "times" "times" s_times f fd) (B : Blt mg)   : FnOk P w Γ.K mg base CX0 1 f fd ["some", "many"] (sp2 w_times) := by
  have SC := sc_times
  refine fn2 F SC fun cdv A outer s H E hr => ⟨_, (pss_one (ps_ret (pe_lc (own := [("number", 2)]) (g := (gName 2)) (tt := tYes) rfl SC.nd (pi_list (pe_lok (pv 0))) (blkOk_by (N := ["some", "many", "number"]) (sc := (defScope s_times)) (by decide +kernel)) (fun _ _ _ _ _ => (pg_name (i := 2) SC.nd rfl (Or.inl rfl))) (fun _ _ _ _ _ => pts_nil) (fun _ _ _ _ _ => (pe_op op_mulK (pv 2) (pv 1)))))), ?_⟩
  intro some_ many hp
  have hp : ∀ x ∈ some_, IntMulOk x many := hp
  show DS [some (sh some_), some (sh many), none] _ _
  refine ds_ret (dr_lc0 (DI.weak (di_sh rfl (dr_var rfl))) (gv_name (by decide)) (fun x hx => (dg_name (by exact of_decide_eq_true rfl))) (fun x hx => (dr_mul (dr_var rfl) (dr_var rfl) (by exact hp _ hx)))) ?_
  refine congrArg (ow (α := Int)) (?_ : _ = (some_.map fun x => x * many : List Int))
  first | rfl | (simp_all; done)
theorem ok_times (D : Dfn mg "times" s_times ["some", "many"]) (B : Blt mg)   : Cal P w mg base "times" 1 ["some", "many"] (sp2 w_times) := cal_of D fun f fd F => okF_times F B  
abbrev s_weighed : Stmt := topS 8
theorem sc_weighed : FnScope ["one", "other", "left", "right"] ["one", "other"] (defScope s_weighed) := ⟨rfl, rfl, rfl, by decide +kernel, rfl, by decide +kernel, by decide +kernel⟩
def v_weighed (one : List Int) (other : List Int) : Int := ((one.zip other).map fun p => p.1 * p.2).sum
def w_weighed (one : List Int) (other : List Int) : Wf := ⟨one.length = other.length ∧ ∀ p ∈ one.zip other, IntMulOk p.1 p.2, sh (v_weighed one other)⟩
theorem okF_weighed {f : Addr} {fd : FuncData} (F : Fun Γ.K "weighed" "weighed" s_weighed f fd) (B : Blt mg) (C_look_alike : Cal P w mg base "look_alike" 1 ["one", "other"] (sp2 w_look_alike))  : FnOk P w Γ.K mg base CX0 2 f fd ["one", "other"] (sp2 w_weighed) := by
  obtain ⟨f_look_alike, fd_look_alike, G_look_alike, m_look_alike, k_look_alike, b_look_alike⟩ := C_look_alike
  have SC := sc_weighed
  refine fn2 F SC fun cdv A outer s H E hr => ⟨_, (pss_cons (ps_expr (pe_call G_look_alike (hr.mono (by decide)) rfl m_look_alike k_look_alike b_look_alike .nil pass0 (pa_cons (pv 0) (pa_cons (pv 1) pa_nil)))) (pss_one (ps_ret (pe_callB (cr_sum rfl) (by rfl) B.sum (by decide +kernel) (pa_cons (pe_lc (own := [("left", 2), ("right", 3)]) (g := (gTup Γ.K 2 (gCons (gName 2) (gCons (gName 3) gNil)))) (tt := tYes) rfl SC.nd (pi_zip rfl B.zip (pa_cons (pe_lok (pv 0)) (pa_cons (pv 1) pa_nil))) (blkOk_by (N := ["one", "other", "left", "right"]) (sc := (defScope s_weighed)) (by decide +kernel)) (fun _ _ _ _ _ => (pg_tup rfl (pgs_cons (pg_name (i := 2) SC.nd rfl (Or.inl rfl)) (pgs_cons (pg_name (i := 3) SC.nd rfl (Or.inl rfl)) pgs_nil)))) (fun _ _ _ _ _ => pts_nil) (fun _ _ _ _ _ => (pe_op op_mulK (pv 2) (pv 3)))) pa_nil))))), ?_⟩
  intro one other hp
  have hp : one.length = other.length ∧ ∀ p ∈ one.zip other, IntMulOk p.1 p.2 := hp
  show DS [some (sh one), some (sh other), none, none] _ _
  refine ds_seq ?_
  refine ds_drop (dr_call2 (da_sh (dr_var rfl) (da_sh (dr_var rfl) da_nil)) (by exact hp.1)) ?_
  show DS _ _ _
  try simp only [setE, wipeE, List.set_cons_zero, List.set_cons_succ]
  refine ds_ret (dr_sum rfl (dr_owbo (dr_lc0 (DI.weak (di_zips rfl (dr_var rfl) (dr_var rfl))) (gv_two (by decide) (by decide)) (fun x hx => (dg_pr rfl (by exact of_decide_eq_true rfl) (by exact of_decide_eq_true rfl))) (fun x hx => (dr_mul (dr_var rfl) (dr_var rfl) (by exact hp.2 _ hx)))))) ?_
  refine congrArg (sh (α := Int)) (?_ : _ = (((one.zip other).map fun p => p.1 * p.2).sum : Int))
  first | rfl | (simp_all; done)
theorem ok_weighed (D : Dfn mg "weighed" s_weighed ["one", "other"]) (B : Blt mg) (C_look_alike : Cal P w mg base "look_alike" 1 ["one", "other"] (sp2 w_look_alike))  : Cal P w mg base "weighed" 2 ["one", "other"] (sp2 w_weighed) := cal_of D fun f fd F => okF_weighed F B C_look_alike 
abbrev s_law_whole : Stmt := topS 10
theorem sc_law_whole : FnScope ["_law_found"] ["_law_found"] (defScope s_law_whole) := ⟨rfl, rfl, rfl, by decide +kernel, rfl, by decide +kernel, by decide +kernel⟩
def v_law_whole (law_found : Int) : Bool := true
def w_law_whole (law_found : Int) : Wf := ⟨True, sh (v_law_whole law_found)⟩
theorem okF_law_whole {f : Addr} {fd : FuncData} (F : Fun Γ.K "_law_whole" "_law_whole" s_law_whole f fd) (B : Blt mg)   : FnOk P w Γ.K mg base CX0 1 f fd ["_law_found"] (sp1 w_law_whole) := by
  have SC := sc_law_whole
  refine fn1 F SC fun cdv A outer s H E hr => ⟨_, (pss_one (ps_ret (pe_and (pe_callB call_isi (by rfl) B.isinstance (by decide +kernel) (pa_cons (pv 0) (pa_cons (pe_bltn (v := .ty "int") (by rfl) B.int (by decide +kernel) rfl) pa_nil))) (pe_one (pe_not (pe_callB call_isi (by rfl) B.isinstance (by decide +kernel) (pa_cons (pv 0) (pa_cons (pe_bltn (v := .ty "bool") (by rfl) B.bool (by decide +kernel) rfl) pa_nil)))))))), ?_⟩
  intro law_found hp
  have hp : True := hp
  show DS [some (sh law_found)] _ _
  refine ds_ret (dr_and (dr_isi (b := true) rfl (dr_bo (dr_var rfl)) rfl (by exact (by decide +kernel : kitB "int" "int" = some true))) (fun hb => (dr_not (dr_isi (b := false) rfl (dr_bo (dr_var rfl)) rfl (by exact (by decide +kernel : kitB "int" "bool" = some false)))))) ?_
  refine congrArg (sh (α := Bool)) (?_ : _ = (true : Bool))
  first | rfl | (simp_all; done)
theorem ok_law_whole (D : Dfn mg "_law_whole" s_law_whole ["_law_found"]) (B : Blt mg)   : Cal P w mg base "_law_whole" 1 ["_law_found"] (sp1 w_law_whole) := cal_of D fun f fd F => okF_law_whole F B  
abbrev s_law_same : Stmt := topS 11
theorem sc_law_same : FnScope ["_law_found", "_law_due", "_law_one"] ["_law_found", "_law_due"] (defScope s_law_same) := ⟨rfl, rfl, rfl, by decide +kernel, rfl, by decide +kernel, by decide +kernel⟩
def v_law_same (law_found : List Int) (law_due : List Int) : Bool := decide (law_found = law_due)
def w_law_same (law_found : List Int) (law_due : List Int) : Wf := ⟨True, sh (v_law_same law_found law_due)⟩
theorem okF_law_same {f : Addr} {fd : FuncData} (F : Fun Γ.K "_law_same" "_law_same" s_law_same f fd) (B : Blt mg) (C_law_whole : Cal P w mg base "_law_whole" 1 ["_law_found"] (sp1 w_law_whole))  : FnOk P w Γ.K mg base CX0 2 f fd ["_law_found", "_law_due"] (sp2 w_law_same) := by
  obtain ⟨f_law_whole, fd_law_whole, G_law_whole, m_law_whole, k_law_whole, b_law_whole⟩ := C_law_whole
  have SC := sc_law_same
  refine fn2 F SC fun cdv A outer s H E hr => ⟨_, (pss_cons (ps_if (PW.pt (pw_or (pt_not (pt_val (pe_callB call_isi (by rfl) B.isinstance (by decide +kernel) (pa_cons (pv 0) (pa_cons (pe_bltn (v := .ty "list") (by rfl) B.list (by decide +kernel) rfl) pa_nil))))) (pw_or1 (pt_cmpR op_ne (pe_callB call_len_seq (by rfl) B.len PySem.boot_len (pa_cons (pv 0) pa_nil)) (pe_callB call_len_seq (by rfl) B.len PySem.boot_len (pa_cons (pv 1) pa_nil)) (nomark _))))) (pss_one (ps_ret pe_bl)) pss_nil) (pss_one (ps_ret (pe_and (pe_callB (cr_all rfl) (by rfl) B.all (by decide +kernel) (pa_cons (pe_lc (own := [("_law_one", 2)]) (g := (gName 2)) (tt := tYes) rfl SC.nd (pi_list (pe_lok (pv 0))) (blkOk_by (N := ["_law_found", "_law_due", "_law_one"]) (sc := (defScope s_law_same)) (by decide +kernel)) (fun _ _ _ _ _ => (pg_name (i := 2) SC.nd rfl (Or.inl rfl))) (fun _ _ _ _ _ => pts_nil) (fun _ _ _ _ _ => (pe_call G_law_whole (hr.mono (by decide)) rfl m_law_whole k_law_whole b_law_whole .nil pass0 (pa_cons (pv 2) pa_nil)))) pa_nil)) (pe_one (pe_cmpR (op_eqD hr.units) (pv 0) (pv 1) (nomark _))))))), ?_⟩
  intro law_found law_due hp
  have hp : True := hp
  show DS [some (sh law_found), some (sh law_due), none] _ _
  refine ds_seq ?_
  refine ds_if (dt_or (dt_not (dt_ofB (dr_isi (b := true) rfl (dr_bo (dr_var rfl)) rfl (by exact (by decide +kernel : kitB "list" "list" = some true))))) (fun hb => (dt_of (dr_ne2 (dr_len rfl (dr_bo (dr_var rfl))) (dr_len rfl (dr_bo (dr_var rfl))))))) (fun hc => ?_) (fun hc => ?_)
  · try simp only [id, decide_eq_true_eq, decide_eq_false_iff_not, Bool.and_eq_true, Bool.or_eq_true, Bool.and_eq_false_iff, Bool.or_eq_false_iff, Bool.not_eq_true', Bool.not_eq_false', ne_eq, Decidable.not_not, Bool.true_eq_false, Bool.false_eq_true, false_or, or_false, true_and, and_true, not_false_eq_true, not_true_eq_false] at hc
    refine ds_ret (dr_const (a := false)) ?_
    refine congrArg (sh (α := Bool)) (?_ : _ = (decide (law_found = law_due) : Bool))
    rw [decide_eq_false]; intro e; subst e; omega
  · try simp only [id, decide_eq_true_eq, decide_eq_false_iff_not, Bool.and_eq_true, Bool.or_eq_true, Bool.and_eq_false_iff, Bool.or_eq_false_iff, Bool.not_eq_true', Bool.not_eq_false', ne_eq, Decidable.not_not, Bool.true_eq_false, Bool.false_eq_true, false_or, or_false, true_and, and_true, not_false_eq_true, not_true_eq_false] at hc
    refine ds_next ?_
    show DS _ _ _
    try simp only [setE, wipeE, List.set_cons_zero, List.set_cons_succ]
    refine ds_ret (dr_and (dr_all rfl (dr_owbo (dr_lc0 (DI.weak (di_sh rfl (dr_var rfl))) (gv_name (by decide)) (fun x hx => (dg_name (by exact of_decide_eq_true rfl))) (fun x hx => (dr_call1 (da_sh (dr_var rfl) da_nil) (by exact trivial)))))) (fun hb => (dr_eqd rfl (dr_bo (dr_var rfl)) (dr_bo (dr_var rfl))))) ?_
    refine congrArg (sh (α := Bool)) (?_ : _ = (decide (law_found = law_due) : Bool))
    simp [v_law_whole]
theorem ok_law_same (D : Dfn mg "_law_same" s_law_same ["_law_found", "_law_due"]) (B : Blt mg) (C_law_whole : Cal P w mg base "_law_whole" 1 ["_law_found"] (sp1 w_law_whole))  : Cal P w mg base "_law_same" 2 ["_law_found", "_law_due"] (sp2 w_law_same) := cal_of D fun f fd F => okF_law_same F B C_law_whole 
abbrev s_law_at : Stmt := topS 12
theorem sc_law_at : FnScope ["_law_script", "_law_k"] ["_law_script", "_law_k"] (defScope s_law_at) := ⟨rfl, rfl, rfl, by decide +kernel, rfl, by decide +kernel, by decide +kernel⟩
def v_law_at (law_script : List Int) (law_k : Int) : Int := if law_k < law_script.length then nth law_script law_k else 0
def w_law_at (law_script : List Int) (law_k : Int) : Wf := ⟨0 ≤ law_k, sh (v_law_at law_script law_k)⟩
theorem okF_law_at {f : Addr} {fd : FuncData} (F : Fun Γ.K "_law_at" "_law_at" s_law_at f fd) (B : Blt mg)   : FnOk P w Γ.K mg base CX0 1 f fd ["_law_script", "_law_k"] (sp2 w_law_at) := by
  have SC := sc_law_at
  refine fn2 F SC fun cdv A outer s H E hr => ⟨_, (pss_cons (ps_if (pt_cmpR op_lt (pv 1) (pe_callB call_len_seq (by rfl) B.len PySem.boot_len (pa_cons (pv 0) pa_nil)) (nomark _)) (pss_one (ps_ret (pe_ix ix_list (pv 0) (pv 1) (fun _ _ => rfl)))) pss_nil) (pss_one (ps_ret pe_int))), ?_⟩
  intro law_script law_k hp
  have hp : 0 ≤ law_k := hp
  show DS [some (sh law_script), some (sh law_k)] _ _
  refine ds_seq ?_
  refine ds_if (dt_of (dr_lt (dr_var rfl) (dr_len rfl (dr_bo (dr_var rfl))))) (fun hc => ?_) (fun hc => ?_)
  · try simp only [id, decide_eq_true_eq, decide_eq_false_iff_not, Bool.and_eq_true, Bool.or_eq_true, Bool.and_eq_false_iff, Bool.or_eq_false_iff, Bool.not_eq_true', Bool.not_eq_false', ne_eq, Decidable.not_not, Bool.true_eq_false, Bool.false_eq_true, false_or, or_false, true_and, and_true, not_false_eq_true, not_true_eq_false] at hc
    refine ds_ret (dr_ix rfl (dr_var rfl) (dr_var rfl) (by exact atI_nth (by first | omega | (rw [sizeLine_eq]; omega) | (simp at *; omega)) (by first | omega | (rw [sizeLine_eq]; omega) | (simp at *; omega)))) ?_
    refine congrArg (sh (α := Int)) (?_ : _ = (if law_k < law_script.length then nth law_script law_k else 0 : Int))
    first | (rw [if_pos hc]; done) | (rw [if_neg hc]; done)
  · try simp only [id, decide_eq_true_eq, decide_eq_false_iff_not, Bool.and_eq_true, Bool.or_eq_true, Bool.and_eq_false_iff, Bool.or_eq_false_iff, Bool.not_eq_true', Bool.not_eq_false', ne_eq, Decidable.not_not, Bool.true_eq_false, Bool.false_eq_true, false_or, or_false, true_and, and_true, not_false_eq_true, not_true_eq_false] at hc
    refine ds_next ?_
    show DS _ _ _
    try simp only [setE, wipeE, List.set_cons_zero, List.set_cons_succ]
    refine ds_ret (dr_const (a := (0 : Int))) ?_
    refine congrArg (sh (α := Int)) (?_ : _ = (if law_k < law_script.length then nth law_script law_k else 0 : Int))
    first | (rw [if_pos hc]; done) | (rw [if_neg hc]; done)
theorem ok_law_at (D : Dfn mg "_law_at" s_law_at ["_law_script", "_law_k"]) (B : Blt mg)   : Cal P w mg base "_law_at" 1 ["_law_script", "_law_k"] (sp2 w_law_at) := cal_of D fun f fd F => okF_law_at F B  
abbrev s_law_number : Stmt := topS 13
theorem sc_law_number : FnScope ["_law_cell", "_law_most"] ["_law_cell", "_law_most"] (defScope s_law_number) := ⟨rfl, rfl, rfl, by decide +kernel, rfl, by decide +kernel, by decide +kernel⟩
def v_law_number (law_cell : Int) (law_most : Int) : Int := if law_cell % 2 = 1 then 0 - law_cell / 2 % law_most else law_cell / 2 % law_most
def w_law_number (law_cell : Int) (law_most : Int) : Wf := ⟨0 < law_most, sh (v_law_number law_cell law_most)⟩
theorem okF_law_number {f : Addr} {fd : FuncData} (F : Fun Γ.K "_law_number" "_law_number" s_law_number f fd) (B : Blt mg)   : FnOk P w Γ.K mg base CX0 1 f fd ["_law_cell", "_law_most"] (sp2 w_law_number) := by
  have SC := sc_law_number
  refine fn2 F SC fun cdv A outer s H E hr => ⟨_, (pss_cons (ps_if (pt_cmpR op_eq (pe_op op_mod (pv 0) pe_int) pe_int (nomark _)) (pss_one (ps_ret (pe_op op_sub pe_int (pe_op op_mod (pe_op op_fdiv (pv 0) pe_int) (pv 1))))) pss_nil) (pss_one (ps_ret (pe_op op_mod (pe_op op_fdiv (pv 0) pe_int) (pv 1))))), ?_⟩
  intro law_cell law_most hp
  have hp : 0 < law_most := hp
  show DS [some (sh law_cell), some (sh law_most)] _ _
  refine ds_seq ?_
  refine ds_if (dt_of (dr_eq2 (dr_mod (dr_var rfl) (dr_const (a := (2 : Int))) (by decide)) (dr_const (a := (1 : Int))))) (fun hc => ?_) (fun hc => ?_)
  · try simp only [id, decide_eq_true_eq, decide_eq_false_iff_not, Bool.and_eq_true, Bool.or_eq_true, Bool.and_eq_false_iff, Bool.or_eq_false_iff, Bool.not_eq_true', Bool.not_eq_false', ne_eq, Decidable.not_not, Bool.true_eq_false, Bool.false_eq_true, false_or, or_false, true_and, and_true, not_false_eq_true, not_true_eq_false] at hc
    refine ds_ret (dr_sub (dr_const (a := (0 : Int))) (dr_mod (dr_div (dr_var rfl) (dr_const (a := (2 : Int))) ⟨by decide, by decide⟩) (dr_var rfl) (by first | omega | (rw [sizeLine_eq]; omega) | (simp at *; omega)))) ?_
    refine congrArg (sh (α := Int)) (?_ : _ = (if law_cell % 2 = 1 then 0 - law_cell / 2 % law_most else law_cell / 2 % law_most : Int))
    first | (rw [if_pos hc]; done) | (rw [if_neg hc]; done)
  · try simp only [id, decide_eq_true_eq, decide_eq_false_iff_not, Bool.and_eq_true, Bool.or_eq_true, Bool.and_eq_false_iff, Bool.or_eq_false_iff, Bool.not_eq_true', Bool.not_eq_false', ne_eq, Decidable.not_not, Bool.true_eq_false, Bool.false_eq_true, false_or, or_false, true_and, and_true, not_false_eq_true, not_true_eq_false] at hc
    refine ds_next ?_
    show DS _ _ _
    try simp only [setE, wipeE, List.set_cons_zero, List.set_cons_succ]
    refine ds_ret (dr_mod (dr_div (dr_var rfl) (dr_const (a := (2 : Int))) ⟨by decide, by decide⟩) (dr_var rfl) (by first | omega | (rw [sizeLine_eq]; omega) | (simp at *; omega))) ?_
    refine congrArg (sh (α := Int)) (?_ : _ = (if law_cell % 2 = 1 then 0 - law_cell / 2 % law_most else law_cell / 2 % law_most : Int))
    first | (rw [if_pos hc]; done) | (rw [if_neg hc]; done)
theorem ok_law_number (D : Dfn mg "_law_number" s_law_number ["_law_cell", "_law_most"]) (B : Blt mg)   : Cal P w mg base "_law_number" 1 ["_law_cell", "_law_most"] (sp2 w_law_number) := cal_of D fun f fd F => okF_law_number F B  
abbrev s_law_good : Stmt := topS 14
theorem sc_law_good : FnScope ["_law_one", "_law_other", "_law_many", "_law_made", "_law_total", "_law_k", "_law_found", "_law_left", "_law_right", "_law_number_here"] ["_law_one", "_law_other", "_law_many"] (defScope s_law_good) := ⟨rfl, rfl, rfl, by decide +kernel, rfl, by decide +kernel, by decide +kernel⟩
def v_law_good (law_one : List Int) (law_other : List Int) (law_many : Int) : Bool := true
def w_law_good (law_one : List Int) (law_other : List Int) (law_many : Int) : Wf := ⟨law_one.length = law_other.length ∧ (∀ x ∈ law_one, IntMulOk x law_many) ∧ (∀ p ∈ law_one.zip law_other, IntMulOk p.1 p.2) ∧ law_one.length ≤ 63, sh (v_law_good law_one law_other law_many)⟩
theorem okF_law_good {f : Addr} {fd : FuncData} (F : Fun Γ.K "_law_good" "_law_good" s_law_good f fd) (B : Blt mg) (C_law_same : Cal P w mg base "_law_same" 2 ["_law_found", "_law_due"] (sp2 w_law_same)) (C_plus : Cal P w mg base "plus" 2 ["one", "other"] (sp2 w_plus)) (C_less : Cal P w mg base "less" 2 ["one", "other"] (sp2 w_less)) (C_times : Cal P w mg base "times" 1 ["some", "many"] (sp2 w_times)) (C_weighed : Cal P w mg base "weighed" 2 ["one", "other"] (sp2 w_weighed)) (C_law_whole : Cal P w mg base "_law_whole" 1 ["_law_found"] (sp1 w_law_whole))  : FnOk P w Γ.K mg base CX0 3 f fd ["_law_one", "_law_other", "_law_many"] (sp3 w_law_good) := by
  obtain ⟨f_law_same, fd_law_same, G_law_same, m_law_same, k_law_same, b_law_same⟩ := C_law_same
  obtain ⟨f_plus, fd_plus, G_plus, m_plus, k_plus, b_plus⟩ := C_plus
  obtain ⟨f_less, fd_less, G_less, m_less, k_less, b_less⟩ := C_less
  obtain ⟨f_times, fd_times, G_times, m_times, k_times, b_times⟩ := C_times
  obtain ⟨f_weighed, fd_weighed, G_weighed, m_weighed, k_weighed, b_weighed⟩ := C_weighed
  obtain ⟨f_law_whole, fd_law_whole, G_law_whole, m_law_whole, k_law_whole, b_law_whole⟩ := C_law_whole
  have SC := sc_law_good
  refine fn3 F SC fun cdv A outer s H E hr => ⟨_, (pss_cons (ps_setLc (i := 3) (own := [("_law_left", 7), ("_law_right", 8)]) (g := (gTup Γ.K 2 (gCons (gName 7) (gCons (gName 8) gNil)))) (tt := tYes) rfl SC.nd rfl rfl (sw_true rfl rfl rfl (by decide +kernel)) (pi_zip rfl B.zip (pa_cons (pe_lok (pv 0)) (pa_cons (pv 1) pa_nil))) (blkOk_by (N := ["_law_one", "_law_other", "_law_many", "_law_made", "_law_total", "_law_k", "_law_found", "_law_left", "_law_right", "_law_number_here"]) (sc := (defScope s_law_good)) (by decide +kernel)) (fun _ _ _ _ _ => (pg_tup rfl (pgs_cons (pg_name (i := 7) SC.nd rfl (Or.inl rfl)) (pgs_cons (pg_name (i := 8) SC.nd rfl (Or.inl rfl)) pgs_nil)))) (fun _ _ _ _ _ => pts_nil) (fun _ _ _ _ _ => (pe_op op_add (pv 7) (pv 8)))) (pss_cons (ps_if (pt_not (pt_val (pe_call G_law_same (hr.mono (by decide)) rfl m_law_same k_law_same b_law_same .nil pass0 (pa_cons (pe_call G_plus (hr.mono (by decide)) rfl m_plus k_plus b_plus .nil pass0 (pa_cons (pv 0) (pa_cons (pv 1) pa_nil))) (pa_cons (pv 3) pa_nil))))) pss_never pss_nil) (pss_cons (ps_setLc (i := 3) (own := [("_law_left", 7), ("_law_right", 8)]) (g := (gTup Γ.K 2 (gCons (gName 7) (gCons (gName 8) gNil)))) (tt := tYes) rfl SC.nd rfl rfl (sw_true rfl rfl rfl (by decide +kernel)) (pi_zip rfl B.zip (pa_cons (pe_lok (pv 0)) (pa_cons (pv 1) pa_nil))) (blkOk_by (N := ["_law_one", "_law_other", "_law_many", "_law_made", "_law_total", "_law_k", "_law_found", "_law_left", "_law_right", "_law_number_here"]) (sc := (defScope s_law_good)) (by decide +kernel)) (fun _ _ _ _ _ => (pg_tup rfl (pgs_cons (pg_name (i := 7) SC.nd rfl (Or.inl rfl)) (pgs_cons (pg_name (i := 8) SC.nd rfl (Or.inl rfl)) pgs_nil)))) (fun _ _ _ _ _ => pts_nil) (fun _ _ _ _ _ => (pe_op op_sub (pv 7) (pv 8)))) (pss_cons (ps_if (pt_not (pt_val (pe_call G_law_same (hr.mono (by decide)) rfl m_law_same k_law_same b_law_same .nil pass0 (pa_cons (pe_call G_less (hr.mono (by decide)) rfl m_less k_less b_less .nil pass0 (pa_cons (pv 0) (pa_cons (pv 1) pa_nil))) (pa_cons (pv 3) pa_nil))))) pss_never pss_nil) (pss_cons (ps_if (pt_not (pt_val (pe_call G_law_same (hr.mono (by decide)) rfl m_law_same k_law_same b_law_same .nil pass0 (pa_cons (pe_call G_times (hr.mono (by decide)) rfl m_times k_times b_times .nil pass0 (pa_cons (pv 0) (pa_cons (pv 2) pa_nil))) (pa_cons (pe_lc (own := [("_law_number_here", 9)]) (g := (gName 9)) (tt := tYes) rfl SC.nd (pi_list (pe_lok (pv 0))) (blkOk_by (N := ["_law_one", "_law_other", "_law_many", "_law_made", "_law_total", "_law_k", "_law_found", "_law_left", "_law_right", "_law_number_here"]) (sc := (defScope s_law_good)) (by decide +kernel)) (fun _ _ _ _ _ => (pg_name (i := 9) SC.nd rfl (Or.inl rfl))) (fun _ _ _ _ _ => pts_nil) (fun _ _ _ _ _ => (pe_op op_mulK (pv 9) (pv 2)))) pa_nil))))) pss_never pss_nil) (pss_cons (ps_set (i := 4) SC.nd rfl (Or.inl rfl) pe_int) (pss_cons (ps_for PassesOwn.never rfl (pi_range1 rfl B.range (pa_cons (pe_callB call_len_seq (by rfl) B.len PySem.boot_len (pa_cons (pv 0) pa_nil)) pa_nil)) (pg_name (i := 5) SC.nd rfl (Or.inl rfl)) (pss_one (ps_set (i := 4) SC.nd rfl (Or.inl rfl) (pe_op op_add (pv 4) (pe_op op_mulK (pe_ix ix_list (pv 0) (pv 5) (fun _ _ => rfl)) (pe_ix ix_list (pv 1) (pv 5) (fun _ _ => rfl))))))) (pss_cons (ps_set (i := 6) SC.nd rfl (Or.inl rfl) (pe_call G_weighed (hr.mono (by decide)) rfl m_weighed k_weighed b_weighed .nil pass0 (pa_cons (pv 0) (pa_cons (pv 1) pa_nil)))) (pss_one (ps_ret (pe_and (pe_call G_law_whole (hr.mono (by decide)) rfl m_law_whole k_law_whole b_law_whole .nil pass0 (pa_cons (pv 6) pa_nil)) (pe_one (pe_cmpR op_eq (pv 6) (pv 4) (nomark _)))))))))))))), ?_⟩
  intro law_one law_other law_many hp
  have hp : law_one.length = law_other.length ∧ (∀ x ∈ law_one, IntMulOk x law_many) ∧ (∀ p ∈ law_one.zip law_other, IntMulOk p.1 p.2) ∧ law_one.length ≤ 63 := hp
  show DS [some (sh law_one), some (sh law_other), some (sh law_many), none, none, none, none, none, none, none] _ _
  refine ds_seq ?_
  refine ds_setsh (dr_frz (dr_lc0 (DI.weak (di_zips rfl (dr_var rfl) (dr_var rfl))) (gv_two (by decide) (by decide)) (fun x hx => (dg_pr rfl (by exact of_decide_eq_true rfl) (by exact of_decide_eq_true rfl))) (fun x hx => (dr_add (dr_var rfl) (dr_var rfl))))) (by exact of_decide_eq_true rfl) ?_
  show DS _ _ _
  try simp only [setE, wipeE, List.set_cons_zero, List.set_cons_succ]
  refine ds_seq ?_
  refine ds_if (dt_not (dt_ofB (dr_call2 (da_sh (dr_frz (dr_call2 (da_sh (dr_var rfl) (da_sh (dr_var rfl) da_nil)) (by exact hp.1))) (da_sh (dr_var rfl) da_nil)) (by exact trivial)))) (fun hc => ?_) (fun hc => ?_)
  · skip
    exact ds_never (by simp [v_law_same, v_plus] at hc)
  · try simp only [id, decide_eq_true_eq, decide_eq_false_iff_not, Bool.and_eq_true, Bool.or_eq_true, Bool.and_eq_false_iff, Bool.or_eq_false_iff, Bool.not_eq_true', Bool.not_eq_false', ne_eq, Decidable.not_not, Bool.true_eq_false, Bool.false_eq_true, false_or, or_false, true_and, and_true, not_false_eq_true, not_true_eq_false] at hc
    refine ds_next ?_
    show DS _ _ _
    try simp only [setE, wipeE, List.set_cons_zero, List.set_cons_succ]
    refine ds_seq ?_
    refine ds_setsh (dr_frz (dr_lc0 (DI.weak (di_zips rfl (dr_var rfl) (dr_var rfl))) (gv_two (by decide) (by decide)) (fun x hx => (dg_pr rfl (by exact of_decide_eq_true rfl) (by exact of_decide_eq_true rfl))) (fun x hx => (dr_sub (dr_var rfl) (dr_var rfl))))) (by exact of_decide_eq_true rfl) ?_
    show DS _ _ _
    try simp only [setE, wipeE, List.set_cons_zero, List.set_cons_succ]
    refine ds_seq ?_
    refine ds_if (dt_not (dt_ofB (dr_call2 (da_sh (dr_frz (dr_call2 (da_sh (dr_var rfl) (da_sh (dr_var rfl) da_nil)) (by exact hp.1))) (da_sh (dr_var rfl) da_nil)) (by exact trivial)))) (fun hc => ?_) (fun hc => ?_)
    · skip
      exact ds_never (by simp [v_law_same, v_less] at hc)
    · try simp only [id, decide_eq_true_eq, decide_eq_false_iff_not, Bool.and_eq_true, Bool.or_eq_true, Bool.and_eq_false_iff, Bool.or_eq_false_iff, Bool.not_eq_true', Bool.not_eq_false', ne_eq, Decidable.not_not, Bool.true_eq_false, Bool.false_eq_true, false_or, or_false, true_and, and_true, not_false_eq_true, not_true_eq_false] at hc
      refine ds_next ?_
      show DS _ _ _
      try simp only [setE, wipeE, List.set_cons_zero, List.set_cons_succ]
      refine ds_seq ?_
      refine ds_if (dt_not (dt_ofB (dr_call2 (da_sh (dr_frz (dr_call2 (da_sh (dr_var rfl) (da_sh (dr_var rfl) da_nil)) (by exact hp.2.1))) (da_sh (dr_frz (dr_lc0 (DI.weak (di_sh rfl (dr_var rfl))) (gv_name (by decide)) (fun x hx => (dg_name (by exact of_decide_eq_true rfl))) (fun x hx => (dr_mul (dr_var rfl) (dr_var rfl) (by first | exact hp.2.1 _ hx | exact hp.2.2.1 _ (zip_mem hp.1 (by omega))))))) da_nil)) (by exact trivial)))) (fun hc => ?_) (fun hc => ?_)
      · skip
        exact ds_never (by simp [v_law_same, v_times] at hc)
      · try simp only [id, decide_eq_true_eq, decide_eq_false_iff_not, Bool.and_eq_true, Bool.or_eq_true, Bool.and_eq_false_iff, Bool.or_eq_false_iff, Bool.not_eq_true', Bool.not_eq_false', ne_eq, Decidable.not_not, Bool.true_eq_false, Bool.false_eq_true, false_or, or_false, true_and, and_true, not_false_eq_true, not_true_eq_false] at hc
        refine ds_next ?_
        show DS _ _ _
        try simp only [setE, wipeE, List.set_cons_zero, List.set_cons_succ]
        refine ds_seq ?_
        refine ds_setsh (dr_const (a := (0 : Int))) (by exact of_decide_eq_true rfl) ?_
        show DS _ _ _
        try simp only [setE, wipeE, List.set_cons_zero, List.set_cons_succ]
        refine ds_seq ?_
        refine ds_loop (τ := Int) [5] (fun st => [(4, sh (st : Int))]) (fun _ _ => True) (fun t k => t + nth law_one ((k : Nat) : Int) * nth law_other ((k : Nat) : Int)) (0) (di_range1 (dr_len rfl (dr_bo (dr_var rfl))) (by first | omega | (rw [sizeLine_eq]; omega) | (simp at *; omega)) (by first | omega | (rw [sizeLine_eq]; omega) | (simp at *; omega))) (by try simp only [setE, wipeE, List.set_cons_zero, List.set_cons_succ]; exact (LeL.keep rfl (LeL.keep rfl (LeL.keep rfl (LeL.keep rfl (LeL.keep rfl (LeL.drop (LeL.drop (LeL.drop (LeL.drop (LeL.drop LeL.nil))))))))))) ?_ ?_ ?_
        · trivial
        · intro i x law_total hx hj
          have hxm := List.mem_of_getElem? hx
          rw [List.mem_range] at hxm
          refine ⟨?_, fun hz => ⟨_, (dg_name (by exact of_decide_eq_true rfl)), ?_⟩⟩
          · trivial
          · try simp only [setE, wipeE, List.set_cons_zero, List.set_cons_succ]
            refine ds_setsh (dr_add (dr_var rfl) (dr_mul (dr_ix rfl (dr_var rfl) (dr_var rfl) (by exact atI_nth (by first | omega | (rw [sizeLine_eq]; omega) | (simp at *; omega)) (by first | omega | (rw [sizeLine_eq]; omega) | (simp at *; omega)))) (dr_ix rfl (dr_var rfl) (dr_var rfl) (by exact atI_nth (by first | omega | (rw [sizeLine_eq]; omega) | (simp at *; omega)) (by first | omega | (rw [sizeLine_eq]; omega) | (simp at *; omega)))) (by first | exact hp.2.1 _ hx | exact hp.2.2.1 _ (zip_mem hp.1 (by omega))))) (by exact of_decide_eq_true rfl) ?_
            show LeL _ _
            try simp only [setE, wipeE, List.set_cons_zero, List.set_cons_succ]
            exact (LeL.keep rfl (LeL.keep rfl (LeL.keep rfl (LeL.keep rfl (LeL.keep rfl (LeL.drop (LeL.drop (LeL.drop (LeL.drop (LeL.drop LeL.nil))))))))))
        · intro hj
          try simp only [setE, wipeE, List.set_cons_zero, List.set_cons_succ]
          show DS _ _ _
          try simp only [setE, wipeE, List.set_cons_zero, List.set_cons_succ]
          refine ds_seq ?_
          refine ds_setsh (dr_call2 (da_sh (dr_var rfl) (da_sh (dr_var rfl) da_nil)) (by exact ⟨hp.1, hp.2.2.1⟩)) (by exact of_decide_eq_true rfl) ?_
          show DS _ _ _
          try simp only [setE, wipeE, List.set_cons_zero, List.set_cons_succ]
          refine ds_ret (dr_and (dr_call1 (da_sh (dr_var rfl) da_nil) (by exact trivial)) (fun hb => (dr_eq2 (dr_var rfl) (dr_var rfl)))) ?_
          refine congrArg (sh (α := Bool)) (?_ : _ = (true : Bool))
          have e := fold_zip law_one law_other 0 hp.1; rw [Int.zero_add] at e; simp [v_law_whole]; exact e.symm
theorem ok_law_good (D : Dfn mg "_law_good" s_law_good ["_law_one", "_law_other", "_law_many"]) (B : Blt mg) (C_law_same : Cal P w mg base "_law_same" 2 ["_law_found", "_law_due"] (sp2 w_law_same)) (C_plus : Cal P w mg base "plus" 2 ["one", "other"] (sp2 w_plus)) (C_less : Cal P w mg base "less" 2 ["one", "other"] (sp2 w_less)) (C_times : Cal P w mg base "times" 1 ["some", "many"] (sp2 w_times)) (C_weighed : Cal P w mg base "weighed" 2 ["one", "other"] (sp2 w_weighed)) (C_law_whole : Cal P w mg base "_law_whole" 1 ["_law_found"] (sp1 w_law_whole))  : Cal P w mg base "_law_good" 3 ["_law_one", "_law_other", "_law_many"] (sp3 w_law_good) := cal_of D fun f fd F => okF_law_good F B C_law_same C_plus C_less C_times C_weighed C_law_whole 

theorem num_small (c : Int) : (v_law_number c (10 ^ (60 : Int).toNat)).natAbs < 2 ^ 200 := by
  have h : ∀ x : Int, (x % (10 ^ (60 : Int).toNat)).natAbs < 2 ^ 200 := fun x => by
    have h0 : (0 : Int) < 10 ^ (60 : Int).toNat := by decide
    have h1 := Int.emod_nonneg x (b := 10 ^ (60 : Int).toNat) (by omega)
    have h2 := Int.emod_lt_of_pos x h0
    have h3 : (10 : Int) ^ (60 : Int).toNat < 2 ^ 200 := by decide
    omega
  unfold v_law_number
  split
  · have := h (c / 2); omega
  · exact h (c / 2)
theorem sm_num {l : List Int} : ∀ x ∈ l.map (fun x => v_law_number x (10 ^ (60 : Int).toNat)), x.natAbs < 2 ^ 200 := fun x hx => by
  obtain ⟨c, _, rfl⟩ := List.mem_map.mp hx
  exact num_small c
theorem good_pre {one other : List Int} {many : Int} (h1 : ∀ x ∈ one, x.natAbs < 2 ^ 200) (h2 : ∀ x ∈ other, x.natAbs < 2 ^ 200) (h3 : many.natAbs < 2 ^ 200) (hl : one.length = other.length) (hn : one.length ≤ 63) : (w_law_good one other many).pre :=
  ⟨hl, fun x hx => mul_ok (h1 x hx) h3 (by decide), fun p hp => mul_ok (h1 _ (List.of_mem_zip hp).1) (h2 _ (List.of_mem_zip hp).2) (by decide), hn⟩
abbrev s_law : Stmt := topS 15
theorem sc_law : FnScope ["_law_script", "_law_size", "_law_one", "_law_other", "_law_many", "_law_kept", "_law_nothing", "_law_some", "_law_cell"] ["_law_script"] (defScope s_law) := ⟨rfl, rfl, rfl, by decide +kernel, rfl, by decide +kernel, by decide +kernel⟩
def v_law (law_script : List Int) : Bool := true
def w_law (law_script : List Int) : Wf := ⟨law_script.length ≤ 63, sh (v_law law_script)⟩
theorem okF_law {f : Addr} {fd : FuncData} (F : Fun Γ.K "law" "law" s_law f fd) (B : Blt mg) (C_law_number : Cal P w mg base "_law_number" 1 ["_law_cell", "_law_most"] (sp2 w_law_number)) (C_law_at : Cal P w mg base "_law_at" 1 ["_law_script", "_law_k"] (sp2 w_law_at)) (C_law_good : Cal P w mg base "_law_good" 3 ["_law_one", "_law_other", "_law_many"] (sp3 w_law_good)) (C_plus : Cal P w mg base "plus" 2 ["one", "other"] (sp2 w_plus)) (C_less : Cal P w mg base "less" 2 ["one", "other"] (sp2 w_less)) (C_times : Cal P w mg base "times" 1 ["some", "many"] (sp2 w_times))  : FnOk P w Γ.K mg base CX0 4 f fd ["_law_script"] (sp1 w_law) := by
  obtain ⟨f_law_number, fd_law_number, G_law_number, m_law_number, k_law_number, b_law_number⟩ := C_law_number
  obtain ⟨f_law_at, fd_law_at, G_law_at, m_law_at, k_law_at, b_law_at⟩ := C_law_at
  obtain ⟨f_law_good, fd_law_good, G_law_good, m_law_good, k_law_good, b_law_good⟩ := C_law_good
  obtain ⟨f_plus, fd_plus, G_plus, m_plus, k_plus, b_plus⟩ := C_plus
  obtain ⟨f_less, fd_less, G_less, m_less, k_less, b_less⟩ := C_less
  obtain ⟨f_times, fd_times, G_times, m_times, k_times, b_times⟩ := C_times
  have SC := sc_law
  refine fn1 F SC fun cdv A outer s H E hr => ⟨_, (pss_cons (ps_set (i := 1) SC.nd rfl (Or.inl rfl) (pe_op op_fdiv (pe_callB (call_min2 rfl) (by rfl) B.min (by decide +kernel) (pa_cons (pe_callB call_len_seq (by rfl) B.len PySem.boot_len (pa_cons (pv 0) pa_nil)) (pa_cons pe_int pa_nil))) pe_int)) (pss_cons (ps_setLc (i := 2) (own := [("_law_cell", 8)]) (g := (gName 8)) (tt := tYes) rfl SC.nd rfl rfl (sw_true rfl rfl rfl (by decide +kernel)) (pi_list (pe_lok (pe_slice sl_list (pv 0) po_none (po_some (pv 1))))) (blkOk_by (N := ["_law_script", "_law_size", "_law_one", "_law_other", "_law_many", "_law_kept", "_law_nothing", "_law_some", "_law_cell"]) (sc := (defScope s_law)) (by decide +kernel)) (fun _ _ _ _ _ => (pg_name (i := 8) SC.nd rfl (Or.inl rfl))) (fun _ _ _ _ _ => pts_nil) (fun _ _ _ _ _ => (pe_call G_law_number (hr.mono (by decide)) rfl m_law_number k_law_number b_law_number .nil pass0 (pa_cons (pv 8) (pa_cons (pe_op op_pow pe_int pe_int) pa_nil))))) (pss_cons (ps_setLc (i := 3) (own := [("_law_cell", 8)]) (g := (gName 8)) (tt := tYes) rfl SC.nd rfl rfl (sw_true rfl rfl rfl (by decide +kernel)) (pi_list (pe_lok (pe_slice sl_list (pv 0) (po_some (pv 1)) (po_some (pe_op op_mulK pe_int (pv 1)))))) (blkOk_by (N := ["_law_script", "_law_size", "_law_one", "_law_other", "_law_many", "_law_kept", "_law_nothing", "_law_some", "_law_cell"]) (sc := (defScope s_law)) (by decide +kernel)) (fun _ _ _ _ _ => (pg_name (i := 8) SC.nd rfl (Or.inl rfl))) (fun _ _ _ _ _ => pts_nil) (fun _ _ _ _ _ => (pe_call G_law_number (hr.mono (by decide)) rfl m_law_number k_law_number b_law_number .nil pass0 (pa_cons (pv 8) (pa_cons (pe_op op_pow pe_int pe_int) pa_nil))))) (pss_cons (ps_set (i := 4) SC.nd rfl (Or.inl rfl) (pe_call G_law_number (hr.mono (by decide)) rfl m_law_number k_law_number b_law_number .nil pass0 (pa_cons (pe_op op_fdiv (pe_call G_law_at (hr.mono (by decide)) rfl m_law_at k_law_at b_law_at .nil pass0 (pa_cons (pv 0) (pa_cons pe_int pa_nil))) pe_int) (pa_cons (pe_op op_pow pe_int pe_int) pa_nil)))) (pss_cons (ps_set (i := 5) SC.nd rfl (Or.inl rfl) (pe_lst (pa_cons (pe_callTy call_list_of (by rfl) B.list (by decide +kernel) (pa_cons (pv 2) pa_nil)) (pa_cons (pe_callTy call_list_of (by rfl) B.list (by decide +kernel) (pa_cons (pv 3) pa_nil)) pa_nil)))) (pss_cons (ps_if (PW.pt (pw_or (pt_not (pt_val (pe_call G_law_good (hr.mono (by decide)) rfl m_law_good k_law_good b_law_good .nil pass0 (pa_cons (pv 2) (pa_cons (pv 3) (pa_cons (pv 4) pa_nil)))))) (pw_or1 (pt_cmpR (op_neD hr.units) (pe_lst (pa_cons (pv 2) (pa_cons (pv 3) pa_nil))) (pv 5) (nomark _))))) pss_never pss_nil) (pss_cons (ps_set (i := 6) SC.nd rfl (Or.inl rfl) (pe_op op_rep (pe_lst (pa_cons pe_int pa_nil)) (pv 1))) (pss_cons (ps_for PassesOwn.never rfl (pi_list (pe_lok (pe_lst (pa_cons (pv 6) (pa_cons (pv 3) pa_nil))))) (pg_name (i := 7) SC.nd rfl (Or.inl rfl)) (pss_cons (ps_expr (pe_bm PySem.F.plainAttrs_list PySem.F.slot_list_append PySem.F.type_list_append mt_append (pe_call G_plus (hr.mono (by decide)) rfl m_plus k_plus b_plus .nil pass0 (pa_cons (pv 2) (pa_cons (pv 7) pa_nil))) (pa_cons pe_int pa_nil))) (pss_cons (ps_expr (pe_bm PySem.F.plainAttrs_list PySem.F.slot_list_append PySem.F.type_list_append mt_append (pe_call G_plus (hr.mono (by decide)) rfl m_plus k_plus b_plus .nil pass0 (pa_cons (pv 7) (pa_cons (pv 2) pa_nil))) (pa_cons pe_int pa_nil))) (pss_one (ps_expr (pe_bm PySem.F.plainAttrs_list PySem.F.slot_list_append PySem.F.type_list_append mt_append (pe_call G_less (hr.mono (by decide)) rfl m_less k_less b_less .nil pass0 (pa_cons (pv 2) (pa_cons (pv 7) pa_nil))) (pa_cons pe_int pa_nil))))))) (pss_cons (ps_expr (pe_bm PySem.F.plainAttrs_list PySem.F.slot_list_append PySem.F.type_list_append mt_append (pe_call G_times (hr.mono (by decide)) rfl m_times k_times b_times .nil pass0 (pa_cons (pv 2) (pa_cons (pv 4) pa_nil))) (pa_cons pe_int pa_nil))) (pss_cons (ps_expr (pe_bm PySem.F.plainAttrs_list PySem.F.slot_list_append PySem.F.type_list_append mt_append (pe_call G_times (hr.mono (by decide)) rfl m_times k_times b_times .nil pass0 (pa_cons (pv 2) (pa_cons pe_int pa_nil))) (pa_cons pe_int pa_nil))) (pss_cons (ps_if (pt_cmpR (op_neD hr.units) (pv 6) (pe_op op_rep (pe_lst (pa_cons pe_int pa_nil)) (pv 1)) (nomark _)) pss_never pss_nil) (pss_cons (ps_if (PW.pt (pw_or (pt_not (pt_val (pe_call G_law_good (hr.mono (by decide)) rfl m_law_good k_law_good b_law_good .nil pass0 (pa_cons (pv 2) (pa_cons (pv 2) (pa_cons (pe_op op_sub pe_int (pv 4)) pa_nil)))))) (pw_or1 (pt_not (pt_val (pe_call G_law_good (hr.mono (by decide)) rfl m_law_good k_law_good b_law_good .nil pass0 (pa_cons (pv 3) (pa_cons (pv 2) (pa_cons (pv 4) pa_nil))))))))) pss_never pss_nil) (pss_one (ps_ret (pe_and (pe_call G_law_good (hr.mono (by decide)) rfl m_law_good k_law_good b_law_good .nil pass0 (pa_cons (pv 2) (pa_cons (pv 3) (pa_cons (pv 4) pa_nil)))) (pe_one (pe_cmpR (op_eqD hr.units) (pe_lst (pa_cons (pv 2) (pa_cons (pv 3) pa_nil))) (pv 5) (nomark _)))))))))))))))))), ?_⟩
  intro law_script hp
  have hp : law_script.length ≤ 63 := hp
  show DS [some (sh law_script), none, none, none, none, none, none, none, none] _ _
  refine ds_seq ?_
  refine ds_setsh (dr_div (dr_min2 (dr_len rfl (dr_bo (dr_var rfl))) (dr_const (a := (62 : Int)))) (dr_const (a := (2 : Int))) ⟨by decide, by decide⟩) (by exact of_decide_eq_true rfl) ?_
  show DS _ _ _
  try simp only [setE, wipeE, List.set_cons_zero, List.set_cons_succ]
  refine ds_abs (i := 1) (fun (law_size : Int) => 0 ≤ law_size ∧ 2 * law_size ≤ law_script.length ∧ law_size ≤ 31) rfl (by omega) (fun law_size h_law_size => ?_)
  try simp only [setE, wipeE, List.set_cons_zero, List.set_cons_succ]
  show DS _ _ _
  try simp only [setE, wipeE, List.set_cons_zero, List.set_cons_succ]
  refine ds_seq ?_
  refine ds_setsh (dr_frz (dr_lc0 (DI.weak (di_sh rfl (dr_frz (dr_sl rfl (dr_var rfl) dp_none (dp_some (dr_var rfl)))))) (gv_name (by decide)) (fun x hx => (dg_name (by exact of_decide_eq_true rfl))) (fun x hx => (dr_call2 (da_sh (dr_var rfl) (da_sh (dr_pow (dr_const (a := (10 : Int))) (dr_const (a := (60 : Int))) ⟨by decide, by decide, by decide⟩) da_nil)) (by exact (by decide : (0 : Int) < 10 ^ (60 : Int).toNat)))))) (by exact of_decide_eq_true rfl) ?_
  show DS _ _ _
  try simp only [setE, wipeE, List.set_cons_zero, List.set_cons_succ]
  refine ds_abs (i := 2) (fun (law_one : List Int) => (∀ x ∈ law_one, x.natAbs < 2 ^ 200) ∧ (law_one.length : Int) = law_size) rfl (by exact ⟨sm_num, by rw [List.length_map, cut_to _ (by omega), List.length_take]; omega⟩) (fun law_one h_law_one => ?_)
  try simp only [setE, wipeE, List.set_cons_zero, List.set_cons_succ]
  show DS _ _ _
  try simp only [setE, wipeE, List.set_cons_zero, List.set_cons_succ]
  refine ds_seq ?_
  refine ds_setsh (dr_frz (dr_lc0 (DI.weak (di_sh rfl (dr_frz (dr_sl rfl (dr_var rfl) (dp_some (dr_var rfl)) (dp_some (dr_mul (dr_const (a := (2 : Int))) (dr_var rfl) (by exact IntMulOk.of_left (by decide)))))))) (gv_name (by decide)) (fun x hx => (dg_name (by exact of_decide_eq_true rfl))) (fun x hx => (dr_call2 (da_sh (dr_var rfl) (da_sh (dr_pow (dr_const (a := (10 : Int))) (dr_const (a := (60 : Int))) ⟨by decide, by decide, by decide⟩) da_nil)) (by exact (by decide : (0 : Int) < 10 ^ (60 : Int).toNat)))))) (by exact of_decide_eq_true rfl) ?_
  show DS _ _ _
  try simp only [setE, wipeE, List.set_cons_zero, List.set_cons_succ]
  refine ds_abs (i := 3) (fun (law_other : List Int) => (∀ x ∈ law_other, x.natAbs < 2 ^ 200) ∧ (law_other.length : Int) = law_size) rfl (by exact ⟨sm_num, by rw [List.length_map, cut_mid _ (by omega) (by omega), List.length_take, List.length_drop]; omega⟩) (fun law_other h_law_other => ?_)
  try simp only [setE, wipeE, List.set_cons_zero, List.set_cons_succ]
  show DS _ _ _
  try simp only [setE, wipeE, List.set_cons_zero, List.set_cons_succ]
  refine ds_seq ?_
  refine ds_setsh (dr_call2 (da_sh (dr_div (dr_call2 (da_sh (dr_var rfl) (da_sh (dr_const (a := (0 : Int))) da_nil)) (by exact (by decide : (0 : Int) ≤ 0))) (dr_const (a := (3 : Int))) ⟨by decide, by decide⟩) (da_sh (dr_pow (dr_const (a := (10 : Int))) (dr_const (a := (60 : Int))) ⟨by decide, by decide, by decide⟩) da_nil)) (by exact (by decide : (0 : Int) < 10 ^ (60 : Int).toNat))) (by exact of_decide_eq_true rfl) ?_
  show DS _ _ _
  try simp only [setE, wipeE, List.set_cons_zero, List.set_cons_succ]
  refine ds_abs (i := 4) (fun (law_many : Int) => law_many.natAbs < 2 ^ 200) rfl (by exact num_small _) (fun law_many h_law_many => ?_)
  try simp only [setE, wipeE, List.set_cons_zero, List.set_cons_succ]
  show DS _ _ _
  try simp only [setE, wipeE, List.set_cons_zero, List.set_cons_succ]
  refine ds_seq ?_
  refine ds_setsh (dr_frz (dr_lst (α := List Int) (l := [_, _]) (da_sh (dr_frz (dr_list rfl (dr_var rfl))) (da_sh (dr_frz (dr_list rfl (dr_var rfl))) da_nil)) (by show 2 ≤ sizeLine; decide))) (by exact of_decide_eq_true rfl) ?_
  show DS _ _ _
  try simp only [setE, wipeE, List.set_cons_zero, List.set_cons_succ]
  refine ds_seq ?_
  refine ds_if (dt_or (dt_not (dt_ofB (dr_call3 (da_sh (dr_var rfl) (da_sh (dr_var rfl) (da_sh (dr_var rfl) da_nil))) (by exact good_pre (by first | exact h_law_one.1 | exact h_law_other.1) (by first | exact h_law_one.1 | exact h_law_other.1) (by omega) (by omega) (by omega))))) (fun hb => (dt_of (dr_ned rfl (dr_owbo (dr_lst (α := List Int) (l := [_, _]) (da_sh (dr_var rfl) (da_sh (dr_var rfl) da_nil)) (by show 2 ≤ sizeLine; decide))) (dr_bo (dr_var rfl)))))) (fun hc => ?_) (fun hc => ?_)
  · skip
    exact ds_never (by simp [v_law_good] at hc)
  · try simp only [id, decide_eq_true_eq, decide_eq_false_iff_not, Bool.and_eq_true, Bool.or_eq_true, Bool.and_eq_false_iff, Bool.or_eq_false_iff, Bool.not_eq_true', Bool.not_eq_false', ne_eq, Decidable.not_not, Bool.true_eq_false, Bool.false_eq_true, false_or, or_false, true_and, and_true, not_false_eq_true, not_true_eq_false] at hc
    refine ds_next ?_
    show DS _ _ _
    try simp only [setE, wipeE, List.set_cons_zero, List.set_cons_succ]
    refine ds_seq ?_
    refine ds_setsh (dr_frz (dr_rep (dr_lst (α := Int) (l := [_]) (da_sh (dr_const (a := (0 : Int))) da_nil) (by show 1 ≤ sizeLine; decide)) (dr_var rfl) (by first | omega | (rw [sizeLine_eq]; omega) | (simp at *; omega)) (by first | omega | (rw [sizeLine_eq]; omega) | (simp at *; omega)) (by simp [sizeLine_eq]; omega))) (by exact of_decide_eq_true rfl) ?_
    show DS _ _ _
    try simp only [setE, wipeE, List.set_cons_zero, List.set_cons_succ]
    refine ds_abs (i := 6) (fun (law_nothing : List Int) => (law_nothing = (List.replicate law_size.toNat [0]).flatten) ∧ (∀ x ∈ law_nothing, x.natAbs < 2 ^ 200) ∧ (law_nothing.length : Int) = law_size) rfl (by refine ⟨rfl, fun x hx => ?_, ?_⟩; (rw [List.mem_flatten] at hx; obtain ⟨l, h1, h2⟩ := hx; rw [List.eq_of_mem_replicate h1] at h2; rw [List.mem_singleton.mp h2]; decide); (simp; omega)) (fun law_nothing h_law_nothing => ?_)
    try simp only [setE, wipeE, List.set_cons_zero, List.set_cons_succ]
    show DS _ _ _
    try simp only [setE, wipeE, List.set_cons_zero, List.set_cons_succ]
    refine ds_seq ?_
    refine ds_loop (τ := Unit) [7] (fun st => []) (fun _ _ => True) (fun _ _ => ()) (()) (di_sh rfl (dr_frz (dr_lst (α := List Int) (l := [_, _]) (da_sh (dr_var rfl) (da_sh (dr_var rfl) da_nil)) (by show 2 ≤ sizeLine; decide)))) (by try simp only [setE, wipeE, List.set_cons_zero, List.set_cons_succ]; exact (LeL.keep rfl (LeL.keep rfl (LeL.keep rfl (LeL.keep rfl (LeL.keep rfl (LeL.keep rfl (LeL.keep rfl (LeL.drop (LeL.drop LeL.nil)))))))))) ?_ ?_ ?_
    · trivial
    · intro i x st hx hj
      have hxm := List.mem_of_getElem? hx
      have hx2 : (x.length : Int) = law_size ∧ ∀ y ∈ x, y.natAbs < 2 ^ 200 := by (simp at hxm; rcases hxm with rfl | rfl; exact ⟨h_law_nothing.2.2, h_law_nothing.2.1⟩; exact ⟨h_law_other.2, h_law_other.1⟩)
      refine ⟨?_, fun hz => ⟨_, (dg_name (by exact of_decide_eq_true rfl)), ?_⟩⟩
      · trivial
      · try simp only [setE, wipeE, List.set_cons_zero, List.set_cons_succ]
        refine ds_seq ?_
        refine ds_tmpapp rfl (dr_call2 (da_sh (dr_var rfl) (da_sh (dr_var rfl) da_nil)) (by show _ = _; omega)) (dr_const (a := (0 : Int))) (by simp [sizeLine_eq, v_plus, v_less, v_times]; omega) ?_
        show DS _ _ _
        try simp only [setE, wipeE, List.set_cons_zero, List.set_cons_succ]
        refine ds_seq ?_
        refine ds_tmpapp rfl (dr_call2 (da_sh (dr_var rfl) (da_sh (dr_var rfl) da_nil)) (by show _ = _; omega)) (dr_const (a := (0 : Int))) (by simp [sizeLine_eq, v_plus, v_less, v_times]; omega) ?_
        show DS _ _ _
        try simp only [setE, wipeE, List.set_cons_zero, List.set_cons_succ]
        refine ds_tmpapp rfl (dr_call2 (da_sh (dr_var rfl) (da_sh (dr_var rfl) da_nil)) (by show _ = _; omega)) (dr_const (a := (0 : Int))) (by simp [sizeLine_eq, v_plus, v_less, v_times]; omega) ?_
        show LeL _ _
        try simp only [setE, wipeE, List.set_cons_zero, List.set_cons_succ]
        exact (LeL.keep rfl (LeL.keep rfl (LeL.keep rfl (LeL.keep rfl (LeL.keep rfl (LeL.keep rfl (LeL.keep rfl (LeL.drop (LeL.drop LeL.nil)))))))))
    · intro hj
      try simp only [setE, wipeE, List.set_cons_zero, List.set_cons_succ]
      show DS _ _ _
      try simp only [setE, wipeE, List.set_cons_zero, List.set_cons_succ]
      refine ds_seq ?_
      refine ds_tmpapp rfl (dr_call2 (da_sh (dr_var rfl) (da_sh (dr_var rfl) da_nil)) (by intro x hx; exact mul_ok (m := 200) (h_law_one.1 x hx) (by omega) (by decide))) (dr_const (a := (0 : Int))) (by simp [sizeLine_eq, v_plus, v_less, v_times]; omega) ?_
      show DS _ _ _
      try simp only [setE, wipeE, List.set_cons_zero, List.set_cons_succ]
      refine ds_seq ?_
      refine ds_tmpapp rfl (dr_call2 (da_sh (dr_var rfl) (da_sh (dr_const (a := (1 : Int))) da_nil)) (by intro x hx; exact mul_ok (m := 200) (h_law_one.1 x hx) (by omega) (by decide))) (dr_const (a := (0 : Int))) (by simp [sizeLine_eq, v_plus, v_less, v_times]; omega) ?_
      show DS _ _ _
      try simp only [setE, wipeE, List.set_cons_zero, List.set_cons_succ]
      refine ds_seq ?_
      refine ds_if (dt_of (dr_ned rfl (dr_bo (dr_var rfl)) (dr_owbo (dr_rep (dr_lst (α := Int) (l := [_]) (da_sh (dr_const (a := (0 : Int))) da_nil) (by show 1 ≤ sizeLine; decide)) (dr_var rfl) (by first | omega | (rw [sizeLine_eq]; omega) | (simp at *; omega)) (by first | omega | (rw [sizeLine_eq]; omega) | (simp at *; omega)) (by simp [sizeLine_eq]; omega))))) (fun hc => ?_) (fun hc => ?_)
      · skip
        exact ds_never (by simp [h_law_nothing.1] at hc)
      · try simp only [id, decide_eq_true_eq, decide_eq_false_iff_not, Bool.and_eq_true, Bool.or_eq_true, Bool.and_eq_false_iff, Bool.or_eq_false_iff, Bool.not_eq_true', Bool.not_eq_false', ne_eq, Decidable.not_not, Bool.true_eq_false, Bool.false_eq_true, false_or, or_false, true_and, and_true, not_false_eq_true, not_true_eq_false] at hc
        refine ds_next ?_
        show DS _ _ _
        try simp only [setE, wipeE, List.set_cons_zero, List.set_cons_succ]
        refine ds_seq ?_
        refine ds_if (dt_or (dt_not (dt_ofB (dr_call3 (da_sh (dr_var rfl) (da_sh (dr_var rfl) (da_sh (dr_sub (dr_const (a := (0 : Int))) (dr_var rfl)) da_nil))) (by exact good_pre (by first | exact h_law_one.1 | exact h_law_other.1) (by first | exact h_law_one.1 | exact h_law_other.1) (by omega) (by omega) (by omega))))) (fun hb => (dt_not (dt_ofB (dr_call3 (da_sh (dr_var rfl) (da_sh (dr_var rfl) (da_sh (dr_var rfl) da_nil))) (by exact good_pre (by first | exact h_law_one.1 | exact h_law_other.1) (by first | exact h_law_one.1 | exact h_law_other.1) (by omega) (by omega) (by omega))))))) (fun hc => ?_) (fun hc => ?_)
        · skip
          exact ds_never (by simp [v_law_good] at hc)
        · try simp only [id, decide_eq_true_eq, decide_eq_false_iff_not, Bool.and_eq_true, Bool.or_eq_true, Bool.and_eq_false_iff, Bool.or_eq_false_iff, Bool.not_eq_true', Bool.not_eq_false', ne_eq, Decidable.not_not, Bool.true_eq_false, Bool.false_eq_true, false_or, or_false, true_and, and_true, not_false_eq_true, not_true_eq_false] at hc
          refine ds_next ?_
          show DS _ _ _
          try simp only [setE, wipeE, List.set_cons_zero, List.set_cons_succ]
          refine ds_ret (dr_and (dr_call3 (da_sh (dr_var rfl) (da_sh (dr_var rfl) (da_sh (dr_var rfl) da_nil))) (by exact good_pre (by first | exact h_law_one.1 | exact h_law_other.1) (by first | exact h_law_one.1 | exact h_law_other.1) (by omega) (by omega) (by omega))) (fun hb => (dr_eqd rfl (dr_owbo (dr_lst (α := List Int) (l := [_, _]) (da_sh (dr_var rfl) (da_sh (dr_var rfl) da_nil)) (by show 2 ≤ sizeLine; decide))) (dr_bo (dr_var rfl))))) ?_
          refine congrArg (sh (α := Bool)) (?_ : _ = (true : Bool))
          simp [v_law_good]
theorem ok_law (D : Dfn mg "law" s_law ["_law_script"]) (B : Blt mg) (C_law_number : Cal P w mg base "_law_number" 1 ["_law_cell", "_law_most"] (sp2 w_law_number)) (C_law_at : Cal P w mg base "_law_at" 1 ["_law_script", "_law_k"] (sp2 w_law_at)) (C_law_good : Cal P w mg base "_law_good" 3 ["_law_one", "_law_other", "_law_many"] (sp3 w_law_good)) (C_plus : Cal P w mg base "plus" 2 ["one", "other"] (sp2 w_plus)) (C_less : Cal P w mg base "less" 2 ["one", "other"] (sp2 w_less)) (C_times : Cal P w mg base "times" 1 ["some", "many"] (sp2 w_times))  : Cal P w mg base "law" 4 ["_law_script"] (sp1 w_law) := cal_of D fun f fd F => okF_law F B C_law_number C_law_at C_law_good C_plus C_less C_times 
end
theorem all_mk {P : Program} {w : World} {K : PySem.W.Frag} {h : Heap} {mg : Str → Option Value} {fa : Addr} (X : K.In h) (G : h.Ns mainGlobals mg) (hfa : mg "law" = some (.ref fa))
    {f1 : Addr} {od1 an1 : Option Addr} {sl1 : Array (Option Value)} {oc1 kV1 dc1 pm1 cd1 ct1 : Value}
    {f2 : Addr} {od2 an2 : Option Addr} {sl2 : Array (Option Value)} {oc2 kV2 dc2 pm2 cd2 ct2 : Value}
    {f3 : Addr} {od3 an3 : Option Addr} {sl3 : Array (Option Value)} {oc3 kV3 dc3 pm3 cd3 ct3 : Value}
    {f4 : Addr} {od4 an4 : Option Addr} {sl4 : Array (Option Value)} {oc4 kV4 dc4 pm4 cd4 ct4 : Value}
    {f5 : Addr} {od5 an5 : Option Addr} {sl5 : Array (Option Value)} {oc5 kV5 dc5 pm5 cd5 ct5 : Value}
    {f6 : Addr} {od6 an6 : Option Addr} {sl6 : Array (Option Value)} {oc6 kV6 dc6 pm6 cd6 ct6 : Value}
    {f7 : Addr} {od7 an7 : Option Addr} {sl7 : Array (Option Value)} {oc7 kV7 dc7 pm7 cd7 ct7 : Value}
    {f8 : Addr} {od8 an8 : Option Addr} {sl8 : Array (Option Value)} {oc8 kV8 dc8 pm8 cd8 ct8 : Value}
    {f9 : Addr} {od9 an9 : Option Addr} {sl9 : Array (Option Value)} {oc9 kV9 dc9 pm9 cd9 ct9 : Value}
    {f10 : Addr} {od10 an10 : Option Addr} {sl10 : Array (Option Value)} {oc10 kV10 dc10 pm10 cd10 ct10 : Value}
    {f11 : Addr} {od11 an11 : Option Addr} {sl11 : Array (Option Value)} {oc11 kV11 dc11 pm11 cd11 ct11 : Value}
    (a1 : PySem.W.nsIn K mainGlobals "look_alike" = some (some (.ref f1))) (l1 : K.lookup f1 = some ⟨oc1, od1, .func (PySem.W.fnOf "look_alike" "look_alike" (defArgs s_look_alike) (defBody s_look_alike) (defScope s_look_alike) .none kV1 dc1 pm1 an1 cd1 ct1), sl1⟩) (c1 : PySem.W.codeIn K cd1 "look_alike" = true) (k1 : PySem.W.keepIn K (.ref f1) = true)
    (a2 : PySem.W.nsIn K mainGlobals "plus" = some (some (.ref f2))) (l2 : K.lookup f2 = some ⟨oc2, od2, .func (PySem.W.fnOf "plus" "plus" (defArgs s_plus) (defBody s_plus) (defScope s_plus) .none kV2 dc2 pm2 an2 cd2 ct2), sl2⟩) (c2 : PySem.W.codeIn K cd2 "plus" = true) (k2 : PySem.W.keepIn K (.ref f2) = true)
    (a3 : PySem.W.nsIn K mainGlobals "less" = some (some (.ref f3))) (l3 : K.lookup f3 = some ⟨oc3, od3, .func (PySem.W.fnOf "less" "less" (defArgs s_less) (defBody s_less) (defScope s_less) .none kV3 dc3 pm3 an3 cd3 ct3), sl3⟩) (c3 : PySem.W.codeIn K cd3 "less" = true) (k3 : PySem.W.keepIn K (.ref f3) = true)
    (a4 : PySem.W.nsIn K mainGlobals "times" = some (some (.ref f4))) (l4 : K.lookup f4 = some ⟨oc4, od4, .func (PySem.W.fnOf "times" "times" (defArgs s_times) (defBody s_times) (defScope s_times) .none kV4 dc4 pm4 an4 cd4 ct4), sl4⟩) (c4 : PySem.W.codeIn K cd4 "times" = true) (k4 : PySem.W.keepIn K (.ref f4) = true)
    (a5 : PySem.W.nsIn K mainGlobals "weighed" = some (some (.ref f5))) (l5 : K.lookup f5 = some ⟨oc5, od5, .func (PySem.W.fnOf "weighed" "weighed" (defArgs s_weighed) (defBody s_weighed) (defScope s_weighed) .none kV5 dc5 pm5 an5 cd5 ct5), sl5⟩) (c5 : PySem.W.codeIn K cd5 "weighed" = true) (k5 : PySem.W.keepIn K (.ref f5) = true)
    (a6 : PySem.W.nsIn K mainGlobals "_law_whole" = some (some (.ref f6))) (l6 : K.lookup f6 = some ⟨oc6, od6, .func (PySem.W.fnOf "_law_whole" "_law_whole" (defArgs s_law_whole) (defBody s_law_whole) (defScope s_law_whole) .none kV6 dc6 pm6 an6 cd6 ct6), sl6⟩) (c6 : PySem.W.codeIn K cd6 "_law_whole" = true) (k6 : PySem.W.keepIn K (.ref f6) = true)
    (a7 : PySem.W.nsIn K mainGlobals "_law_same" = some (some (.ref f7))) (l7 : K.lookup f7 = some ⟨oc7, od7, .func (PySem.W.fnOf "_law_same" "_law_same" (defArgs s_law_same) (defBody s_law_same) (defScope s_law_same) .none kV7 dc7 pm7 an7 cd7 ct7), sl7⟩) (c7 : PySem.W.codeIn K cd7 "_law_same" = true) (k7 : PySem.W.keepIn K (.ref f7) = true)
    (a8 : PySem.W.nsIn K mainGlobals "_law_at" = some (some (.ref f8))) (l8 : K.lookup f8 = some ⟨oc8, od8, .func (PySem.W.fnOf "_law_at" "_law_at" (defArgs s_law_at) (defBody s_law_at) (defScope s_law_at) .none kV8 dc8 pm8 an8 cd8 ct8), sl8⟩) (c8 : PySem.W.codeIn K cd8 "_law_at" = true) (k8 : PySem.W.keepIn K (.ref f8) = true)
    (a9 : PySem.W.nsIn K mainGlobals "_law_number" = some (some (.ref f9))) (l9 : K.lookup f9 = some ⟨oc9, od9, .func (PySem.W.fnOf "_law_number" "_law_number" (defArgs s_law_number) (defBody s_law_number) (defScope s_law_number) .none kV9 dc9 pm9 an9 cd9 ct9), sl9⟩) (c9 : PySem.W.codeIn K cd9 "_law_number" = true) (k9 : PySem.W.keepIn K (.ref f9) = true)
    (a10 : PySem.W.nsIn K mainGlobals "_law_good" = some (some (.ref f10))) (l10 : K.lookup f10 = some ⟨oc10, od10, .func (PySem.W.fnOf "_law_good" "_law_good" (defArgs s_law_good) (defBody s_law_good) (defScope s_law_good) .none kV10 dc10 pm10 an10 cd10 ct10), sl10⟩) (c10 : PySem.W.codeIn K cd10 "_law_good" = true) (k10 : PySem.W.keepIn K (.ref f10) = true)
    (a11 : PySem.W.nsIn K mainGlobals "law" = some (some (.ref f11))) (l11 : K.lookup f11 = some ⟨oc11, od11, .func (PySem.W.fnOf "law" "law" (defArgs s_law) (defBody s_law) (defScope s_law) .none kV11 dc11 pm11 an11 cd11 ct11), sl11⟩) (c11 : PySem.W.codeIn K cd11 "law" = true) (k11 : PySem.W.keepIn K (.ref f11) = true)
    (z_len : PySem.W.nsIn K mainGlobals "len" = some none)
    (z_range : PySem.W.nsIn K mainGlobals "range" = some none)
    (z_zip : PySem.W.nsIn K mainGlobals "zip" = some none)
    (z_list : PySem.W.nsIn K mainGlobals "list" = some none)
    (z_enumerate : PySem.W.nsIn K mainGlobals "enumerate" = some none)
    (z_int : PySem.W.nsIn K mainGlobals "int" = some none)
    (z_bool : PySem.W.nsIn K mainGlobals "bool" = some none)
    (z_str : PySem.W.nsIn K mainGlobals "str" = some none)
    (z_tuple : PySem.W.nsIn K mainGlobals "tuple" = some none)
    (z_reversed : PySem.W.nsIn K mainGlobals "reversed" = some none)
    (z_any : PySem.W.nsIn K mainGlobals "any" = some none)
    (z_all : PySem.W.nsIn K mainGlobals "all" = some none)
    (z_sum : PySem.W.nsIn K mainGlobals "sum" = some none)
    (z_abs : PySem.W.nsIn K mainGlobals "abs" = some none)
    (z_min : PySem.W.nsIn K mainGlobals "min" = some none)
    (z_max : PySem.W.nsIn K mainGlobals "max" = some none)
    (z_isinstance : PySem.W.nsIn K mainGlobals "isinstance" = some none)
    (z_set : PySem.W.nsIn K mainGlobals "set" = some none)
    (z_verr : PySem.W.nsIn K mainGlobals "ValueError" = some none) :
    ∃ fd : FuncData, (∀ (s : Shared) (u : Value), BindsTo s fd ⟨[u], []⟩ [("_law_script", u)]) ∧ ∀ base : Heap, K.In base → base.Ns mainGlobals mg → FnOk P w K mg base CX0 4 fa fd ["_law_script"] (spL K) := by
  letI Γ : Ctx := ⟨K, fun _ => 0⟩
  have e := hfa.symm.trans (PySem.W.mg_of X G a11)
  cases e
  have B : Blt mg := ⟨PySem.W.mg_none_of X G z_len, PySem.W.mg_none_of X G z_range, PySem.W.mg_none_of X G z_zip, PySem.W.mg_none_of X G z_list, PySem.W.mg_none_of X G z_enumerate, PySem.W.mg_none_of X G z_int, PySem.W.mg_none_of X G z_bool, PySem.W.mg_none_of X G z_str, PySem.W.mg_none_of X G z_tuple, PySem.W.mg_none_of X G z_reversed, PySem.W.mg_none_of X G z_any, PySem.W.mg_none_of X G z_all, PySem.W.mg_none_of X G z_sum, PySem.W.mg_none_of X G z_abs, PySem.W.mg_none_of X G z_min, PySem.W.mg_none_of X G z_max, PySem.W.mg_none_of X G z_isinstance, PySem.W.mg_none_of X G z_set, PySem.W.mg_none_of X G z_verr⟩
  have F1 := fun_mk (st := s_look_alike) l1 c1 k1
  have D1 : Dfn mg "look_alike" s_look_alike ["one", "other"] := ⟨_, _, F1, PySem.W.mg_of X G a1, k1, F1.binds (ps := ["one", "other"]) fun _ _ _ _ _ _ us hl => match us, hl with | [_, _], _ => rfl⟩
  have F2 := fun_mk (st := s_plus) l2 c2 k2
  have D2 : Dfn mg "plus" s_plus ["one", "other"] := ⟨_, _, F2, PySem.W.mg_of X G a2, k2, F2.binds (ps := ["one", "other"]) fun _ _ _ _ _ _ us hl => match us, hl with | [_, _], _ => rfl⟩
  have F3 := fun_mk (st := s_less) l3 c3 k3
  have D3 : Dfn mg "less" s_less ["one", "other"] := ⟨_, _, F3, PySem.W.mg_of X G a3, k3, F3.binds (ps := ["one", "other"]) fun _ _ _ _ _ _ us hl => match us, hl with | [_, _], _ => rfl⟩
  have F4 := fun_mk (st := s_times) l4 c4 k4
  have D4 : Dfn mg "times" s_times ["some", "many"] := ⟨_, _, F4, PySem.W.mg_of X G a4, k4, F4.binds (ps := ["some", "many"]) fun _ _ _ _ _ _ us hl => match us, hl with | [_, _], _ => rfl⟩
  have F5 := fun_mk (st := s_weighed) l5 c5 k5
  have D5 : Dfn mg "weighed" s_weighed ["one", "other"] := ⟨_, _, F5, PySem.W.mg_of X G a5, k5, F5.binds (ps := ["one", "other"]) fun _ _ _ _ _ _ us hl => match us, hl with | [_, _], _ => rfl⟩
  have F6 := fun_mk (st := s_law_whole) l6 c6 k6
  have D6 : Dfn mg "_law_whole" s_law_whole ["_law_found"] := ⟨_, _, F6, PySem.W.mg_of X G a6, k6, F6.binds (ps := ["_law_found"]) fun _ _ _ _ _ _ us hl => match us, hl with | [_], _ => rfl⟩
  have F7 := fun_mk (st := s_law_same) l7 c7 k7
  have D7 : Dfn mg "_law_same" s_law_same ["_law_found", "_law_due"] := ⟨_, _, F7, PySem.W.mg_of X G a7, k7, F7.binds (ps := ["_law_found", "_law_due"]) fun _ _ _ _ _ _ us hl => match us, hl with | [_, _], _ => rfl⟩
  have F8 := fun_mk (st := s_law_at) l8 c8 k8
  have D8 : Dfn mg "_law_at" s_law_at ["_law_script", "_law_k"] := ⟨_, _, F8, PySem.W.mg_of X G a8, k8, F8.binds (ps := ["_law_script", "_law_k"]) fun _ _ _ _ _ _ us hl => match us, hl with | [_, _], _ => rfl⟩
  have F9 := fun_mk (st := s_law_number) l9 c9 k9
  have D9 : Dfn mg "_law_number" s_law_number ["_law_cell", "_law_most"] := ⟨_, _, F9, PySem.W.mg_of X G a9, k9, F9.binds (ps := ["_law_cell", "_law_most"]) fun _ _ _ _ _ _ us hl => match us, hl with | [_, _], _ => rfl⟩
  have F10 := fun_mk (st := s_law_good) l10 c10 k10
  have D10 : Dfn mg "_law_good" s_law_good ["_law_one", "_law_other", "_law_many"] := ⟨_, _, F10, PySem.W.mg_of X G a10, k10, F10.binds (ps := ["_law_one", "_law_other", "_law_many"]) fun _ _ _ _ _ _ us hl => match us, hl with | [_, _, _], _ => rfl⟩
  refine ⟨PySem.W.fnOf "law" "law" (defArgs s_law) (defBody s_law) (defScope s_law) .none kV11 dc11 pm11 an11 cd11 ct11, fun s v => .of_eq rfl, fun base _ _ => ?_⟩
  have C1 := ok_look_alike (P := P) (w := w) (base := base) D1 B 
  have C2 := ok_plus (P := P) (w := w) (base := base) D2 B C1
  have C3 := ok_less (P := P) (w := w) (base := base) D3 B C1
  have C4 := ok_times (P := P) (w := w) (base := base) D4 B 
  have C5 := ok_weighed (P := P) (w := w) (base := base) D5 B C1
  have C6 := ok_law_whole (P := P) (w := w) (base := base) D6 B 
  have C7 := ok_law_same (P := P) (w := w) (base := base) D7 B C6
  have C8 := ok_law_at (P := P) (w := w) (base := base) D8 B 
  have C9 := ok_law_number (P := P) (w := w) (base := base) D9 B 
  have C10 := ok_law_good (P := P) (w := w) (base := base) D10 B C7 C2 C3 C4 C5 C6
  exact (okF_law (P := P) (w := w) (base := base) (fun_mk (st := s_law) l11 c11 k11) B C9 C8 C10 C2 C3 C4).imp (law_imp (fun ns h => h) fun _ => rfl)
end G.k01
open PySem PySem.W PyProof.Rows in
set_option maxRecDepth 100000 in
set_option maxHeartbeats 0 in
theorem PySem.Challenge.cw_swapbook_k01_sums_and_products_holds : PySem.Challenge.rw_swapbook_k01_sums_and_products.Holds := by
  w_on; o_law; k_head; (case hw => w_witness2)
  k_fill
  refine G.walk_law (l := PySem.Challenge.rw_swapbook_k01_sums_and_products) (k := 4) rfl rfl ⟨rfl, by decide, by decide⟩ (fun w h Y => PySem.W.kIn_of Y) ?F
  case F =>
    intro w mg fa h KX G hmg
    refine' _root_.G.k01.all_mk KX G hmg ?a1 ?l1 ?c1 ?k1 ?a2 ?l2 ?c2 ?k2 ?a3 ?l3 ?c3 ?k3 ?a4 ?l4 ?c4 ?k4 ?a5 ?l5 ?c5 ?k5 ?a6 ?l6 ?c6 ?k6 ?a7 ?l7 ?c7 ?k7 ?a8 ?l8 ?c8 ?k8 ?a9 ?l9 ?c9 ?k9 ?a10 ?l10 ?c10 ?k10 ?a11 ?l11 ?c11 ?k11 ?z_len ?z_range ?z_zip ?z_list ?z_enumerate ?z_int ?z_bool ?z_str ?z_tuple ?z_reversed ?z_any ?z_all ?z_sum ?z_abs ?z_min ?z_max ?z_isinstance ?z_set ?z_verr
    (case a1 => k_is)
    (case l1 => k_is)
    (case c1 => k_is)
    (case k1 => k_is)
    (case a2 => k_is)
    (case l2 => k_is)
    (case c2 => k_is)
    (case k2 => k_is)
    (case a3 => k_is)
    (case l3 => k_is)
    (case c3 => k_is)
    (case k3 => k_is)
    (case a4 => k_is)
    (case l4 => k_is)
    (case c4 => k_is)
    (case k4 => k_is)
    (case a5 => k_is)
    (case l5 => k_is)
    (case c5 => k_is)
    (case k5 => k_is)
    (case a6 => k_is)
    (case l6 => k_is)
    (case c6 => k_is)
    (case k6 => k_is)
    (case a7 => k_is)
    (case l7 => k_is)
    (case c7 => k_is)
    (case k7 => k_is)
    (case a8 => k_is)
    (case l8 => k_is)
    (case c8 => k_is)
    (case k8 => k_is)
    (case a9 => k_is)
    (case l9 => k_is)
    (case c9 => k_is)
    (case k9 => k_is)
    (case a10 => k_is)
    (case l10 => k_is)
    (case c10 => k_is)
    (case k10 => k_is)
    (case a11 => k_is)
    (case l11 => k_is)
    (case c11 => k_is)
    (case k11 => k_is)
    (case z_len => k_is)
    (case z_range => k_is)
    (case z_zip => k_is)
    (case z_list => k_is)
    (case z_enumerate => k_is)
    (case z_int => k_is)
    (case z_bool => k_is)
    (case z_str => k_is)
    (case z_tuple => k_is)
    (case z_reversed => k_is)
    (case z_any => k_is)
    (case z_all => k_is)
    (case z_sum => k_is)
    (case z_abs => k_is)
    (case z_min => k_is)
    (case z_max => k_is)
    (case z_isinstance => k_is)
    (case z_set => k_is)
    (case z_verr => k_is)
