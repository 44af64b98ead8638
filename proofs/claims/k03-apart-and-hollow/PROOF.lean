import PyProof.Rows.All
import PySem.Challenge.RW_crossbrace_k03_apart_and_hollow
import HandS.ForMost
import HandS.IsInst
import HandS.SortInts
import HandS.Deep
import HandS.Conv
import HandS.TupAny
import HandS.Wide
import KE.OsSort
import HandS.NoneIn
import HandS.EndBits
import HandS.TupSets
import KE.OsSorts
import KE.SortData
import KE.GoesMore
import HandS.Zip
import HandS.Style
import HandS.Strs
import HandS.DictTup
import KE.KDictWalk
import KE.KEqDict
import HandS.Dict
import HandS.Iter
import HandS.List
import KE.GoesEnum
import KE.KDictPairs
import KE.KDictKeyed
import HandS.SetFor
import KE.KDictZip
import KE.DataMinMax
import HandS.Exc
import HandS.ExcOwn
import HandS.ExcIs
import HandS.WordsExc
import PyProof.SumWalkG
import PyProof.SumAny
set_option Elab.async false
set_option linter.all false
set_option maxRecDepth 100000
/-! Cb1: typed values over the abstract heap, ownership, judgements -/
namespace Cb
open PySem PySem.Spec L2
open PyProof.Rows hiding St

abbrev Kf := PySem.W.Frag

/-! ### typed values -/
class R (α : Type) where
  rep : Kf → Hp → V → α → Prop
  mono : ∀ {K : Kf} {F F' : Hp} {v : V} {a : α}, Same F F' → rep K F v a → rep K F' v a

abbrev Reps {α : Type} [R α] (K : Kf) (F : Hp) : List V → List α → Prop := Paired (R.rep K F)
theorem Reps.mono {α : Type} [R α] {K : Kf} {F F' : Hp} (h : Same F F') {vs : List V} {as : List α} (r : Reps K F vs as) : Reps K F' vs as :=
  Paired.mono (fun _ _ x => R.mono h x) r

structure Tup (α : Type) where
  items : List α
  deriving DecidableEq
structure T3 (α β γ : Type) where
  a : α
  b : β
  c : γ
  deriving DecidableEq
structure T4 (α β γ δ : Type) where
  a : α
  b : β
  c : γ
  d : δ
  deriving DecidableEq
/-- the script: a list that is never written -/
structure Scr where
  xs : List Int

instance : R Int := ⟨fun _ _ v a => v = .int a, fun _ h => h⟩
instance : R Bool := ⟨fun _ _ v a => v = .bl a, fun _ h => h⟩
instance : R Str := ⟨fun _ _ v a => v = .str a, fun _ h => h⟩
instance : R Unit := ⟨fun _ _ v _ => v = .non, fun _ h => h⟩
instance {α : Type} [R α] : R (List α) := ⟨fun K F v as => ∃ p vs, v = .ref p ∧ F p = some (.lst vs) ∧ Reps K F vs as,
  fun h ⟨p, vs, e, q, r⟩ => ⟨p, vs, e, h _ _ q, r.mono h⟩⟩
instance {α : Type} [R α] : R (Tup α) := ⟨fun K F v as => ∃ p vs, v = .ref p ∧ F p = some (.tup vs) ∧ Reps K F vs as.items,
  fun h ⟨p, vs, e, q, r⟩ => ⟨p, vs, e, h _ _ q, r.mono h⟩⟩
instance {α β : Type} [R α] [R β] : R (α × β) := ⟨fun K F v x => ∃ p v1 v2, v = .ref p ∧ F p = some (.tup [v1, v2]) ∧ R.rep K F v1 x.1 ∧ R.rep K F v2 x.2,
  fun h ⟨p, v1, v2, e, q, r1, r2⟩ => ⟨p, v1, v2, e, h _ _ q, R.mono h r1, R.mono h r2⟩⟩
instance {α β γ : Type} [R α] [R β] [R γ] : R (T3 α β γ) := ⟨fun K F v x => ∃ p v1 v2 v3, v = .ref p ∧ F p = some (.tup [v1, v2, v3]) ∧ R.rep K F v1 x.a ∧ R.rep K F v2 x.b ∧ R.rep K F v3 x.c,
  fun h ⟨p, v1, v2, v3, e, q, r1, r2, r3⟩ => ⟨p, v1, v2, v3, e, h _ _ q, R.mono h r1, R.mono h r2, R.mono h r3⟩⟩
instance {α β γ δ : Type} [R α] [R β] [R γ] [R δ] : R (T4 α β γ δ) := ⟨fun K F v x => ∃ p v1 v2 v3 v4, v = .ref p ∧ F p = some (.tup [v1, v2, v3, v4]) ∧ R.rep K F v1 x.a ∧ R.rep K F v2 x.b ∧ R.rep K F v3 x.c ∧ R.rep K F v4 x.d,
  fun h ⟨p, v1, v2, v3, v4, e, q, r1, r2, r3, r4⟩ => ⟨p, v1, v2, v3, v4, e, h _ _ q, R.mono h r1, R.mono h r2, R.mono h r3, R.mono h r4⟩⟩
instance {α : Type} [R α] : R (Option α) := ⟨fun K F v x => match x with | none => v = .non | some a => R.rep K F v a,
  fun {K F F' v a} h r => match a, r with | none, r => r | some _, r => R.mono (K := K) h r⟩
instance {α β : Type} [R α] [R β] : R (Sum α β) := ⟨fun K F v x => match x with | .inl a => R.rep K F v a | .inr b => R.rep K F v b,
  fun {K F F' v a} h r => match a, r with | .inl _, r => R.mono (K := K) h r | .inr _, r => R.mono (K := K) h r⟩
instance : R Scr := ⟨fun K F v a => ∃ p, v = .ref p ∧ SqL K F p (a.xs.map V.int), fun h ⟨p, e, q⟩ => ⟨p, e, h.seq q⟩⟩

/-- the tuples of a heap -/
def isTup : HO → Bool
  | .tup _ => true
  | _ => false
def tups (H : Hp) : Hp := fun x => match H x with
  | some o => if isTup o then some o else none
  | none => none
theorem tups_sub (H : Hp) : Same (tups H) H := fun b o e => by
  unfold tups at e
  cases q : H b with
  | none => rw [q] at e; cases e
  | some u =>
    rw [q] at e
    simp only [] at e
    split at e
    · exact e
    · cases e
theorem tups_at {H : Hp} {b : Addr} {o : HO} (h : H b = some o) (t : isTup o = true) : tups H b = some o := by
  unfold tups; rw [h]; simp [t]
theorem tups_is {H : Hp} {b : Addr} {o : HO} (h : tups H b = some o) : H b = some o ∧ isTup o = true := by
  refine ⟨tups_sub H b o h, ?_⟩
  unfold tups at h
  cases q : H b with
  | none => rw [q] at h; cases h
  | some u =>
    rw [q] at h
    simp only [] at h
    split at h
    · cases h; assumption
    · cases h
/-- a value made of numbers, texts and tuples alone -/
class Pure (α : Type) [R α] : Prop where
  tup : ∀ {K : Kf} {F : Hp} {v : V} {a : α}, R.rep K F v a → R.rep K (tups F) v a
theorem Reps.tup {α : Type} [R α] [Pure α] {K : Kf} {F : Hp} {vs : List V} {as : List α} (r : Reps K F vs as) : Reps K (tups F) vs as :=
  Paired.mono (fun _ _ x => Pure.tup x) r
instance : Pure Int := ⟨fun h => h⟩
instance : Pure Bool := ⟨fun h => h⟩
instance : Pure Str := ⟨fun h => h⟩
instance : Pure Unit := ⟨fun h => h⟩
instance {α : Type} [R α] [Pure α] : Pure (Tup α) := ⟨fun ⟨p, vs, e, q, r⟩ => ⟨p, vs, e, tups_at q rfl, r.tup⟩⟩
instance {α β : Type} [R α] [R β] [Pure α] [Pure β] : Pure (α × β) := ⟨fun ⟨p, v1, v2, e, q, r1, r2⟩ => ⟨p, v1, v2, e, tups_at q rfl, Pure.tup r1, Pure.tup r2⟩⟩
instance {α β γ : Type} [R α] [R β] [R γ] [Pure α] [Pure β] [Pure γ] : Pure (T3 α β γ) := ⟨fun ⟨p, v1, v2, v3, e, q, r1, r2, r3⟩ => ⟨p, v1, v2, v3, e, tups_at q rfl, Pure.tup r1, Pure.tup r2, Pure.tup r3⟩⟩
instance {α β γ δ : Type} [R α] [R β] [R γ] [R δ] [Pure α] [Pure β] [Pure γ] [Pure δ] : Pure (T4 α β γ δ) := ⟨fun ⟨p, v1, v2, v3, v4, e, q, r1, r2, r3, r4⟩ => ⟨p, v1, v2, v3, v4, e, tups_at q rfl, Pure.tup r1, Pure.tup r2, Pure.tup r3, Pure.tup r4⟩⟩
instance {α : Type} [R α] [Pure α] : Pure (Option α) := ⟨fun {K F v a} r => match a, r with | none, r => r | some _, r => Pure.tup (α := α) (K := K) r⟩
instance {α β : Type} [R α] [R β] [Pure α] [Pure β] : Pure (Sum α β) := ⟨fun {K F v a} r => match a, r with | .inl _, r => Pure.tup (α := α) (K := K) r | .inr _, r => Pure.tup (α := β) (K := K) r⟩

/-- of a frozen heap what is new behind B, and the tuples -/
def res (B F : Hp) : Hp := fun x => match F x with
  | some o => if isTup o || (B x).isNone then some o else none
  | none => none
theorem res_sub (B F : Hp) : Same (res B F) F := fun b o e => by
  unfold res at e
  cases q : F b with
  | none => rw [q] at e; cases e
  | some u =>
    rw [q] at e
    simp only [] at e
    split at e
    · exact e
    · cases e
theorem res_at {B F : Hp} {b : Addr} {o : HO} (h : F b = some o) (t : isTup o = true ∨ B b = none) : res B F b = some o := by
  unfold res; rw [h]
  have : (isTup o || (B b).isNone) = true := by
    rcases t with t | t <;> simp [t]
  simp [this]
theorem res_is {B F : Hp} {b : Addr} {o : HO} (h : res B F b = some o) : F b = some o ∧ (isTup o = true ∨ B b = none) := by
  refine ⟨res_sub B F b o h, ?_⟩
  unfold res at h
  cases q : F b with
  | none => rw [q] at h; cases h
  | some u =>
    rw [q] at h
    simp only [] at h
    split at h
    · rename_i c
      cases h
      rw [Bool.or_eq_true] at c
      rcases c with c | c
      · exact .inl c
      · exact .inr (by simpa using c)
    · cases h
theorem res_mono {B F F' : Hp} (h : Same F F') : Same (res B F) (res B F') := fun b o e => by
  obtain ⟨q, t⟩ := res_is e
  exact res_at (h _ _ q) t
def rf (k : Bool) (B F : Hp) : Hp := if k then res B F else F
theorem rf_mono {k : Bool} {B F F' : Hp} (h : Same F F') : Same (rf k B F) (rf k B F') := by
  cases k
  · exact h
  · exact res_mono h
theorem rf_sub {k : Bool} {B F : Hp} : Same (rf k B F) F := by
  cases k
  · exact Same.refl _
  · exact res_sub B F
theorem rf_tup {k : Bool} {B F : Hp} : Same (tups F) (rf k B F) := fun b o e => by
  obtain ⟨q, t⟩ := tups_is e
  cases k
  · exact q
  · exact res_at q (.inl t)
theorem rf_new {k : Bool} {B F : Hp} {p : Addr} {o : HO} (h : F p = some o) (n : B p = none) : rf k B F p = some o := by
  cases k
  · exact h
  · exact res_at h (.inr n)
/-- one heap over the other -/
def join (F G : Hp) : Hp := fun x => match F x with
  | some o => some o
  | none => G x
theorem join_left (F G : Hp) : Same F (join F G) := fun b o e => by unfold join; rw [e]
theorem join_right {F G H : Hp} (hF : Same F H) (hG : Same G H) : Same G (join F G) := fun b o e => by
  unfold join
  cases q : F b with
  | none => exact e
  | some u =>
    have := hF _ _ q
    rw [hG _ _ e] at this
    exact this.symm
theorem join_sub {F G H : Hp} (hF : Same F H) (hG : Same G H) : Same (join F G) H := fun b o e => by
  unfold join at e
  cases q : F b with
  | none => rw [q] at e; exact hG _ _ e
  | some u => rw [q] at e; cases e; exact hF _ _ q
theorem join_is {F G : Hp} {b : Addr} {o : HO} (e : join F G b = some o) : F b = some o ∨ G b = some o := by
  unfold join at e
  cases q : F b with
  | none => rw [q] at e; exact .inr e
  | some u => rw [q] at e; exact .inl e

/-! ### slots -/
structure Slot where
  ok : Kf → Hp → Hp → Option V → Hp → Prop
  mono : ∀ {K : Kf} {B F F' : Hp} {o : Option V} {O : Hp}, Same F F' → ok K B F o O → ok K B F' o O
/-- a parameter: worth a from the entry on -/
def pr {α : Type} [R α] (a : α) : Slot := ⟨fun K B F o _ => ∃ v, o = some v ∧ R.rep K B v a, fun _ h => h⟩
def junk : Slot := ⟨fun _ _ _ _ _ => True, fun _ _ => trivial⟩
def vl {α : Type} [R α] (k : Bool) (a : α) : Slot := ⟨fun K B F o _ => ∃ v, o = some v ∧ R.rep K (rf k B F) v a, fun h ⟨v, e, r⟩ => ⟨v, e, R.mono (rf_mono h) r⟩⟩
/-- types whose values are owned by a name: its cells stand in O -/
class Ow (β : Type) extends R β where
  own : Kf → Hp → V → β → Hp → Prop
  omono : ∀ {K : Kf} {F F' : Hp} {v : V} {b : β} {O : Hp}, Same F F' → own K F v b O → own K F' v b O
  oread : ∀ {K : Kf} {F H : Hp} {v : V} {b : β} {O : Hp}, own K F v b O → Same F H → Same O H → rep K H v b
instance {α : Type} [R α] : Ow (List α) where
  own := fun K F v as O => ∃ p vs, v = .ref p ∧ O p = some (.lst vs) ∧ Reps K F vs as
  omono := fun h ⟨p, vs, e, q, r⟩ => ⟨p, vs, e, q, r.mono h⟩
  oread := fun ⟨p, vs, e, q, r⟩ hF hO => ⟨p, vs, e, hO _ _ q, r.mono hF⟩
def ownd {β : Type} [Ow β] (k : Bool) (b : β) : Slot := ⟨fun K B F o O => ∃ v, o = some v ∧ Ow.own K (rf k B F) v b O, fun h ⟨v, e, r⟩ => ⟨v, e, Ow.omono (rf_mono h) r⟩⟩

abbrev Ev := List Slot
def Slots (K : Kf) (B F : Hp) : Ev → St → Hp → Prop
  | [], [], _ => True
  | s :: Γ, o :: σ, O => ∃ O1 O2, Same O1 O ∧ Same O2 O ∧ (∀ x, O1 x = none ∨ O2 x = none) ∧ s.ok K B F o O1 ∧ Slots K B F Γ σ O2
  | _, _, _ => False
section
variable {K : Kf} {B F F' : Hp}
theorem Slots.mono (h : Same F F') : ∀ {Γ : Ev} {σ : St} {O : Hp}, Slots K B F Γ σ O → Slots K B F' Γ σ O
  | [], [], _, _ => trivial
  | _ :: Γ, _ :: σ, _, ⟨O1, O2, a, b, c, d, e⟩ => ⟨O1, O2, a, b, c, Slot.mono _ h d, Slots.mono h e⟩
  | [], _ :: _, _, h => h.elim
  | _ :: _, [], _, h => h.elim
theorem Slots.sub : ∀ {Γ : Ev} {σ : St} {O O' : Hp}, Same O O' → Slots K B F Γ σ O → Slots K B F Γ σ O'
  | [], [], _, _, _, _ => trivial
  | _ :: _, _ :: _, _, _, h, ⟨O1, O2, a, b, c, d, e⟩ => ⟨O1, O2, a.trans h, b.trans h, c, d, e⟩
  | [], _ :: _, _, _, _, h => h.elim
  | _ :: _, [], _, _, _, h => h.elim
theorem Slots.length : ∀ {Γ : Ev} {σ : St} {O : Hp}, Slots K B F Γ σ O → Γ.length = σ.length
  | [], [], _, _ => rfl
  | _ :: _, _ :: _, _, ⟨_, _, _, _, _, _, e⟩ => by rw [List.length_cons, List.length_cons, Slots.length e]
  | [], _ :: _, _, h => h.elim
  | _ :: _, [], _, h => h.elim
/-- one slot in focus -/
theorem Slots.focus : ∀ {Γ : Ev} {σ : St} {O : Hp} {i : Nat} {s : Slot}, Slots K B F Γ σ O → Γ[i]? = some s →
    ∃ o O1 Or, σ[i]? = some o ∧ Same O1 O ∧ Same Or O ∧ (∀ x, O1 x = none ∨ Or x = none) ∧ s.ok K B F o O1 ∧
      ∀ F' s' o' O1' O', Same F F' → Slot.ok s' K B F' o' O1' → Same O1' O' → Same Or O' → (∀ x, O1' x = none ∨ Or x = none) → Slots K B F' (Γ.set i s') (σ.set i o') O'
  | [], _, _, _, _, _, e => by simp at e
  | _ :: _, [], _, _, _, h, _ => h.elim
  | s :: Γ, o :: σ, O, 0, s0, ⟨O1, O2, a, b, c, d, q⟩, e => by
    have e' : s = s0 := by simpa using e
    subst e'
    refine ⟨o, O1, O2, rfl, a, b, c, d, fun F' s' o' O1' O' f k a' b' c' => ?_⟩
    exact ⟨O1', O2, a', b', c', k, q.mono f⟩
  | s :: Γ, o :: σ, O, i + 1, s0, ⟨O1, O2, a, b, c, d, q⟩, e => by
    obtain ⟨o1, P1, Pr, e1, h1, h2, h3, h4, h5⟩ := Slots.focus (i := i) (s := s0) q (by simpa using e)
    refine ⟨o1, P1, join O1 Pr, by simpa using e1, h1.trans b, join_sub a (h2.trans b), fun x => ?_, h4, fun F' s' o' O1' O' f k a' b' c' => ?_⟩
    · rcases h3 x with z | z
      · exact .inl z
      · rcases c x with y | y
        · right; unfold join; rw [y]; exact z
        · left
          cases w : P1 x with
          | none => rfl
          | some u => rw [h1 _ _ w] at y; cases y
    · have so : Same O1 O' := (join_left O1 Pr).trans b'
      have sp : Same Pr O' := (join_right (H := O) a (h2.trans b)).trans b'
      refine ⟨O1, join O1' Pr, so, join_sub a' sp, fun x => ?_, Slot.mono _ f d, h5 F' s' o' O1' _ f k (join_left _ _) (join_right a' sp) fun x => ?_⟩
      · cases w : O1 x with
        | none => exact .inl rfl
        | some u =>
          right
          have q1 : O1' x = none := (c' x).resolve_right fun z => by
            unfold join at z; rw [w] at z; cases z
          have q2 : Pr x = none := by
            cases w2 : Pr x with
            | none => rfl
            | some u2 =>
              rcases c x with y | y
              · rw [w] at y; cases y
              · rw [h2 _ _ w2] at y; cases y
          unfold join; rw [q1]; exact q2
      · rcases c' x with z | z
        · exact .inl z
        · right
          cases w2 : Pr x with
          | none => rfl
          | some u2 =>
            unfold join at z
            cases w : O1 x with
            | none => rw [w] at z; rw [w2] at z; cases z
            | some u => rw [w] at z; cases z
/-- a slot forgotten -/
theorem Slots.at {Γ : Ev} {σ : St} {O : Hp} {i : Nat} {s : Slot} (h : Slots K B F Γ σ O) (e : Γ[i]? = some s) : ∃ o O1, σ[i]? = some o ∧ Same O1 O ∧ s.ok K B F o O1 := by
  obtain ⟨o, O1, _, e1, h1, _, _, h4, _⟩ := h.focus e
  exact ⟨o, O1, e1, h1, h4⟩
end

/-! ### the assertion -/
structure AS (K : Kf) (B F0 : Hp) (Γ : Ev) (F : Hp) (σ : St) (H : Hp) : Prop where
  ex : ∃ O, Slots K B F Γ σ O ∧ Same O H ∧ (∀ x, O x ≠ none → F x = none ∧ B x = none) ∧ ∀ x o, O x = some o → isTup o = false
  sF : Same F H
  sB : Same B H
  s0 : Same F0 F
  bf : Same B F
/-- what an expression without stores may do to the heaps -/
structure Grow (F H F' H' : Hp) : Prop where
  hh : Same H H'
  ff : Same F F'
  fh : Same F' H'
  nw : ∀ x o, F' x = some o → F x = some o ∨ H x = none ∨ isTup o = true
theorem Grow.refl {F H : Hp} (h : Same F H) : Grow F H F H := ⟨Same.refl _, Same.refl _, h, fun _ _ e => .inl e⟩
theorem Grow.trans {F H F1 H1 F2 H2 : Hp} (a : Grow F H F1 H1) (b : Grow F1 H1 F2 H2) : Grow F H F2 H2 where
  hh := a.hh.trans b.hh
  ff := a.ff.trans b.ff
  fh := b.fh
  nw := fun x o e => by
    rcases b.nw x o e with q | q | q
    · exact a.nw x o q
    · exact .inr (.inl (a.hh.free q))
    · exact .inr (.inr q)
theorem AS.grow {K : Kf} {B F0 F H F' H' : Hp} {Γ : Ev} {σ : St} (A : AS K B F0 Γ F σ H) (g : Grow F H F' H') : AS K B F0 Γ F' σ H' := by
  obtain ⟨⟨O, s, so, d, nt⟩, sF, sB, s0, bf⟩ := A
  refine ⟨⟨O, s.mono g.ff, so.trans g.hh, fun x hx => ⟨?_, (d x hx).2⟩, nt⟩, g.fh, sB.trans g.hh, s0.trans g.ff, bf.trans g.ff⟩
  cases q : F' x with
  | none => rfl
  | some o =>
    cases w : O x with
    | none => exact absurd w hx
    | some u =>
      rcases g.nw x o q with z | z | z
      · rw [(d x hx).1] at z; cases z
      · rw [so _ _ w] at z; cases z
      · have e1 := g.fh _ _ q
        have e2 := g.hh _ _ (so _ _ w)
        rw [e1] at e2; cases e2
        rw [nt _ _ w] at z; cases z
/-- a new frozen object -/
theorem Grow.new {F H : Hp} {p : Addr} {o : HO} (h : Same F H) (n : H p = none) : Grow F H (upd F p o) (upd H p o) where
  hh := fun b u e => by rw [upd_ne (ne_of_none e n)]; exact e
  ff := fun b u e => by rw [upd_ne (ne_of_none (h _ _ e) n)]; exact e
  fh := fun b u e => by
    by_cases q : b = p
    · subst q; rw [upd_same] at e ⊢; exact e
    · rw [upd_ne q] at e ⊢; exact h _ _ e
  nw := fun x u e => by
    by_cases q : x = p
    · subst q; exact .inr (.inl n)
    · rw [upd_ne q] at e; exact .inl e
/-- a new object that is not frozen -/
theorem Grow.newH {F H : Hp} {p : Addr} {o : HO} (h : Same F H) (n : H p = none) : Grow F H F (upd H p o) where
  hh := fun b u e => by rw [upd_ne (ne_of_none e n)]; exact e
  ff := Same.refl _
  fh := fun b u e => by rw [upd_ne (ne_of_none (h _ _ e) n)]; exact h _ _ e
  nw := fun x u e => .inl e
/-- the tuples of the heap frozen too -/
theorem Grow.tups {F H : Hp} (h : Same F H) : Grow F H (join F (tups H)) H where
  hh := Same.refl _
  ff := join_left _ _
  fh := join_sub h (tups_sub H)
  nw := fun x o e => by
    rcases join_is e with q | q
    · exact .inl q
    · exact .inr (.inr (tups_is q).2)
theorem pure_lift {α : Type} [R α] [Pure α] {K : Kf} {B F H : Hp} {v : V} {a : α} {k : Bool} (h : Same F H) (r : R.rep K H v a) : R.rep K (rf k B (join F (tups H))) v a := by
  have r1 : R.rep K (tups H) v a := Pure.tup r
  have r2 : R.rep K (join F (tups H)) v a := R.mono (join_right h (tups_sub H)) r1
  exact R.mono rf_tup (Pure.tup r2)

/-! ### semantic readings -/
section
variable (X : Cx)
def WE (e : Expr) : TE := fun σ H Q => ∀ (pins : List (Addr × Obj)) (s : Shared), Inv X pins σ H s → wpAny (model X.prog X.w) X.A (eval e X.env) (EP X pins σ Q) X.xe s
def WT (e : Expr) : TT := fun σ H Q => ∀ (pins : List (Addr × Obj)) (s : Shared), Inv X pins σ H s → wpAny (model X.prog X.w) X.A (isTrue e X.env (eval e X.env)) (TP X pins σ Q) X.xe s
def WA (es : List Expr) : TA := fun σ H Q => ∀ (pos : Pos) (pins : List (Addr × Obj)) (s : Shared), Inv X pins σ H s → wpAny (model X.prog X.w) X.A (spliced (backTo pos (starEach es X.env))) (AP X pins σ Q) X.xe s
def WS (st : Stmt) : TS := fun D σ H => ∀ (pins : List (Addr × Obj)) (s : Shared), Inv X pins σ H s → wpAny (model X.prog X.w) X.A (exec st X.env) (SP X pins D) X.xe s
def WSs (st : List Stmt) : TS := fun D σ H => ∀ (pins : List (Addr × Obj)) (s : Shared), Inv X pins σ H s → wpAny (model X.prog X.w) X.A (execs st X.env) (SP X pins D) X.xe s
end
section
variable {X : Cx}
theorem can_e {e : Expr} : PE X e (WE X e) := ⟨fun pins s _ _ _ I h => h pins s I⟩
theorem can_t {e : Expr} : PT X e (WT X e) := ⟨fun pins s _ _ _ I h => h pins s I⟩
theorem can_a {es : List Expr} : PA X es (WA X es) := ⟨fun pos pins s _ _ _ I h => h pos pins s I⟩
theorem can_s {st : Stmt} : PS X st (WS X st) := ⟨fun pins s _ _ _ I h => h pins s I⟩
theorem can_ss {st : List Stmt} : PSs X st (WSs X st) := ⟨fun pins s _ _ _ I h => h pins s I⟩
theorem WE.of {e : Expr} {t : TE} (h : PE X e t) {σ : St} {H : Hp} {Q : VK} (q : t σ H Q) : WE X e σ H Q := fun pins s I => h.run pins s σ H Q I q
theorem WT.of {e : Expr} {t : TT} (h : PT X e t) {σ : St} {H : Hp} {Q : Bool → Hp → Prop} (q : t σ H Q) : WT X e σ H Q := fun pins s I => h.run pins s σ H Q I q
theorem WA.of {es : List Expr} {t : TA} (h : PA X es t) {σ : St} {H : Hp} {Q : List V → Hp → Prop} (q : t σ H Q) : WA X es σ H Q := fun pos pins s I => h.run pos pins s σ H Q I q
theorem WS.of {st : Stmt} {t : TS} (h : PS X st t) {σ : St} {H : Hp} {D : Ends} (q : t D σ H) : WS X st D σ H := fun pins s I => h.run pins s σ H D I q
theorem WSs.of {st : List Stmt} {t : TS} (h : PSs X st t) {σ : St} {H : Hp} {D : Ends} (q : t D σ H) : WSs X st D σ H := fun pins s I => h.run pins s σ H D I q
theorem WE.mono {e : Expr} {σ : St} {H : Hp} {Q Q' : VK} (h : WE X e σ H Q) (m : ∀ v H', Q v H' → Q' v H') : WE X e σ H Q' := fun pins s I =>
  thn (h pins s I) fun _ _ ⟨v, H', I', r, q⟩ => ⟨v, H', I', r, m _ _ q⟩
theorem WT.mono {e : Expr} {σ : St} {H : Hp} {Q Q' : Bool → Hp → Prop} (h : WT X e σ H Q) (m : ∀ v H', Q v H' → Q' v H') : WT X e σ H Q' := fun pins s I =>
  thn (h pins s I) fun _ _ ⟨H', I', q⟩ => ⟨H', I', m _ _ q⟩
end

/-! ### judgements -/
section
variable (X : Cx) (B F0 : Hp) (Γ : Ev)
/-- e is worth a, frozen -/
def XE (e : Expr) (k : Bool) {α : Type} [R α] (a : α) : Prop := ∀ F σ H Q, AS X.K B F0 Γ F σ H → (∀ F' H' v, Grow F H F' H' → R.rep X.K (rf k B F') v a → Q v H') → WE X e σ H Q
/-- e is worth a as the heap stands -/
def XV (e : Expr) {α : Type} [R α] (a : α) : Prop := ∀ F σ H Q, AS X.K B F0 Γ F σ H → (∀ F' H' v, Grow F H F' H' → R.rep X.K H' v a → Q v H') → WE X e σ H Q
/-- e is a new thing, worth b -/
def XO (e : Expr) (k : Bool) {β : Type} [Ow β] (b : β) : Prop := ∀ F σ H Q, AS X.K B F0 Γ F σ H → (∀ F' H' v O, Grow F H F' H' → Same O H' → (∀ x o, O x = some o → H x = none ∧ F' x = none ∧ isTup o = false) → Ow.own X.K (rf k B F') v b O → Q v H') → WE X e σ H Q
/-- a test -/
def XT (e : Expr) (c : Bool) : Prop := ∀ F σ H (Q : Bool → Hp → Prop), AS X.K B F0 Γ F σ H → (∀ F' H', Grow F H F' H' → Q c H') → WT X e σ H Q
/-- arguments, as the heap stands -/
def XA (es : List Expr) (P : Kf → Hp → List V → Prop) : Prop := ∀ F σ H (Q : List V → Hp → Prop), AS X.K B F0 Γ F σ H → (∀ F' H' vs, Grow F H F' H' → P X.K H' vs → Q vs H') → WA X es σ H Q
/-- arguments, frozen -/
def XAF (es : List Expr) (P : Kf → Hp → Hp → List V → Prop) : Prop := ∀ F σ H (Q : List V → Hp → Prop), AS X.K B F0 Γ F σ H → (∀ F' H' vs, Grow F H F' H' → P X.K B F' vs → Q vs H') → WA X es σ H Q
/-- a statement, a block -/
def TSt (st : Stmt) (D : Ends) : Prop := ∀ F σ H, AS X.K B F0 Γ F σ H → WS X st D σ H
def TSs (st : List Stmt) (D : Ends) : Prop := ∀ F σ H, AS X.K B F0 Γ F σ H → WSs X st D σ H
end
section
variable {X : Cx} {B F0 : Hp} {Γ : Ev} {k k1 k2 : Bool} {e : Expr}
theorem XE.v {α : Type} [R α] {a : α} (h : XE X B F0 Γ e k a) : XV X B F0 Γ e a := fun F σ H Q A q =>
  h F σ H Q A fun F' H' v g r => q F' H' v g (R.mono (rf_sub.trans g.fh) r)
theorem XV.fz {α : Type} [R α] [Pure α] {a : α} (h : XV X B F0 Γ e a) : XE X B F0 Γ e k a := fun F σ H Q A q =>
  h F σ H Q A fun F' H' v g r => q _ H' v (g.trans (Grow.tups g.fh)) (pure_lift g.fh r)
theorem XE.p {α : Type} [R α] [Pure α] {a : α} (h : XE X B F0 Γ e k1 a) : XE X B F0 Γ e k a := h.v.fz
theorem XE.f {α : Type} [R α] {a : α} (h : XE X B F0 Γ e true a) : XE X B F0 Γ e k a := fun F σ H Q A q =>
  h F σ H Q A fun F' H' v g r => q F' H' v g (R.mono (by cases k; exact rf_sub; exact Same.refl _) r)
theorem XE.cast {α : Type} [R α] {a b : α} (h : XE X B F0 Γ e k a) (q : a = b) : XE X B F0 Γ e k b := q ▸ h
theorem XV.cast {α : Type} [R α] {a b : α} (h : XV X B F0 Γ e a) (q : a = b) : XV X B F0 Γ e b := q ▸ h
theorem XO.cast {α : Type} [Ow α] {a b : α} (h : XO X B F0 Γ e k a) (q : a = b) : XO X B F0 Γ e k b := q ▸ h
theorem XT.cast {a b : Bool} (h : XT X B F0 Γ e a) (q : a = b) : XT X B F0 Γ e b := q ▸ h
/-- a new list is frozen -/
theorem XO.fz {α : Type} [R α] {a : List α} (h : XO X B F0 Γ e k a) : XE X B F0 Γ e k a := fun F σ H Q A q =>
  h F σ H Q A fun F' H' v O g so n ⟨p, vs, ev, ep, r⟩ => by
    obtain ⟨np, nf, nt⟩ := n p _ ep
    have nB : B p = none := A.sB.free np
    refine q (upd F' p (.lst vs)) H' v ⟨g.hh, g.ff.trans fun b u e => ?_, fun b u e => ?_, fun x o e => ?_⟩ ⟨p, vs, ev, rf_new upd_same nB, r.mono (rf_mono fun b u e => ?_)⟩
    · rw [upd_ne (ne_of_none e nf)]; exact e
    · by_cases z : b = p
      · subst z; rw [upd_same] at e; cases e; exact so _ _ ep
      · rw [upd_ne z] at e; exact g.fh _ _ e
    · by_cases z : x = p
      · subst z; exact .inr (.inl np)
      · rw [upd_ne z] at e; exact g.nw _ _ e
    · rw [upd_ne (ne_of_none e nf)]; exact e

/-! ### names, constants -/
theorem AS.val {K : Kf} {F : Hp} {σ : St} {H : Hp} {i : Nat} {α : Type} [R α] {a : α} (A : AS K B F0 Γ F σ H) (e : Γ[i]? = some (vl k a)) : ∃ v, σ[i]? = some (some v) ∧ R.rep K (rf k B F) v a := by
  obtain ⟨⟨O, s, _⟩, _⟩ := A
  obtain ⟨o, _, e1, _, v, rfl, r⟩ := s.at e
  exact ⟨v, e1, r⟩
theorem AS.own {K : Kf} {F : Hp} {σ : St} {H : Hp} {i : Nat} {α : Type} [Ow α] {a : α} (A : AS K B F0 Γ F σ H) (e : Γ[i]? = some (ownd k a)) : ∃ v, σ[i]? = some (some v) ∧ R.rep K H v a := by
  obtain ⟨⟨O, s, so, _⟩, sF, _⟩ := A
  obtain ⟨o, O1, e1, h1, v, rfl, r⟩ := s.at e
  exact ⟨v, e1, Ow.oread r (rf_sub.trans sF) (h1.trans so)⟩
theorem xn {x : Str} {pos : Pos} (i : Nat) {α : Type} [R α] {a : α} (hN : X.N[i]? = some x) (hv : Vis X.env.scope x) (hΓ : Γ[i]? = some (vl k a)) (hd : (x == ("__debug__" : Str)) = false) (hcd : (x == ("__classdict__" : Str)) = false) : XE X B F0 Γ (.Name x pos) k a := fun F σ H Q A q => by
  obtain ⟨v, e, r⟩ := A.val hΓ
  exact WE.of (pe_var hN hv hd hcd) ⟨v, e, q F H v (Grow.refl A.sF) r⟩
theorem xno {x : Str} {pos : Pos} (i : Nat) {α : Type} [Ow α] {a : α} (hN : X.N[i]? = some x) (hv : Vis X.env.scope x) (hΓ : Γ[i]? = some (ownd k a)) (hd : (x == ("__debug__" : Str)) = false) (hcd : (x == ("__classdict__" : Str)) = false) : XV X B F0 Γ (.Name x pos) a := fun F σ H Q A q => by
  obtain ⟨v, e, r⟩ := A.own hΓ
  exact WE.of (pe_var hN hv hd hcd) ⟨v, e, q F H v (Grow.refl A.sF) r⟩
theorem xnp {x : Str} {pos : Pos} (i : Nat) {α : Type} [R α] {a : α} (hN : X.N[i]? = some x) (hv : Vis X.env.scope x) (hΓ : Γ[i]? = some (pr a)) (hd : (x == ("__debug__" : Str)) = false) (hcd : (x == ("__classdict__" : Str)) = false) : XE X B F0 Γ (.Name x pos) false a := fun F σ H Q A q => by
  obtain ⟨⟨O, s, _⟩, _, _, _, bf⟩ := id A
  obtain ⟨o, _, e1, _, v, rfl, r⟩ := s.at hΓ
  exact WE.of (pe_var hN hv hd hcd) ⟨v, e1, q F H v (Grow.refl A.sF) (R.mono bf r)⟩
theorem x_const {α : Type} [R α] {v : V} {a : α} (h : PE X e (tC v)) (r : ∀ F, R.rep X.K F v a) : XE X B F0 Γ e k a := fun F σ H Q A q =>
  WE.of h (q F H v (Grow.refl A.sF) (r _))
theorem xi {i : Int} {j : Nat} {pos : Pos} : XE X B F0 Γ (.Constant (.int i) j pos) k i := x_const pe_int fun _ => rfl
theorem xb {b : Bool} {j : Nat} {pos : Pos} : XE X B F0 Γ (.Constant (.bool b) j pos) k b := x_const pe_bl fun _ => rfl
theorem xs {z : Str} {j : Nat} {pos : Pos} : XE X B F0 Γ (.Constant (.str z) j pos) k z := x_const pe_str fun _ => rfl
theorem xnone {j : Nat} {pos : Pos} : XE X B F0 Γ (.Constant .none j pos) k () := x_const pe_non fun _ => rfl
theorem xnoneO {j : Nat} {pos : Pos} {α : Type} [R α] : XE X B F0 Γ (.Constant .none j pos) k (none : Option α) := x_const pe_non fun _ => rfl
theorem XE.some {α : Type} [R α] {a : α} (h : XE X B F0 Γ e k a) : XE X B F0 Γ e k (some a) := h
theorem XE.inl {α β : Type} [R α] [R β] {a : α} (h : XE X B F0 Γ e k a) : XE X B F0 Γ e k (Sum.inl a : Sum α β) := h
theorem XE.inr {α β : Type} [R α] [R β] {a : β} (h : XE X B F0 Γ e k a) : XE X B F0 Γ e k (Sum.inr a : Sum α β) := h

/-! ### operators -/
variable {a b : Expr} {pos : Pos} {α β γ : Type} [R α] [R β] [R γ] {x : α} {y : β} {z : γ}
/-- two operands in a row, as the heap stands -/
theorem x_two (ha : XV X B F0 Γ a x) (hb : XV X B F0 Γ b y) {F σ H} {Q : V → V → Hp → Prop} (A : AS X.K B F0 Γ F σ H)
    (q : ∀ F' H' v w, Grow F H F' H' → R.rep X.K H' v x → R.rep X.K H' w y → Q v w H') : WE X a σ H (fun v H1 => WE X b σ H1 fun w H2 => Q v w H2) :=
  ha F σ H _ A fun F1 H1 v g r => hb F1 σ H1 _ (A.grow g) fun F2 H2 w g2 r2 => q F2 H2 v w (g.trans g2) (R.mono g2.hh r) r2
/-- .. frozen -/
theorem x_twoF (ha : XE X B F0 Γ a k1 x) (hb : XE X B F0 Γ b k2 y) {F σ H} {Q : V → V → Hp → Prop} (A : AS X.K B F0 Γ F σ H)
    (q : ∀ F' H' v w, Grow F H F' H' → R.rep X.K (rf k1 B F') v x → R.rep X.K (rf k2 B F') w y → Q v w H') : WE X a σ H (fun v H1 => WE X b σ H1 fun w H2 => Q v w H2) :=
  ha F σ H _ A fun F1 H1 v g r => hb F1 σ H1 _ (A.grow g) fun F2 H2 w g2 r2 => q F2 H2 v w (g.trans g2) (R.mono (rf_mono g2.ff) r) r2
/-- two operands to a flat value -/
theorem x_op {op : Operator} {r : R2} (ho : OpR X (binaryOp op) r) (ha : XV X B F0 Γ a x) (hb : XV X B F0 Γ b y) (hz : ∀ H v w Q, R.rep X.K H v x → R.rep X.K H w y → (∀ u, (∀ F, R.rep X.K F u z) → Q u H) → r v w H Q) : XE X B F0 Γ (.BinOp a op b pos) k z := fun F σ H Q A q =>
  WE.of (pe_op ho can_e can_e) (x_two ha hb A fun F' H' v w g r1 r2 => hz H' v w Q r1 r2 fun u ru => q F' H' u g (ru _))
theorem x_cmp {op : CmpOp} {r : R2} {c : Bool} (ho : OpR X (compareOp op) r) (ha : XV X B F0 Γ a x) (hb : XV X B F0 Γ b y) (hm : behindInMarks op b = false) (hz : ∀ H v w Q, R.rep X.K H v x → R.rep X.K H w y → Q (.bl c) H → r v w H Q) : XE X B F0 Γ (.Compare a [op] [b] pos) k c := fun F σ H Q A q =>
  WE.of (pe_cmpR ho can_e can_e hm) (x_two ha hb A fun F' H' v w g r1 r2 => hz H' v w Q r1 r2 (q F' H' _ g rfl))
variable {i j : Int}
theorem xadd (ha : XV X B F0 Γ a i) (hb : XV X B F0 Γ b j) : XE X B F0 Γ (.BinOp a .Add b pos) k (i + j) := x_op op_add ha hb fun H v w Q r1 r2 q => ⟨i, j, r1, r2, q _ fun _ => rfl⟩
theorem xsub (ha : XV X B F0 Γ a i) (hb : XV X B F0 Γ b j) : XE X B F0 Γ (.BinOp a .Sub b pos) k (i - j) := x_op op_sub ha hb fun H v w Q r1 r2 q => ⟨i, j, r1, r2, q _ fun _ => rfl⟩
theorem xmul (ha : XV X B F0 Γ a i) (hb : XV X B F0 Γ b j) (c : CMul i j) : XE X B F0 Γ (.BinOp a .Mult b pos) k (i * j) := x_op op_mul ha hb fun H v w Q r1 r2 q => ⟨i, j, r1, r2, c, q _ fun _ => rfl⟩
theorem xdiv (ha : XV X B F0 Γ a i) (hb : XV X B F0 Γ b j) (c : CDiv i j) : XE X B F0 Γ (.BinOp a .FloorDiv b pos) k (i / j) := x_op op_fdiv ha hb fun H v w Q r1 r2 q => ⟨i, j, r1, r2, c, q _ fun _ => rfl⟩
theorem xmod (ha : XV X B F0 Γ a i) (hb : XV X B F0 Γ b j) (c : 0 < j) : XE X B F0 Γ (.BinOp a .Mod b pos) k (i % j) := x_op op_mod ha hb fun H v w Q r1 r2 q => ⟨i, j, r1, r2, c, q _ fun _ => rfl⟩
theorem xneg (ha : XV X B F0 Γ a i) : XE X B F0 Γ (.UnaryOp .USub a pos) k (-i) := fun F σ H Q A q =>
  WE.of (pe_un un_neg can_e) (ha F σ H _ A fun F' H' v g r => ⟨i, r, q F' H' _ g rfl⟩)
theorem xlt (ha : XV X B F0 Γ a i) (hb : XV X B F0 Γ b j) : XE X B F0 Γ (.Compare a [.Lt] [b] pos) k (decide (i < j)) := x_cmp op_lt ha hb (nomark _) fun H v w Q r1 r2 q => ⟨i, j, r1, r2, q⟩
theorem xle (ha : XV X B F0 Γ a i) (hb : XV X B F0 Γ b j) : XE X B F0 Γ (.Compare a [.LtE] [b] pos) k (decide (i ≤ j)) := x_cmp op_le ha hb (nomark _) fun H v w Q r1 r2 q => ⟨i, j, r1, r2, q⟩
theorem xgt (ha : XV X B F0 Γ a i) (hb : XV X B F0 Γ b j) : XE X B F0 Γ (.Compare a [.Gt] [b] pos) k (decide (j < i)) := x_cmp op_gt ha hb (nomark _) fun H v w Q r1 r2 q => ⟨i, j, r1, r2, q⟩
theorem xge (ha : XV X B F0 Γ a i) (hb : XV X B F0 Γ b j) : XE X B F0 Γ (.Compare a [.GtE] [b] pos) k (decide (j ≤ i)) := x_cmp op_ge ha hb (nomark _) fun H v w Q r1 r2 q => ⟨i, j, r1, r2, q⟩
/-- values that are compared by themselves -/
class Scal (α : Type) [R α] [DecidableEq α] : Prop where
  eq : ∀ {K : Kf} {H : Hp} {v w : V} {x y : α}, R.rep K H v x → R.rep K H w y → scal v w = true ∧ decide (v = w) = decide (x = y)
theorem xeq [DecidableEq α] [Scal α] {x y : α} (ha : XV X B F0 Γ a x) (hb : XV X B F0 Γ b y) : XE X B F0 Γ (.Compare a [.Eq] [b] pos) k (decide (x = y)) := x_cmp op_eq ha hb (nomark _) fun H v w Q r1 r2 q => by
  obtain ⟨h1, h2⟩ := Scal.eq r1 r2
  exact ⟨h1, by rw [h2]; exact q⟩
theorem xne [DecidableEq α] [Scal α] {x y : α} (ha : XV X B F0 Γ a x) (hb : XV X B F0 Γ b y) : XE X B F0 Γ (.Compare a [.NotEq] [b] pos) k (!decide (x = y)) := x_cmp op_ne ha hb (nomark _) fun H v w Q r1 r2 q => by
  obtain ⟨h1, h2⟩ := Scal.eq r1 r2
  exact ⟨h1, by rw [h2]; exact q⟩
instance : Scal Int := ⟨fun {K H v w x y} h1 h2 => by
  have e1 : v = .int x := h1
  have e2 : w = .int y := h2
  subst e1 e2
  exact ⟨rfl, by rw [dec_int]; exact Bool.beq_eq_decide_eq x y⟩⟩
instance : Scal Str := ⟨fun {K H v w x y} h1 h2 => by
  have e1 : v = .str x := h1
  have e2 : w = .str y := h2
  subst e1 e2
  exact ⟨rfl, by
    by_cases e : x = y
    · subst e; simp
    · rw [decide_eq_false e, decide_eq_false]; intro q; exact e (V.str.inj q)⟩⟩
instance : Scal Bool := ⟨fun {K H v w x y} h1 h2 => by
  have e1 : v = .bl x := h1
  have e2 : w = .bl y := h2
  subst e1 e2
  exact ⟨rfl, by cases x <;> cases y <;> decide⟩⟩
/-- a < b < c -/
theorem xchain {op op' : CmpOp} {r r' : R2} {c : Expr} {p1 p2 : Bool} (ho : OpR X (compareOp op) r) (ho' : OpR X (compareOp op') r') (ha : XV X B F0 Γ a x) (hb : XV X B F0 Γ b y) (hc : XV X B F0 Γ c z)
    (h1 : ∀ H v w Q, R.rep X.K H v x → R.rep X.K H w y → Q (.bl p1) H → r v w H Q) (h2 : ∀ H v w Q, R.rep X.K H v y → R.rep X.K H w z → Q (.bl p2) H → r' v w H Q) (hm : lastMarks [op, op'] [b, c] = false) :
    XE X B F0 Γ (.Compare a [op, op'] [b, c] pos) k (p1 && p2) := fun F σ H Q A q => by
  refine WE.of (pe_chain ho ho' can_e can_e can_e hm) (x_two ha hb A fun F1 H1 v w g r1 r2 => h1 H1 v w _ r1 r2 ⟨p1, rfl, ?_⟩)
  cases p1 with
  | false => exact q F1 H1 _ g rfl
  | true => exact hc F1 σ H1 _ (A.grow g) fun F2 H2 u g2 r3 => h2 H2 w u _ (R.mono g2.hh r2) r3 (q F2 H2 _ (g.trans g2) rfl)
theorem xlt_lt {i j l : Int} {c : Expr} (ha : XV X B F0 Γ a i) (hb : XV X B F0 Γ b j) (hc : XV X B F0 Γ c l) (hm : lastMarks [.Lt, .Lt] [b, c] = false := by with_unfolding_all rfl) : XE X B F0 Γ (.Compare a [.Lt, .Lt] [b, c] pos) k (decide (i < j) && decide (j < l)) :=
  xchain op_lt op_lt ha hb hc (fun H v w Q r1 r2 q => ⟨_, _, r1, r2, q⟩) (fun H v w Q r1 r2 q => ⟨_, _, r1, r2, q⟩) hm
theorem xle_lt {i j l : Int} {c : Expr} (ha : XV X B F0 Γ a i) (hb : XV X B F0 Γ b j) (hc : XV X B F0 Γ c l) (hm : lastMarks [.LtE, .Lt] [b, c] = false := by with_unfolding_all rfl) : XE X B F0 Γ (.Compare a [.LtE, .Lt] [b, c] pos) k (decide (i ≤ j) && decide (j < l)) :=
  xchain op_le op_lt ha hb hc (fun H v w Q r1 r2 q => ⟨_, _, r1, r2, q⟩) (fun H v w Q r1 r2 q => ⟨_, _, r1, r2, q⟩) hm
theorem xlt_le {i j l : Int} {c : Expr} (ha : XV X B F0 Γ a i) (hb : XV X B F0 Γ b j) (hc : XV X B F0 Γ c l) (hm : lastMarks [.Lt, .LtE] [b, c] = false := by with_unfolding_all rfl) : XE X B F0 Γ (.Compare a [.Lt, .LtE] [b, c] pos) k (decide (i < j) && decide (j ≤ l)) :=
  xchain op_lt op_le ha hb hc (fun H v w Q r1 r2 q => ⟨_, _, r1, r2, q⟩) (fun H v w Q r1 r2 q => ⟨_, _, r1, r2, q⟩) hm
theorem xle_le {i j l : Int} {c : Expr} (ha : XV X B F0 Γ a i) (hb : XV X B F0 Γ b j) (hc : XV X B F0 Γ c l) (hm : lastMarks [.LtE, .LtE] [b, c] = false := by with_unfolding_all rfl) : XE X B F0 Γ (.Compare a [.LtE, .LtE] [b, c] pos) k (decide (i ≤ j) && decide (j ≤ l)) :=
  xchain op_le op_le ha hb hc (fun H v w Q r1 r2 q => ⟨_, _, r1, r2, q⟩) (fun H v w Q r1 r2 q => ⟨_, _, r1, r2, q⟩) hm

/-! ### tests -/
theorem XV.t {c : Bool} (h : XV X B F0 Γ e c) (he : ∀ whole, isTrue e X.env whole = (do let v ← whole; standAt e.pos; holding [v] (truthy v)) := by intro _; rfl) : XT X B F0 Γ e c := fun F σ H Q A q =>
  WT.of (pt_val can_e he) (h F σ H _ A fun F' H' v g r => ⟨c, r, q F' H' g⟩)
theorem xtnot {c : Bool} (h : XT X B F0 Γ e c) : XT X B F0 Γ (.UnaryOp .Not e pos) (!c) := fun F σ H Q A q =>
  WT.of (pt_not can_t) (h F σ H _ A fun F' H' g => q F' H' g)
/-- chains of and, or as tests: PW forms -/
def WW (X : Cx) (e : Expr) : TT := fun σ H Q => ∀ (whole : Sem Value) (pins : List (Addr × Obj)) (s : Shared), Inv X pins σ H s → wpAny (model X.prog X.w) X.A (isTrue e X.env whole) (TP X pins σ Q) X.xe s
theorem can_w : PW X e (WW X e) := ⟨fun whole pins s _ _ _ I h => h whole pins s I⟩
def XW (X : Cx) (B F0 : Hp) (Γ : Ev) (e : Expr) (c : Bool) : Prop := ∀ F σ H (Q : Bool → Hp → Prop), AS X.K B F0 Γ F σ H → (∀ F' H', Grow F H F' H' → Q c H') → WW X e σ H Q
theorem WW.of {t : TT} (h : PW X e t) {σ : St} {H : Hp} {Q : Bool → Hp → Prop} (q : t σ H Q) : WW X e σ H Q := fun whole pins s I => h.run whole pins s σ H Q I q
theorem XW.t {c : Bool} (h : XW X B F0 Γ e c) : XT X B F0 Γ e c := fun F σ H Q A q => WT.of can_w.pt (h F σ H Q A q)
theorem xwand1 {c : Bool} (h : XT X B F0 Γ a c) : XW X B F0 Γ (.BoolOp .And [a] pos) c := fun F σ H Q A q => WW.of (pw_and1 can_t) (h F σ H Q A q)
theorem xwor1 {c : Bool} (h : XT X B F0 Γ a c) : XW X B F0 Γ (.BoolOp .Or [a] pos) c := fun F σ H Q A q => WW.of (pw_or1 can_t) (h F σ H Q A q)
/-- the right part is asked only where the left one holds -/
theorem xwand {c d : Bool} {rest : List Expr} {b : Expr} (h : XT X B F0 Γ a c) (h2 : c = true → XW X B F0 Γ (.BoolOp .And (b :: rest) pos) d) : XW X B F0 Γ (.BoolOp .And (a :: b :: rest) pos) (c && d) := fun F σ H Q A q =>
  WW.of (pw_and can_t can_w) (h F σ H _ A fun F' H' g => by
    cases c with
    | false => exact q F' H' g
    | true => exact h2 rfl F' σ H' _ (A.grow g) fun F2 H2 g2 => q F2 H2 (g.trans g2))
theorem xwor {c d : Bool} {rest : List Expr} {b : Expr} (h : XT X B F0 Γ a c) (h2 : c = false → XW X B F0 Γ (.BoolOp .Or (b :: rest) pos) d) : XW X B F0 Γ (.BoolOp .Or (a :: b :: rest) pos) (c || d) := fun F σ H Q A q =>
  WW.of (pw_or can_t can_w) (h F σ H _ A fun F' H' g => by
    cases c with
    | true => exact q F' H' g
    | false => exact h2 rfl F' σ H' _ (A.grow g) fun F2 H2 g2 => q F2 H2 (g.trans g2))
/-- and, or, not as values -/
theorem xone {op} {c : Bool} (h : XV X B F0 Γ a c) : XE X B F0 Γ (.BoolOp op [a] pos) k c := fun F σ H Q A q => WE.of (pe_one can_e) (h.fz F σ H Q A q)
theorem xand {c d : Bool} {rest : List Expr} {b : Expr} (h : XV X B F0 Γ a c) (h2 : c = true → XE X B F0 Γ (.BoolOp .And (b :: rest) pos) k d) : XE X B F0 Γ (.BoolOp .And (a :: b :: rest) pos) k (c && d) := fun F σ H Q A q =>
  WE.of (pe_and can_e can_e) (h F σ H _ A fun F' H' v g r => ⟨c, r, by
    cases c with
    | false => exact q F' H' _ g rfl
    | true => exact h2 rfl F' σ H' _ (A.grow g) fun F2 H2 v2 g2 r2 => q F2 H2 v2 (g.trans g2) r2⟩)
theorem xor {c d : Bool} {rest : List Expr} {b : Expr} (h : XV X B F0 Γ a c) (h2 : c = false → XE X B F0 Γ (.BoolOp .Or (b :: rest) pos) k d) : XE X B F0 Γ (.BoolOp .Or (a :: b :: rest) pos) k (c || d) := fun F σ H Q A q =>
  WE.of (pe_or can_e can_e) (h F σ H _ A fun F' H' v g r => ⟨c, r, by
    cases c with
    | true => exact q F' H' _ g rfl
    | false => exact h2 rfl F' σ H' _ (A.grow g) fun F2 H2 v2 g2 r2 => q F2 H2 v2 (g.trans g2) r2⟩)
theorem xnot {c : Bool} (h : XV X B F0 Γ a c) : XE X B F0 Γ (.UnaryOp .Not a pos) k (!c) := fun F σ H Q A q =>
  WE.of (pe_not can_e) (h F σ H _ A fun F' H' v g r => ⟨c, r, q F' H' _ g rfl⟩)
/-- is None -/
class NN (α : Type) [R α] : Prop where
  nn : ∀ {K : Kf} {H : Hp} {a : α}, ¬ R.rep K H .non a
instance : NN Int := ⟨fun h => nomatch (show V.non = V.int _ from h)⟩
instance : NN Bool := ⟨fun h => nomatch (show V.non = V.bl _ from h)⟩
instance : NN Str := ⟨fun h => nomatch (show V.non = V.str _ from h)⟩
instance {α : Type} [R α] : NN (List α) := ⟨fun ⟨_, _, e, _⟩ => nomatch e⟩
instance {α : Type} [R α] : NN (Tup α) := ⟨fun ⟨_, _, e, _⟩ => nomatch e⟩
instance {α β : Type} [R α] [R β] : NN (α × β) := ⟨fun ⟨_, _, _, e, _⟩ => nomatch e⟩
instance {α β γ : Type} [R α] [R β] [R γ] : NN (T3 α β γ) := ⟨fun ⟨_, _, _, _, e, _⟩ => nomatch e⟩
instance {α β : Type} [R α] [R β] [NN α] [NN β] : NN (Sum α β) := ⟨fun {K H a} h => match a, h with | .inl _, h => NN.nn (α := α) (K := K) h | .inr _, h => NN.nn (α := β) (K := K) h⟩
theorem non_opt [NN α] {K : Kf} {H : Hp} {v : V} {o : Option α} (r : R.rep K H v o) : decide (v = .non) = o.isNone := by
  cases o with
  | none => have e : v = .non := r; subst e; rfl
  | some a =>
    have r' : R.rep K H v a := r
    have : v ≠ .non := fun e => NN.nn (e ▸ r')
    rw [decide_eq_false this]; rfl
theorem xisN [NN α] {o : Option α} {j' : Nat} {p' : Pos} (ha : XV X B F0 Γ a o) : XE X B F0 Γ (.Compare a [.Is] [.Constant .none j' p'] pos) k o.isNone := x_cmp op_isN ha (xnone (k := false)).v (nomark _) fun H v w Q r1 r2 q => ⟨r2, by rw [non_opt r1]; exact q⟩
theorem xisNN [NN α] {o : Option α} {j' : Nat} {p' : Pos} (ha : XV X B F0 Γ a o) : XE X B F0 Γ (.Compare a [.IsNot] [.Constant .none j' p'] pos) k (!o.isNone) := x_cmp op_notN ha (xnone (k := false)).v (nomark _) fun H v w Q r1 r2 q => ⟨r2, by rw [non_opt r1]; exact q⟩
theorem xifx {c : Bool} {t : Expr} {x y : α} (hc : XT X B F0 Γ t c) (ha : c = true → XE X B F0 Γ a k x) (hb : c = false → XE X B F0 Γ b k y) : XE X B F0 Γ (.IfExp t a b pos) k (if c = true then x else y) := fun F σ H Q A q =>
  WE.of (pe_ifExp can_t can_e can_e) (hc F σ H _ A fun F' H' g => by
    cases c with
    | true => exact ha rfl F' σ H' _ (A.grow g) fun F2 H2 v2 g2 r2 => q F2 H2 v2 (g.trans g2) r2
    | false => exact hb rfl F' σ H' _ (A.grow g) fun F2 H2 v2 g2 r2 => q F2 H2 v2 (g.trans g2) r2)
end
end Cb

set_option Elab.async false
set_option linter.all false
set_option maxRecDepth 100000
/-! Cb2: arguments, displays, items, slices, len, in -/
namespace Cb
open PySem PySem.Spec L2
open PyProof.Rows hiding St
section
variable {X : Cx} {B F0 : Hp} {Γ : Ev} {k k1 k2 : Bool} {e a b : Expr} {es : List Expr} {pos : Pos} {α β γ : Type} [R α] [R β] [R γ] {x : α} {y : β} {z : γ}

/-! ### arguments -/
theorem xa0 : XA X B F0 Γ [] (fun _ _ vs => vs = []) := fun F σ H Q A q => WA.of pa_nil (q F H [] (Grow.refl A.sF) rfl)
theorem xa {P : Kf → Hp → List V → Prop} (h : XV X B F0 Γ e x) (ht : XA X B F0 Γ es P) (hs : starEach (e :: es) X.env = (false, eval e X.env) :: starEach es X.env := by rfl) :
    XA X B F0 Γ (e :: es) (fun K H vs => ∃ H1 v r, vs = v :: r ∧ R.rep K H v x ∧ Same H1 H ∧ P K H r) := fun F σ H Q A q =>
  WA.of (pa_cons can_e can_a hs) (h F σ H _ A fun F1 H1 v g r => ht F1 σ H1 _ (A.grow g) fun F2 H2 vs g2 p => q F2 H2 (v :: vs) (g.trans g2) ⟨H1, v, vs, rfl, R.mono g2.hh r, g2.hh, p⟩)
theorem xf0 : XAF X B F0 Γ [] (fun _ _ _ vs => vs = []) := fun F σ H Q A q => WA.of pa_nil (q F H [] (Grow.refl A.sF) rfl)
theorem xf {P : Kf → Hp → Hp → List V → Prop} (h : XE X B F0 Γ e k x) (ht : XAF X B F0 Γ es P) (hs : starEach (e :: es) X.env = (false, eval e X.env) :: starEach es X.env := by rfl) :
    XAF X B F0 Γ (e :: es) (fun K B F vs => ∃ v r, vs = v :: r ∧ R.rep K (rf k B F) v x ∧ P K B F r) := fun F σ H Q A q =>
  WA.of (pa_cons can_e can_a hs) (h F σ H _ A fun F1 H1 v g r => ht F1 σ H1 _ (A.grow g) fun F2 H2 vs g2 p => q F2 H2 (v :: vs) (g.trans g2) ⟨v, vs, rfl, R.mono (rf_mono g2.ff) r, p⟩)
/-- items of one kind -/
theorem xl0 : XAF X B F0 Γ [] (fun K B F vs => Reps K (rf k B F) vs ([] : List α)) := fun F σ H Q A q => WA.of pa_nil (q F H [] (Grow.refl A.sF) .nil)
theorem xl {as : List α} (h : XE X B F0 Γ e k x) (ht : XAF X B F0 Γ es (fun K B F vs => Reps K (rf k B F) vs as)) (hs : starEach (e :: es) X.env = (false, eval e X.env) :: starEach es X.env := by rfl) :
    XAF X B F0 Γ (e :: es) (fun K B F vs => Reps K (rf k B F) vs (x :: as)) := fun F σ H Q A q =>
  WA.of (pa_cons can_e can_a hs) (h F σ H _ A fun F1 H1 v g r => ht F1 σ H1 _ (A.grow g) fun F2 H2 vs g2 p => q F2 H2 (v :: vs) (g.trans g2) (.cons (R.mono (rf_mono g2.ff) r) p))

/-! ### displays -/
theorem small {n : Nat} (h : n ≤ 64) : n ≤ sizeLine := by rw [sizeLine_eq]; omega
/-- a new tuple -/
theorem x_tup {P : Kf → Hp → Hp → List V → Prop} {x1} (h : XAF X B F0 Γ es P) (hz : ∀ K B F vs, P K B F vs → vs.length ≤ sizeLine) (hr : ∀ K B F vs p, P K B F vs → F p = none → R.rep K (rf k B (upd F p (.tup vs))) (.ref p) z) : XE X B F0 Γ (.Tuple es x1 pos) k z := fun F σ H Q A q =>
  WE.of (pe_tup can_a) (h F σ H _ A fun F' H' vs g p => ⟨hz _ _ _ _ p, fun a na => q _ _ _ (g.trans (Grow.new g.fh na)) (hr _ _ _ _ _ p (g.fh.free na))⟩)
theorem sub_upd {F : Hp} {p : Addr} {o : HO} (n : F p = none) : Same F (upd F p o) := fun b u e => by rw [upd_ne (ne_of_none e n)]; exact e
theorem tup_in {k : Bool} {B F : Hp} {p : Addr} {vs : List V} : rf k B (upd F p (.tup vs)) p = some (.tup vs) := rf_tup _ _ (tups_at upd_same rfl)
theorem xt2 {x1} (h : XAF X B F0 Γ es (fun K B F vs => ∃ v r, vs = v :: r ∧ R.rep K (rf k B F) v x ∧ ∃ v' r', r = v' :: r' ∧ R.rep K (rf k B F) v' y ∧ r' = [])) : XE X B F0 Γ (.Tuple es x1 pos) k (x, y) :=
  x_tup h (fun _ _ _ _ ⟨_, _, e1, _, _, _, e2, _, e3⟩ => by subst e1 e2 e3; exact small (by simp)) fun K B F vs p ⟨v, r, e1, r1, v', r', e2, r2, e3⟩ n => by
    subst e1 e2 e3
    exact ⟨p, v, v', rfl, tup_in, R.mono (rf_mono (sub_upd n)) r1, R.mono (rf_mono (sub_upd n)) r2⟩
theorem xt3 {x1} (h : XAF X B F0 Γ es (fun K B F vs => ∃ v r, vs = v :: r ∧ R.rep K (rf k B F) v x ∧ ∃ v' r', r = v' :: r' ∧ R.rep K (rf k B F) v' y ∧ ∃ v2 r2, r' = v2 :: r2 ∧ R.rep K (rf k B F) v2 z ∧ r2 = [])) : XE X B F0 Γ (.Tuple es x1 pos) k (T3.mk x y z) :=
  x_tup h (fun _ _ _ _ ⟨_, _, e1, _, _, _, e2, _, _, _, e3, _, e4⟩ => by subst e1 e2 e3 e4; exact small (by simp)) fun K B F vs p ⟨v, r, e1, r1, v', r', e2, r2, v3, r3, e3, q3, e4⟩ n => by
    subst e1 e2 e3 e4
    exact ⟨p, v, v', v3, rfl, tup_in, R.mono (rf_mono (sub_upd n)) r1, R.mono (rf_mono (sub_upd n)) r2, R.mono (rf_mono (sub_upd n)) q3⟩
theorem xt4 {δ : Type} [R δ] {w : δ} {x1} (h : XAF X B F0 Γ es (fun K B F vs => ∃ v r, vs = v :: r ∧ R.rep K (rf k B F) v x ∧ ∃ v' r', r = v' :: r' ∧ R.rep K (rf k B F) v' y ∧ ∃ v2 r2, r' = v2 :: r2 ∧ R.rep K (rf k B F) v2 z ∧ ∃ v3 r3, r2 = v3 :: r3 ∧ R.rep K (rf k B F) v3 w ∧ r3 = [])) : XE X B F0 Γ (.Tuple es x1 pos) k (T4.mk x y z w) :=
  x_tup h (fun _ _ _ _ ⟨_, _, e1, _, _, _, e2, _, _, _, e3, _, _, _, e4, _, e5⟩ => by subst e1 e2 e3 e4 e5; exact small (by simp)) fun K B F vs p ⟨v, r, e1, r1, v', r', e2, r2, v3, r3, e3, q3, v4, r4, e4, q4, e5⟩ n => by
    subst e1 e2 e3 e4 e5
    exact ⟨p, v, v', v3, v4, rfl, tup_in, R.mono (rf_mono (sub_upd n)) r1, R.mono (rf_mono (sub_upd n)) r2, R.mono (rf_mono (sub_upd n)) q3, R.mono (rf_mono (sub_upd n)) q4⟩
theorem Reps.length {K : Kf} {F : Hp} {vs : List V} {as : List α} (r : Reps K F vs as) : vs.length = as.length := Paired.length r
/-- (a, b, ..) of one kind -/
theorem xtup {x1} {as : List α} (h : XAF X B F0 Γ es (fun K B F vs => Reps K (rf k B F) vs as)) (hz : as.length ≤ 64 := by exact Nat.le_of_ble_eq_true rfl) : XE X B F0 Γ (.Tuple es x1 pos) k (Tup.mk as) :=
  x_tup h (fun _ _ _ _ r => by rw [Reps.length r]; exact small hz) fun K B F vs p r n => ⟨p, vs, rfl, tup_in, r.mono (rf_mono (sub_upd n))⟩
/-- one cell -/
def one (p : Addr) (o : HO) : Hp := fun x => if x = p then some o else none
theorem one_at {p : Addr} {o : HO} : one p o p = some o := if_pos rfl
theorem one_is {p x : Addr} {o u : HO} (h : one p o x = some u) : x = p ∧ u = o := by
  unfold one at h
  split at h
  · cases h; exact ⟨by assumption, rfl⟩
  · cases h
theorem one_sub {p : Addr} {o : HO} {H : Hp} (h : H p = some o) : Same (one p o) H := fun b u e => by
  obtain ⟨rfl, rfl⟩ := one_is e; exact h
/-- a new list, from what is to be in it -/
theorem x_new {F H F' H' : Hp} {K : Kf} {B : Hp} {vs : List V} {as : List α} {p : Addr} {Q : VK} (g : Grow F H F' H') (np : H' p = none) (r : Reps K (rf k B F') vs as)
    (q : ∀ F' H' v O, Grow F H F' H' → Same O H' → (∀ x o, O x = some o → H x = none ∧ F' x = none ∧ isTup o = false) → Ow.own K (rf k B F') v as O → Q v H') : Q (.ref p) (upd H' p (.lst vs)) := by
  refine q F' _ (.ref p) (one p (.lst vs)) (g.trans (Grow.newH g.fh np)) (one_sub upd_same) (fun x o e => ?_) ⟨p, vs, rfl, one_at, r⟩
  obtain ⟨rfl, rfl⟩ := one_is e
  exact ⟨g.hh.free np, g.fh.free np, rfl⟩
theorem xlist {as : List α} (h : XAF X B F0 Γ es (fun K B F vs => Reps K (rf k B F) vs as)) (hz : as.length ≤ 64 := by exact Nat.le_of_ble_eq_true rfl) : XO X B F0 Γ (.List es pos) k as := fun F σ H Q A q =>
  WE.of (pe_lst can_a) (h F σ H _ A fun F' H' vs g r => ⟨by rw [Reps.length r]; exact small hz, fun p np => x_new g np r q⟩)

/-! ### items -/
theorem Reps.get {K : Kf} {F : Hp} {vs : List V} {as : List α} (r : Reps K F vs as) {i : Nat} {a : α} (h : as[i]? = some a) : ∃ v, vs[i]? = some v ∧ R.rep K F v a := by
  induction r generalizing i with
  | nil => simp at h
  | cons q _ ih =>
    cases i with
    | zero => simp at h; subst h; exact ⟨_, rfl, q⟩
    | succ n => simpa using ih (by simpa using h)
theorem Reps.at {K : Kf} {F : Hp} {vs : List V} {as : List α} (r : Reps K F vs as) {i : Int} {a : α} (h : atI as i = some a) : ∃ v, atI vs i = some v ∧ R.rep K F v a := by
  unfold atI at h ⊢
  rw [Reps.length r]
  cases e : ixN as.length i with
  | none => rw [e] at h; simp at h
  | some j => rw [e] at h; simpa using r.get (by simpa using h)
section
variable {i : Int} {as : List α} {t : Tup α}
theorem xix (ha : XE X B F0 Γ a k as) (hb : XV X B F0 Γ b i) (h : atI as i = some x) (hs : PlainIx b := by exact fun _ _ => rfl) : XE X B F0 Γ (.Subscript a b pos) k x := fun F σ H Q A q =>
  WE.of (pe_ix ix_list can_e can_e hs) (ha F σ H _ A fun F1 H1 v g r => hb F1 σ H1 _ (A.grow g) fun F2 H2 w g2 r2 => by
    obtain ⟨p, vs, e, hp, rs⟩ := R.mono (rf_mono g2.ff) r
    obtain ⟨u, hu, ru⟩ := rs.at h
    exact ⟨p, vs, i, u, e, r2, SqL.of (g2.fh _ _ (rf_sub _ _ hp)), hu, q F2 H2 u (g.trans g2) ru⟩)
theorem xixV (ha : XV X B F0 Γ a as) (hb : XV X B F0 Γ b i) (h : atI as i = some x) (hs : PlainIx b := by exact fun _ _ => rfl) : XV X B F0 Γ (.Subscript a b pos) x := fun F σ H Q A q =>
  WE.of (pe_ix ix_list can_e can_e hs) (x_two ha hb A fun F' H' v w g r r2 => by
    obtain ⟨p, vs, e, hp, rs⟩ := r
    obtain ⟨u, hu, ru⟩ := rs.at h
    exact ⟨p, vs, i, u, e, r2, SqL.of hp, hu, q F' H' u g ru⟩)
theorem xixT (ha : XE X B F0 Γ a k t) (hb : XV X B F0 Γ b i) (h : atI t.items i = some x) (hs : PlainIx b := by exact fun _ _ => rfl) : XE X B F0 Γ (.Subscript a b pos) k x := fun F σ H Q A q =>
  WE.of (pe_ix ix_tup can_e can_e hs) (ha F σ H _ A fun F1 H1 v g r => hb F1 σ H1 _ (A.grow g) fun F2 H2 w g2 r2 => by
    obtain ⟨p, vs, e, hp, rs⟩ := R.mono (rf_mono g2.ff) r
    obtain ⟨u, hu, ru⟩ := rs.at h
    exact ⟨p, vs, i, u, e, r2, SqT.of (g2.fh _ _ (rf_sub _ _ hp)), hu, q F2 H2 u (g.trans g2) ru⟩)
theorem xixS {z : Scr} {i v : Int} (ha : XV X B F0 Γ a z) (hb : XV X B F0 Γ b i) (h : atI z.xs i = some v) (hs : PlainIx b := by exact fun _ _ => rfl) : XE X B F0 Γ (.Subscript a b pos) k v := fun F σ H Q A q =>
  WE.of (pe_ix ix_list can_e can_e hs) (x_two ha hb A fun F' H' v' w g r r2 => by
    obtain ⟨p, e, hp⟩ := r
    refine ⟨p, _, i, .int v, e, r2, hp, ?_, q F' H' _ g rfl⟩
    unfold atI at h ⊢
    rw [List.length_map]
    cases e : ixN z.xs.length i with
    | none => rw [e] at h; simp at h
    | some j =>
      rw [e] at h
      have h' : z.xs[j]? = some v := by simpa using h
      show (z.xs.map V.int)[j]? = some (.int v)
      rw [List.getElem?_map, h']; rfl)
/-- t[0], t[1], t[2] of a tuple of things of several kinds -/
theorem x_itm {c : Expr} {n : Nat} (ha : XE X B F0 Γ a k z) (hc : XV X B F0 Γ c (n : Int)) (h : ∀ K F v, R.rep K F v z → ∃ p vs u, v = .ref p ∧ F p = some (.tup vs) ∧ vs[n]? = some u ∧ R.rep K F u x) (hs : PlainIx c) : XE X B F0 Γ (.Subscript a c pos) k x := fun F σ H Q A q =>
  WE.of (pe_ix ix_tup can_e can_e hs) (ha F σ H _ A fun F1 H1 v g r => hc F1 σ H1 _ (A.grow g) fun F2 H2 w g2 r2 => by
    obtain ⟨p, vs, u, e, hp, hu, ru⟩ := h _ _ _ (R.mono (rf_mono g2.ff) r)
    exact ⟨p, vs, n, u, e, r2, SqT.of (g2.fh _ _ (rf_sub _ _ hp)), atI_nat hu, q F2 H2 u (g.trans g2) ru⟩)
variable {j : Nat} {p' : Pos} {u2 : α × β} {u3 : T3 α β γ}
theorem xt2_0 (ha : XE X B F0 Γ a k u2) : XE X B F0 Γ (.Subscript a (.Constant (.int 0) j p') pos) k u2.1 := x_itm (n := 0) ha (xi (k := false)).v (fun _ _ _ ⟨p, v1, v2, e, hp, r1, r2⟩ => ⟨p, _, v1, e, hp, rfl, r1⟩) fun _ _ => rfl
theorem xt2_1 (ha : XE X B F0 Γ a k u2) : XE X B F0 Γ (.Subscript a (.Constant (.int 1) j p') pos) k u2.2 := x_itm (n := 1) ha (xi (k := false)).v (fun _ _ _ ⟨p, v1, v2, e, hp, r1, r2⟩ => ⟨p, _, v2, e, hp, rfl, r2⟩) fun _ _ => rfl
theorem xt3_0 (ha : XE X B F0 Γ a k u3) : XE X B F0 Γ (.Subscript a (.Constant (.int 0) j p') pos) k u3.a := x_itm (n := 0) ha (xi (k := false)).v (fun _ _ _ ⟨p, v1, v2, v3, e, hp, r1, r2, r3⟩ => ⟨p, _, v1, e, hp, rfl, r1⟩) fun _ _ => rfl
theorem xt3_1 (ha : XE X B F0 Γ a k u3) : XE X B F0 Γ (.Subscript a (.Constant (.int 1) j p') pos) k u3.b := x_itm (n := 1) ha (xi (k := false)).v (fun _ _ _ ⟨p, v1, v2, v3, e, hp, r1, r2, r3⟩ => ⟨p, _, v2, e, hp, rfl, r2⟩) fun _ _ => rfl
theorem xt3_2 (ha : XE X B F0 Γ a k u3) : XE X B F0 Γ (.Subscript a (.Constant (.int 2) j p') pos) k u3.c := x_itm (n := 2) ha (xi (k := false)).v (fun _ _ _ ⟨p, v1, v2, v3, e, hp, r1, r2, r3⟩ => ⟨p, _, v3, e, hp, rfl, r3⟩) fun _ _ => rfl
end

/-! ### len, in -/
theorem XA.one {P : List V → Hp → VK → Prop} {id : String} {p : Pos} {f : Str} {c : γ} (hc : CallR X (.builtin id) P) (hg : Gl X f) (hm : X.mg f = none) (hv : bootBuiltins f = some (.builtin id)) (ha : XV X B F0 Γ a x)
    (hP : ∀ H v Q, R.rep X.K H v x → (∀ u, (∀ F, R.rep X.K F u c) → Q u H) → P [v] H Q) (hn : f ≠ "__name__" := by decide) (hdb : (f == ("__debug__" : Str)) = false := by decide) (hs : starEach [a] X.env = (false, eval a X.env) :: starEach [] X.env := by rfl) :
    XE X B F0 Γ (.Call (.Name f p) [a] [] pos) k c := fun F σ H Q A q =>
  WE.of (pe_callB hc hg hm hv (pa_cons can_e pa_nil hs) hn hdb (he := hs)) (ha F σ H _ A fun F' H' v g r => hP H' v Q r fun u ru => q F' H' u g (ru _))
theorem xlen {as : List α} {p : Pos} (ml : X.mg "len" = none) (ha : XV X B F0 Γ a as) (hg : Gl X "len" := by rfl) (hs : starEach [a] X.env = (false, eval a X.env) :: starEach [] X.env := by rfl) : XE X B F0 Γ (.Call (.Name "len" p) [a] [] pos) k (as.length : Int) :=
  XA.one call_len_seq hg ml PySem.boot_len ha (fun H v Q ⟨q, vs, e, hp, r⟩ h => ⟨q, vs, by rw [e], .inl (SqL.of hp), by rw [Reps.length r]; exact h _ fun _ => rfl⟩) (hs := hs)
theorem xlenT {t : Tup α} {p : Pos} (ml : X.mg "len" = none) (ha : XV X B F0 Γ a t) (hg : Gl X "len" := by rfl) (hs : starEach [a] X.env = (false, eval a X.env) :: starEach [] X.env := by rfl) : XE X B F0 Γ (.Call (.Name "len" p) [a] [] pos) k (t.items.length : Int) :=
  XA.one call_len_seq hg ml PySem.boot_len ha (fun H v Q ⟨q, vs, e, hp, r⟩ h => ⟨q, vs, by rw [e], .inr (SqT.of hp), by rw [Reps.length r]; exact h _ fun _ => rfl⟩) (hs := hs)
theorem xlenS {z : Scr} {p : Pos} (ml : X.mg "len" = none) (ha : XV X B F0 Γ a z) (hg : Gl X "len" := by rfl) (hs : starEach [a] X.env = (false, eval a X.env) :: starEach [] X.env := by rfl) : XE X B F0 Γ (.Call (.Name "len" p) [a] [] pos) k (z.xs.length : Int) :=
  XA.one call_len_seq hg ml PySem.boot_len ha (fun H v Q ⟨q, e, hp⟩ h => ⟨q, _, by rw [e], .inl hp, by rw [List.length_map]; exact h _ fun _ => rfl⟩) (hs := hs)
/-- things that are found in lists by themselves -/
class Flat (α : Type) [R α] [DecidableEq α] : Prop where
  flat : ∀ {K : Kf} {H : Hp} {v : V} {x : α}, R.rep K H v x → flatV v = true
  eq : ∀ {K : Kf} {H : Hp} {v w : V} {x y : α}, R.rep K H v x → R.rep K H w y → eqV v w = decide (x = y)
instance : Flat Int := ⟨fun {K H v x} h => by have e : v = .int x := h; subst e; rfl, fun {K H v w x y} h1 h2 => by
  have e1 : v = .int x := h1
  have e2 : w = .int y := h2
  subst e1 e2
  show (x == y) = _
  exact Bool.beq_eq_decide_eq x y⟩
instance : Flat Str := ⟨fun {K H v x} h => by have e : v = .str x := h; subst e; rfl, fun {K H v w x y} h1 h2 => by
  have e1 : v = .str x := h1
  have e2 : w = .str y := h2
  subst e1 e2
  show eqV (.str x) (.str y) = _
  by_cases q : x = y
  · subst q; simp [eqV]
  · simp [eqV, q]⟩
instance : Flat Bool := ⟨fun {K H v x} h => by have e : v = .bl x := h; subst e; rfl, fun {K H v w x y} h1 h2 => by
  have e1 : v = .bl x := h1
  have e2 : w = .bl y := h2
  subst e1 e2
  cases x <;> cases y <;> decide⟩
theorem Reps.inV [DecidableEq α] [Flat α] {K : Kf} {H : Hp} {v : V} (r : R.rep K H v x) : ∀ {vs : List V} {as : List α}, Reps K H vs as → vs.all flatV = true ∧ L2.inV v vs = decide (x ∈ as)
  | _, _, .nil => ⟨rfl, by simp [L2.inV]⟩
  | _, _, .cons (a := u) (b := c) q t => by
    obtain ⟨h1, h2⟩ := Reps.inV r t
    refine ⟨by rw [List.all_cons, Flat.flat q, h1]; rfl, ?_⟩
    unfold L2.inV at h2 ⊢
    rw [List.any_cons, h2, Flat.eq q r]
    by_cases e : c = x
    · subst e; simp
    · have e' : ¬ x = c := fun z => e z.symm
      simp [e, e']
theorem xin [DecidableEq α] [Flat α] {as : List α} (ha : XV X B F0 Γ a x) (hb : XV X B F0 Γ b as) (hm : behindInMarks .In b = false := by rfl) : XE X B F0 Γ (.Compare a [.In] [b] pos) k (decide (x ∈ as)) :=
  x_cmp op_in_seq ha hb hm fun H v w Q r1 ⟨p, vs, e, hp, r2⟩ q => by
    obtain ⟨h1, h2⟩ := r2.inV r1
    exact ⟨p, vs, e, .inl (SqL.of hp), Flat.flat r1, h1, by rw [if_neg Bool.false_ne_true, h2]; exact q⟩
theorem xnin [DecidableEq α] [Flat α] {as : List α} (ha : XV X B F0 Γ a x) (hb : XV X B F0 Γ b as) (hm : behindInMarks .NotIn b = false := by rfl) : XE X B F0 Γ (.Compare a [.NotIn] [b] pos) k (!decide (x ∈ as)) :=
  x_cmp op_notIn_seq ha hb hm fun H v w Q r1 ⟨p, vs, e, hp, r2⟩ q => by
    obtain ⟨h1, h2⟩ := r2.inV r1
    exact ⟨p, vs, e, .inl (SqL.of hp), Flat.flat r1, h1, by rw [if_pos rfl, h2]; exact q⟩
theorem xinT [DecidableEq α] [Flat α] {t : Tup α} (ha : XV X B F0 Γ a x) (hb : XV X B F0 Γ b t) (hm : behindInMarks .In b = false := by rfl) : XE X B F0 Γ (.Compare a [.In] [b] pos) k (decide (x ∈ t.items)) :=
  x_cmp op_in_seq ha hb hm fun H v w Q r1 ⟨p, vs, e, hp, r2⟩ q => by
    obtain ⟨h1, h2⟩ := Reps.inV r1 r2
    exact ⟨p, vs, e, .inr (SqT.of hp), Flat.flat r1, h1, by rw [if_neg Bool.false_ne_true, h2]; exact q⟩
theorem xninT [DecidableEq α] [Flat α] {t : Tup α} (ha : XV X B F0 Γ a x) (hb : XV X B F0 Γ b t) (hm : behindInMarks .NotIn b = false := by rfl) : XE X B F0 Γ (.Compare a [.NotIn] [b] pos) k (!decide (x ∈ t.items)) :=
  x_cmp op_notIn_seq ha hb hm fun H v w Q r1 ⟨p, vs, e, hp, r2⟩ q => by
    obtain ⟨h1, h2⟩ := Reps.inV r1 r2
    exact ⟨p, vs, e, .inr (SqT.of hp), Flat.flat r1, h1, by rw [if_pos rfl, h2]; exact q⟩

/-! ### lists put together, cut -/
theorem Reps.append {K : Kf} {F : Hp} : ∀ {vs ws : List V} {as bs : List α}, Reps K F vs as → Reps K F ws bs → Reps K F (vs ++ ws) (as ++ bs)
  | _, _, _, _, .nil, h => h
  | _, _, _, _, .cons q t, h => .cons q (Reps.append t h)
theorem Reps.drop {K : Kf} {F : Hp} : ∀ {vs : List V} {as : List α} (n : Nat), Reps K F vs as → Reps K F (vs.drop n) (as.drop n)
  | _, _, 0, h => h
  | _, _, _ + 1, .nil => .nil
  | _, _, n + 1, .cons _ t => Reps.drop n t
theorem Reps.take {K : Kf} {F : Hp} : ∀ {vs : List V} {as : List α} (n : Nat), Reps K F vs as → Reps K F (vs.take n) (as.take n)
  | _, _, 0, _ => .nil
  | _, _, _ + 1, .nil => .nil
  | _, _, n + 1, .cons q t => .cons q (Reps.take n t)
theorem Reps.set {K : Kf} {F : Hp} {v : V} (r : R.rep K F v x) : ∀ {vs : List V} {as : List α} (n : Nat), Reps K F vs as → Reps K F (vs.set n v) (as.set n x)
  | _, _, _, .nil => .nil
  | _, _, 0, .cons _ t => .cons r t
  | _, _, n + 1, .cons q t => .cons q (Reps.set r n t)
theorem Reps.reverse {K : Kf} {F : Hp} {vs : List V} {as : List α} (r : Reps K F vs as) : Reps K F vs.reverse as.reverse := by
  induction r with
  | nil => exact .nil
  | cons q _ ih => rw [List.reverse_cons, List.reverse_cons]; exact ih.append (.cons q .nil)
theorem Reps.dropLast {K : Kf} {F : Hp} {vs : List V} {as : List α} (r : Reps K F vs as) : Reps K F vs.dropLast as.dropLast := by
  rw [List.dropLast_eq_take, List.dropLast_eq_take, Reps.length r]; exact r.take _
theorem Reps.eraseIdx {K : Kf} {F : Hp} : ∀ {vs : List V} {as : List α} (n : Nat), Reps K F vs as → Reps K F (vs.eraseIdx n) (as.eraseIdx n)
  | _, _, _, .nil => .nil
  | _, _, 0, .cons _ t => t
  | _, _, n + 1, .cons q t => .cons q (Reps.eraseIdx n t)
theorem xcat {as bs : List α} (ha : XE X B F0 Γ a k as) (hb : XE X B F0 Γ b k bs) (hz : as.length + bs.length ≤ sizeLine) : XO X B F0 Γ (.BinOp a .Add b pos) k (as ++ bs) := fun F σ H Q A q =>
  WE.of (pe_op op_cat can_e can_e) (x_twoF ha hb A fun F' H' v w g r1 r2 => by
    obtain ⟨p1, vs, e1, h1, q1⟩ := r1
    obtain ⟨p2, ws, e2, h2, q2⟩ := r2
    refine ⟨p1, p2, vs, ws, e1, e2, g.fh _ _ (rf_sub _ _ h1), g.fh _ _ (rf_sub _ _ h2), by rw [Reps.length q1, Reps.length q2]; exact hz, fun p np => x_new g np (q1.append q2) q⟩)
/-- the same where the items are plain -/
theorem reps_lift [Pure α] {K : Kf} {B F H : Hp} (h : Same F H) {vs : List V} {as : List α} (r : Reps K H vs as) : Reps K (rf k B (join F (tups H))) vs as := Paired.mono (fun _ _ q => pure_lift h q) r
theorem xcatV [Pure α] {as bs : List α} (ha : XV X B F0 Γ a as) (hb : XV X B F0 Γ b bs) (hz : as.length + bs.length ≤ sizeLine) : XO X B F0 Γ (.BinOp a .Add b pos) k (as ++ bs) := fun F σ H Q A q =>
  WE.of (pe_op op_cat can_e can_e) (x_two ha hb A fun F' H' v w g r1 r2 => by
    obtain ⟨p1, vs, e1, h1, q1⟩ := r1
    obtain ⟨p2, ws, e2, h2, q2⟩ := r2
    refine ⟨p1, p2, vs, ws, e1, e2, h1, h2, by rw [Reps.length q1, Reps.length q2]; exact hz, fun p np => x_new (g.trans (Grow.tups g.fh)) np (reps_lift g.fh (q1.append q2)) q⟩)
/-- slices -/
def XP (X : Cx) (B F0 : Hp) (Γ : Ev) (o : Option Expr) (i : Option Int) : Prop := ∃ t : TO, PO X o t ∧ ∀ F σ H Q, AS X.K B F0 Γ F σ H → (∀ F' H', Grow F H F' H' → Q i H') → t σ H Q
theorem xp0 : XP X B F0 Γ none none := ⟨tNoPart, po_none, fun F σ H Q A q => q F H (Grow.refl A.sF)⟩
theorem xp {i : Int} (h : XV X B F0 Γ e i) : XP X B F0 Γ (some e) (some i) := ⟨_, po_some can_e, fun F σ H Q A q => h F σ H _ A fun F' H' v g r => ⟨i, r, q F' H' g⟩⟩
def cut {α : Type} (xs : List α) (lo hi : Option Int) : List α := (xs.drop (HT.sIx xs.length 0 lo)).take (HT.sIx xs.length xs.length hi - HT.sIx xs.length 0 lo)
theorem Reps.cut {K : Kf} {F : Hp} {vs : List V} {as : List α} (r : Reps K F vs as) (lo hi : Option Int) : Reps K F (cutV vs lo hi) (Cb.cut as lo hi) := by
  unfold cutV Cb.cut
  rw [Reps.length r]
  exact (r.drop _).take _
theorem xsl {as : List α} {lo hi : Option Expr} {i j : Option Int} {p2 : Pos} (ha : XE X B F0 Γ a k as) (hl : XP X B F0 Γ lo i) (hh : XP X B F0 Γ hi j) : XO X B F0 Γ (.Subscript a (.Slice lo hi none p2) pos) k (cut as i j) := fun F σ H Q A q => by
  obtain ⟨tl, pl, hl⟩ := hl
  obtain ⟨th, ph, hh⟩ := hh
  refine WE.of (pe_slice sl_list can_e pl ph) (ha F σ H _ A fun F1 H1 v g r => hl F1 σ H1 _ (A.grow g) fun F2 H2 g2 => hh F2 σ H2 _ (A.grow (g.trans g2)) fun F3 H3 g3 => ?_)
  obtain ⟨p, vs, e, hp, rs⟩ := R.mono (rf_mono (g2.trans g3).ff) r
  exact ⟨p, vs, e, SqL.of (g3.fh _ _ (rf_sub _ _ hp)), fun p np => x_new (g.trans (g2.trans g3)) np (rs.cut i j) q⟩
theorem xslV [Pure α] {as : List α} {lo hi : Option Expr} {i j : Option Int} {p2 : Pos} (ha : XV X B F0 Γ a as) (hl : XP X B F0 Γ lo i) (hh : XP X B F0 Γ hi j) : XO X B F0 Γ (.Subscript a (.Slice lo hi none p2) pos) k (cut as i j) := fun F σ H Q A q => by
  obtain ⟨tl, pl, hl⟩ := hl
  obtain ⟨th, ph, hh⟩ := hh
  refine WE.of (pe_slice sl_list can_e pl ph) (ha F σ H _ A fun F1 H1 v g r => hl F1 σ H1 _ (A.grow g) fun F2 H2 g2 => hh F2 σ H2 _ (A.grow (g.trans g2)) fun F3 H3 g3 => ?_)
  obtain ⟨p, vs, e, hp, rs⟩ := R.mono (g2.trans g3).hh r
  exact ⟨p, vs, e, SqL.of hp, fun p np => x_new ((g.trans (g2.trans g3)).trans (Grow.tups g3.fh)) np (reps_lift g3.fh (rs.cut i j)) q⟩
theorem xslS {z : Scr} {lo hi : Option Expr} {i j : Option Int} {p2 : Pos} (ha : XV X B F0 Γ a z) (hl : XP X B F0 Γ lo i) (hh : XP X B F0 Γ hi j) : XO X B F0 Γ (.Subscript a (.Slice lo hi none p2) pos) k (cut z.xs i j) := fun F σ H Q A q => by
  obtain ⟨tl, pl, hl⟩ := hl
  obtain ⟨th, ph, hh⟩ := hh
  refine WE.of (pe_slice sl_list can_e pl ph) (ha F σ H _ A fun F1 H1 v g r => hl F1 σ H1 _ (A.grow g) fun F2 H2 g2 => hh F2 σ H2 _ (A.grow (g.trans g2)) fun F3 H3 g3 => ?_)
  obtain ⟨p, e, hp⟩ := R.mono (g2.trans g3).hh r
  have rs : ∀ xs : List Int, Reps X.K (rf k B F3) (xs.map V.int) xs := fun xs => by
    induction xs with
    | nil => exact .nil
    | cons x r ih => exact .cons rfl ih
  exact ⟨p, _, e, hp, fun p np => x_new (g.trans (g2.trans g3)) np ((rs z.xs).cut i j) q⟩
/-- list(xs), tuple(xs) -/
theorem x_ty {P : List V → Hp → VK → Prop} {T : String} {p : Pos} {f : Str} (hc : CallR X (.type T) P) (hg : Gl X f) (hm : X.mg f = none) (hv : bootBuiltins f = some (.type T)) {σ : St} {H : Hp} {Q : VK} (h : WE X a σ H (fun v H1 => P [v] H1 Q))
    (hn : f ≠ "__name__" := by decide) (hdb : (f == ("__debug__" : Str)) = false := by decide) (hs : starEach [a] X.env = (false, eval a X.env) :: starEach [] X.env := by rfl) : WE X (.Call (.Name f p) [a] [] pos) σ H Q :=
  WE.of (pe_callTy hc hg hm hv (pa_cons can_e pa_nil hs) hn hdb (he := hs)) h
theorem xlistOf {as : List α} {p : Pos} (ml : X.mg "list" = none) (ha : XE X B F0 Γ a k as) (hg : Gl X "list" := by rfl) (hs : starEach [a] X.env = (false, eval a X.env) :: starEach [] X.env := by rfl) : XO X B F0 Γ (.Call (.Name "list" p) [a] [] pos) k as := fun F σ H Q A q =>
  x_ty call_list_of hg ml (by decide +kernel) (ha F σ H _ A fun F' H' v g ⟨p, vs, e, hp, rs⟩ => ⟨p, vs, by rw [e], .inl (SqL.of (g.fh _ _ (rf_sub _ _ hp))), fun l nl => x_new g nl rs q⟩) (hs := hs)
theorem xlistOfV [Pure α] {as : List α} {p : Pos} (ml : X.mg "list" = none) (ha : XV X B F0 Γ a as) (hg : Gl X "list" := by rfl) (hs : starEach [a] X.env = (false, eval a X.env) :: starEach [] X.env := by rfl) : XO X B F0 Γ (.Call (.Name "list" p) [a] [] pos) k as := fun F σ H Q A q =>
  x_ty call_list_of hg ml (by decide +kernel) (ha F σ H _ A fun F' H' v g ⟨p, vs, e, hp, rs⟩ => ⟨p, vs, by rw [e], .inl (SqL.of hp), fun l nl => x_new (g.trans (Grow.tups g.fh)) nl (reps_lift g.fh rs) q⟩) (hs := hs)
theorem xlistOfT {t : Tup α} {p : Pos} (ml : X.mg "list" = none) (ha : XE X B F0 Γ a k t) (hg : Gl X "list" := by rfl) (hs : starEach [a] X.env = (false, eval a X.env) :: starEach [] X.env := by rfl) : XO X B F0 Γ (.Call (.Name "list" p) [a] [] pos) k t.items := fun F σ H Q A q =>
  x_ty call_list_of hg ml (by decide +kernel) (ha F σ H _ A fun F' H' v g ⟨p, vs, e, hp, rs⟩ => ⟨p, vs, by rw [e], .inr (SqT.of (g.fh _ _ (rf_sub _ _ hp))), fun l nl => x_new g nl rs q⟩) (hs := hs)
theorem xtupOf {as : List α} {p : Pos} (ml : X.mg "tuple" = none) (ha : XE X B F0 Γ a k as) (hg : Gl X "tuple" := by rfl) (hs : starEach [a] X.env = (false, eval a X.env) :: starEach [] X.env := by rfl) : XE X B F0 Γ (.Call (.Name "tuple" p) [a] [] pos) k (Tup.mk as) := fun F σ H Q A q =>
  x_ty call_tuple_of hg ml (by decide +kernel) (ha F σ H _ A fun F' H' v g ⟨p, vs, e, hp, rs⟩ => ⟨p, vs, by rw [e], .inl ⟨SqL.of (g.fh _ _ (rf_sub _ _ hp)), fun l nl => q _ _ _ (g.trans (Grow.new g.fh nl)) ⟨l, vs, rfl, tup_in, rs.mono (rf_mono (sub_upd (g.fh.free nl)))⟩⟩⟩) (hs := hs)
theorem xtupOfV [Pure α] {as : List α} {p : Pos} (ml : X.mg "tuple" = none) (ha : XV X B F0 Γ a as) (hg : Gl X "tuple" := by rfl) (hs : starEach [a] X.env = (false, eval a X.env) :: starEach [] X.env := by rfl) : XE X B F0 Γ (.Call (.Name "tuple" p) [a] [] pos) k (Tup.mk as) := fun F σ H Q A q =>
  x_ty call_tuple_of hg ml (by decide +kernel) (ha F σ H _ A fun F' H' v g ⟨p, vs, e, hp, rs⟩ => ⟨p, vs, by rw [e], .inl ⟨SqL.of hp, fun l nl => q _ _ _ ((g.trans (Grow.tups g.fh)).trans (Grow.new (Grow.tups g.fh).fh nl)) ⟨l, vs, rfl, tup_in, (reps_lift g.fh rs).mono (rf_mono (sub_upd ((Grow.tups g.fh).fh.free nl)))⟩⟩⟩) (hs := hs)
theorem xtupOfT {t : Tup α} {p : Pos} (ml : X.mg "tuple" = none) (ha : XE X B F0 Γ a k t) (hg : Gl X "tuple" := by rfl) (hs : starEach [a] X.env = (false, eval a X.env) :: starEach [] X.env := by rfl) : XE X B F0 Γ (.Call (.Name "tuple" p) [a] [] pos) k t := fun F σ H Q A q =>
  x_ty call_tuple_of hg ml (by decide +kernel) (ha F σ H _ A fun F' H' v g r => by
    obtain ⟨p, vs, e, hp, rs⟩ := r
    exact ⟨p, vs, by rw [e], .inr ⟨SqT.of (g.fh _ _ (rf_sub _ _ hp)), q F' H' _ g ⟨p, vs, rfl, hp, rs⟩⟩⟩) (hs := hs)
/-- int(b) -/
theorem xintB {c : Bool} {p : Pos} (ml : X.mg "int" = none) (ha : XV X B F0 Γ a c) (hg : Gl X "int" := by rfl) (hs : starEach [a] X.env = (false, eval a X.env) :: starEach [] X.env := by rfl) : XE X B F0 Γ (.Call (.Name "int" p) [a] [] pos) k (if c then 1 else 0 : Int) := fun F σ H Q A q =>
  x_ty call_int1 hg ml (by decide +kernel) (ha F σ H _ A fun F' H' v g r => .inr ⟨c, by rw [show v = .bl c from r], q F' H' _ g rfl⟩) (hs := hs)
end
end Cb

set_option Elab.async false
set_option linter.all false
set_option maxRecDepth 100000
/-! Cb3: promises and calls; statements, loops, comprehensions -/
namespace Cb
open PySem PySem.Spec L2
open PyProof.Rows hiding St

/-! ### promises -/
class Args (A : Type) where
  args : Kf → Hp → List V → A → Prop
  env : A → Ev
  len : Nat
  mono : ∀ {K : Kf} {H H' : Hp} {vs : List V} {a : A}, Same H H' → args K H vs a → args K H' vs a
  length : ∀ {K : Kf} {H : Hp} {vs : List V} {a : A}, args K H vs a → vs.length = len
  slots : ∀ {K : Kf} {H F : Hp} {vs : List V} {a : A} {Γ : Ev} {σ : St} {O : Hp}, args K H vs a → Slots K H F Γ σ O → Slots K H F (env a ++ Γ) (vs.map some ++ σ) O
instance : Args Unit where
  args := fun _ _ vs _ => vs = []
  env := fun _ => []
  len := 0
  mono := fun _ h => h
  length := fun h => by rw [h]; rfl
  slots := fun h s => by rw [h]; exact s
instance {α A : Type} [R α] [Args A] : Args (α × A) where
  args := fun K H vs a => ∃ v r, vs = v :: r ∧ R.rep K H v a.1 ∧ Args.args K H r a.2
  env := fun a => pr a.1 :: Args.env a.2
  len := Args.len A + 1
  mono := fun h ⟨v, r, e, q, t⟩ => ⟨v, r, e, R.mono h q, Args.mono h t⟩
  length := fun ⟨v, r, e, q, t⟩ => by rw [e, List.length_cons, Args.length t]
  slots := fun {K H F vs a Γ σ O} ⟨v, r, e, q, t⟩ s => by
    subst e
    exact ⟨fun _ => none, O, (fun _ _ z => nomatch z), Same.refl _, fun x => .inl rfl, ⟨v, rfl, q⟩, Args.slots t s⟩

def NW (H G : Hp) : Prop := ∀ x o, G x = some o → H x = none ∨ isTup o = true
def Ret {γ : Type} [R γ] (K : Kf) (H : Hp) (Q : VK) (c : γ) : Prop := ∀ v H' G, Same H H' → Same G H' → NW H G → R.rep K G v c → Q v H'
def RetO {γ : Type} [Ow γ] (K : Kf) (H : Hp) (Q : VK) (c : γ) : Prop := ∀ v H' G O, Same H H' → Same G H' → Same O H' → NW H G → (∀ x o, O x = some o → H x = none ∧ G x = none ∧ isTup o = false) → Ow.own K G v c O → Q v H'
/-- what a def promises: from its arguments to its value -/
def spV {A γ : Type} [Args A] [R γ] (K : Kf) (pre : A → Prop) (m : A → γ) : Sp := fun vs H Q _ => ∃ a : A, Args.args K H vs a ∧ pre a ∧ Ret K H Q (m a)
/-- .. a new list -/
def spO {A γ : Type} [Args A] [Ow γ] (K : Kf) (pre : A → Prop) (m : A → γ) : Sp := fun vs H Q _ => ∃ a : A, Args.args K H vs a ∧ pre a ∧ RetO K H Q (m a)
/-- a def that may be called here -/
structure Cal (P : Program) (w : World) (K : Kf) (mg : Str → Option Value) (base : Heap) (A : Around) (x : Str) (sp : Sp) : Prop where
  ex : ∃ k f fd ps, FnOk P w K mg base CX0 k f fd ps sp ∧ Room k A ∧ mg x = some (.ref f) ∧ PySem.W.keepIn K (.ref f) = true ∧ Binds K fd ps []
abbrev CalX (X : Cx) (x : Str) (sp : Sp) : Prop := Cal X.prog X.w X.K X.mg X.base X.A x sp

section
variable {X : Cx} {B F0 : Hp} {Γ : Ev} {k k1 k2 : Bool} {e a b : Expr} {es : List Expr} {pos : Pos} {α β γ : Type} [R α] [R β] [R γ] {x : α} {y : β} {z : γ}
theorem y0 : XA X B F0 Γ [] (fun K H vs => Args.args K H vs ()) := xa0
theorem ya {A : Type} [Args A] {r : A} (h : XV X B F0 Γ e x) (ht : XA X B F0 Γ es (fun K H vs => Args.args K H vs r)) (hs : starEach (e :: es) X.env = (false, eval e X.env) :: starEach es X.env := by rfl) :
    XA X B F0 Γ (e :: es) (fun K H vs => Args.args K H vs (x, r)) := fun F σ H Q A q =>
  WA.of (pa_cons can_e can_a hs) (h F σ H _ A fun F1 H1 v g r => ht F1 σ H1 _ (A.grow g) fun F2 H2 vs g2 p => q F2 H2 (v :: vs) (g.trans g2) ⟨v, vs, rfl, R.mono g2.hh r, p⟩)
/-- a heap grown by what a callee has made -/
theorem Grow.ret {F H H' G : Hp} (sF : Same F H) (h1 : Same H H') (h2 : Same G H') (n : NW H G) : Grow F H (join F G) H' where
  hh := h1
  ff := join_left _ _
  fh := join_sub (sF.trans h1) h2
  nw := fun x o e => by
    rcases join_is e with q | q
    · exact .inl q
    · rcases n x o q with z | z
      · exact .inr (.inl z)
      · exact .inr (.inr z)
theorem ret_res {B F H H' G : Hp} (sF : Same F H) (sB : Same B H) (h1 : Same H H') (h2 : Same G H') (n : NW H G) : Same G (res B (join F G)) := fun b o e => by
  refine res_at (join_right (sF.trans h1) h2 _ _ e) ?_
  rcases n b o e with z | z
  · exact .inr (sB.free z)
  · exact .inl z
section
variable {A : Type} [Args A] {pre : A → Prop} {m : A → γ} {ag : A} {f : Str} {p : Pos}
theorem x_call {sp : Sp} (c : CalX X f sp) (h : XA X B F0 Γ (e :: es) (fun K H vs => Args.args K H vs ag)) (hg : Gl X f) {F σ H} {Q : VK} (AA : AS X.K B F0 Γ F σ H)
    (q : ∀ F' H' vs, Grow F H F' H' → Args.args X.K H' vs ag → sp vs H' Q E0) (hdb : (f == ("__debug__" : Str)) = false) (hs : starEach (e :: es) X.env = (false, eval e X.env) :: starEach es X.env)
    (hpl : (backTo pos (starEach es X.env)).any (·.1) = false) : WE X (.Call (.Name f p) (e :: es) [] pos) σ H Q := by
  obtain ⟨kk, fa, fd, ps, G, hr, hm, kp, bd⟩ := c.ex
  refine WE.of (pe_call G hr hg hm kp bd .nil pass0 can_a hdb hs hpl) (h F σ H _ AA fun F' H' vs g r => ?_)
  rw [List.append_nil]
  exact q F' H' vs g r
theorem xcall (c : CalX X f (spV X.K pre m)) (h : XA X B F0 Γ (e :: es) (fun K H vs => Args.args K H vs ag)) (hp : pre ag) (hg : Gl X f := by rfl)
    (hdb : (f == ("__debug__" : Str)) = false := by decide) (hs : starEach (e :: es) X.env = (false, eval e X.env) :: starEach es X.env := by rfl) (hpl : (backTo pos (starEach es X.env)).any (·.1) = false := by rfl) : XE X B F0 Γ (.Call (.Name f p) (e :: es) [] pos) true (m ag) := fun F σ H Q AA q =>
  x_call c h hg AA (fun F' H' vs g r => ⟨ag, r, hp, fun v H2 G h1 h2 n rr => q (join F' G) H2 v (g.trans (Grow.ret g.fh h1 h2 n)) (R.mono (ret_res g.fh (AA.sB.trans g.hh) h1 h2 n) rr)⟩) hdb hs hpl
theorem xcallO {m : A → List α} (c : CalX X f (spO X.K pre m)) (h : XA X B F0 Γ (e :: es) (fun K H vs => Args.args K H vs ag)) (hp : pre ag) (hg : Gl X f := by rfl)
    (hdb : (f == ("__debug__" : Str)) = false := by decide) (hs : starEach (e :: es) X.env = (false, eval e X.env) :: starEach es X.env := by rfl) (hpl : (backTo pos (starEach es X.env)).any (·.1) = false := by rfl) : XO X B F0 Γ (.Call (.Name f p) (e :: es) [] pos) true (m ag) := fun F σ H Q AA q =>
  x_call c h hg AA (fun F' H' vs g r => ⟨ag, r, hp, fun v H2 G O h1 h2 h3 n n2 rr => q (join F' G) H2 v O (g.trans (Grow.ret g.fh h1 h2 n)) h3 (fun x o e => by
    obtain ⟨z1, z2, z3⟩ := n2 x o e
    refine ⟨g.hh.free z1, ?_, z3⟩
    unfold join
    rw [g.fh.free z1]
    exact z2) (Ow.omono (ret_res g.fh (AA.sB.trans g.hh) h1 h2 n) rr)⟩) hdb hs hpl
theorem xcallOw {δ : Type} [Ow δ] {m : A → δ} (c : CalX X f (spO X.K pre m)) (h : XA X B F0 Γ (e :: es) (fun K H vs => Args.args K H vs ag)) (hp : pre ag) (hg : Gl X f := by rfl)
    (hdb : (f == ("__debug__" : Str)) = false := by decide) (hs : starEach (e :: es) X.env = (false, eval e X.env) :: starEach es X.env := by rfl) (hpl : (backTo pos (starEach es X.env)).any (·.1) = false := by rfl) : XO X B F0 Γ (.Call (.Name f p) (e :: es) [] pos) true (m ag) := fun F σ H Q AA q =>
  x_call c h hg AA (fun F' H' vs g r => ⟨ag, r, hp, fun v H2 G O h1 h2 h3 n n2 rr => q (join F' G) H2 v O (g.trans (Grow.ret g.fh h1 h2 n)) h3 (fun x o e => by
    obtain ⟨z1, z2, z3⟩ := n2 x o e
    refine ⟨g.hh.free z1, ?_, z3⟩
    unfold join
    rw [g.fh.free z1]
    exact z2) (Ow.omono (ret_res g.fh (AA.sB.trans g.hh) h1 h2 n) rr)⟩) hdb hs hpl
end

/-! ### what is wanted behind a def's body -/
def RD (K : Kf) (B : Hp) (D : Ends) (c : γ) : Prop := ∀ F H v, Same B H → Same F H → R.rep K (rf true B F) v c → D.rt v H
def RDO {γ : Type} [Ow γ] (K : Kf) (B : Hp) (D : Ends) (c : γ) : Prop := ∀ F H v O, Same B H → Same F H → Same O H → (∀ x o, O x = some o → B x = none ∧ F x = none ∧ isTup o = false) → Ow.own K (rf true B F) v c O → D.rt v H
theorem nw_res (B F : Hp) : NW B (res B F) := fun x o e => by
  rcases (res_is e).2 with q | q
  · exact .inr q
  · exact .inl q
theorem Ret.rd {K : Kf} {H : Hp} {Q : VK} {c : γ} {nx bk ct} (h : Ret K H Q c) : RD K H ⟨nx, Q, bk, ct⟩ c := fun F H' v h1 h2 r => h v H' (res H F) h1 ((res_sub H F).trans h2) (nw_res H F) r
theorem RetO.rd {γ : Type} [Ow γ] {K : Kf} {H : Hp} {Q : VK} {c : γ} {nx bk ct} (h : RetO K H Q c) : RDO K H ⟨nx, Q, bk, ct⟩ c := fun F H' v O h1 h2 h3 n r => h v H' (res H F) O h1 ((res_sub H F).trans h2) h3 (nw_res H F) (fun x o e => by
  obtain ⟨z1, z2, z3⟩ := n x o e
  refine ⟨z1, ?_, z3⟩
  cases q : res H F x with
  | none => rfl
  | some u => rw [res_sub H F _ _ q] at z2; cases z2) r

/-! ### statements -/
variable {D : Ends} {ss : List Stmt} {st : Stmt}
theorem ts_nil (h : ∀ F σ H, AS X.K B F0 Γ F σ H → D.nx σ H) : TSs X B F0 Γ [] D := fun F σ H A => WSs.of pss_nil (h F σ H A)
theorem ts_cons (h : TSt X B F0 Γ st { D with nx := fun σ H => WSs X ss D σ H }) : TSs X B F0 Γ (st :: ss) D := fun F σ H A => WSs.of (pss_cons can_s can_ss) (h F σ H A)
theorem WS.mono {st : Stmt} {D D' : Ends} {σ : St} {H : Hp} (h : WS X st D σ H) (h1 : ∀ σ H, D.nx σ H → D'.nx σ H) (h2 : ∀ v H, D.rt v H → D'.rt v H) (h3 : ∀ σ H, D.bk σ H → D'.bk σ H) (h4 : ∀ σ H, D.ct σ H → D'.ct σ H) : WS X st D' σ H := fun pins s I =>
  thn (h pins s I) fun fl s' r => by
    cases fl with
    | next => obtain ⟨σ', H', I', q⟩ := r; exact ⟨σ', H', I', h1 _ _ q⟩
    | brk => obtain ⟨σ', H', I', q⟩ := r; exact ⟨σ', H', I', h3 _ _ q⟩
    | cont => obtain ⟨σ', H', I', q⟩ := r; exact ⟨σ', H', I', h4 _ _ q⟩
    | ret u => obtain ⟨v, σ', H', I', rr, q⟩ := r; exact ⟨v, σ', H', I', rr, h2 _ _ q⟩
/-- go on from an assertion -/
theorem ts_cut (Γ1 : Ev) (h : TSt X B F0 Γ st { D with nx := fun σ H => ∃ F, AS X.K B F0 Γ1 F σ H }) (ht : TSs X B F0 Γ1 ss D) : TSs X B F0 Γ (st :: ss) D := 
  ts_cons fun F σ H A => WS.mono (h F σ H A) (fun σ H ⟨F, A⟩ => ht F σ H A) (fun _ _ q => q) (fun _ _ q => q) (fun _ _ q => q)

/-! ### slots changed -/
theorem AS.len {K : Kf} {F : Hp} {σ : St} {H : Hp} (A : AS K B F0 Γ F σ H) : Γ.length = σ.length := by
  obtain ⟨⟨_, s, _⟩, _⟩ := A
  exact s.length
/-- a name takes a frozen value -/
theorem AS.set {K : Kf} {F : Hp} {σ : St} {H : Hp} (A : AS K B F0 Γ F σ H) (i : Nat) {v : V} (r : R.rep K (rf k B F) v x) : AS K B F0 (Γ.set i (vl k x)) F (σ.set i (some v)) H := by
  obtain ⟨⟨O, s, so, d, nt⟩, sF, sB, s0, bf⟩ := A
  refine ⟨⟨O, ?_, so, d, nt⟩, sF, sB, s0, bf⟩
  by_cases hi : i < Γ.length
  · obtain ⟨o, O1, Or, _, h1, h2, h3, _, h5⟩ := s.focus (List.getElem?_eq_getElem hi)
    exact h5 F (vl k x) (some v) (fun _ => none) O (Same.refl _) ⟨v, rfl, r⟩ (fun _ _ z => nomatch z) h2 fun x => .inl rfl
  · rw [List.set_eq_of_length_le (by omega), List.set_eq_of_length_le (by rw [← s.length]; omega)]; exact s
/-- a name takes a new thing of its own -/
theorem AS.seto {γ : Type} [Ow γ] {c : γ} {K : Kf} {F F' : Hp} {σ : St} {H H' O' : Hp} (A : AS K B F0 Γ F σ H) (g : Grow F H F' H') (i : Nat) {v : V} (hO : Same O' H') (n : ∀ x o, O' x = some o → H x = none ∧ F' x = none ∧ isTup o = false) (r : Ow.own K (rf k B F') v c O') :
    AS K B F0 (Γ.set i (ownd k c)) F' (σ.set i (some v)) H' := by
  have A' := A.grow g
  obtain ⟨⟨O, s, so, d, nt⟩, sF, sB, s0, bf⟩ := A
  have hd : ∀ x, O' x = none ∨ O x = none := fun x => by
    cases e : O' x with
    | none => exact .inl rfl
    | some o =>
      right
      cases e2 : O x with
      | none => rfl
      | some u => have := (n x o e).1; rw [so _ _ e2] at this; cases this
  have sj : Same (join O' O) H' := join_sub hO (so.trans g.hh)
  refine ⟨⟨join O' O, ?_, sj, fun x hx => ?_, fun x o e => ?_⟩, A'.sF, A'.sB, A'.s0, A'.bf⟩
  · by_cases hi : i < Γ.length
    · obtain ⟨o, O1, Or, _, h1, h2, h3, _, h5⟩ := s.focus (List.getElem?_eq_getElem hi)
      refine h5 F' (ownd k c) (some v) O' (join O' O) g.ff ⟨v, rfl, r⟩ (join_left _ _) (h2.trans (join_right hO (so.trans g.hh))) fun x => ?_
      rcases hd x with z | z
      · exact .inl z
      · right
        cases e : Or x with
        | none => rfl
        | some u => rw [h2 _ _ e] at z; cases z
    · rw [List.set_eq_of_length_le (by omega), List.set_eq_of_length_le (by rw [← s.length]; omega)]
      exact (s.mono g.ff).sub (join_right hO (so.trans g.hh))
  · cases e : O' x with
    | some o => exact ⟨(n x o e).2.1, sB.free (n x o e).1⟩
    | none =>
      have : O x ≠ none := fun z => hx (by unfold join; rw [e]; exact z)
      refine ⟨?_, (d x this).2⟩
      cases q : F' x with
      | none => rfl
      | some o =>
        cases w : O x with
        | none => exact absurd w this
        | some u =>
          rcases g.nw x o q with z | z | z
          · rw [(d x this).1] at z; cases z
          · rw [so _ _ w] at z; cases z
          · have e1 := g.fh _ _ q
            have e2 := g.hh _ _ (so _ _ w)
            rw [e1] at e2; cases e2
            rw [nt _ _ w] at z; cases z
  · rcases join_is e with q | q
    · exact (n x o q).2.2
    · exact nt x o q
/-- an owned list in hand: it may be read, and written -/
theorem AS.write {as : List α} {K : Kf} {F : Hp} {σ : St} {H : Hp} {i : Nat} (A : AS K B F0 Γ F σ H) (e : Γ[i]? = some (ownd k as)) :
    ∃ p vs, σ[i]? = some (some (.ref p)) ∧ H p = some (.lst vs) ∧ Reps K (rf k B F) vs as ∧
      ∀ F' H' vs' (as' : List α), Grow F H F' H' → Reps K (rf k B F') vs' as' → AS K B F0 (Γ.set i (ownd k as')) F' σ (upd H' p (.lst vs')) := by
  obtain ⟨⟨O, s, so, d, nt⟩, sF, sB, s0, bf⟩ := id A
  obtain ⟨o, O1, Or, e1, h1, h2, h3, ⟨v, rfl, p, vs, rfl, ep, r⟩, h5⟩ := s.focus e
  have pO : O p = some (.lst vs) := h1 _ _ ep
  have pH : H p = some (.lst vs) := so _ _ pO
  have dp := d p (by rw [pO]; simp)
  refine ⟨p, vs, e1, pH, r, fun F' H' vs' as' g r' => ?_⟩
  have A' := A.grow g
  have hF' : F' p = none := by
    cases q : F' p with
    | none => rfl
    | some o =>
      rcases g.nw p o q with z | z | z
      · rw [dp.1] at z; cases z
      · rw [pH] at z; cases z
      · have e1 := g.fh _ _ q
        have e2 := g.hh _ _ pH
        rw [e1] at e2; cases e2
        cases z
  have hOr : Or p = none := (h3 p).resolve_left (by rw [ep]; simp)
  have sOr : Same Or (upd H' p (.lst vs')) := fun b u q => by
    rw [upd_ne (ne_of_none q hOr)]; exact g.hh _ _ (so _ _ (h2 _ _ q))
  have s1 : Same (one p (.lst vs')) (upd H' p (.lst vs')) := one_sub upd_same
  have sj : Same (join (one p (.lst vs')) Or) (upd H' p (.lst vs')) := join_sub s1 sOr
  have hσ : σ.set i (some (.ref p)) = σ := by
    apply List.ext_getElem?
    intro j
    by_cases hj : i = j
    · subst hj
      have hl : i < σ.length := by
        rcases Nat.lt_or_ge i σ.length with z | z
        · exact z
        · rw [List.getElem?_eq_none z] at e1; cases e1
      rw [List.getElem?_set_self hl]; exact e1.symm
    · rw [List.getElem?_set_ne hj]
  have key : Slots K B F' (Γ.set i (ownd k as')) (σ.set i (some (.ref p))) (join (one p (.lst vs')) Or) :=
    h5 F' (ownd k as') (some (.ref p)) (one p (.lst vs')) _ g.ff ⟨.ref p, rfl, p, vs', rfl, one_at, r'⟩ (join_left _ _) (join_right s1 sOr) fun x => by
      by_cases z : x = p
      · subst z; exact .inr hOr
      · left; unfold one; rw [if_neg z]
  rw [hσ] at key
  refine ⟨⟨_, key, sj, fun x hx => ?_, fun x o q => ?_⟩, fun b u q => ?_, fun b u q => ?_, A'.s0, A'.bf⟩
  · cases e : join (one p (.lst vs')) Or x with
    | none => exact absurd e hx
    | some o =>
      rcases join_is e with q | q
      · obtain ⟨rfl, rfl⟩ := one_is q; exact ⟨hF', dp.2⟩
      · have hO := h2 _ _ q
        refine ⟨?_, (d x (by rw [hO]; simp)).2⟩
        obtain ⟨⟨O', s', so', d', nt'⟩, _⟩ := A'
        cases qq : F' x with
        | none => rfl
        | some o' =>
          rcases g.nw x o' qq with z | z | z
          · rw [(d x (by rw [hO]; simp)).1] at z; cases z
          · rw [so _ _ hO] at z; cases z
          · have e1 := g.fh _ _ qq
            have e2 := g.hh _ _ (so _ _ hO)
            rw [e1] at e2; cases e2
            rw [nt _ _ hO] at z; cases z
  · rcases join_is q with q | q
    · obtain ⟨rfl, rfl⟩ := one_is q; rfl
    · exact nt _ _ (h2 _ _ q)
  · rw [upd_ne (ne_of_none q hF')]; exact g.fh _ _ q
  · rw [upd_ne (ne_of_none q dp.2)]; exact A'.sB _ _ q
end
end Cb

set_option Elab.async false
set_option linter.all false
set_option maxRecDepth 100000
/-! Cb4: targets, iterables, statements, loops, comprehensions -/
namespace Cb
open PySem PySem.Spec L2
open PyProof.Rows hiding St
section
variable {X : Cx} {B F0 : Hp} {Γ : Ev} {k k1 k2 : Bool} {e a b : Expr} {es : List Expr} {pos : Pos} {α β γ : Type} [R α] [R β] [R γ] {x : α} {y : β} {z : γ} {D : Ends} {ss : List Stmt} {st : Stmt}

/-! ### targets -/
def WG (X : Cx) (tg : Expr) : TG := fun v σ H Q => ∀ (pins : List (Addr × Obj)) (s : Shared) (u : Value), Inv X pins σ H s → RelV v u → wpAny (model X.prog X.w) X.A (assign tg X.env u) (fun _ s' => ∃ σ' H', Inv X pins σ' H' s' ∧ Q σ' H') X.xe s
theorem can_g {tg : Expr} : PG X tg (WG X tg) := ⟨fun pins s σ H v u Q I r h => h pins s u I r⟩
theorem WG.of {tg : Expr} {t : TG} (h : PG X tg t) {v : V} {σ : St} {H : Hp} {Q : St → Hp → Prop} (q : t v σ H Q) : WG X tg v σ H Q := fun pins s u I r => h.run pins s σ H v u Q I r q
def TGt (X : Cx) (B : Hp) (tg : Expr) (k : Bool) {γ : Type} [R γ] (z : γ) (is : List Nat) (U : Ev → Ev) : Prop :=
  ∀ F0 Γ F σ H v (Q : St → Hp → Prop), AS X.K B F0 Γ F σ H → R.rep X.K (rf k B F) v z → (∀ σ', (∀ j, j ∉ is → σ'[j]? = σ[j]?) → σ'.length = σ.length → AS X.K B F0 (U Γ) F σ' H → Q σ' H) → WG X tg v σ H Q
theorem tg_name {n : Str} {p : Pos} (i : Nat) (hN : X.N.Nodup) (hi : X.N[i]? = some n) (hx : Loc X.env.scope n := by first | exact Or.inl rfl | exact Or.inr rfl) (hf : X.fn n = true ∨ X.env.scope.names.lookup n = some .local := by first | exact .inl rfl | exact .inr rfl) :
    TGt X B (.Name n p) k x [i] (fun Γ => Γ.set i (vl k x)) := fun F0 Γ F σ H v Q A r q =>
  WG.of (pg_name hN hi hx hf) (q _ (fun j hj => by rw [List.getElem?_set_ne (fun e => hj (by simp [e]))]) (by simp) (A.set i r))
theorem tg_pair {t1 t2 : Expr} {kk : Nat} {p : Pos} {is1 is2 : List Nat} {U1 U2 : Ev → Ev} (hc : X.calm = true) (h1 : TGt X B t1 k x is1 U1) (h2 : TGt X B t2 k y is2 U2)
    (hs : (assignEach [t1, t2] X.env).map (·.2) = assign t1 X.env :: (assignEach [t2] X.env).map (·.2) := by rfl) (hs2 : (assignEach [t2] X.env).map (·.2) = assign t2 X.env :: (assignEach [] X.env).map (·.2) := by rfl)
    (hn : (assignEach [t1, t2] X.env).length = 2 := by rfl) (hst : (assignEach [t1, t2] X.env).findIdx? (·.1) = none := by rfl) :
    TGt X B (.Tuple [t1, t2] kk p) k (x, y) (is1 ++ is2) (fun Γ => U2 (U1 Γ)) := fun F0 Γ F σ H v Q A r q => by
  obtain ⟨pa, v1, v2, ev, ep, r1, r2⟩ := r
  refine WG.of (pg_tup hc (pgs_cons can_g (pgs_cons can_g pgs_nil hs2) hs) hn hst) ⟨pa, _, ev, SqT.of (A.sF _ _ (rf_sub _ _ ep)), rfl, v1, [v2], rfl, ?_⟩
  refine h1 F0 Γ F σ H v1 _ A r1 fun σ1 g1 l1 A1 => ⟨v2, [], rfl, h2 F0 _ F σ1 H v2 _ A1 r2 fun σ2 g2 l2 A2 => ⟨rfl, q σ2 (fun j hj => ?_) (l2.trans l1) A2⟩⟩
  rw [g2 j (fun z => hj (by simp [z])), g1 j (fun z => hj (by simp [z]))]
theorem tg_t3 {t1 t2 t3 : Expr} {kk : Nat} {p : Pos} {is1 is2 is3 : List Nat} {U1 U2 U3 : Ev → Ev} (hc : X.calm = true) (h1 : TGt X B t1 k x is1 U1) (h2 : TGt X B t2 k y is2 U2) (h3 : TGt X B t3 k z is3 U3)
    (hs : (assignEach [t1, t2, t3] X.env).map (·.2) = assign t1 X.env :: (assignEach [t2, t3] X.env).map (·.2) := by rfl) (hs2 : (assignEach [t2, t3] X.env).map (·.2) = assign t2 X.env :: (assignEach [t3] X.env).map (·.2) := by rfl) (hs3 : (assignEach [t3] X.env).map (·.2) = assign t3 X.env :: (assignEach [] X.env).map (·.2) := by rfl)
    (hn : (assignEach [t1, t2, t3] X.env).length = 3 := by rfl) (hst : (assignEach [t1, t2, t3] X.env).findIdx? (·.1) = none := by rfl) :
    TGt X B (.Tuple [t1, t2, t3] kk p) k (T3.mk x y z) (is1 ++ is2 ++ is3) (fun Γ => U3 (U2 (U1 Γ))) := fun F0 Γ F σ H v Q A r q => by
  obtain ⟨pa, v1, v2, v3, ev, ep, r1, r2, r3⟩ := r
  refine WG.of (pg_tup hc (pgs_cons can_g (pgs_cons can_g (pgs_cons can_g pgs_nil hs3) hs2) hs) hn hst) ⟨pa, _, ev, SqT.of (A.sF _ _ (rf_sub _ _ ep)), rfl, v1, _, rfl, ?_⟩
  refine h1 F0 Γ F σ H v1 _ A r1 fun σ1 g1 l1 A1 => ⟨v2, _, rfl, h2 F0 _ F σ1 H v2 _ A1 r2 fun σ2 g2 l2 A2 => ⟨v3, [], rfl, h3 F0 _ F σ2 H v3 _ A2 r3 fun σ3 g3 l3 A3 => ⟨rfl, q σ3 (fun j hj => ?_) (l3.trans (l2.trans l1)) A3⟩⟩⟩
  rw [g3 j (fun z => hj (by simp [z])), g2 j (fun z => hj (by simp [z])), g1 j (fun z => hj (by simp [z]))]
theorem tg_t4 {δ : Type} [R δ] {w : δ} {t1 t2 t3 t4 : Expr} {kk : Nat} {p : Pos} {is1 is2 is3 is4 : List Nat} {U1 U2 U3 U4 : Ev → Ev} (hc : X.calm = true) (h1 : TGt X B t1 k x is1 U1) (h2 : TGt X B t2 k y is2 U2) (h3 : TGt X B t3 k z is3 U3) (h4 : TGt X B t4 k w is4 U4)
    (hs : (assignEach [t1, t2, t3, t4] X.env).map (·.2) = assign t1 X.env :: (assignEach [t2, t3, t4] X.env).map (·.2) := by rfl) (hs2 : (assignEach [t2, t3, t4] X.env).map (·.2) = assign t2 X.env :: (assignEach [t3, t4] X.env).map (·.2) := by rfl) (hs3 : (assignEach [t3, t4] X.env).map (·.2) = assign t3 X.env :: (assignEach [t4] X.env).map (·.2) := by rfl) (hs4 : (assignEach [t4] X.env).map (·.2) = assign t4 X.env :: (assignEach [] X.env).map (·.2) := by rfl)
    (hn : (assignEach [t1, t2, t3, t4] X.env).length = 4 := by rfl) (hst : (assignEach [t1, t2, t3, t4] X.env).findIdx? (·.1) = none := by rfl) :
    TGt X B (.Tuple [t1, t2, t3, t4] kk p) k (T4.mk x y z w) (is1 ++ is2 ++ is3 ++ is4) (fun Γ => U4 (U3 (U2 (U1 Γ)))) := fun F0 Γ F σ H v Q A r q => by
  obtain ⟨pa, v1, v2, v3, v4, ev, ep, r1, r2, r3, r4⟩ := r
  refine WG.of (pg_tup hc (pgs_cons can_g (pgs_cons can_g (pgs_cons can_g (pgs_cons can_g pgs_nil hs4) hs3) hs2) hs) hn hst) ⟨pa, _, ev, SqT.of (A.sF _ _ (rf_sub _ _ ep)), rfl, v1, _, rfl, ?_⟩
  refine h1 F0 Γ F σ H v1 _ A r1 fun σ1 g1 l1 A1 => ⟨v2, _, rfl, h2 F0 _ F σ1 H v2 _ A1 r2 fun σ2 g2 l2 A2 => ⟨v3, _, rfl, h3 F0 _ F σ2 H v3 _ A2 r3 fun σ3 g3 l3 A3 => ⟨v4, [], rfl, h4 F0 _ F σ3 H v4 _ A3 r4 fun σ4 g4 l4 A4 => ⟨rfl, q σ4 (fun j hj => ?_) (l4.trans (l3.trans (l2.trans l1))) A4⟩⟩⟩⟩
  rw [g4 j (fun z => hj (by simp [z])), g3 j (fun z => hj (by simp [z])), g2 j (fun z => hj (by simp [z])), g1 j (fun z => hj (by simp [z]))]

/-! ### iterables -/
def WI (X : Cx) (tg it : Expr) : TI := fun σ H R => ∀ (pins : List (Addr × Obj)) (s : Shared), Inv X pins σ H s →
  wpAny (model X.prog X.w) X.A (eval it X.env) (fun v s1 => wpAny (model X.prog X.w) X.A (pyIter v) (PIE X pins σ tg R) X.xe s1) X.xe s
theorem can_i {tg it : Expr} : PI X tg it (WI X tg it) := ⟨fun pins s σ H R I h => h pins s I⟩
theorem WI.of {tg it : Expr} {t : TI} (h : PI X tg it t) {σ : St} {H : Hp} {R : It → Hp → Prop} (q : t σ H R) : WI X tg it σ H R := fun pins s I => h.run pins s σ H R I q
/-- the turns yield the items of xs -/
structure ItOk (J : It) (K : Kf) (B F : Hp) (k : Bool) (xs : List α) : Prop where
  go : ∀ (i : Nat) (hi : i < xs.length) F1 H1, Same F F1 → Same F1 H1 → J.go i H1 ∧ ∀ v H2, J.yld i H1 v H2 → ∃ F2, Grow F1 H1 F2 H2 ∧ R.rep K (rf k B F2) v xs[i]
  stop : ∀ (i : Nat) (hi : i = xs.length) F1 H1, Same F F1 → Same F1 H1 → J.stop i H1
def XI (X : Cx) (B F0 : Hp) (Γ : Ev) (tg it : Expr) (k : Bool) {α : Type} [R α] (xs : List α) : Prop :=
  ∀ F σ H (R : It → Hp → Prop), AS X.K B F0 Γ F σ H → (∀ F' H' J, Grow F H F' H' → ItOk J X.K B F' k xs → R J H') → WI X tg it σ H R
theorem itl_ok {K : Kf} {F : Hp} {p : Addr} {vs : List V} {as : List α} (h : F p = some (.lst vs)) (r : Reps K (rf k B F) vs as) (inj : ∀ H1 ys, Same F H1 → SqL K H1 p ys → ys = vs) : ItOk (Itl K p) K B F k as where
  go := fun i hi F1 H1 s1 s2 => by
    obtain ⟨v, hv, rv⟩ := r.get (List.getElem?_eq_getElem hi)
    refine ⟨⟨vs, v, SqL.of (s2 _ _ (s1 _ _ h)), hv⟩, fun u H2 ⟨e, y⟩ => ?_⟩
    subst e
    have q := y vs (SqL.of (s2 _ _ (s1 _ _ h)))
    rw [hv] at q; cases q
    exact ⟨F1, Grow.refl s2, R.mono (rf_mono s1) rv⟩
  stop := fun i hi F1 H1 s1 s2 => ⟨vs, SqL.of (s2 _ _ (s1 _ _ h)), by rw [Reps.length r]; exact Nat.le_of_eq hi.symm⟩
theorem xi_list {tg : Expr} {as : List α} (h : XE X B F0 Γ e k as) : XI X B F0 Γ tg e k as := fun F σ H _ A q =>
  WI.of (pi_list can_e) (h F σ H _ A fun F' H' v g ⟨p, vs, e, hp, r⟩ => ⟨p, e, ⟨vs, SqL.of (g.fh _ _ (rf_sub _ _ hp))⟩, q F' H' _ g {
    go := fun i hi F1 H1 s1 s2 => by
      obtain ⟨v, hv, rv⟩ := r.get (List.getElem?_eq_getElem hi)
      have hq := SqL.of (K := X.K) (s2 _ _ (s1 _ _ (rf_sub _ _ hp)))
      refine ⟨⟨vs, v, hq, hv⟩, fun u H2 ⟨e, y⟩ => ?_⟩
      subst e
      have q := y vs hq
      rw [hv] at q; cases q
      exact ⟨F1, Grow.refl s2, R.mono (rf_mono s1) rv⟩
    stop := fun i hi F1 H1 s1 s2 => ⟨vs, SqL.of (s2 _ _ (s1 _ _ (rf_sub _ _ hp))), by rw [Reps.length r]; exact Nat.le_of_eq hi.symm⟩ }⟩)
theorem xi_tup {tg : Expr} {t : Tup α} (h : XE X B F0 Γ e k t) : XI X B F0 Γ tg e k t.items := fun F σ H _ A q =>
  WI.of (pi_tup can_e) (h F σ H _ A fun F' H' v g ⟨p, vs, e, hp, r⟩ => ⟨p, e, ⟨vs, SqT.of (g.fh _ _ (rf_sub _ _ hp))⟩, q F' H' _ g {
    go := fun i hi F1 H1 s1 s2 => by
      obtain ⟨v, hv, rv⟩ := Reps.get r (List.getElem?_eq_getElem hi)
      have hq := SqT.of (K := X.K) (s2 _ _ (s1 _ _ (rf_sub _ _ hp)))
      refine ⟨⟨vs, v, hq, hv⟩, fun u H2 ⟨e, y⟩ => ?_⟩
      subst e
      have q := y vs hq
      rw [hv] at q; cases q
      exact ⟨F1, Grow.refl s2, R.mono (rf_mono s1) rv⟩
    stop := fun i hi F1 H1 s1 s2 => ⟨vs, SqT.of (s2 _ _ (s1 _ _ (rf_sub _ _ hp))), by rw [Reps.length r]; exact Nat.le_of_eq hi.symm⟩ }⟩)
/-- range -/
def rng (lo : Int) (n : Nat) : List Int := (List.range n).map fun (i : Nat) => lo + (i : Int)
theorem rng_length (lo : Int) (n : Nat) : (rng lo n).length = n := by unfold rng; rw [List.length_map, List.length_range]
theorem rng_at {lo : Int} {n i : Nat} (h : i < (rng lo n).length) : (rng lo n)[i] = lo + (i : Int) := by
  simp [rng]
theorem itr_ok {K : Kf} {F : Hp} {lo : Int} {n : Nat} : ItOk (Itr lo n) K B F k (rng lo n) where
  go := fun i hi F1 H1 s1 s2 => by
    refine ⟨by rw [rng_length] at hi; exact hi, fun u H2 ⟨e, y⟩ => ?_⟩
    subst e y
    refine ⟨F1, Grow.refl s2, ?_⟩
    exact congrArg V.int (rng_at _).symm
  stop := fun i hi F1 H1 s1 s2 => by rw [rng_length] at hi; exact Nat.le_of_eq hi.symm
theorem xi_range1 {tg : Expr} {p : Pos} {n : Int} (mr : X.mg "range" = none) (h : XV X B F0 Γ a n) (hn : -(2 ^ 62) ≤ n ∧ n < 2 ^ 62) (hg : Gl X "range" := by rfl) (hs : starEach [a] X.env = [(false, eval a X.env)] := by rfl) : XI X B F0 Γ tg (.Call (.Name "range" p) [a] [] pos) k (rng 0 n.toNat) := fun F σ H R A q =>
  WI.of (pi_range1 hg mr (pa_cons can_e pa_nil (by rw [hs]; rfl)) hs) (h F σ H _ A fun F' H' v g r => ⟨n, by rw [show v = V.int n from r], hn.1, hn.2, q F' H' _ g itr_ok⟩)
theorem xi_range2 {tg : Expr} {p : Pos} {m n : Int} (mr : X.mg "range" = none) (h : XV X B F0 Γ a m) (h2 : XV X B F0 Γ b n) (hn : -(2 ^ 62) ≤ m ∧ m < 2 ^ 62 ∧ -(2 ^ 62) ≤ n ∧ n < 2 ^ 62) (hg : Gl X "range" := by rfl) (hs : starEach [a, b] X.env = [(false, eval a X.env), (false, eval b X.env)] := by rfl) (hs2 : starEach [b] X.env = [(false, eval b X.env)] := by rfl) :
    XI X B F0 Γ tg (.Call (.Name "range" p) [a, b] [] pos) k (rng m (n - m).toNat) := fun F σ H R A q =>
  WI.of (pi_range2 hg mr (pa_cons can_e (pa_cons can_e pa_nil (by rw [hs2]; rfl)) (by rw [hs, hs2])) hs hs2) (x_two h h2 A fun F' H' v w g r r2 => ⟨m, n, by rw [show v = V.int m from r, show w = V.int n from r2], hn, q F' H' _ g itr_ok⟩)

/-! ### statements -/
theorem ts_one (h : TSt X B F0 Γ st D) : TSs X B F0 Γ [st] D := fun F σ H A => WSs.of (pss_one can_s) (h F σ H A)
theorem ts_doc {z : Str} {j : Nat} {p p' : Pos} (ht : TSs X B F0 Γ ss D) : TSs X B F0 Γ (.Expr (.Constant (.str z) j p) p' :: ss) D := ts_cons fun F σ H A => WS.of ps_doc (ht F σ H A)
theorem ts_set {n : Str} {p : Pos} (i : Nat) (hN : X.N.Nodup) (he : XE X B F0 Γ e k x) (ht : TSs X B F0 (Γ.set i (vl k x)) ss D) (hi : X.N[i]? = some n := by rfl) (hx : Loc X.env.scope n := by first | exact Or.inl rfl | exact Or.inr rfl)
    (hs : swapsWith e (some (.Name n p)) pos.line X.env = pure false := by rfl) (hf : X.fn n = true ∨ X.env.scope.names.lookup n = some .local := by first | exact .inl rfl | exact .inr rfl) : TSs X B F0 Γ (.Assign [.Name n p] e pos :: ss) D :=
  ts_cons fun F σ H A => WS.of (ps_set hN hi hx can_e hs hf) (he F σ H _ A fun F' H' v g r => ht F' _ H' ((A.grow g).set i r))
theorem ts_seto {γ : Type} [Ow γ] {c : γ} {n : Str} {p : Pos} (i : Nat) (hN : X.N.Nodup) (he : XO X B F0 Γ e k c) (ht : TSs X B F0 (Γ.set i (ownd k c)) ss D) (hi : X.N[i]? = some n := by rfl) (hx : Loc X.env.scope n := by first | exact Or.inl rfl | exact Or.inr rfl)
    (hs : swapsWith e (some (.Name n p)) pos.line X.env = pure false := by rfl) (hf : X.fn n = true ∨ X.env.scope.names.lookup n = some .local := by first | exact .inl rfl | exact .inr rfl) : TSs X B F0 Γ (.Assign [.Name n p] e pos :: ss) D :=
  ts_cons fun F σ H A => WS.of (ps_set hN hi hx can_e hs hf) (he F σ H _ A fun F' H' v O g so n r => ht F' _ H' (A.seto g i so n r))
theorem ts_asg {tg : Expr} {is : List Nat} {U : Ev → Ev} (he : XE X B F0 Γ e k z) (hg : TGt X B tg k z is U) (ht : TSs X B F0 (U Γ) ss D) (hs : swapsWithSole [tg] e pos.line X.env = pure false := by rfl) (hw : swappedStores [tg] e X.env = pure none := by rfl)
    (h1 : (assignEach [tg] X.env).map (·.2) = [assign tg X.env] := by rfl) : TSs X B F0 Γ (.Assign [tg] e pos :: ss) D :=
  ts_cons fun F σ H A => WS.of (ps_asg can_e can_g hs hw h1) (he F σ H _ A fun F' H' v g r => hg F0 Γ F' σ H' v _ (A.grow g) r fun σ' _ _ A' => ht F' σ' H' A')
theorem ts_if {c : Bool} {t f : List Stmt} (hc : XT X B F0 Γ e c) (h1 : c = true → TSs X B F0 Γ t D) (h2 : c = false → TSs X B F0 Γ f D) : TSt X B F0 Γ (.If e t f pos) D := fun F σ H A =>
  WS.of (ps_if can_t can_ss can_ss) (hc F σ H _ A fun F' H' g => by
    cases c with
    | true => exact h1 rfl F' σ H' (A.grow g)
    | false => exact h2 rfl F' σ H' (A.grow g))
theorem ts_ret {c : γ} (he : XE X B F0 Γ e true c) (hr : RD X.K B D c) : TSs X B F0 Γ (.Return (some e) pos :: ss) D :=
  ts_cons fun F σ H A => WS.of (ps_ret can_e) (he F σ H _ A fun F' H' v g r => hr F' H' v (A.sB.trans g.hh) g.fh r)
theorem ts_retO {γ : Type} [Ow γ] {c : γ} (he : XO X B F0 Γ e true c) (hr : RDO X.K B D c) : TSs X B F0 Γ (.Return (some e) pos :: ss) D :=
  ts_cons fun F σ H A => WS.of (ps_ret can_e) (he F σ H _ A fun F' H' v O g so n r => hr F' H' v O (A.sB.trans g.hh) g.fh so (fun x o e => ⟨A.sB.free (n x o e).1, (n x o e).2.1, (n x o e).2.2⟩) r)
/-- return of a name that owns a thing -/
theorem ts_reto {γ : Type} [Ow γ] {c : γ} {n : Str} {p : Pos} (i : Nat) (hΓ : Γ[i]? = some (ownd true c)) (hr : RDO X.K B D c) (hN : X.N[i]? = some n := by rfl) (hv : Vis X.env.scope n := by first | exact Or.inl rfl | exact Or.inr (Or.inl rfl) | exact Or.inr (Or.inr rfl)) (hd : (n == ("__debug__" : Str)) = false := by decide) (hcd : (n == ("__classdict__" : Str)) = false := by decide) :
    TSs X B F0 Γ (.Return (some (.Name n p)) pos :: ss) D :=
  ts_cons fun F σ H A => WS.of (ps_ret can_e) (WE.of (pe_var hN hv hd hcd) (by
    obtain ⟨⟨O, s, so, d, nt⟩, sF, sB, s0, bf⟩ := A
    obtain ⟨o, O1, Or, e1, h1, h2, h3, ⟨v, rfl, r⟩, h5⟩ := s.focus hΓ
    refine ⟨v, e1, hr F H v O1 sB sF (h1.trans so) (fun x o e => ?_) r⟩
    have hO := h1 _ _ e
    have := d x (by rw [hO]; simp)
    exact ⟨this.2, this.1, nt _ _ hO⟩))
/-- an owned list is frozen -/
theorem AS.freeze {as : List α} {K : Kf} {F : Hp} {σ : St} {H : Hp} {i : Nat} (A : AS K B F0 Γ F σ H) (e : Γ[i]? = some (ownd k as)) : ∃ F', AS K B F0 (Γ.set i (vl k as)) F' σ H := by
  obtain ⟨⟨O, s, so, d, nt⟩, sF, sB, s0, bf⟩ := A
  obtain ⟨o, O1, Or, e1, h1, h2, h3, ⟨v, rfl, p, vs, rfl, ep, r⟩, h5⟩ := s.focus e
  have pO : O p = some (.lst vs) := h1 _ _ ep
  have pH : H p = some (.lst vs) := so _ _ pO
  have dp := d p (by rw [pO]; simp)
  have f1 : Same F (upd F p (.lst vs)) := sub_upd dp.1
  have hOr : Or p = none := (h3 p).resolve_left (by rw [ep]; simp)
  have hσ : σ.set i (some (.ref p)) = σ := by
    apply List.ext_getElem?
    intro j
    by_cases hj : i = j
    · subst hj
      have hl : i < σ.length := by
        rcases Nat.lt_or_ge i σ.length with z | z
        · exact z
        · rw [List.getElem?_eq_none z] at e1; cases e1
      rw [List.getElem?_set_self hl]; exact e1.symm
    · rw [List.getElem?_set_ne hj]
  have key := h5 (upd F p (.lst vs)) (vl k as) (some (.ref p)) (fun _ => none) Or f1 ⟨.ref p, rfl, p, vs, rfl, rf_new upd_same dp.2, r.mono (rf_mono f1)⟩ (fun _ _ z => nomatch z) (Same.refl _) fun x => .inl rfl
  rw [hσ] at key
  refine ⟨upd F p (.lst vs), ⟨Or, key, h2.trans so, fun x hx => ?_, fun x o q => nt _ _ (h2 _ _ q)⟩, fun b u q => ?_, sB, s0.trans f1, bf.trans f1⟩
  · have hO : O x ≠ none := fun z => hx (by
      cases w : Or x with
      | none => rfl
      | some u => rw [h2 _ _ w] at z; cases z)
    refine ⟨?_, (d x hO).2⟩
    rw [upd_ne (fun z => by subst z; exact hx hOr)]
    exact (d x hO).1
  · by_cases z : b = p
    · subst z; rw [upd_same] at q; cases q; exact pH
    · rw [upd_ne z] at q; exact sF _ _ q
theorem ts_freeze {as : List α} (i : Nat) (hΓ : Γ[i]? = some (ownd k as)) (ht : TSs X B F0 (Γ.set i (vl k as)) ss D) : TSs X B F0 Γ ss D := fun F σ H A =>
  let ⟨F', A'⟩ := A.freeze hΓ
  ht F' σ H A'
/-- xs.append(e) -/
theorem ts_append {as : List α} {n : Str} {p pa cp ep : Pos} (i : Nat) (hΓ : Γ[i]? = some (ownd k as)) (he : XE X B F0 Γ e k x) (hz : as.length < sizeLine) (ht : TSs X B F0 (Γ.set i (ownd k (as ++ [x]))) ss D)
    (hN : X.N[i]? = some n := by rfl) (hv : Vis X.env.scope n := by first | exact Or.inl rfl | exact Or.inr (Or.inl rfl) | exact Or.inr (Or.inr rfl)) (hd : (n == ("__debug__" : Str)) = false := by decide) (hcd : (n == ("__classdict__" : Str)) = false := by decide)
    (hbase : attributeBase (.Name n p) "append" X.env (eval (.Name n p) X.env) = eval (.Name n p) X.env := by rfl)
    (hfew : ((backTo cp (starEach [e] X.env)).all (fun x => !x.1) && (backToKw cp (keywordEach [] X.env)).all (fun x => x.1.isSome) && decide ([e].length + ([] : List Keyword).length + (if ([] : List Keyword).isEmpty then 0 else 1) < 30)) = true := by rfl)
    (hline : (pa.endLine == cp.line) = true := by rfl) (hst : starEach [e] X.env = (false, eval e X.env) :: starEach [] X.env := by rfl) (hpl : (backTo cp (starEach [] X.env)).any (·.1) = false := by rfl) (hs : swapsWith (.Call (.Attribute (.Name n p) "append" pa) [e] [] cp) none ep.line X.env = pure false := by rfl) :
    TSs X B F0 Γ (.Expr (.Call (.Attribute (.Name n p) "append" pa) [e] [] cp) ep :: ss) D :=
  ts_cons fun F σ H A => WS.of (ps_expr (pe_bm PySem.F.plainAttrs_list PySem.F.slot_list_append PySem.F.type_list_append mt_append (pe_var hN hv hd hcd) (pa_cons can_e pa_nil hst) hbase hfew hline hst hpl) hs) (by
    obtain ⟨q, vs, e1, hp, r, w⟩ := A.write hΓ
    refine ⟨.ref q, e1, .inl ⟨rfl, _, SqL.of hp⟩, he F σ H _ A fun F' H' v g rv => ?_⟩
    exact ⟨q, vs, v, rfl, rfl, g.hh _ _ hp, by rw [Reps.length r]; exact hz, ht F' σ _ (w F' H' _ _ g ((r.mono (rf_mono g.ff)).append (.cons rv .nil)))⟩)

/-! ### for -/
def after (K : Kf) (B F0 : Hp) (I : Ev → Prop) : St → Hp → Prop := fun σ H => ∃ Γ F, I Γ ∧ AS K B F0 Γ F σ H
theorem ts_for {tg it : Expr} {body : List Stmt} {xs : List α} {is : List Nat} {U : α → Ev → Ev} (hc : X.calm = true) (hp : PassesOwn (model X.prog X.w) X.A X.env X.xe) (hi : XI X B F0 Γ tg it k xs) (hg : ∀ x, TGt X B tg k x is (U x)) (I : List α → Ev → Prop) (h0 : I xs Γ)
    (hb : ∀ (x : α) (r : List α) (Γ1 : Ev) (F1 : Hp), (∃ d, xs = d ++ x :: r) → I (x :: r) Γ1 → TSs X B F1 (U x Γ1) body { D with nx := after X.K B F1 (I r), ct := after X.K B F1 (I r), bk := D.nx })
    (hd : ∀ (Γ1 : Ev) (F1 F : Hp) (σ : St) (H : Hp), I [] Γ1 → AS X.K B F0 Γ1 F σ H → D.nx σ H) (hs : ∀ x, foldedSetIterable it X.env x = pure x := by intro _; rfl) : TSt X B F0 Γ (.For tg it body [] pos) D := fun F σ H A =>
  WS.of (ps_for hp hc can_i can_g can_ss hs) (hi F σ H _ A fun F' H' J g ok => by
    refine ⟨fun i m σ2 H2 => m = xs.length - i ∧ i ≤ xs.length ∧ ∃ Γ2 F2, Same F' F2 ∧ I (xs.drop i) Γ2 ∧ AS X.K B F0 Γ2 F2 σ2 H2, ⟨xs.length, by simp, Nat.zero_le _, Γ, F', Same.refl _, h0, A.grow g⟩, ?_⟩
    rintro i m σ2 H2 ⟨rfl, hi, Γ2, F2, s2, hI, A2⟩
    by_cases hlt : i < xs.length
    · refine .inr ⟨(ok.go i hlt F2 H2 s2 A2.sF).1, fun σ3 H3 => ∃ Γ3 F3, Same F' F3 ∧ I (xs.drop (i + 1)) Γ3 ∧ AS X.K B F0 Γ3 F3 σ3 H3, fun σ3 H3 ⟨Γ3, F3, s3, hI3, A3⟩ => ⟨xs.length - (i + 1), by omega, rfl, hlt, Γ3, F3, s3, hI3, A3⟩, fun v H3 y => ?_⟩
      obtain ⟨F3, g3, rv⟩ := (ok.go i hlt F2 H2 s2 A2.sF).2 v H3 y
      have A3 := A2.grow g3
      have A3' : AS X.K B F3 Γ2 F3 σ2 H3 := ⟨A3.ex, A3.sF, A3.sB, Same.refl _, A3.bf⟩
      have ed : xs.drop i = xs[i] :: xs.drop (i + 1) := List.drop_eq_getElem_cons hlt
      rw [ed] at hI
      refine hg xs[i] F3 Γ2 F3 σ2 H3 v _ A3' rv fun σ4 _ _ A4 => ?_
      have hb' := hb xs[i] (xs.drop (i + 1)) Γ2 F3 ⟨xs.take i, by rw [← ed, List.take_append_drop]⟩ hI F3 σ4 H3 A4
      have conv : ∀ σ' H', after X.K B F3 (I (xs.drop (i + 1))) σ' H' → ∃ Γ3 F4, Same F' F4 ∧ I (xs.drop (i + 1)) Γ3 ∧ AS X.K B F0 Γ3 F4 σ' H' := fun σ' H' ⟨Γ5, F5, hI5, A5⟩ =>
        ⟨Γ5, F5, s2.trans (g3.ff.trans A5.s0), hI5, A5.ex, A5.sF, A5.sB, A2.s0.trans (g3.ff.trans A5.s0), A5.bf⟩
      exact fun pins s I0 => thn (hb' pins s I0) fun fl s' r => by
        cases fl with
        | next => obtain ⟨σ', H'', I', q⟩ := r; exact ⟨σ', H'', I', conv _ _ q⟩
        | brk => exact r
        | cont => obtain ⟨σ', H'', I', q⟩ := r; exact ⟨σ', H'', I', conv _ _ q⟩
        | ret u => exact r
    · have ei : i = xs.length := by omega
      subst ei
      rw [List.drop_length] at hI
      exact .inl ⟨ok.stop _ rfl F2 H2 s2 A2.sF, hd Γ2 F' F2 σ2 H2 hI A2⟩)
/-- while, by what is left to do -/
theorem ts_while {t : Expr} {body : List Stmt} (hp : PassesOwn (model X.prog X.w) X.A X.env X.xe) (I : Nat → Ev → Prop) (h0 : ∃ n, I n Γ)
    (hb : ∀ (n : Nat) (Γ1 : Ev) (F1 : Hp), I n Γ1 → ∃ c, XT X B F1 Γ1 t c ∧ (c = true → TSs X B F1 Γ1 body { D with nx := after X.K B F1 (fun Γ2 => ∃ m, m < n ∧ I m Γ2), ct := after X.K B F1 (fun Γ2 => ∃ m, m < n ∧ I m Γ2), bk := D.nx }) ∧ (c = false → ∀ F σ H, AS X.K B F0 Γ1 F σ H → D.nx σ H)) : TSt X B F0 Γ (.While t body [] pos) D := fun F σ H A =>
  WS.of (ps_while hp can_t can_ss) (by
    obtain ⟨n, h0⟩ := h0
    refine ⟨fun m σ2 H2 => ∃ Γ2 F2, I m Γ2 ∧ AS X.K B F0 Γ2 F2 σ2 H2, ⟨n, Γ, F, h0, A⟩, ?_⟩
    rintro m σ2 H2 ⟨Γ2, F2, hI, A2⟩
    obtain ⟨c, hc, h1, h2⟩ := hb m Γ2 F2 hI
    have A2' : AS X.K B F2 Γ2 F2 σ2 H2 := ⟨A2.ex, A2.sF, A2.sB, Same.refl _, A2.bf⟩
    refine hc F2 σ2 H2 _ A2' fun F3 H3 g => ?_
    cases c with
    | false => exact h2 rfl F3 σ2 H3 (A2.grow g)
    | true =>
      refine ⟨fun σ4 H4 => ∃ m', m' < m ∧ ∃ Γ4 F4, I m' Γ4 ∧ AS X.K B F0 Γ4 F4 σ4 H4, fun σ4 H4 h => h, ?_⟩
      have h1' := h1 rfl F3 σ2 H3 (A2'.grow g)
      have conv : ∀ σ' H', after X.K B F2 (fun Γ2 => ∃ m', m' < m ∧ I m' Γ2) σ' H' → ∃ m', m' < m ∧ ∃ Γ4 F4, I m' Γ4 ∧ AS X.K B F0 Γ4 F4 σ' H' := fun σ' H' ⟨Γ5, F5, ⟨m', hm, hI5⟩, A5⟩ =>
        ⟨m', hm, Γ5, F5, hI5, A5.ex, A5.sF, A5.sB, A2.s0.trans A5.s0, A5.bf⟩
      exact fun pins s I0 => thn (h1' pins s I0) fun fl s' r => by
        cases fl with
        | next => obtain ⟨σ', H'', I', q⟩ := r; exact ⟨σ', H'', I', conv _ _ q⟩
        | brk => exact r
        | cont => obtain ⟨σ', H'', I', q⟩ := r; exact ⟨σ', H'', I', conv _ _ q⟩
        | ret u => exact r)

/-! ### comprehensions -/
def Wiped (Γ : Ev) : List Nat → Prop
  | [] => True
  | v :: vs => Γ[v]? = some junk ∧ Wiped Γ vs
theorem Slots.junked {K : Kf} {F : Hp} : ∀ {Γ : Ev} {σ : St} {O : Hp} (i : Nat) (o : Option V), Slots K B F Γ σ O → Γ[i]? = some junk → Slots K B F Γ (σ.set i o) O
  | [], _, _, _, _, _, e => by simp at e
  | _ :: _, [], _, _, _, h, _ => h.elim
  | s :: Γ, o :: σ, O, 0, o', ⟨O1, O2, a, b, c, d, q⟩, e => by
    have e' : s = junk := by simpa using e
    subst e'
    exact ⟨O1, O2, a, b, c, trivial, q⟩
  | s :: Γ, o :: σ, O, i + 1, o', ⟨O1, O2, a, b, c, d, q⟩, e => ⟨O1, O2, a, b, c, d, Slots.junked i o' q (by simpa using e)⟩
theorem AS.wipe {K : Kf} {F : Hp} {σ : St} {H : Hp} (A : AS K B F0 Γ F σ H) : ∀ vs : List Nat, Wiped Γ vs → AS K B F0 Γ F (L2.wipe σ vs) H
  | [], _ => A
  | v :: vs, ⟨h1, h2⟩ => by
    obtain ⟨⟨O, s, so⟩, sF, sB, s0, bf⟩ := AS.wipe A vs h2
    exact ⟨⟨O, s.junked v none h1, so⟩, sF, sB, s0, bf⟩
theorem wipe_get (σ : St) : ∀ (vs : List Nat) (j : Nat), (L2.wipe σ vs)[j]? = if j ∈ vs then (if j < σ.length then some none else none) else σ[j]?
  | [], j => by simp [L2.wipe]
  | v :: vs, j => by
    unfold L2.wipe
    by_cases e : v = j
    · subst e
      rw [if_pos List.mem_cons_self]
      by_cases hl : v < σ.length
      · rw [List.getElem?_set_self (by rw [wipe_length]; exact hl), if_pos hl]
      · rw [List.getElem?_eq_none (by rw [List.length_set, wipe_length]; omega), if_neg hl]
    · rw [List.getElem?_set_ne e, wipe_get σ vs j]
      have : (j ∈ v :: vs) ↔ j ∈ vs := by simp [Ne.symm e]
      simp only [this]
theorem wipe_same {σ σ' : St} {vs is : List Nat} (h : ∀ j, j ∉ is → σ'[j]? = (L2.wipe σ vs)[j]?) (hl : σ'.length = (L2.wipe σ vs).length) (hi : ∀ j ∈ is, j ∈ vs) : L2.wipe σ' vs = L2.wipe σ vs := by
  rw [wipe_length] at hl
  apply List.ext_getElem?
  intro j
  rw [wipe_get, wipe_get, hl]
  by_cases m : j ∈ vs
  · rw [if_pos m, if_pos m]
  · rw [if_neg m, if_neg m, h j (fun z => m (hi j z)), wipe_get, if_neg m]
/-- the block's context -/
abbrev Blk (X : Cx) (scope : Scope) (s : Shared) (H : Hp) (C : Addr) (cl : List (Str × Addr)) (fp : List Addr) : Cx := X.blk s H scope (compEnvC scope cl C X.env) fp
def WEb (X : Cx) (scope : Scope) (e : Expr) : TE := fun σ H Q => ∀ s H0 C cl fp, WE (Blk X scope s H0 C cl fp) e σ H Q
def WTb (X : Cx) (scope : Scope) (e : Expr) : TT := fun σ H Q => ∀ s H0 C cl fp, WT (Blk X scope s H0 C cl fp) e σ H Q
def WGb (X : Cx) (scope : Scope) (tg : Expr) : TG := fun v σ H Q => ∀ s H0 C cl fp, WG (Blk X scope s H0 C cl fp) tg v σ H Q
structure LcIn (X : Cx) (B F0 : Hp) (Γ : Ev) (scope : Scope) (tg it elt : Expr) (ifs : List Expr) (own : List (Str × Nat)) (k : Bool) {α β : Type} [R α] [R β] (xs : List α) (p : α → Bool) (f : α → β) : Prop where
  ex : ∃ (k0 : Bool) (is : List Nat) (U : α → Ev → Ev), XI X B F0 Γ tg it k0 xs ∧ (∀ x, ∀ s H0 C cl fp, TGt (Blk X scope s H0 C cl fp) B tg k0 x is (U x)) ∧ (∀ j ∈ is, j ∈ own.map (·.2)) ∧ Wiped Γ (own.map (·.2)) ∧
    ((ifs = [] ∧ p = fun _ => true) ∨ ∃ c, ifs = [c] ∧ ∀ x ∈ xs, ∀ s H0 C cl fp F1, XT (Blk X scope s H0 C cl fp) B F1 (U x Γ) c (p x)) ∧
    ∀ x ∈ xs, p x = true → ∀ s H0 C cl fp F1, XE (Blk X scope s H0 C cl fp) B F1 (U x Γ) elt k (f x)
theorem lc_read {scope : Scope} {tg it elt : Expr} {ifs : List Expr} {own : List (Str × Nat)} {xs : List α} {p : α → Bool} {f : α → β} (L : LcIn X B F0 Γ scope tg it elt ifs own k xs p f) (hz : xs.length ≤ sizeLine) :
    ∃ tt, (∀ (s : Shared) (H : Hp) (C : Addr) (cl : List (Str × Addr)) (fp : List Addr), PTs (Blk X scope s H C cl fp) ifs tt) ∧ ∀ {F σ H} {Q : VK}, AS X.K B F0 Γ F σ H →
      (∀ F' H' v O, Grow F H F' H' → Same O H' → (∀ x o, O x = some o → H x = none ∧ F' x = none ∧ isTup o = false) → Ow.own X.K (rf k B F') v ((xs.filter p).map f) O → Q v H') →
      tLc (WI X tg it) (WGb X scope tg) tt (WEb X scope elt) (own.map (·.2)) σ H Q := by
  obtain ⟨k0, is, U, hi, hg, his, hw, ht, he⟩ := L.ex
  -- the tests' reading
  have tests : ∃ tt, (∀ (s : Shared) (H : Hp) (C : Addr) (cl : List (Str × Addr)) (fp : List Addr), PTs (Blk X scope s H C cl fp) ifs tt) ∧ ∀ x ∈ xs, ∀ F1 F σ H (Q : Bool → Hp → Prop), AS X.K B F1 (U x Γ) F σ H → (∀ F' H', Grow F H F' H' → Q (p x) H') → tt σ H Q := by
    rcases ht with ⟨rfl, rfl⟩ | ⟨c, rfl, hc⟩
    · exact ⟨tYes, fun s H C cl fp => pts_nil, fun x hx F1 F σ H Q A q => q F H (Grow.refl A.sF)⟩
    · exact ⟨WTb X scope c, fun s H C cl fp => pts_one ⟨fun pins s' σ H' Q I h => h s H C cl fp pins s' I⟩, fun x hx F1 F σ H Q A q => fun s H0 C cl fp => hc x hx s H0 C cl fp F1 F σ H Q A q⟩
  obtain ⟨tt, pt, ht⟩ := tests
  refine ⟨tt, pt, fun {F σ H Q} A q => ?_⟩
  refine hi F σ H _ A fun F' H1 J g ok => fun Dd nD => ?_
  have A1 := A.grow g
  have gen : ∀ i, (xs.take i).length ≤ sizeLine := fun i => by rw [List.length_take]; omega
  refine ⟨fun i m H2 => m = xs.length - i ∧ i ≤ xs.length ∧ ∃ acc F2, H2 Dd = some (.lst acc) ∧ F2 Dd = none ∧ Grow F' H1 F2 H2 ∧ Reps X.K (rf k B F2) acc (((xs.take i).filter p).map f),
    ⟨xs.length, by simp, Nat.zero_le _, [], F', upd_same, A1.sF.free nD, Grow.newH A1.sF nD, .nil⟩, ?_⟩
  rintro i m H2 ⟨rfl, hile, acc, F2, hD, fD, g2, racc⟩
  by_cases hlt : i < xs.length
  · refine .inr ⟨(ok.go i hlt F2 H2 g2.ff g2.fh).1, fun H3 => i + 1 ≤ xs.length ∧ ∃ acc F3, H3 Dd = some (.lst acc) ∧ F3 Dd = none ∧ Grow F' H1 F3 H3 ∧ Reps X.K (rf k B F3) acc (((xs.take (i + 1)).filter p).map f),
      fun H3 ⟨h1, h2⟩ => ⟨xs.length - (i + 1), by omega, rfl, h1, h2⟩, fun v H3 y => ?_⟩
    obtain ⟨F3, g3, rv⟩ := (ok.go i hlt F2 H2 g2.ff g2.fh).2 v H3 y
    have notD : ∀ {Fa Ha Fb Hb}, Grow Fa Ha Fb Hb → Ha Dd = some (.lst acc) → Fa Dd = none → Fb Dd = none := fun {Fa Ha Fb Hb} gg h1 h2 => by
      cases w : Fb Dd with
      | none => rfl
      | some o =>
        rcases gg.nw _ _ w with z | z | z
        · rw [h2] at z; cases z
        · rw [h1] at z; cases z
        · have e1 := gg.fh _ _ w
          rw [gg.hh _ _ h1] at e1; cases e1; cases z
    have A3 : AS X.K B F0 Γ F3 σ H3 := (A1.grow g2).grow g3
    have et : xs.take (i + 1) = xs.take i ++ [xs[i]] := by rw [List.take_add_one, List.getElem?_eq_getElem hlt]; rfl
    have hx : xs[i] ∈ xs := List.getElem_mem hlt
    intro s H0 C cl fp
    refine hg xs[i] s H0 C cl fp F0 Γ F3 (L2.wipe σ _) H3 v _ (A3.wipe _ hw) rv fun σ4 s4 l4 A4 => ⟨wipe_same s4 l4 his, ?_⟩
    refine ht xs[i] hx F0 F3 σ4 H3 _ A4 fun F5 H5 g5 => ?_
    have f5 : F5 Dd = none := notD g5 (g3.hh _ _ hD) (notD g3 hD fD)
    have h5 : H5 Dd = some (.lst acc) := g5.hh _ _ (g3.hh _ _ hD)
    have g25 : Grow F2 H2 F5 H5 := g3.trans g5
    by_cases hp : p xs[i] = true
    · rw [if_pos hp]
      intro s' H0' C' cl' fp'
      refine he xs[i] hx hp s' H0' C' cl' fp' F0 F5 σ4 H5 _ (A4.grow g5) fun F6 H6 u g6 ru => ?_
      have f6 : F6 Dd = none := notD g6 h5 f5
      have h6 : H6 Dd = some (.lst acc) := g6.hh _ _ h5
      have g26 := g25.trans g6
      have gA := g2.trans g26
      refine ⟨acc, h6, ?_, hlt, acc ++ [u], F6, upd_same, f6, ⟨fun b o eb => ?_, gA.ff, fun b o eb => ?_, gA.nw⟩, ?_⟩
      · rw [Reps.length racc, List.length_map]
        have := List.length_filter_le p (xs.take i)
        have h2 : (xs.take i).length ≤ i := by rw [List.length_take]; omega
        omega
      · rw [upd_ne (ne_of_none eb nD)]; exact gA.hh _ _ eb
      · rw [upd_ne (ne_of_none eb f6)]; exact gA.fh _ _ eb
      · rw [et, List.filter_append, List.map_append]
        refine (racc.mono (rf_mono g26.ff)).append ?_
        rw [List.filter_cons_of_pos hp]
        exact .cons ru .nil
    · rw [if_neg hp]
      refine ⟨hlt, acc, F5, h5, f5, g2.trans g25, ?_⟩
      rw [et, List.filter_append, List.filter_cons_of_neg hp, List.filter_nil, List.append_nil]
      exact racc.mono (rf_mono g25.ff)
  · have ei : i = xs.length := by omega
    subst ei
    rw [List.take_length] at racc
    refine .inl ⟨ok.stop _ rfl F2 H2 g2.ff g2.fh, ?_⟩
    refine q F2 H2 (.ref Dd) (one Dd (.lst acc)) (g.trans g2) (one_sub hD) (fun x o e => ?_) ⟨Dd, acc, rfl, one_at, racc⟩
    obtain ⟨rfl, rfl⟩ := one_is e
    exact ⟨g.hh.free nD, fD, rfl⟩
theorem xlc {scope : Scope} {tg it elt : Expr} {ifs : List Expr} (own : List (Str × Nat)) {xs : List α} {p : α → Bool} {f : α → β} (hc : X.calm = true) (hN : X.N.Nodup) (ok : BlkOk X.N X.env.scope scope own) (L : LcIn X B F0 Γ scope tg it elt ifs own k xs p f) (hz : xs.length ≤ sizeLine)
    (hs : ∀ x, foldedSetIterable it X.env x = pure x := by intro _; rfl) : XO X B F0 Γ (.ListComp elt [⟨tg, it, ifs, 0⟩] scope pos) k ((xs.filter p).map f) := fun F σ H Q A q => by
  obtain ⟨tt, pt, h⟩ := lc_read L hz
  exact WE.of (pe_lc hc hN can_i ok (fun s H C cl fp => ⟨fun pins s' σ H' v u Q I r hh => hh s H C cl fp pins s' u I r⟩) pt (fun s H C cl fp => ⟨fun pins s' σ H' Q I hh => hh s H C cl fp pins s' I⟩) hs) (h A q)
/-- name = [..], the name a local -/
theorem ts_setLc {scope : Scope} {tg it elt : Expr} {ifs : List Expr} {n : Str} {py spos : Pos} (i : Nat) (own : List (Str × Nat)) {xs : List α} {p : α → Bool} {f : α → β} (hc : X.calm = true) (hN : X.N.Nodup) (ok : BlkOk X.N X.env.scope scope own) (L : LcIn X B F0 Γ scope tg it elt ifs own k xs p f) (hz : xs.length ≤ sizeLine)
    (ht : TSs X B F0 (Γ.set i (ownd k ((xs.filter p).map f))) ss D) (hsw : swapsWith (.ListComp elt [⟨tg, it, ifs, 0⟩] scope pos) (some (.Name n py)) spos.line X.env = pure true) (hy : X.N[i]? = some n := by rfl) (hyl : X.env.scope.names.lookup n = some .local := by rfl)
    (hs : ∀ x, foldedSetIterable it X.env x = pure x := by intro _; rfl) : TSs X B F0 Γ (.Assign [.Name n py] (.ListComp elt [⟨tg, it, ifs, 0⟩] scope pos) spos :: ss) D := ts_cons fun F σ H A => by
  obtain ⟨tt, pt, h⟩ := lc_read L hz
  exact WS.of (ps_setLc hc hN hy hyl hsw can_i ok (fun s H C cl fp => ⟨fun pins s' σ H' v u Q I r hh => hh s H C cl fp pins s' u I r⟩) pt (fun s H C cl fp => ⟨fun pins s' σ H' Q I hh => hh s H C cl fp pins s' I⟩) hs)
    (h A fun F' H' v O g so n r => ht F' _ H' (A.seto g i so n r))
end
end Cb

set_option Elab.async false
set_option linter.all false
set_option maxRecDepth 100000
/-! Cb5: dicts, lists changed in place -/
namespace Cb
open PySem PySem.Spec L2
open PyProof.Rows hiding St

/-! ### dicts as plain data -/
section
variable {κ β : Type} [DecidableEq κ]
def dGet (kvs : List (κ × β)) (c : κ) : Option β := (kvs.find? fun kv => decide (kv.1 = c)).map (·.2)
def dPut (kvs : List (κ × β)) (c : κ) (v : β) : List (κ × β) :=
  if (kvs.any fun kv => decide (kv.1 = c)) = true then kvs.map fun kv => if kv.1 = c then (kv.1, v) else kv else kvs ++ [(c, v)]
end
structure Dct (κ β : Type) where
  kvs : List (κ × β)

/-- kinds of keys -/
class DK (κ : Type) [R κ] [DecidableEq κ] where
  ho : List (κ × V) → HO
  notTup : ∀ l, isTup (ho l) = false
  new : ∀ {X : Cx} {pos : Pos}, PE X (.Dict [] [] pos) (fun _ H Q => ∀ p, H p = none → Q (.ref p) (upd H p (ho [])))
  get : ∀ {K : Kf} {H : Hp} {a : Addr} {y : V} {c : κ} {kvs : List (κ × V)}, H a = some (ho kvs) → R.rep K H y c → DGet H a y (dGet kvs c)
  put : ∀ {K : Kf} {H : Hp} {a : Addr} {y v : V} {c : κ} {kvs : List (κ × V)}, H a = some (ho kvs) → R.rep K H y c → kvs.length < sizeLine → DPut H a y v (upd H a (ho (dPut kvs c v)))
  isD : ∀ {H : Hp} {a : Addr} {kvs : List (κ × V)}, H a = some (ho kvs) → IsD H a
theorem valV_eq {κ : Type} [DecidableEq κ] (kvs : List (κ × V)) (c : κ) : valV kvs c = dGet kvs c := rfl
theorem putK_eq {κ : Type} [DecidableEq κ] (kvs : List (κ × V)) (c : κ) (v : V) : putK kvs c v = dPut kvs c v := rfl
section
variable {κ κ' : Type} [DecidableEq κ] [DecidableEq κ'] (g : κ → κ') (inj : ∀ a b, g a = g b → a = b)
include inj
theorem dec_inj (a b : κ) : decide (g a = g b) = decide (a = b) := by
  by_cases e : a = b
  · subst e; simp
  · rw [decide_eq_false e, decide_eq_false (fun q => e (inj _ _ q))]
theorem dGet_map (kvs : List (κ × V)) (c : κ) : dGet (kvs.map fun kv => (g kv.1, kv.2)) (g c) = dGet kvs c := by
  unfold dGet
  induction kvs with
  | nil => rfl
  | cons q t ih =>
    rw [List.map_cons, List.find?_cons, List.find?_cons]
    simp only [dec_inj g inj]
    cases decide (q.1 = c) with
    | true => rfl
    | false => exact ih
theorem dPut_map (kvs : List (κ × V)) (c : κ) (v : V) : dPut (kvs.map fun kv => (g kv.1, kv.2)) (g c) v = (dPut kvs c v).map fun kv => (g kv.1, kv.2) := by
  unfold dPut
  have e1 : ((kvs.map fun kv => (g kv.1, kv.2)).any fun kv => decide (kv.1 = g c)) = kvs.any fun kv => decide (kv.1 = c) := by
    rw [List.any_map]
    congr 1
    funext kv
    exact dec_inj g inj _ _
  rw [e1]
  split
  · rw [List.map_map, List.map_map]
    apply List.map_congr_left
    intro kv _
    show (if g kv.1 = g c then (g kv.1, v) else (g kv.1, kv.2)) = (fun kv => (g kv.1, kv.2)) (if kv.1 = c then (kv.1, v) else kv)
    by_cases e : kv.1 = c
    · rw [if_pos e, if_pos (by rw [e])]
    · rw [if_neg e, if_neg (fun q => e (inj _ _ q))]
  · rw [List.map_append]; rfl
end
instance : DK Int where
  ho := fun l => .dK (l.map fun kv => (Sum.inl kv.1, kv.2))
  notTup := fun _ => rfl
  new := pe_dnewK
  get := fun {K H a y c kvs} h r => by
    have e : y = .int c := r
    subst e
    have := DGet.k (k := Sum.inl c) h
    rw [valV_eq, dGet_map (fun c => (Sum.inl c : Key)) (fun a b q => Sum.inl.inj q)] at this
    exact this
  put := fun {K H a y v c kvs} h r l => by
    have e : y = .int c := r
    subst e
    have := DPut.k (k := Sum.inl c) (v := v) h (by rw [List.length_map]; exact l)
    rw [putK_eq, dPut_map (fun c => (Sum.inl c : Key)) (fun a b q => Sum.inl.inj q)] at this
    exact this
  isD := fun h => .inl ⟨_, .inl h⟩
instance : DK Str where
  ho := fun l => .dK (l.map fun kv => (Sum.inr kv.1, kv.2))
  notTup := fun _ => rfl
  new := pe_dnewK
  get := fun {K H a y c kvs} h r => by
    have e : y = .str c := r
    subst e
    have := DGet.k (k := Sum.inr c) h
    rw [valV_eq, dGet_map (fun c => (Sum.inr c : Key)) (fun a b q => Sum.inr.inj q)] at this
    exact this
  put := fun {K H a y v c kvs} h r l => by
    have e : y = .str c := r
    subst e
    have := DPut.k (k := Sum.inr c) (v := v) h (by rw [List.length_map]; exact l)
    rw [putK_eq, dPut_map (fun c => (Sum.inr c : Key)) (fun a b q => Sum.inr.inj q)] at this
    exact this
  isD := fun h => .inl ⟨_, .inl h⟩
/-- flat keys within tuples -/
class FK (κ : Type) [R κ] where
  key : κ → Key
  inj : ∀ a b, key a = key b → a = b
  rep : ∀ {K : Kf} {H : Hp} {v : V} {c : κ}, R.rep K H v c → v = kV (key c)
instance : FK Int := ⟨Sum.inl, fun _ _ q => Sum.inl.inj q, fun h => h⟩
instance : FK Str := ⟨Sum.inr, fun _ _ q => Sum.inr.inj q, fun h => h⟩
def pairKey {α β : Type} [R α] [R β] [FK α] [FK β] (c : α × β) : List Key := [FK.key c.1, FK.key c.2]
theorem pairKey_inj {α β : Type} [R α] [R β] [FK α] [FK β] (a b : α × β) (q : pairKey a = pairKey b) : a = b := by
  unfold pairKey at q
  injection q with q1 q2
  injection q2 with q2 _
  exact Prod.ext (FK.inj _ _ q1) (FK.inj _ _ q2)
instance {α β : Type} [R α] [R β] [FK α] [FK β] [DecidableEq α] [DecidableEq β] : DK (α × β) where
  ho := fun l => .dT (l.map fun kv => (pairKey kv.1, kv.2))
  notTup := fun _ => rfl
  new := pe_dnewT
  get := fun {K H a y c kvs} h r => by
    obtain ⟨p, v1, v2, rfl, hp, r1, r2⟩ := r
    have e1 := FK.rep r1
    have e2 := FK.rep r2
    subst e1 e2
    have := DGet.t (k := pairKey c) h hp
    rw [valV_eq, dGet_map pairKey pairKey_inj] at this
    exact this
  put := fun {K H a y v c kvs} h r l => by
    obtain ⟨p, v1, v2, rfl, hp, r1, r2⟩ := r
    have e1 := FK.rep r1
    have e2 := FK.rep r2
    subst e1 e2
    have := DPut.t (k := pairKey c) (v := v) h hp (by rw [List.length_map]; exact l)
    rw [putK_eq, dPut_map pairKey pairKey_inj] at this
    exact this
  isD := fun h => .inr ⟨_, .inl h⟩

/-- entries stand for entries -/
abbrev PD {κ β : Type} [R β] (K : Kf) (F : Hp) : List (κ × V) → List (κ × β) → Prop := Paired fun p q => p.1 = q.1 ∧ R.rep K F p.2 q.2
section
variable {κ β : Type} [R κ] [DecidableEq κ] [DK κ] [R β] {K : Kf} {F F' : Hp}
omit [R κ] [DecidableEq κ] [DK κ] in
theorem PD.mono (h : Same F F') {ws : List (κ × V)} {kvs : List (κ × β)} (r : PD K F ws kvs) : PD K F' ws kvs := Paired.mono (fun _ _ x => ⟨x.1, R.mono h x.2⟩) r
omit [R κ] [DK κ] in
theorem PD.get {c : κ} {ws : List (κ × V)} {kvs : List (κ × β)} (r : PD K F ws kvs) : (dGet kvs c = none ∧ dGet ws c = none) ∨ ∃ b v, dGet kvs c = some b ∧ dGet ws c = some v ∧ R.rep K F v b := by
  unfold dGet
  induction r with
  | nil => exact .inl ⟨rfl, rfl⟩
  | cons q t ih =>
    obtain ⟨e, rb⟩ := q
    rw [List.find?_cons, List.find?_cons, e]
    rename_i pa pb _ _
    cases h : decide (pb.1 = c) with
    | true => exact .inr ⟨_, _, rfl, rfl, rb⟩
    | false => exact ih
omit [R κ] [DK κ] in
theorem PD.any {c : κ} {ws : List (κ × V)} {kvs : List (κ × β)} (r : PD K F ws kvs) : (ws.any fun kv => decide (kv.1 = c)) = kvs.any fun kv => decide (kv.1 = c) := by
  induction r with
  | nil => rfl
  | cons q t ih => rw [List.any_cons, List.any_cons, ih, q.1]
omit [R κ] [DK κ] in
theorem PD.repl {c : κ} {v : V} {b : β} (rb : R.rep K F v b) {ws : List (κ × V)} {kvs : List (κ × β)} (r : PD K F ws kvs) : PD K F (ws.map fun kv => if kv.1 = c then (kv.1, v) else kv) (kvs.map fun kv => if kv.1 = c then (kv.1, b) else kv) := by
  induction r with
  | nil => exact .nil
  | cons q t ih =>
    rename_i pa pb _ _
    refine .cons ?_ ih
    obtain ⟨e, rr⟩ := q
    dsimp only
    by_cases h : pb.1 = c
    · rw [if_pos h, if_pos (by rw [e]; exact h)]; exact ⟨e, rb⟩
    · rw [if_neg h, if_neg (by rw [e]; exact h)]; exact ⟨e, rr⟩
omit [R κ] [DecidableEq κ] [DK κ] in
theorem PD.snoc {c : κ} {v : V} {b : β} (rb : R.rep K F v b) : ∀ {ws : List (κ × V)} {kvs : List (κ × β)}, PD K F ws kvs → PD K F (ws ++ [(c, v)]) (kvs ++ [(c, b)])
  | _, _, .nil => .cons ⟨rfl, rb⟩ .nil
  | _, _, .cons q t => .cons q (PD.snoc rb t)
omit [R κ] [DK κ] in
theorem PD.put {c : κ} {v : V} {b : β} (rb : R.rep K F v b) {ws : List (κ × V)} {kvs : List (κ × β)} (r : PD K F ws kvs) : PD K F (dPut ws c v) (dPut kvs c b) := by
  unfold dPut
  rw [r.any]
  split
  · exact r.repl rb
  · exact r.snoc rb
end
instance {κ β : Type} [R κ] [DecidableEq κ] [DK κ] [R β] : R (Dct κ β) := ⟨fun K F v d => ∃ p ws, v = .ref p ∧ F p = some (DK.ho ws) ∧ PD K F ws d.kvs, fun h ⟨p, ws, e, q, r⟩ => ⟨p, ws, e, h _ _ q, r.mono h⟩⟩
instance {κ β : Type} [R κ] [DecidableEq κ] [DK κ] [R β] : Ow (Dct κ β) where
  own := fun K F v d O => ∃ p ws, v = .ref p ∧ O p = some (DK.ho ws) ∧ PD K F ws d.kvs
  omono := fun h ⟨p, ws, e, q, r⟩ => ⟨p, ws, e, q, r.mono h⟩
  oread := fun ⟨p, ws, e, q, r⟩ hF hO => ⟨p, ws, e, hO _ _ q, r.mono hF⟩
instance {κ β : Type} [R κ] [DecidableEq κ] [DK κ] [R β] : NN (Dct κ β) := ⟨fun ⟨_, _, e, _⟩ => nomatch e⟩

section
variable {X : Cx} {B F0 : Hp} {Γ : Ev} {k k1 k2 : Bool} {e a b i o : Expr} {es : List Expr} {pos : Pos} {D : Ends} {ss : List Stmt} {st : Stmt}
variable {κ β : Type} [R κ] [DecidableEq κ] [DK κ] [R β] {d : Dct κ β} {c : κ} {x : β}
theorem XO.fzd (h : XO X B F0 Γ e k d) : XE X B F0 Γ e k d := fun F σ H Q A q =>
  h F σ H Q A fun F' H' v O g so n ⟨p, vs, ev, ep, r⟩ => by
    obtain ⟨np, nf, nt⟩ := n p _ ep
    have nB : B p = none := A.sB.free np
    refine q (upd F' p (DK.ho vs)) H' v ⟨g.hh, g.ff.trans fun b u e => ?_, fun b u e => ?_, fun x o e => ?_⟩ ⟨p, vs, ev, rf_new upd_same nB, r.mono (rf_mono fun b u e => ?_)⟩
    · rw [upd_ne (ne_of_none e nf)]; exact e
    · by_cases z : b = p
      · subst z; rw [upd_same] at e; cases e; exact so _ _ ep
      · rw [upd_ne z] at e; exact g.fh _ _ e
    · by_cases z : x = p
      · subst z; exact .inr (.inl np)
      · rw [upd_ne z] at e; exact g.nw _ _ e
    · rw [upd_ne (ne_of_none e nf)]; exact e
theorem xdnew : XO X B F0 Γ (.Dict [] [] pos) k (Dct.mk [] : Dct κ β) := fun F σ H Q A q =>
  WE.of (DK.new (κ := κ)) fun p np => q F _ (.ref p) (one p (DK.ho [])) (Grow.newH A.sF np) (one_sub upd_same) (fun x o e => by
    obtain ⟨rfl, rfl⟩ := one_is e
    exact ⟨np, A.sF.free np, DK.notTup _⟩) ⟨p, [], rfl, one_at, .nil⟩
theorem xdin (hu : X.A.units + 1 < cLine) (ha : XV X B F0 Γ a c) (hb : XV X B F0 Γ b d) (hm : behindInMarks .In b = false := by rfl) : XE X B F0 Γ (.Compare a [.In] [b] pos) k (dGet d.kvs c).isSome := fun F σ H Q A q =>
  WE.of (pe_cmp (pc_din hu can_e can_e) hm) (x_two ha hb A fun F' H' v w g r1 ⟨p, ws, e, hp, r⟩ => by
    refine ⟨p, _, e, DK.get hp r1, q F' H' _ g ?_⟩
    rcases r.get (c := c) with ⟨h1, h2⟩ | ⟨b, v, h1, h2, _⟩
    · rw [h1, h2]; rfl
    · rw [h1, h2]; rfl)
theorem xdnin (hu : X.A.units + 1 < cLine) (ha : XV X B F0 Γ a c) (hb : XV X B F0 Γ b d) (hm : behindInMarks .NotIn b = false := by rfl) : XE X B F0 Γ (.Compare a [.NotIn] [b] pos) k (!(dGet d.kvs c).isSome) := fun F σ H Q A q =>
  WE.of (pe_cmp (pc_dnotin hu can_e can_e) hm) (x_two ha hb A fun F' H' v w g r1 ⟨p, ws, e, hp, r⟩ => by
    refine ⟨p, _, e, DK.get hp r1, q F' H' _ g ?_⟩
    rcases r.get (c := c) with ⟨h1, h2⟩ | ⟨b, v, h1, h2, _⟩
    · rw [h1, h2]; rfl
    · rw [h1, h2]; rfl)
/-- d[c], d a frozen dict -/
theorem xdget (hu : X.A.units + 1 < cLine) (ho : XE X B F0 Γ o k d) (hi : XV X B F0 Γ i c) (h : dGet d.kvs c = some x) (hs : NoSl i := by exact fun _ _ => rfl) : XE X B F0 Γ (.Subscript o i pos) k x := fun F σ H Q A q =>
  WE.of (pe_dget hu can_e can_e hs) (ho F σ H _ A fun F1 H1 v g r => hi F1 σ H1 _ (A.grow g) fun F2 H2 w g2 r2 => by
    obtain ⟨p, ws, e, hp, r⟩ := R.mono (rf_mono g2.ff) r
    rcases r.get (c := c) with ⟨h1, _⟩ | ⟨b, u, h1, h2, ru⟩
    · rw [h] at h1; cases h1
    · rw [h] at h1; cases h1
      exact ⟨p, u, e, by have := DK.get (g2.fh _ _ (rf_sub _ _ hp)) r2; rw [h2] at this; exact this, q F2 H2 u (g.trans g2) ru⟩)
/-- .. as the heap stands -/
theorem xdgetV (hu : X.A.units + 1 < cLine) (ho : XV X B F0 Γ o d) (hi : XV X B F0 Γ i c) (h : dGet d.kvs c = some x) (hs : NoSl i := by exact fun _ _ => rfl) : XV X B F0 Γ (.Subscript o i pos) x := fun F σ H Q A q =>
  WE.of (pe_dget hu can_e can_e hs) (x_two ho hi A fun F' H' v w g r r2 => by
    obtain ⟨p, ws, e, hp, r⟩ := r
    rcases r.get (c := c) with ⟨h1, _⟩ | ⟨b, u, h1, h2, ru⟩
    · rw [h] at h1; cases h1
    · rw [h] at h1; cases h1
      exact ⟨p, u, e, by have := DK.get hp r2; rw [h2] at this; exact this, q F' H' u g ru⟩)
/-- an owned dict: items that are frozen -/
theorem AS.ownD {K : Kf} {F : Hp} {σ : St} {H : Hp} {j : Nat} (A : AS K B F0 Γ F σ H) (e : Γ[j]? = some (ownd k d)) : ∃ p ws, σ[j]? = some (some (.ref p)) ∧ H p = some (DK.ho ws) ∧ PD K (rf k B F) ws d.kvs := by
  obtain ⟨⟨O, s, so, _⟩, sF, _⟩ := A
  obtain ⟨o, O1, e1, h1, v, rfl, p, ws, rfl, hp, r⟩ := s.at e
  exact ⟨p, ws, e1, so _ _ (h1 _ _ hp), r⟩
theorem xdgeto {n : Str} {p : Pos} (j : Nat) (hu : X.A.units + 1 < cLine) (hΓ : Γ[j]? = some (ownd k d)) (hi : XV X B F0 Γ i c) (h : dGet d.kvs c = some x) (hN : X.N[j]? = some n := by rfl) (hv : Vis X.env.scope n := by first | exact Or.inl rfl | exact Or.inr (Or.inl rfl) | exact Or.inr (Or.inr rfl)) (hd : (n == ("__debug__" : Str)) = false := by decide) (hcd : (n == ("__classdict__" : Str)) = false := by decide) (hs : NoSl i := by exact fun _ _ => rfl) :
    XE X B F0 Γ (.Subscript (.Name n p) i pos) k x := fun F σ H Q A q =>
  WE.of (pe_dget hu (pe_var hN hv hd hcd) can_e hs) (by
    obtain ⟨p, ws, e1, hp, r⟩ := A.ownD hΓ
    refine ⟨.ref p, e1, hi F σ H _ A fun F2 H2 w g2 r2 => ?_⟩
    rcases (r.mono (rf_mono g2.ff)).get (c := c) with ⟨h1, _⟩ | ⟨b, u, h1, h2, ru⟩
    · rw [h] at h1; cases h1
    · rw [h] at h1; cases h1
      exact ⟨p, u, rfl, by have := DK.get (g2.hh _ _ hp) r2; rw [h2] at this; exact this, q F2 H2 u g2 ru⟩)
/-- d.get(c, x) -/
theorem xdgetD {apos : Pos} {e2 : Expr} (hu : X.A.units + 1 < cLine) (ho : XE X B F0 Γ o k d) (hi : XV X B F0 Γ i c) (hx : XE X B F0 Γ e2 k x) (m : M2 X o "get" apos i e2 pos := by exact ⟨rfl, rfl, rfl, rfl, rfl, rfl⟩) : XE X B F0 Γ (.Call (.Attribute o "get" apos) [i, e2] [] pos) k ((dGet d.kvs c).getD x) := fun F σ H Q A q =>
  WE.of (pe_dget2 hu can_e can_e can_e m) (ho F σ H _ A fun F1 H1 v g r => by
    obtain ⟨p, ws, e, hp, r⟩ := r
    refine ⟨p, e, DK.isD (g.fh _ _ (rf_sub _ _ hp)), hi F1 σ H1 _ (A.grow g) fun F2 H2 w g2 r2 => hx F2 σ H2 _ ((A.grow g).grow g2) fun F3 H3 u g3 r3 => ?_⟩
    refine ⟨_, DK.get ((g2.trans g3).hh _ _ (g.fh _ _ (rf_sub _ _ hp))) (R.mono g3.hh r2), q F3 H3 _ (g.trans (g2.trans g3)) ?_⟩
    rcases (r.mono (rf_mono (g2.trans g3).ff)).get (c := c) with ⟨h1, h2⟩ | ⟨b, v, h1, h2, rv⟩
    · rw [h1, h2]; exact r3
    · rw [h1, h2]; exact rv)
theorem xdgetDo {apos p : Pos} {e2 : Expr} {n : Str} (j : Nat) (hu : X.A.units + 1 < cLine) (hΓ : Γ[j]? = some (ownd k d)) (hi : XV X B F0 Γ i c) (hx : XE X B F0 Γ e2 k x) (hN : X.N[j]? = some n := by rfl) (hv : Vis X.env.scope n := by first | exact Or.inl rfl | exact Or.inr (Or.inl rfl) | exact Or.inr (Or.inr rfl)) (hd : (n == ("__debug__" : Str)) = false := by decide) (hcd : (n == ("__classdict__" : Str)) = false := by decide)
    (m : M2 X (.Name n p) "get" apos i e2 pos := by exact ⟨rfl, rfl, rfl, rfl, rfl, rfl⟩) : XE X B F0 Γ (.Call (.Attribute (.Name n p) "get" apos) [i, e2] [] pos) k ((dGet d.kvs c).getD x) := fun F σ H Q A q =>
  WE.of (pe_dget2 hu (pe_var hN hv hd hcd) can_e can_e m) (by
    obtain ⟨p, ws, e1, hp, r⟩ := A.ownD hΓ
    refine ⟨.ref p, e1, p, rfl, DK.isD hp, hi F σ H _ A fun F2 H2 w g2 r2 => hx F2 σ H2 _ (A.grow g2) fun F3 H3 u g3 r3 => ?_⟩
    refine ⟨_, DK.get ((g2.trans g3).hh _ _ hp) (R.mono g3.hh r2), q F3 H3 _ (g2.trans g3) ?_⟩
    rcases (r.mono (rf_mono (g2.trans g3).ff)).get (c := c) with ⟨h1, h2⟩ | ⟨b, v, h1, h2, rv⟩
    · rw [h1, h2]; exact r3
    · rw [h1, h2]; exact rv)
end

/-! ### an owned thing written (of any kind) -/
theorem AS.put {γ : Type} [Ow γ] {c : γ} {K : Kf} {B F0 : Hp} {Γ : Ev} {k : Bool} {F : Hp} {σ : St} {H : Hp} {j : Nat} {P : Addr → HO → Prop} (A : AS K B F0 Γ F σ H) (e : Γ[j]? = some (ownd k c))
    (hown : ∀ v O, Ow.own K (rf k B F) v c O → ∃ p o, v = .ref p ∧ O p = some o ∧ P p o) :
    ∃ p o, σ[j]? = some (some (.ref p)) ∧ H p = some o ∧ P p o ∧ ∀ {γ' : Type} [Ow γ'] {c' : γ'} {k' : Bool} {F' H' : Hp} {o' : HO}, Grow F H F' H' → isTup o' = false → Ow.own K (rf k' B F') (.ref p) c' (one p o') → AS K B F0 (Γ.set j (ownd k' c')) F' σ (upd H' p o') := by
  obtain ⟨⟨O, s, so, d, nt0⟩, sF, sB, s0, bf⟩ := id A
  obtain ⟨ov, O1, Or, e1, h1, h2, h3, ⟨v, rfl, r⟩, h5⟩ := s.focus e
  obtain ⟨p, o, rfl, ep, pp⟩ := hown v O1 r
  have pO : O p = some o := h1 _ _ ep
  have pH : H p = some o := so _ _ pO
  have dp := d p (by rw [pO]; simp)
  refine ⟨p, o, e1, pH, pp, fun {γ' _ c' k' F' H' o'} g nt hnew => ?_⟩
  have A' := A.grow g
  have noF : ∀ x u, O x = some u → F' x = none := fun x u q => by
    cases w : F' x with
    | none => rfl
    | some o2 =>
      rcases g.nw x o2 w with z | z | z
      · rw [(d x (by rw [q]; simp)).1] at z; cases z
      · rw [so _ _ q] at z; cases z
      · have e1 := g.fh _ _ w
        have e2 := g.hh _ _ (so _ _ q)
        rw [e1] at e2; cases e2
        rw [nt0 _ _ q] at z; cases z
  have hOr : Or p = none := (h3 p).resolve_left (by rw [ep]; simp)
  have sOr : Same Or (upd H' p o') := fun b u q => by rw [upd_ne (ne_of_none q hOr)]; exact g.hh _ _ (so _ _ (h2 _ _ q))
  have s1 : Same (one p o') (upd H' p o') := one_sub upd_same
  have hσ : σ.set j (some (.ref p)) = σ := by
    apply List.ext_getElem?
    intro l
    by_cases hl : j = l
    · subst hl
      have hl : j < σ.length := by
        rcases Nat.lt_or_ge j σ.length with z | z
        · exact z
        · rw [List.getElem?_eq_none z] at e1; cases e1
      rw [List.getElem?_set_self hl]; exact e1.symm
    · rw [List.getElem?_set_ne hl]
  have key := h5 F' (ownd k' c') (some (.ref p)) (one p o') (join (one p o') Or) g.ff ⟨_, rfl, hnew⟩ (join_left _ _) (join_right s1 sOr) fun x => by
    by_cases z : x = p
    · subst z; exact .inr hOr
    · left; unfold one; rw [if_neg z]
  rw [hσ] at key
  have hF' := noF p o pO
  refine ⟨⟨_, key, join_sub s1 sOr, fun x hx => ?_, fun x u q => ?_⟩, fun b u q => ?_, fun b u q => ?_, A'.s0, A'.bf⟩
  · cases w : join (one p o') Or x with
    | none => exact absurd w hx
    | some u =>
      rcases join_is w with q | q
      · obtain ⟨rfl, rfl⟩ := one_is q; exact ⟨hF', dp.2⟩
      · exact ⟨noF x u (h2 _ _ q), (d x (by rw [h2 _ _ q]; simp)).2⟩
  · rcases join_is q with q | q
    · obtain ⟨rfl, rfl⟩ := one_is q; exact nt
    · exact nt0 _ _ (h2 _ _ q)
  · rw [upd_ne (ne_of_none q hF')]; exact g.fh _ _ q
  · rw [upd_ne (ne_of_none q dp.2)]; exact A'.sB _ _ q
section
variable {X : Cx} {B F0 : Hp} {Γ : Ev} {k k1 k2 : Bool} {e a b i o : Expr} {es : List Expr} {pos : Pos} {D : Ends} {ss : List Stmt} {st : Stmt}
variable {κ β : Type} [R κ] [DecidableEq κ] [DK κ] [R β] {d : Dct κ β} {c : κ} {x : β}
/-- d[c] = x -/
theorem ts_dput {n : Str} {p p' : Pos} (j : Nat) (hu : X.A.units + 1 < cLine) (hΓ : Γ[j]? = some (ownd k d)) (he : XE X B F0 Γ e k x) (hi : XV X B F0 Γ i c) (hz : d.kvs.length < sizeLine) (ht : TSs X B F0 (Γ.set j (ownd k (Dct.mk (dPut d.kvs c x)))) ss D)
    (hN : X.N[j]? = some n := by rfl) (hv : Vis X.env.scope n := by first | exact Or.inl rfl | exact Or.inr (Or.inl rfl) | exact Or.inr (Or.inr rfl)) (hd : (n == ("__debug__" : Str)) = false := by decide) (hcd : (n == ("__classdict__" : Str)) = false := by decide)
    (hs : swapsWith e (some (.Subscript (.Name n p) i p')) pos.line X.env = pure false := by rfl) : TSs X B F0 Γ (.Assign [.Subscript (.Name n p) i p'] e pos :: ss) D :=
  ts_cons fun F σ H A => WS.of (ps_dput hu (pe_var hN hv hd hcd) can_e can_e hs) (he F σ H _ A fun F1 H1 v g r => by
    obtain ⟨q, ho, e1, hp, ⟨ws, rfl, rw_⟩, w⟩ := (A.grow g).put (P := fun p o => ∃ ws, o = DK.ho ws ∧ PD X.K (rf k B F1) ws d.kvs) hΓ (fun v O ⟨p', ws', e', hp', r'⟩ => ⟨p', _, e', hp', ws', rfl, r'⟩)
    refine ⟨.ref q, e1, hi F1 σ H1 _ (A.grow g) fun F2 H2 u g2 r2 => ?_⟩
    have hl : ws.length = d.kvs.length := Paired.length rw_
    exact ⟨q, _, rfl, DK.put (g2.hh _ _ hp) r2 (by rw [hl]; exact hz), ht F2 σ _ (w g2 (DK.notTup _) ⟨q, _, rfl, one_at, (rw_.mono (rf_mono g2.ff)).put (R.mono (rf_mono g2.ff) r)⟩)⟩)
theorem xdlen {κ : Type} [R κ] [DecidableEq κ] [DK κ] {d : Dct κ β} {p : Pos} (ml : X.mg "len" = none) (hho : ∀ l : List (κ × V), ∃ kvs : List (Key × V), DK.ho l = .dK kvs ∧ kvs.length = l.length) (ha : XV X B F0 Γ a d) (hg : Gl X "len" := by rfl) (hs : starEach [a] X.env = (false, eval a X.env) :: starEach [] X.env := by rfl) :
    XE X B F0 Γ (.Call (.Name "len" p) [a] [] pos) k (d.kvs.length : Int) :=
  XA.one call_lenD hg ml PySem.boot_len ha (fun H v Q ⟨q, ws, e, hp, r⟩ h => by
    obtain ⟨kvs, e2, l2⟩ := hho ws
    rw [e2] at hp
    exact ⟨q, kvs, by rw [e], hp, by rw [l2, Paired.length r]; exact h _ fun _ => rfl⟩) (hs := hs)
theorem hoI (l : List (Int × V)) : ∃ kvs : List (Key × V), DK.ho l = .dK kvs ∧ kvs.length = l.length := ⟨_, rfl, by rw [List.length_map]⟩
theorem hoS (l : List (Str × V)) : ∃ kvs : List (Key × V), DK.ho l = .dK kvs ∧ kvs.length = l.length := ⟨_, rfl, by rw [List.length_map]⟩

/-! ### lists changed in place -/
section
variable {α : Type} [R α] {as bs : List α} {x : α}
theorem AS.writeL {K : Kf} {F : Hp} {σ : St} {H : Hp} {j : Nat} (A : AS K B F0 Γ F σ H) (e : Γ[j]? = some (ownd k as)) :
    ∃ p vs, σ[j]? = some (some (.ref p)) ∧ H p = some (.lst vs) ∧ Reps K (rf k B F) vs as ∧ ∀ {F' H' : Hp} {vs' : List V} {as' : List α}, Grow F H F' H' → Reps K (rf k B F') vs' as' → AS K B F0 (Γ.set j (ownd k as')) F' σ (upd H' p (.lst vs')) := by
  obtain ⟨p, vs, h1, h2, h3, h4⟩ := A.write e
  exact ⟨p, vs, h1, h2, h3, fun {F' H' vs' as'} g r => h4 F' H' vs' as' g r⟩
/-- a method without arguments, as a statement -/
theorem ts_m0 {n name : Str} {id : String} {p pa cp ep : Pos} {r : V → List V → Hp → VK → Prop} {as' : List α} (j : Nat) (hΓ : Γ[j]? = some (ownd k as)) (slot : PySem.Slot "list" name id) (hty : typeOf (.builtin id) = pure (.type "method_descriptor")) (hm : MtR X id r)
    (hr : ∀ p vs H Q F, H p = some (.lst vs) → Reps X.K F vs as → (∀ u vs', Reps X.K F vs' as' → Q u (upd H p (.lst vs'))) → r (.ref p) [] H Q) (ht : TSs X B F0 (Γ.set j (ownd k as')) ss D)
    (hN : X.N[j]? = some n) (hv : Vis X.env.scope n) (hd : (n == ("__debug__" : Str)) = false) (hcd : (n == ("__classdict__" : Str)) = false)
    (hbase : attributeBase (.Name n p) name X.env (eval (.Name n p) X.env) = eval (.Name n p) X.env) (hline : (pa.endLine == cp.line) = true) (hs : swapsWith (.Call (.Attribute (.Name n p) name pa) [] [] cp) none ep.line X.env = pure false) :
    TSs X B F0 Γ (.Expr (.Call (.Attribute (.Name n p) name pa) [] [] cp) ep :: ss) D :=
  ts_cons fun F σ H A => WS.of (ps_expr (pe_bm0 PySem.F.plainAttrs_list slot hty hm (pe_var hN hv hd hcd) hbase hline) hs) (by
    obtain ⟨q, vs, e1, hp, rr, w⟩ := A.writeL hΓ
    exact ⟨.ref q, e1, .inl ⟨rfl, _, SqL.of hp⟩, hr q vs H _ _ hp rr fun u vs' r' => ht F σ _ (w (Grow.refl A.sF) r')⟩)
/-- name = xs.m() -/
theorem ts_sm0 {n t name : Str} {id : String} {p pt pa cp ep : Pos} {r : V → List V → Hp → VK → Prop} {as' : List α} (i j : Nat) (hN0 : X.N.Nodup) (hΓ : Γ[j]? = some (ownd k as)) (slot : PySem.Slot "list" name id) (hty : typeOf (.builtin id) = pure (.type "method_descriptor")) (hm : MtR X id r)
    (hr : ∀ p vs H Q F, H p = some (.lst vs) → Reps X.K F vs as → (∀ u vs', R.rep X.K F u x → Reps X.K F vs' as' → Q u (upd H p (.lst vs'))) → r (.ref p) [] H Q) (ht : TSs X B F0 ((Γ.set j (ownd k as')).set i (vl k x)) ss D)
    (hi : X.N[i]? = some t) (hx : Loc X.env.scope t) (hf : X.fn t = true ∨ X.env.scope.names.lookup t = some .local) (hN : X.N[j]? = some n) (hv : Vis X.env.scope n) (hd : (n == ("__debug__" : Str)) = false) (hcd : (n == ("__classdict__" : Str)) = false)
    (hbase : attributeBase (.Name n p) name X.env (eval (.Name n p) X.env) = eval (.Name n p) X.env) (hline : (pa.endLine == cp.line) = true) (hs : swapsWith (.Call (.Attribute (.Name n p) name pa) [] [] cp) (some (.Name t pt)) ep.line X.env = pure false) :
    TSs X B F0 Γ (.Assign [.Name t pt] (.Call (.Attribute (.Name n p) name pa) [] [] cp) ep :: ss) D :=
  ts_cons fun F σ H A => WS.of (ps_set hN0 hi hx (pe_bm0 PySem.F.plainAttrs_list slot hty hm (pe_var hN hv hd hcd) hbase hline) hs hf) (by
    obtain ⟨q, vs, e1, hp, rr, w⟩ := A.writeL hΓ
    exact ⟨.ref q, e1, .inl ⟨rfl, _, SqL.of hp⟩, hr q vs H _ _ hp rr fun u vs' ru r' => ht F _ _ ((w (Grow.refl A.sF) r').set i ru)⟩)
theorem r_pop {K : Kf} (h : as[as.length - 1]? = some x) (p : Addr) (vs : List V) (H : Hp) (Q : VK) (F : Hp) (hp : H p = some (.lst vs)) (rr : Reps K F vs as) (q : ∀ u vs', R.rep K F u x → Reps K F vs' as.dropLast → Q u (upd H p (.lst vs'))) : rPop (.ref p) [] H Q := by
  obtain ⟨u, hu, ru⟩ := rr.get h
  exact ⟨p, vs, u, rfl, rfl, hp, by rw [Reps.length rr]; exact hu, q u _ ru rr.dropLast⟩
/-- x = xs.pop() -/
theorem ts_setpop {n t : Str} {p pt pa cp ep : Pos} (i j : Nat) (hN0 : X.N.Nodup) (hΓ : Γ[j]? = some (ownd k as)) (h : as[as.length - 1]? = some x) (ht : TSs X B F0 ((Γ.set j (ownd k as.dropLast)).set i (vl k x)) ss D)
    (hi : X.N[i]? = some t := by rfl) (hx : Loc X.env.scope t := by first | exact Or.inl rfl | exact Or.inr rfl) (hf : X.fn t = true ∨ X.env.scope.names.lookup t = some .local := by first | exact .inl rfl | exact .inr rfl)
    (hN : X.N[j]? = some n := by rfl) (hv : Vis X.env.scope n := by first | exact Or.inl rfl | exact Or.inr (Or.inl rfl) | exact Or.inr (Or.inr rfl)) (hd : (n == ("__debug__" : Str)) = false := by decide) (hcd : (n == ("__classdict__" : Str)) = false := by decide)
    (hbase : attributeBase (.Name n p) "pop" X.env (eval (.Name n p) X.env) = eval (.Name n p) X.env := by rfl) (hline : (pa.endLine == cp.line) = true := by rfl) (hs : swapsWith (.Call (.Attribute (.Name n p) "pop" pa) [] [] cp) (some (.Name t pt)) ep.line X.env = pure false := by rfl) :
    TSs X B F0 Γ (.Assign [.Name t pt] (.Call (.Attribute (.Name n p) "pop" pa) [] [] cp) ep :: ss) D :=
  ts_sm0 (as' := as.dropLast) i j hN0 hΓ PySem.F.slot_list_pop PySem.F.type_list_pop mt_pop (r_pop h) ht hi hx hf hN hv hd hcd hbase hline hs
theorem ts_clear {n : Str} {p pa cp ep : Pos} (j : Nat) (hΓ : Γ[j]? = some (ownd k as)) (ht : TSs X B F0 (Γ.set j (ownd k ([] : List α))) ss D)
    (hN : X.N[j]? = some n := by rfl) (hv : Vis X.env.scope n := by first | exact Or.inl rfl | exact Or.inr (Or.inl rfl) | exact Or.inr (Or.inr rfl)) (hd : (n == ("__debug__" : Str)) = false := by decide) (hcd : (n == ("__classdict__" : Str)) = false := by decide)
    (hbase : attributeBase (.Name n p) "clear" X.env (eval (.Name n p) X.env) = eval (.Name n p) X.env := by rfl) (hline : (pa.endLine == cp.line) = true := by rfl) (hs : swapsWith (.Call (.Attribute (.Name n p) "clear" pa) [] [] cp) none ep.line X.env = pure false := by rfl) :
    TSs X B F0 Γ (.Expr (.Call (.Attribute (.Name n p) "clear" pa) [] [] cp) ep :: ss) D :=
  ts_m0 (as := as) j hΓ PySem.F.slot_list_clear PySem.F.type_list_clear mt_clear (fun p vs H Q F hp rr q => ⟨p, vs, rfl, rfl, hp, q _ _ .nil⟩) ht hN hv hd hcd hbase hline hs
theorem ts_reverse {n : Str} {p pa cp ep : Pos} (j : Nat) (hΓ : Γ[j]? = some (ownd k as)) (ht : TSs X B F0 (Γ.set j (ownd k as.reverse)) ss D)
    (hN : X.N[j]? = some n := by rfl) (hv : Vis X.env.scope n := by first | exact Or.inl rfl | exact Or.inr (Or.inl rfl) | exact Or.inr (Or.inr rfl)) (hd : (n == ("__debug__" : Str)) = false := by decide) (hcd : (n == ("__classdict__" : Str)) = false := by decide)
    (hbase : attributeBase (.Name n p) "reverse" X.env (eval (.Name n p) X.env) = eval (.Name n p) X.env := by rfl) (hline : (pa.endLine == cp.line) = true := by rfl) (hs : swapsWith (.Call (.Attribute (.Name n p) "reverse" pa) [] [] cp) none ep.line X.env = pure false := by rfl) :
    TSs X B F0 Γ (.Expr (.Call (.Attribute (.Name n p) "reverse" pa) [] [] cp) ep :: ss) D :=
  ts_m0 j hΓ PySem.F.slot_list_reverse PySem.F.type_list_reverse mt_reverse (fun p vs H Q F hp rr q => ⟨p, vs, rfl, rfl, hp, q _ _ rr.reverse⟩) ht hN hv hd hcd hbase hline hs
/-- xs.extend(ys), ys a list -/
theorem ts_extend {n : Str} {p pa cp ep : Pos} (j : Nat) (hΓ : Γ[j]? = some (ownd k as)) (he : XE X B F0 Γ e k bs) (hz : as.length + bs.length ≤ sizeLine) (ht : TSs X B F0 (Γ.set j (ownd k (as ++ bs))) ss D)
    (hN : X.N[j]? = some n := by rfl) (hv : Vis X.env.scope n := by first | exact Or.inl rfl | exact Or.inr (Or.inl rfl) | exact Or.inr (Or.inr rfl)) (hd : (n == ("__debug__" : Str)) = false := by decide) (hcd : (n == ("__classdict__" : Str)) = false := by decide)
    (hbase : attributeBase (.Name n p) "extend" X.env (eval (.Name n p) X.env) = eval (.Name n p) X.env := by rfl)
    (hfew : ((backTo cp (starEach [e] X.env)).all (fun x => !x.1) && (backToKw cp (keywordEach [] X.env)).all (fun x => x.1.isSome) && decide ([e].length + ([] : List Keyword).length + (if ([] : List Keyword).isEmpty then 0 else 1) < 30)) = true := by rfl)
    (hline : (pa.endLine == cp.line) = true := by rfl) (hst : starEach [e] X.env = (false, eval e X.env) :: starEach [] X.env := by rfl) (hpl : (backTo cp (starEach [] X.env)).any (·.1) = false := by rfl) (hs : swapsWith (.Call (.Attribute (.Name n p) "extend" pa) [e] [] cp) none ep.line X.env = pure false := by rfl) :
    TSs X B F0 Γ (.Expr (.Call (.Attribute (.Name n p) "extend" pa) [e] [] cp) ep :: ss) D :=
  ts_cons fun F σ H A => WS.of (ps_expr (pe_bm PySem.F.plainAttrs_list PySem.F.slot_list_extend PySem.F.type_list_extend mt_extend (pe_var hN hv hd hcd) (pa_cons can_e pa_nil hst) hbase hfew hline hst hpl) hs) (by
    obtain ⟨q, vs, e1, hp, r, w⟩ := A.writeL hΓ
    refine ⟨.ref q, e1, .inl ⟨rfl, _, SqL.of hp⟩, he F σ H _ A fun F' H' v g rv => ?_⟩
    obtain ⟨b, zs, rfl, hb, rz⟩ := rv
    exact ⟨q, b, vs, zs, rfl, rfl, g.hh _ _ hp, g.fh _ _ (rf_sub _ _ hb), by rw [Reps.length r, Reps.length rz]; exact hz, ht F' σ _ (w g ((r.mono (rf_mono g.ff)).append rz))⟩)
/-- xs[i] = e -/
theorem ts_lput {n : Str} {p p' : Pos} {ix : Int} {m : Nat} (j : Nat) (hΓ : Γ[j]? = some (ownd k as)) (he : XE X B F0 Γ e k x) (hi : XV X B F0 Γ i ix) (hm : ixN as.length ix = some m) (ht : TSs X B F0 (Γ.set j (ownd k (as.set m x))) ss D)
    (hN : X.N[j]? = some n := by rfl) (hv : Vis X.env.scope n := by first | exact Or.inl rfl | exact Or.inr (Or.inl rfl) | exact Or.inr (Or.inr rfl)) (hd : (n == ("__debug__" : Str)) = false := by decide) (hcd : (n == ("__classdict__" : Str)) = false := by decide)
    (ha : ∀ v, assign (.Subscript (.Name n p) i p') X.env v = (do
      let ov ← holding [v] (eval (.Name n p) X.env)
      let iv ← holding [v, ov] (eval i X.env)
      standAt p'
      holding [v, ov, iv] (setItem ov iv v)
      release [v, ov, iv] []) := by intro _; rfl)
    (hs : swapsWithSole [.Subscript (.Name n p) i p'] e pos.line X.env = pure false := by rfl) (hw : swappedStores [.Subscript (.Name n p) i p'] e X.env = pure none := by rfl)
    (h1 : (assignEach [.Subscript (.Name n p) i p'] X.env).map (·.2) = [assign (.Subscript (.Name n p) i p') X.env] := by rfl) : TSs X B F0 Γ (.Assign [.Subscript (.Name n p) i p'] e pos :: ss) D :=
  ts_cons fun F σ H A => WS.of (ps_asg can_e (pg_sub (pe_var hN hv hd hcd) can_e set_list ha) hs hw h1) (he F σ H _ A fun F1 H1 v g r => by
    obtain ⟨q, vs, e1, hp, rr, w⟩ := (A.grow g).writeL hΓ
    refine ⟨.ref q, e1, hi F1 σ H1 _ (A.grow g) fun F2 H2 u g2 r2 => ?_⟩
    exact ⟨q, vs, ix, m, rfl, r2, g2.hh _ _ hp, by rw [Reps.length rr]; exact hm, ht F2 σ _ (w g2 (Reps.set (R.mono (rf_mono g2.ff) r) m (rr.mono (rf_mono g2.ff))))⟩)
end
end
end Cb

set_option Elab.async false
set_option linter.all false
set_option maxRecDepth 100000
/-! Cb6: a def's promise from its typed body -/
namespace Cb
open PySem PySem.Spec L2
open PyProof.Rows hiding St
section
variable {P : Program} {w : World} {K : Kf} {mg : Str → Option Value} {base : Heap}
/-- a def of level j -/
structure CalL (P : Program) (w : World) (K : Kf) (mg : Str → Option Value) (base : Heap) (j : Nat) (x : Str) (sp : Sp) : Prop where
  ex : ∃ f fd ps, FnOk P w K mg base CX0 j f fd ps sp ∧ mg x = some (.ref f) ∧ PySem.W.keepIn K (.ref f) = true ∧ Binds K fd ps []
theorem CalL.at {j k : Nat} {x : Str} {sp : Sp} {A : Around} (c : CalL P w K mg base j x sp) (hr : Room k A) (h : j ≤ k := by decide) : Cal P w K mg base A x sp := by
  obtain ⟨f, fd, ps, G, hm, kp, bd⟩ := c.ex
  exact ⟨j, f, fd, ps, G, hr.mono h, hm, kp, bd⟩
abbrev Xc (P : Program) (w : World) (K : Kf) (mg : Str → Option Value) (base : Heap) (N : List Str) (qual : Str) (st : Stmt) (f : Addr) (cdv : Value) (A : Around) (outer : List Env) (s : Shared) (H : Hp) (E : XK) : Cx :=
  (cxOf CX0 P w K mg base N qual (defScope st) f cdv A outer s H E).nox
theorem slots_junk {B F : Hp} : ∀ (n : Nat) (O : Hp), Slots K B F (List.replicate n junk) (List.replicate n none) O
  | 0, _ => trivial
  | n + 1, O => ⟨fun _ => none, fun _ => none, (fun _ _ z => nomatch z), (fun _ _ z => nomatch z), fun _ => .inl rfl, trivial, slots_junk n _⟩
theorem as_start {A : Type} [Args A] {a : A} {H : Hp} {N : List Str} {vs : List V} (h : Args.args K H vs a) : AS K H H (Args.env a ++ List.replicate (N.length - Args.len A) junk) H (L2.start N vs) H := by
  refine ⟨⟨fun _ => none, ?_, (fun _ _ z => nomatch z), (fun x hx => absurd rfl hx), (fun _ _ z => nomatch z)⟩, Same.refl _, Same.refl _, Same.refl _, Same.refl _⟩
  unfold L2.start
  rw [Args.length h]
  exact Args.slots h (slots_junk _ _)
variable {x qual : Str} {st : Stmt} {f : Addr} {fd : FuncData} {N ps : List Str} {k : Nat} {A : Type} [Args A]
theorem fn_v {γ : Type} [R γ] {pre : A → Prop} {m : A → γ} (F : Fun K x qual st f fd) (S : FnScope N ps (defScope st)) (hl : Args.len A = ps.length)
    (h : ∀ cdv Ar outer s H E, Room k (Ar.deeper (envOfC qual (defScope st) s.heap.objs.size f cdv)) → ∀ (a : A) (D : Ends), pre a → RD K H D (m a) → TSs (Xc P w K mg base N qual st f cdv Ar outer s H E) H H (Args.env a ++ List.replicate (N.length - Args.len A) junk) (defBody st) D) :
    FnOk P w K mg base CX0 (k + 1) f fd ps (spV K pre m) := by
  refine F.ok S (fun vs H Q E h => ?_) (fun cdv Ar outer s H vs Q E hr hq => ?_)
  · obtain ⟨a, ha, _⟩ := h
    rw [Args.length ha]; exact hl
  · obtain ⟨a, ha, hp, q⟩ := hq
    exact ⟨_, can_ss, h cdv Ar outer s H E hr a _ hp (Ret.rd q) H _ H (as_start ha)⟩
theorem fn_o {γ : Type} [Ow γ] {pre : A → Prop} {m : A → γ} (F : Fun K x qual st f fd) (S : FnScope N ps (defScope st)) (hl : Args.len A = ps.length)
    (h : ∀ cdv Ar outer s H E, Room k (Ar.deeper (envOfC qual (defScope st) s.heap.objs.size f cdv)) → ∀ (a : A) (D : Ends), pre a → RDO K H D (m a) → TSs (Xc P w K mg base N qual st f cdv Ar outer s H E) H H (Args.env a ++ List.replicate (N.length - Args.len A) junk) (defBody st) D) :
    FnOk P w K mg base CX0 (k + 1) f fd ps (spO K pre m) := by
  refine F.ok S (fun vs H Q E h => ?_) (fun cdv Ar outer s H vs Q E hr hq => ?_)
  · obtain ⟨a, ha, _⟩ := h
    rw [Args.length ha]; exact hl
  · obtain ⟨a, ha, hp, q⟩ := hq
    exact ⟨_, can_ss, h cdv Ar outer s H E hr a _ hp (RetO.rd q) H _ H (as_start ha)⟩
end
theorem RD.cast {γ : Type} [R γ] {K : Kf} {B : Hp} {D : Ends} {a b : γ} (h : RD K B D a) (e : a = b) : RD K B D b := e ▸ h
theorem RDO.cast {γ : Type} [Ow γ] {K : Kf} {B : Hp} {D : Ends} {a b : γ} (h : RDO K B D a) (e : a = b) : RDO K B D b := e ▸ h
/-! ### the same rules with what rfl can show -/
section
variable {X : Cx} {B F0 : Hp} {Γ : Ev} {k : Bool} {pos : Pos} {n : Str}
theorem vn {α : Type} [R α] (i : Nat) {a : α} (hΓ : Γ[i]? = some (vl k a) := by rfl) (hN : X.N[i]? = some n := by rfl) (hv : Vis X.env.scope n := by first | exact Or.inl rfl | exact Or.inr (Or.inl rfl) | exact Or.inr (Or.inr rfl)) (hd : (n == ("__debug__" : Str)) = false := by decide) (hcd : (n == ("__classdict__" : Str)) = false := by decide) : XE X B F0 Γ (.Name n pos) k a := xn i hN hv hΓ hd hcd
theorem pn {α : Type} [R α] [Pure α] (i : Nat) {k' : Bool} {a : α} (hΓ : Γ[i]? = some (vl k' a) := by rfl) (hN : X.N[i]? = some n := by rfl) (hv : Vis X.env.scope n := by first | exact Or.inl rfl | exact Or.inr (Or.inl rfl) | exact Or.inr (Or.inr rfl)) (hd : (n == ("__debug__" : Str)) = false := by decide) (hcd : (n == ("__classdict__" : Str)) = false := by decide) : XE X B F0 Γ (.Name n pos) k a := (xn i hN hv hΓ hd hcd).p
theorem vp {α : Type} [R α] (i : Nat) {a : α} (hΓ : Γ[i]? = some (pr a) := by rfl) (hN : X.N[i]? = some n := by rfl) (hv : Vis X.env.scope n := by first | exact Or.inl rfl | exact Or.inr (Or.inl rfl) | exact Or.inr (Or.inr rfl)) (hd : (n == ("__debug__" : Str)) = false := by decide) (hcd : (n == ("__classdict__" : Str)) = false := by decide) : XE X B F0 Γ (.Name n pos) false a := xnp i hN hv hΓ hd hcd
theorem np {α : Type} [R α] (i : Nat) {a : α} (hΓ : Γ[i]? = some (pr a) := by rfl) (hN : X.N[i]? = some n := by rfl) (hv : Vis X.env.scope n := by first | exact Or.inl rfl | exact Or.inr (Or.inl rfl) | exact Or.inr (Or.inr rfl)) (hd : (n == ("__debug__" : Str)) = false := by decide) (hcd : (n == ("__classdict__" : Str)) = false := by decide) : XV X B F0 Γ (.Name n pos) a := (xnp i hN hv hΓ hd hcd).v
theorem on {α : Type} [Ow α] (i : Nat) {k' : Bool} {a : α} (hΓ : Γ[i]? = some (ownd k' a) := by rfl) (hN : X.N[i]? = some n := by rfl) (hv : Vis X.env.scope n := by first | exact Or.inl rfl | exact Or.inr (Or.inl rfl) | exact Or.inr (Or.inr rfl)) (hd : (n == ("__debug__" : Str)) = false := by decide) (hcd : (n == ("__classdict__" : Str)) = false := by decide) : XV X B F0 Γ (.Name n pos) a := xno i hN hv hΓ hd hcd
end
end Cb
namespace Cb
open PySem PySem.Spec L2
open PyProof.Rows hiding St
section
variable {X : Cx} {B F0 : Hp} {Γ Γ' : Ev} {k : Bool} {pos : Pos} {n : Str} {D : Ends} {ss : List Stmt}
/-- a name, as the heap stands -/
theorem nv {α : Type} [R α] (i : Nat) {k : Bool} {a : α} (hΓ : Γ[i]? = some (vl k a) := by rfl) (hN : X.N[i]? = some n := by rfl) (hv : Vis X.env.scope n := by first | exact Or.inl rfl | exact Or.inr (Or.inl rfl) | exact Or.inr (Or.inr rfl)) (hd : (n == ("__debug__" : Str)) = false := by decide) (hcd : (n == ("__classdict__" : Str)) = false := by decide) : XV X B F0 Γ (.Name n pos) a := (xn i hN hv hΓ hd hcd).v
theorem iv {i : Int} {j : Nat} {pos : Pos} : XV X B F0 Γ (.Constant (.int i) j pos) i := (xi (k := true)).v
theorem sv {z : Str} {j : Nat} {pos : Pos} : XV X B F0 Γ (.Constant (.str z) j pos) z := (xs (k := true)).v
theorem bv {b : Bool} {j : Nat} {pos : Pos} : XV X B F0 Γ (.Constant (.bool b) j pos) b := (xb (k := true)).v
/-- slots weakened -/
inductive Le : Slot → Slot → Prop
  | refl {s : Slot} : Le s s
  | junk {s : Slot} : Le s junk
  | vl {α : Type} [R α] {k : Bool} {a b : α} (h : a = b) : Le (Cb.vl k a) (Cb.vl k b)
  | ow {α : Type} [Ow α] {k : Bool} {a b : α} (h : a = b) : Le (ownd k a) (ownd k b)
theorem Le.ok {s s' : Slot} (l : Le s s') {K : Kf} {B F : Hp} {o : Option V} {O : Hp} (h : s.ok K B F o O) : s'.ok K B F o O := by
  cases l with
  | refl => exact h
  | junk => trivial
  | vl q => subst q; exact h
  | ow q => subst q; exact h
inductive Ent : Ev → Ev → Prop
  | nil : Ent [] []
  | cons {s s' : Slot} {Γ Γ' : Ev} (h : Le s s') (t : Ent Γ Γ') : Ent (s :: Γ) (s' :: Γ')
theorem Ent.slots {K : Kf} {B F : Hp} : ∀ {Γ Γ' : Ev}, Ent Γ Γ' → ∀ {σ : St} {O : Hp}, Slots K B F Γ σ O → Slots K B F Γ' σ O
  | _, _, .nil, σ, O, h => h
  | _, _, .cons l t, [], O, h => h.elim
  | _, _, .cons l t, o :: σ, O, ⟨O1, O2, a, b, c, d, e⟩ => ⟨O1, O2, a, b, c, l.ok d, t.slots e⟩
theorem AS.ent {K : Kf} {B F0 F : Hp} {σ : St} {H : Hp} (A : AS K B F0 Γ F σ H) (e : Ent Γ Γ') : AS K B F0 Γ' F σ H := by
  obtain ⟨⟨O, s, so⟩, sF, sB, s0, bf⟩ := A
  exact ⟨⟨O, e.slots s, so⟩, sF, sB, s0, bf⟩
theorem ts_weak (Γ' : Ev) (e : Ent Γ Γ') (ht : TSs X B F0 Γ' ss D) : TSs X B F0 Γ ss D := fun F σ H A => ht F σ H (A.ent e)
theorem ts_junk (i : Nat) (ht : TSs X B F0 (Γ.set i junk) ss D) : TSs X B F0 Γ ss D := fun F σ H A => ht F σ H (by
  have gen : ∀ (Γ : Ev) (i : Nat), Ent Γ (Γ.set i junk) := by
    intro Γ
    induction Γ with
    | nil => intro i; exact .nil
    | cons s t ih =>
      intro i
      have rf : ∀ Γ : Ev, Ent Γ Γ := fun Γ => by
        induction Γ with
        | nil => exact .nil
        | cons s t ih => exact .cons .refl ih
      cases i with
      | zero => exact .cons .junk (rf t)
      | succ n => exact .cons .refl (ih n)
  exact A.ent (gen Γ i))
/-- a branch ends: on with the rest -/
theorem ts_end (ht : TSs X B F0 Γ ss D) : TSs X B F0 Γ [] { D with nx := fun σ H => WSs X ss D σ H } := ts_nil ht
/-- a loop's turn ends -/
theorem ts_loop {I : Ev → Prop} {rt : VK} {bk ct : St → Hp → Prop} (e : Ent Γ Γ') (h : I Γ') : TSs X B F0 Γ [] ⟨after X.K B F0 I, rt, bk, ct⟩ := ts_nil fun F σ H A => ⟨Γ', F, h, A.ent e⟩
/-- behind a loop: on with the rest -/
theorem ts_on {Γ1 : Ev} {F : Hp} {σ : St} {H : Hp} (A : AS X.K B F0 Γ1 F σ H) (ht : TSs X B F0 Γ1 ss D) : WSs X ss D σ H := ht F σ H A
end
end Cb
namespace Cb
open PySem PySem.Spec L2
open PyProof.Rows hiding St
section
variable {P : Program} {w : World} {K : Kf} {mg : Str → Option Value} {base : Heap}
/-- a def of the text, where it stands -/
structure FnAt (K : Kf) (mg : Str → Option Value) (x : Str) (st : Stmt) (ps : List Str) : Prop where
  ex : ∃ f fd, Fun K x x st f fd ∧ mg x = some (.ref f) ∧ Binds K fd ps []
variable {x : Str} {st : Stmt} {N ps : List Str} {k : Nat} {A : Type} [Args A]
theorem cal_v {γ : Type} [R γ] {pre : A → Prop} {m : A → γ} (U : FnAt K mg x st ps) (S : FnScope N ps (defScope st)) (hl : Args.len A = ps.length)
    (h : ∀ f cdv Ar outer s H E, Room k (Ar.deeper (envOfC x (defScope st) s.heap.objs.size f cdv)) → ∀ (a : A) (D : Ends), pre a → RD K H D (m a) → TSs (Xc P w K mg base N x st f cdv Ar outer s H E) H H (Args.env a ++ List.replicate (N.length - Args.len A) junk) (defBody st) D) :
    CalL P w K mg base (k + 1) x (spV K pre m) := by
  obtain ⟨f, fd, F, hm, hb⟩ := U.ex
  exact ⟨f, fd, ps, fn_v F S hl (h f), hm, F.kp, hb⟩
theorem cal_o {γ : Type} [Ow γ] {pre : A → Prop} {m : A → γ} (U : FnAt K mg x st ps) (S : FnScope N ps (defScope st)) (hl : Args.len A = ps.length)
    (h : ∀ f cdv Ar outer s H E, Room k (Ar.deeper (envOfC x (defScope st) s.heap.objs.size f cdv)) → ∀ (a : A) (D : Ends), pre a → RDO K H D (m a) → TSs (Xc P w K mg base N x st f cdv Ar outer s H E) H H (Args.env a ++ List.replicate (N.length - Args.len A) junk) (defBody st) D) :
    CalL P w K mg base (k + 1) x (spO K pre m) := by
  obtain ⟨f, fd, F, hm, hb⟩ := U.ex
  exact ⟨f, fd, ps, fn_o F S hl (h f), hm, F.kp, hb⟩
end
end Cb

set_option Elab.async false
set_option linter.all false
set_option maxRecDepth 100000
namespace Cb
open PySem PySem.Spec L2
open PyProof.Rows hiding St
/-! ### promises by the number of arguments -/
def sv1 {T1 Z : Type} [R T1] [R Z] (K : Kf) (pre : T1 → Prop) (m : T1 → Z) : Sp := spV K (fun a : T1 × Unit => pre a.1) (fun a : T1 × Unit => m a.1)
def so1 {T1 Z : Type} [R T1] [Ow Z] (K : Kf) (pre : T1 → Prop) (m : T1 → Z) : Sp := spO K (fun a : T1 × Unit => pre a.1) (fun a : T1 × Unit => m a.1)
theorem xcv1 {X : Cx} {B F0 : Hp} {Γ : Ev} {e : Expr} {es : List Expr} {pos p : Pos} {f : Str} {T1 Z : Type} [R T1] [R Z] {pre : T1 → Prop} {m : T1 → Z} {x1 : T1} (c : CalX X f (sv1 X.K pre m)) (h : XA X B F0 Γ (e :: es) (fun K H vs => Args.args (A := T1 × Unit) K H vs (x1, ()))) (hp : pre x1) (hg : Gl X f := by rfl)
    (hdb : (f == ("__debug__" : Str)) = false := by decide) (hs : starEach (e :: es) X.env = (false, eval e X.env) :: starEach es X.env := by rfl) (hpl : (backTo pos (starEach es X.env)).any (·.1) = false := by rfl) : XE X B F0 Γ (.Call (.Name f p) (e :: es) [] pos) true (m x1) :=
  xcall (A := T1 × Unit) (pre := fun a : T1 × Unit => pre a.1) (m := fun a : T1 × Unit => m a.1) (ag := (x1, ())) c h hp hg hdb hs hpl
theorem xco1 {X : Cx} {B F0 : Hp} {Γ : Ev} {e : Expr} {es : List Expr} {pos p : Pos} {f : Str} {T1 W : Type} [R T1] [R W] {pre : T1 → Prop} {m : T1 → List W} {x1 : T1} (c : CalX X f (so1 X.K pre m)) (h : XA X B F0 Γ (e :: es) (fun K H vs => Args.args (A := T1 × Unit) K H vs (x1, ()))) (hp : pre x1) (hg : Gl X f := by rfl)
    (hdb : (f == ("__debug__" : Str)) = false := by decide) (hs : starEach (e :: es) X.env = (false, eval e X.env) :: starEach es X.env := by rfl) (hpl : (backTo pos (starEach es X.env)).any (·.1) = false := by rfl) : XO X B F0 Γ (.Call (.Name f p) (e :: es) [] pos) true (m x1) :=
  xcallO (A := T1 × Unit) (pre := fun a : T1 × Unit => pre a.1) (m := fun a : T1 × Unit => m a.1) (ag := (x1, ())) c h hp hg hdb hs hpl
theorem xcd1 {X : Cx} {B F0 : Hp} {Γ : Ev} {e : Expr} {es : List Expr} {pos p : Pos} {f : Str} {T1 W : Type} [R T1] {κ : Type} [R κ] [DecidableEq κ] [DK κ] [R W] {pre : T1 → Prop} {m : T1 → Dct κ W} {x1 : T1} (c : CalX X f (so1 X.K pre m)) (h : XA X B F0 Γ (e :: es) (fun K H vs => Args.args (A := T1 × Unit) K H vs (x1, ()))) (hp : pre x1) (hg : Gl X f := by rfl)
    (hdb : (f == ("__debug__" : Str)) = false := by decide) (hs : starEach (e :: es) X.env = (false, eval e X.env) :: starEach es X.env := by rfl) (hpl : (backTo pos (starEach es X.env)).any (·.1) = false := by rfl) : XO X B F0 Γ (.Call (.Name f p) (e :: es) [] pos) true (m x1) :=
  xcallOw (A := T1 × Unit) (pre := fun a : T1 × Unit => pre a.1) (m := fun a : T1 × Unit => m a.1) (ag := (x1, ())) c h hp hg hdb hs hpl
def sv2 {T1 T2 Z : Type} [R T1] [R T2] [R Z] (K : Kf) (pre : T1 → T2 → Prop) (m : T1 → T2 → Z) : Sp := spV K (fun a : T1 × T2 × Unit => pre a.1 a.2.1) (fun a : T1 × T2 × Unit => m a.1 a.2.1)
def so2 {T1 T2 Z : Type} [R T1] [R T2] [Ow Z] (K : Kf) (pre : T1 → T2 → Prop) (m : T1 → T2 → Z) : Sp := spO K (fun a : T1 × T2 × Unit => pre a.1 a.2.1) (fun a : T1 × T2 × Unit => m a.1 a.2.1)
theorem xcv2 {X : Cx} {B F0 : Hp} {Γ : Ev} {e : Expr} {es : List Expr} {pos p : Pos} {f : Str} {T1 T2 Z : Type} [R T1] [R T2] [R Z] {pre : T1 → T2 → Prop} {m : T1 → T2 → Z} {x1 : T1} {x2 : T2} (c : CalX X f (sv2 X.K pre m)) (h : XA X B F0 Γ (e :: es) (fun K H vs => Args.args (A := T1 × T2 × Unit) K H vs (x1, x2, ()))) (hp : pre x1 x2) (hg : Gl X f := by rfl)
    (hdb : (f == ("__debug__" : Str)) = false := by decide) (hs : starEach (e :: es) X.env = (false, eval e X.env) :: starEach es X.env := by rfl) (hpl : (backTo pos (starEach es X.env)).any (·.1) = false := by rfl) : XE X B F0 Γ (.Call (.Name f p) (e :: es) [] pos) true (m x1 x2) :=
  xcall (A := T1 × T2 × Unit) (pre := fun a : T1 × T2 × Unit => pre a.1 a.2.1) (m := fun a : T1 × T2 × Unit => m a.1 a.2.1) (ag := (x1, x2, ())) c h hp hg hdb hs hpl
theorem xco2 {X : Cx} {B F0 : Hp} {Γ : Ev} {e : Expr} {es : List Expr} {pos p : Pos} {f : Str} {T1 T2 W : Type} [R T1] [R T2] [R W] {pre : T1 → T2 → Prop} {m : T1 → T2 → List W} {x1 : T1} {x2 : T2} (c : CalX X f (so2 X.K pre m)) (h : XA X B F0 Γ (e :: es) (fun K H vs => Args.args (A := T1 × T2 × Unit) K H vs (x1, x2, ()))) (hp : pre x1 x2) (hg : Gl X f := by rfl)
    (hdb : (f == ("__debug__" : Str)) = false := by decide) (hs : starEach (e :: es) X.env = (false, eval e X.env) :: starEach es X.env := by rfl) (hpl : (backTo pos (starEach es X.env)).any (·.1) = false := by rfl) : XO X B F0 Γ (.Call (.Name f p) (e :: es) [] pos) true (m x1 x2) :=
  xcallO (A := T1 × T2 × Unit) (pre := fun a : T1 × T2 × Unit => pre a.1 a.2.1) (m := fun a : T1 × T2 × Unit => m a.1 a.2.1) (ag := (x1, x2, ())) c h hp hg hdb hs hpl
theorem xcd2 {X : Cx} {B F0 : Hp} {Γ : Ev} {e : Expr} {es : List Expr} {pos p : Pos} {f : Str} {T1 T2 W : Type} [R T1] [R T2] {κ : Type} [R κ] [DecidableEq κ] [DK κ] [R W] {pre : T1 → T2 → Prop} {m : T1 → T2 → Dct κ W} {x1 : T1} {x2 : T2} (c : CalX X f (so2 X.K pre m)) (h : XA X B F0 Γ (e :: es) (fun K H vs => Args.args (A := T1 × T2 × Unit) K H vs (x1, x2, ()))) (hp : pre x1 x2) (hg : Gl X f := by rfl)
    (hdb : (f == ("__debug__" : Str)) = false := by decide) (hs : starEach (e :: es) X.env = (false, eval e X.env) :: starEach es X.env := by rfl) (hpl : (backTo pos (starEach es X.env)).any (·.1) = false := by rfl) : XO X B F0 Γ (.Call (.Name f p) (e :: es) [] pos) true (m x1 x2) :=
  xcallOw (A := T1 × T2 × Unit) (pre := fun a : T1 × T2 × Unit => pre a.1 a.2.1) (m := fun a : T1 × T2 × Unit => m a.1 a.2.1) (ag := (x1, x2, ())) c h hp hg hdb hs hpl
def sv3 {T1 T2 T3 Z : Type} [R T1] [R T2] [R T3] [R Z] (K : Kf) (pre : T1 → T2 → T3 → Prop) (m : T1 → T2 → T3 → Z) : Sp := spV K (fun a : T1 × T2 × T3 × Unit => pre a.1 a.2.1 a.2.2.1) (fun a : T1 × T2 × T3 × Unit => m a.1 a.2.1 a.2.2.1)
def so3 {T1 T2 T3 Z : Type} [R T1] [R T2] [R T3] [Ow Z] (K : Kf) (pre : T1 → T2 → T3 → Prop) (m : T1 → T2 → T3 → Z) : Sp := spO K (fun a : T1 × T2 × T3 × Unit => pre a.1 a.2.1 a.2.2.1) (fun a : T1 × T2 × T3 × Unit => m a.1 a.2.1 a.2.2.1)
theorem xcv3 {X : Cx} {B F0 : Hp} {Γ : Ev} {e : Expr} {es : List Expr} {pos p : Pos} {f : Str} {T1 T2 T3 Z : Type} [R T1] [R T2] [R T3] [R Z] {pre : T1 → T2 → T3 → Prop} {m : T1 → T2 → T3 → Z} {x1 : T1} {x2 : T2} {x3 : T3} (c : CalX X f (sv3 X.K pre m)) (h : XA X B F0 Γ (e :: es) (fun K H vs => Args.args (A := T1 × T2 × T3 × Unit) K H vs (x1, x2, x3, ()))) (hp : pre x1 x2 x3) (hg : Gl X f := by rfl)
    (hdb : (f == ("__debug__" : Str)) = false := by decide) (hs : starEach (e :: es) X.env = (false, eval e X.env) :: starEach es X.env := by rfl) (hpl : (backTo pos (starEach es X.env)).any (·.1) = false := by rfl) : XE X B F0 Γ (.Call (.Name f p) (e :: es) [] pos) true (m x1 x2 x3) :=
  xcall (A := T1 × T2 × T3 × Unit) (pre := fun a : T1 × T2 × T3 × Unit => pre a.1 a.2.1 a.2.2.1) (m := fun a : T1 × T2 × T3 × Unit => m a.1 a.2.1 a.2.2.1) (ag := (x1, x2, x3, ())) c h hp hg hdb hs hpl
theorem xco3 {X : Cx} {B F0 : Hp} {Γ : Ev} {e : Expr} {es : List Expr} {pos p : Pos} {f : Str} {T1 T2 T3 W : Type} [R T1] [R T2] [R T3] [R W] {pre : T1 → T2 → T3 → Prop} {m : T1 → T2 → T3 → List W} {x1 : T1} {x2 : T2} {x3 : T3} (c : CalX X f (so3 X.K pre m)) (h : XA X B F0 Γ (e :: es) (fun K H vs => Args.args (A := T1 × T2 × T3 × Unit) K H vs (x1, x2, x3, ()))) (hp : pre x1 x2 x3) (hg : Gl X f := by rfl)
    (hdb : (f == ("__debug__" : Str)) = false := by decide) (hs : starEach (e :: es) X.env = (false, eval e X.env) :: starEach es X.env := by rfl) (hpl : (backTo pos (starEach es X.env)).any (·.1) = false := by rfl) : XO X B F0 Γ (.Call (.Name f p) (e :: es) [] pos) true (m x1 x2 x3) :=
  xcallO (A := T1 × T2 × T3 × Unit) (pre := fun a : T1 × T2 × T3 × Unit => pre a.1 a.2.1 a.2.2.1) (m := fun a : T1 × T2 × T3 × Unit => m a.1 a.2.1 a.2.2.1) (ag := (x1, x2, x3, ())) c h hp hg hdb hs hpl
theorem xcd3 {X : Cx} {B F0 : Hp} {Γ : Ev} {e : Expr} {es : List Expr} {pos p : Pos} {f : Str} {T1 T2 T3 W : Type} [R T1] [R T2] [R T3] {κ : Type} [R κ] [DecidableEq κ] [DK κ] [R W] {pre : T1 → T2 → T3 → Prop} {m : T1 → T2 → T3 → Dct κ W} {x1 : T1} {x2 : T2} {x3 : T3} (c : CalX X f (so3 X.K pre m)) (h : XA X B F0 Γ (e :: es) (fun K H vs => Args.args (A := T1 × T2 × T3 × Unit) K H vs (x1, x2, x3, ()))) (hp : pre x1 x2 x3) (hg : Gl X f := by rfl)
    (hdb : (f == ("__debug__" : Str)) = false := by decide) (hs : starEach (e :: es) X.env = (false, eval e X.env) :: starEach es X.env := by rfl) (hpl : (backTo pos (starEach es X.env)).any (·.1) = false := by rfl) : XO X B F0 Γ (.Call (.Name f p) (e :: es) [] pos) true (m x1 x2 x3) :=
  xcallOw (A := T1 × T2 × T3 × Unit) (pre := fun a : T1 × T2 × T3 × Unit => pre a.1 a.2.1 a.2.2.1) (m := fun a : T1 × T2 × T3 × Unit => m a.1 a.2.1 a.2.2.1) (ag := (x1, x2, x3, ())) c h hp hg hdb hs hpl
def sv4 {T1 T2 T3 T4 Z : Type} [R T1] [R T2] [R T3] [R T4] [R Z] (K : Kf) (pre : T1 → T2 → T3 → T4 → Prop) (m : T1 → T2 → T3 → T4 → Z) : Sp := spV K (fun a : T1 × T2 × T3 × T4 × Unit => pre a.1 a.2.1 a.2.2.1 a.2.2.2.1) (fun a : T1 × T2 × T3 × T4 × Unit => m a.1 a.2.1 a.2.2.1 a.2.2.2.1)
def so4 {T1 T2 T3 T4 Z : Type} [R T1] [R T2] [R T3] [R T4] [Ow Z] (K : Kf) (pre : T1 → T2 → T3 → T4 → Prop) (m : T1 → T2 → T3 → T4 → Z) : Sp := spO K (fun a : T1 × T2 × T3 × T4 × Unit => pre a.1 a.2.1 a.2.2.1 a.2.2.2.1) (fun a : T1 × T2 × T3 × T4 × Unit => m a.1 a.2.1 a.2.2.1 a.2.2.2.1)
theorem xcv4 {X : Cx} {B F0 : Hp} {Γ : Ev} {e : Expr} {es : List Expr} {pos p : Pos} {f : Str} {T1 T2 T3 T4 Z : Type} [R T1] [R T2] [R T3] [R T4] [R Z] {pre : T1 → T2 → T3 → T4 → Prop} {m : T1 → T2 → T3 → T4 → Z} {x1 : T1} {x2 : T2} {x3 : T3} {x4 : T4} (c : CalX X f (sv4 X.K pre m)) (h : XA X B F0 Γ (e :: es) (fun K H vs => Args.args (A := T1 × T2 × T3 × T4 × Unit) K H vs (x1, x2, x3, x4, ()))) (hp : pre x1 x2 x3 x4) (hg : Gl X f := by rfl)
    (hdb : (f == ("__debug__" : Str)) = false := by decide) (hs : starEach (e :: es) X.env = (false, eval e X.env) :: starEach es X.env := by rfl) (hpl : (backTo pos (starEach es X.env)).any (·.1) = false := by rfl) : XE X B F0 Γ (.Call (.Name f p) (e :: es) [] pos) true (m x1 x2 x3 x4) :=
  xcall (A := T1 × T2 × T3 × T4 × Unit) (pre := fun a : T1 × T2 × T3 × T4 × Unit => pre a.1 a.2.1 a.2.2.1 a.2.2.2.1) (m := fun a : T1 × T2 × T3 × T4 × Unit => m a.1 a.2.1 a.2.2.1 a.2.2.2.1) (ag := (x1, x2, x3, x4, ())) c h hp hg hdb hs hpl
theorem xco4 {X : Cx} {B F0 : Hp} {Γ : Ev} {e : Expr} {es : List Expr} {pos p : Pos} {f : Str} {T1 T2 T3 T4 W : Type} [R T1] [R T2] [R T3] [R T4] [R W] {pre : T1 → T2 → T3 → T4 → Prop} {m : T1 → T2 → T3 → T4 → List W} {x1 : T1} {x2 : T2} {x3 : T3} {x4 : T4} (c : CalX X f (so4 X.K pre m)) (h : XA X B F0 Γ (e :: es) (fun K H vs => Args.args (A := T1 × T2 × T3 × T4 × Unit) K H vs (x1, x2, x3, x4, ()))) (hp : pre x1 x2 x3 x4) (hg : Gl X f := by rfl)
    (hdb : (f == ("__debug__" : Str)) = false := by decide) (hs : starEach (e :: es) X.env = (false, eval e X.env) :: starEach es X.env := by rfl) (hpl : (backTo pos (starEach es X.env)).any (·.1) = false := by rfl) : XO X B F0 Γ (.Call (.Name f p) (e :: es) [] pos) true (m x1 x2 x3 x4) :=
  xcallO (A := T1 × T2 × T3 × T4 × Unit) (pre := fun a : T1 × T2 × T3 × T4 × Unit => pre a.1 a.2.1 a.2.2.1 a.2.2.2.1) (m := fun a : T1 × T2 × T3 × T4 × Unit => m a.1 a.2.1 a.2.2.1 a.2.2.2.1) (ag := (x1, x2, x3, x4, ())) c h hp hg hdb hs hpl
theorem xcd4 {X : Cx} {B F0 : Hp} {Γ : Ev} {e : Expr} {es : List Expr} {pos p : Pos} {f : Str} {T1 T2 T3 T4 W : Type} [R T1] [R T2] [R T3] [R T4] {κ : Type} [R κ] [DecidableEq κ] [DK κ] [R W] {pre : T1 → T2 → T3 → T4 → Prop} {m : T1 → T2 → T3 → T4 → Dct κ W} {x1 : T1} {x2 : T2} {x3 : T3} {x4 : T4} (c : CalX X f (so4 X.K pre m)) (h : XA X B F0 Γ (e :: es) (fun K H vs => Args.args (A := T1 × T2 × T3 × T4 × Unit) K H vs (x1, x2, x3, x4, ()))) (hp : pre x1 x2 x3 x4) (hg : Gl X f := by rfl)
    (hdb : (f == ("__debug__" : Str)) = false := by decide) (hs : starEach (e :: es) X.env = (false, eval e X.env) :: starEach es X.env := by rfl) (hpl : (backTo pos (starEach es X.env)).any (·.1) = false := by rfl) : XO X B F0 Γ (.Call (.Name f p) (e :: es) [] pos) true (m x1 x2 x3 x4) :=
  xcallOw (A := T1 × T2 × T3 × T4 × Unit) (pre := fun a : T1 × T2 × T3 × T4 × Unit => pre a.1 a.2.1 a.2.2.1 a.2.2.2.1) (m := fun a : T1 × T2 × T3 × T4 × Unit => m a.1 a.2.1 a.2.2.1 a.2.2.2.1) (ag := (x1, x2, x3, x4, ())) c h hp hg hdb hs hpl
def sv5 {T1 T2 T3 T4 T5 Z : Type} [R T1] [R T2] [R T3] [R T4] [R T5] [R Z] (K : Kf) (pre : T1 → T2 → T3 → T4 → T5 → Prop) (m : T1 → T2 → T3 → T4 → T5 → Z) : Sp := spV K (fun a : T1 × T2 × T3 × T4 × T5 × Unit => pre a.1 a.2.1 a.2.2.1 a.2.2.2.1 a.2.2.2.2.1) (fun a : T1 × T2 × T3 × T4 × T5 × Unit => m a.1 a.2.1 a.2.2.1 a.2.2.2.1 a.2.2.2.2.1)
def so5 {T1 T2 T3 T4 T5 Z : Type} [R T1] [R T2] [R T3] [R T4] [R T5] [Ow Z] (K : Kf) (pre : T1 → T2 → T3 → T4 → T5 → Prop) (m : T1 → T2 → T3 → T4 → T5 → Z) : Sp := spO K (fun a : T1 × T2 × T3 × T4 × T5 × Unit => pre a.1 a.2.1 a.2.2.1 a.2.2.2.1 a.2.2.2.2.1) (fun a : T1 × T2 × T3 × T4 × T5 × Unit => m a.1 a.2.1 a.2.2.1 a.2.2.2.1 a.2.2.2.2.1)
theorem xcv5 {X : Cx} {B F0 : Hp} {Γ : Ev} {e : Expr} {es : List Expr} {pos p : Pos} {f : Str} {T1 T2 T3 T4 T5 Z : Type} [R T1] [R T2] [R T3] [R T4] [R T5] [R Z] {pre : T1 → T2 → T3 → T4 → T5 → Prop} {m : T1 → T2 → T3 → T4 → T5 → Z} {x1 : T1} {x2 : T2} {x3 : T3} {x4 : T4} {x5 : T5} (c : CalX X f (sv5 X.K pre m)) (h : XA X B F0 Γ (e :: es) (fun K H vs => Args.args (A := T1 × T2 × T3 × T4 × T5 × Unit) K H vs (x1, x2, x3, x4, x5, ()))) (hp : pre x1 x2 x3 x4 x5) (hg : Gl X f := by rfl)
    (hdb : (f == ("__debug__" : Str)) = false := by decide) (hs : starEach (e :: es) X.env = (false, eval e X.env) :: starEach es X.env := by rfl) (hpl : (backTo pos (starEach es X.env)).any (·.1) = false := by rfl) : XE X B F0 Γ (.Call (.Name f p) (e :: es) [] pos) true (m x1 x2 x3 x4 x5) :=
  xcall (A := T1 × T2 × T3 × T4 × T5 × Unit) (pre := fun a : T1 × T2 × T3 × T4 × T5 × Unit => pre a.1 a.2.1 a.2.2.1 a.2.2.2.1 a.2.2.2.2.1) (m := fun a : T1 × T2 × T3 × T4 × T5 × Unit => m a.1 a.2.1 a.2.2.1 a.2.2.2.1 a.2.2.2.2.1) (ag := (x1, x2, x3, x4, x5, ())) c h hp hg hdb hs hpl
theorem xco5 {X : Cx} {B F0 : Hp} {Γ : Ev} {e : Expr} {es : List Expr} {pos p : Pos} {f : Str} {T1 T2 T3 T4 T5 W : Type} [R T1] [R T2] [R T3] [R T4] [R T5] [R W] {pre : T1 → T2 → T3 → T4 → T5 → Prop} {m : T1 → T2 → T3 → T4 → T5 → List W} {x1 : T1} {x2 : T2} {x3 : T3} {x4 : T4} {x5 : T5} (c : CalX X f (so5 X.K pre m)) (h : XA X B F0 Γ (e :: es) (fun K H vs => Args.args (A := T1 × T2 × T3 × T4 × T5 × Unit) K H vs (x1, x2, x3, x4, x5, ()))) (hp : pre x1 x2 x3 x4 x5) (hg : Gl X f := by rfl)
    (hdb : (f == ("__debug__" : Str)) = false := by decide) (hs : starEach (e :: es) X.env = (false, eval e X.env) :: starEach es X.env := by rfl) (hpl : (backTo pos (starEach es X.env)).any (·.1) = false := by rfl) : XO X B F0 Γ (.Call (.Name f p) (e :: es) [] pos) true (m x1 x2 x3 x4 x5) :=
  xcallO (A := T1 × T2 × T3 × T4 × T5 × Unit) (pre := fun a : T1 × T2 × T3 × T4 × T5 × Unit => pre a.1 a.2.1 a.2.2.1 a.2.2.2.1 a.2.2.2.2.1) (m := fun a : T1 × T2 × T3 × T4 × T5 × Unit => m a.1 a.2.1 a.2.2.1 a.2.2.2.1 a.2.2.2.2.1) (ag := (x1, x2, x3, x4, x5, ())) c h hp hg hdb hs hpl
theorem xcd5 {X : Cx} {B F0 : Hp} {Γ : Ev} {e : Expr} {es : List Expr} {pos p : Pos} {f : Str} {T1 T2 T3 T4 T5 W : Type} [R T1] [R T2] [R T3] [R T4] [R T5] {κ : Type} [R κ] [DecidableEq κ] [DK κ] [R W] {pre : T1 → T2 → T3 → T4 → T5 → Prop} {m : T1 → T2 → T3 → T4 → T5 → Dct κ W} {x1 : T1} {x2 : T2} {x3 : T3} {x4 : T4} {x5 : T5} (c : CalX X f (so5 X.K pre m)) (h : XA X B F0 Γ (e :: es) (fun K H vs => Args.args (A := T1 × T2 × T3 × T4 × T5 × Unit) K H vs (x1, x2, x3, x4, x5, ()))) (hp : pre x1 x2 x3 x4 x5) (hg : Gl X f := by rfl)
    (hdb : (f == ("__debug__" : Str)) = false := by decide) (hs : starEach (e :: es) X.env = (false, eval e X.env) :: starEach es X.env := by rfl) (hpl : (backTo pos (starEach es X.env)).any (·.1) = false := by rfl) : XO X B F0 Γ (.Call (.Name f p) (e :: es) [] pos) true (m x1 x2 x3 x4 x5) :=
  xcallOw (A := T1 × T2 × T3 × T4 × T5 × Unit) (pre := fun a : T1 × T2 × T3 × T4 × T5 × Unit => pre a.1 a.2.1 a.2.2.1 a.2.2.2.1 a.2.2.2.2.1) (m := fun a : T1 × T2 × T3 × T4 × T5 × Unit => m a.1 a.2.1 a.2.2.1 a.2.2.2.1 a.2.2.2.2.1) (ag := (x1, x2, x3, x4, x5, ())) c h hp hg hdb hs hpl
def sv6 {T1 T2 T3 T4 T5 T6 Z : Type} [R T1] [R T2] [R T3] [R T4] [R T5] [R T6] [R Z] (K : Kf) (pre : T1 → T2 → T3 → T4 → T5 → T6 → Prop) (m : T1 → T2 → T3 → T4 → T5 → T6 → Z) : Sp := spV K (fun a : T1 × T2 × T3 × T4 × T5 × T6 × Unit => pre a.1 a.2.1 a.2.2.1 a.2.2.2.1 a.2.2.2.2.1 a.2.2.2.2.2.1) (fun a : T1 × T2 × T3 × T4 × T5 × T6 × Unit => m a.1 a.2.1 a.2.2.1 a.2.2.2.1 a.2.2.2.2.1 a.2.2.2.2.2.1)
def so6 {T1 T2 T3 T4 T5 T6 Z : Type} [R T1] [R T2] [R T3] [R T4] [R T5] [R T6] [Ow Z] (K : Kf) (pre : T1 → T2 → T3 → T4 → T5 → T6 → Prop) (m : T1 → T2 → T3 → T4 → T5 → T6 → Z) : Sp := spO K (fun a : T1 × T2 × T3 × T4 × T5 × T6 × Unit => pre a.1 a.2.1 a.2.2.1 a.2.2.2.1 a.2.2.2.2.1 a.2.2.2.2.2.1) (fun a : T1 × T2 × T3 × T4 × T5 × T6 × Unit => m a.1 a.2.1 a.2.2.1 a.2.2.2.1 a.2.2.2.2.1 a.2.2.2.2.2.1)
theorem xcv6 {X : Cx} {B F0 : Hp} {Γ : Ev} {e : Expr} {es : List Expr} {pos p : Pos} {f : Str} {T1 T2 T3 T4 T5 T6 Z : Type} [R T1] [R T2] [R T3] [R T4] [R T5] [R T6] [R Z] {pre : T1 → T2 → T3 → T4 → T5 → T6 → Prop} {m : T1 → T2 → T3 → T4 → T5 → T6 → Z} {x1 : T1} {x2 : T2} {x3 : T3} {x4 : T4} {x5 : T5} {x6 : T6} (c : CalX X f (sv6 X.K pre m)) (h : XA X B F0 Γ (e :: es) (fun K H vs => Args.args (A := T1 × T2 × T3 × T4 × T5 × T6 × Unit) K H vs (x1, x2, x3, x4, x5, x6, ()))) (hp : pre x1 x2 x3 x4 x5 x6) (hg : Gl X f := by rfl)
    (hdb : (f == ("__debug__" : Str)) = false := by decide) (hs : starEach (e :: es) X.env = (false, eval e X.env) :: starEach es X.env := by rfl) (hpl : (backTo pos (starEach es X.env)).any (·.1) = false := by rfl) : XE X B F0 Γ (.Call (.Name f p) (e :: es) [] pos) true (m x1 x2 x3 x4 x5 x6) :=
  xcall (A := T1 × T2 × T3 × T4 × T5 × T6 × Unit) (pre := fun a : T1 × T2 × T3 × T4 × T5 × T6 × Unit => pre a.1 a.2.1 a.2.2.1 a.2.2.2.1 a.2.2.2.2.1 a.2.2.2.2.2.1) (m := fun a : T1 × T2 × T3 × T4 × T5 × T6 × Unit => m a.1 a.2.1 a.2.2.1 a.2.2.2.1 a.2.2.2.2.1 a.2.2.2.2.2.1) (ag := (x1, x2, x3, x4, x5, x6, ())) c h hp hg hdb hs hpl
theorem xco6 {X : Cx} {B F0 : Hp} {Γ : Ev} {e : Expr} {es : List Expr} {pos p : Pos} {f : Str} {T1 T2 T3 T4 T5 T6 W : Type} [R T1] [R T2] [R T3] [R T4] [R T5] [R T6] [R W] {pre : T1 → T2 → T3 → T4 → T5 → T6 → Prop} {m : T1 → T2 → T3 → T4 → T5 → T6 → List W} {x1 : T1} {x2 : T2} {x3 : T3} {x4 : T4} {x5 : T5} {x6 : T6} (c : CalX X f (so6 X.K pre m)) (h : XA X B F0 Γ (e :: es) (fun K H vs => Args.args (A := T1 × T2 × T3 × T4 × T5 × T6 × Unit) K H vs (x1, x2, x3, x4, x5, x6, ()))) (hp : pre x1 x2 x3 x4 x5 x6) (hg : Gl X f := by rfl)
    (hdb : (f == ("__debug__" : Str)) = false := by decide) (hs : starEach (e :: es) X.env = (false, eval e X.env) :: starEach es X.env := by rfl) (hpl : (backTo pos (starEach es X.env)).any (·.1) = false := by rfl) : XO X B F0 Γ (.Call (.Name f p) (e :: es) [] pos) true (m x1 x2 x3 x4 x5 x6) :=
  xcallO (A := T1 × T2 × T3 × T4 × T5 × T6 × Unit) (pre := fun a : T1 × T2 × T3 × T4 × T5 × T6 × Unit => pre a.1 a.2.1 a.2.2.1 a.2.2.2.1 a.2.2.2.2.1 a.2.2.2.2.2.1) (m := fun a : T1 × T2 × T3 × T4 × T5 × T6 × Unit => m a.1 a.2.1 a.2.2.1 a.2.2.2.1 a.2.2.2.2.1 a.2.2.2.2.2.1) (ag := (x1, x2, x3, x4, x5, x6, ())) c h hp hg hdb hs hpl
theorem xcd6 {X : Cx} {B F0 : Hp} {Γ : Ev} {e : Expr} {es : List Expr} {pos p : Pos} {f : Str} {T1 T2 T3 T4 T5 T6 W : Type} [R T1] [R T2] [R T3] [R T4] [R T5] [R T6] {κ : Type} [R κ] [DecidableEq κ] [DK κ] [R W] {pre : T1 → T2 → T3 → T4 → T5 → T6 → Prop} {m : T1 → T2 → T3 → T4 → T5 → T6 → Dct κ W} {x1 : T1} {x2 : T2} {x3 : T3} {x4 : T4} {x5 : T5} {x6 : T6} (c : CalX X f (so6 X.K pre m)) (h : XA X B F0 Γ (e :: es) (fun K H vs => Args.args (A := T1 × T2 × T3 × T4 × T5 × T6 × Unit) K H vs (x1, x2, x3, x4, x5, x6, ()))) (hp : pre x1 x2 x3 x4 x5 x6) (hg : Gl X f := by rfl)
    (hdb : (f == ("__debug__" : Str)) = false := by decide) (hs : starEach (e :: es) X.env = (false, eval e X.env) :: starEach es X.env := by rfl) (hpl : (backTo pos (starEach es X.env)).any (·.1) = false := by rfl) : XO X B F0 Γ (.Call (.Name f p) (e :: es) [] pos) true (m x1 x2 x3 x4 x5 x6) :=
  xcallOw (A := T1 × T2 × T3 × T4 × T5 × T6 × Unit) (pre := fun a : T1 × T2 × T3 × T4 × T5 × T6 × Unit => pre a.1 a.2.1 a.2.2.1 a.2.2.2.1 a.2.2.2.2.1 a.2.2.2.2.2.1) (m := fun a : T1 × T2 × T3 × T4 × T5 × T6 × Unit => m a.1 a.2.1 a.2.2.1 a.2.2.2.1 a.2.2.2.2.1 a.2.2.2.2.2.1) (ag := (x1, x2, x3, x4, x5, x6, ())) c h hp hg hdb hs hpl
def sv7 {T1 T2 T3 T4 T5 T6 T7 Z : Type} [R T1] [R T2] [R T3] [R T4] [R T5] [R T6] [R T7] [R Z] (K : Kf) (pre : T1 → T2 → T3 → T4 → T5 → T6 → T7 → Prop) (m : T1 → T2 → T3 → T4 → T5 → T6 → T7 → Z) : Sp := spV K (fun a : T1 × T2 × T3 × T4 × T5 × T6 × T7 × Unit => pre a.1 a.2.1 a.2.2.1 a.2.2.2.1 a.2.2.2.2.1 a.2.2.2.2.2.1 a.2.2.2.2.2.2.1) (fun a : T1 × T2 × T3 × T4 × T5 × T6 × T7 × Unit => m a.1 a.2.1 a.2.2.1 a.2.2.2.1 a.2.2.2.2.1 a.2.2.2.2.2.1 a.2.2.2.2.2.2.1)
def so7 {T1 T2 T3 T4 T5 T6 T7 Z : Type} [R T1] [R T2] [R T3] [R T4] [R T5] [R T6] [R T7] [Ow Z] (K : Kf) (pre : T1 → T2 → T3 → T4 → T5 → T6 → T7 → Prop) (m : T1 → T2 → T3 → T4 → T5 → T6 → T7 → Z) : Sp := spO K (fun a : T1 × T2 × T3 × T4 × T5 × T6 × T7 × Unit => pre a.1 a.2.1 a.2.2.1 a.2.2.2.1 a.2.2.2.2.1 a.2.2.2.2.2.1 a.2.2.2.2.2.2.1) (fun a : T1 × T2 × T3 × T4 × T5 × T6 × T7 × Unit => m a.1 a.2.1 a.2.2.1 a.2.2.2.1 a.2.2.2.2.1 a.2.2.2.2.2.1 a.2.2.2.2.2.2.1)
theorem xcv7 {X : Cx} {B F0 : Hp} {Γ : Ev} {e : Expr} {es : List Expr} {pos p : Pos} {f : Str} {T1 T2 T3 T4 T5 T6 T7 Z : Type} [R T1] [R T2] [R T3] [R T4] [R T5] [R T6] [R T7] [R Z] {pre : T1 → T2 → T3 → T4 → T5 → T6 → T7 → Prop} {m : T1 → T2 → T3 → T4 → T5 → T6 → T7 → Z} {x1 : T1} {x2 : T2} {x3 : T3} {x4 : T4} {x5 : T5} {x6 : T6} {x7 : T7} (c : CalX X f (sv7 X.K pre m)) (h : XA X B F0 Γ (e :: es) (fun K H vs => Args.args (A := T1 × T2 × T3 × T4 × T5 × T6 × T7 × Unit) K H vs (x1, x2, x3, x4, x5, x6, x7, ()))) (hp : pre x1 x2 x3 x4 x5 x6 x7) (hg : Gl X f := by rfl)
    (hdb : (f == ("__debug__" : Str)) = false := by decide) (hs : starEach (e :: es) X.env = (false, eval e X.env) :: starEach es X.env := by rfl) (hpl : (backTo pos (starEach es X.env)).any (·.1) = false := by rfl) : XE X B F0 Γ (.Call (.Name f p) (e :: es) [] pos) true (m x1 x2 x3 x4 x5 x6 x7) :=
  xcall (A := T1 × T2 × T3 × T4 × T5 × T6 × T7 × Unit) (pre := fun a : T1 × T2 × T3 × T4 × T5 × T6 × T7 × Unit => pre a.1 a.2.1 a.2.2.1 a.2.2.2.1 a.2.2.2.2.1 a.2.2.2.2.2.1 a.2.2.2.2.2.2.1) (m := fun a : T1 × T2 × T3 × T4 × T5 × T6 × T7 × Unit => m a.1 a.2.1 a.2.2.1 a.2.2.2.1 a.2.2.2.2.1 a.2.2.2.2.2.1 a.2.2.2.2.2.2.1) (ag := (x1, x2, x3, x4, x5, x6, x7, ())) c h hp hg hdb hs hpl
theorem xco7 {X : Cx} {B F0 : Hp} {Γ : Ev} {e : Expr} {es : List Expr} {pos p : Pos} {f : Str} {T1 T2 T3 T4 T5 T6 T7 W : Type} [R T1] [R T2] [R T3] [R T4] [R T5] [R T6] [R T7] [R W] {pre : T1 → T2 → T3 → T4 → T5 → T6 → T7 → Prop} {m : T1 → T2 → T3 → T4 → T5 → T6 → T7 → List W} {x1 : T1} {x2 : T2} {x3 : T3} {x4 : T4} {x5 : T5} {x6 : T6} {x7 : T7} (c : CalX X f (so7 X.K pre m)) (h : XA X B F0 Γ (e :: es) (fun K H vs => Args.args (A := T1 × T2 × T3 × T4 × T5 × T6 × T7 × Unit) K H vs (x1, x2, x3, x4, x5, x6, x7, ()))) (hp : pre x1 x2 x3 x4 x5 x6 x7) (hg : Gl X f := by rfl)
    (hdb : (f == ("__debug__" : Str)) = false := by decide) (hs : starEach (e :: es) X.env = (false, eval e X.env) :: starEach es X.env := by rfl) (hpl : (backTo pos (starEach es X.env)).any (·.1) = false := by rfl) : XO X B F0 Γ (.Call (.Name f p) (e :: es) [] pos) true (m x1 x2 x3 x4 x5 x6 x7) :=
  xcallO (A := T1 × T2 × T3 × T4 × T5 × T6 × T7 × Unit) (pre := fun a : T1 × T2 × T3 × T4 × T5 × T6 × T7 × Unit => pre a.1 a.2.1 a.2.2.1 a.2.2.2.1 a.2.2.2.2.1 a.2.2.2.2.2.1 a.2.2.2.2.2.2.1) (m := fun a : T1 × T2 × T3 × T4 × T5 × T6 × T7 × Unit => m a.1 a.2.1 a.2.2.1 a.2.2.2.1 a.2.2.2.2.1 a.2.2.2.2.2.1 a.2.2.2.2.2.2.1) (ag := (x1, x2, x3, x4, x5, x6, x7, ())) c h hp hg hdb hs hpl
theorem xcd7 {X : Cx} {B F0 : Hp} {Γ : Ev} {e : Expr} {es : List Expr} {pos p : Pos} {f : Str} {T1 T2 T3 T4 T5 T6 T7 W : Type} [R T1] [R T2] [R T3] [R T4] [R T5] [R T6] [R T7] {κ : Type} [R κ] [DecidableEq κ] [DK κ] [R W] {pre : T1 → T2 → T3 → T4 → T5 → T6 → T7 → Prop} {m : T1 → T2 → T3 → T4 → T5 → T6 → T7 → Dct κ W} {x1 : T1} {x2 : T2} {x3 : T3} {x4 : T4} {x5 : T5} {x6 : T6} {x7 : T7} (c : CalX X f (so7 X.K pre m)) (h : XA X B F0 Γ (e :: es) (fun K H vs => Args.args (A := T1 × T2 × T3 × T4 × T5 × T6 × T7 × Unit) K H vs (x1, x2, x3, x4, x5, x6, x7, ()))) (hp : pre x1 x2 x3 x4 x5 x6 x7) (hg : Gl X f := by rfl)
    (hdb : (f == ("__debug__" : Str)) = false := by decide) (hs : starEach (e :: es) X.env = (false, eval e X.env) :: starEach es X.env := by rfl) (hpl : (backTo pos (starEach es X.env)).any (·.1) = false := by rfl) : XO X B F0 Γ (.Call (.Name f p) (e :: es) [] pos) true (m x1 x2 x3 x4 x5 x6 x7) :=
  xcallOw (A := T1 × T2 × T3 × T4 × T5 × T6 × T7 × Unit) (pre := fun a : T1 × T2 × T3 × T4 × T5 × T6 × T7 × Unit => pre a.1 a.2.1 a.2.2.1 a.2.2.2.1 a.2.2.2.2.1 a.2.2.2.2.2.1 a.2.2.2.2.2.2.1) (m := fun a : T1 × T2 × T3 × T4 × T5 × T6 × T7 × Unit => m a.1 a.2.1 a.2.2.1 a.2.2.2.1 a.2.2.2.2.1 a.2.2.2.2.2.1 a.2.2.2.2.2.2.1) (ag := (x1, x2, x3, x4, x5, x6, x7, ())) c h hp hg hdb hs hpl
end Cb

set_option Elab.async false
set_option linter.all false
set_option maxRecDepth 100000
/-! Cb7: comparisons as values and tests; data; sorted; enumerate, zip; lists or tuples -/
namespace Cb
open PySem PySem.Spec L2
open PyProof.Rows hiding St

/-! ### comparisons -/
structure CmpX (X : Cx) (op : CmpOp) {α β : Type} [R α] [R β] (x : α) (y : β) (c : Bool) : Prop where
  ex : ∃ r, OpR X (compareOp op) r ∧ ∀ H v w Q, R.rep X.K H v x → R.rep X.K H w y → Q (.bl c) H → r v w H Q
section
variable {X : Cx} {B F0 : Hp} {Γ : Ev} {k k1 k2 : Bool} {e a b i o : Expr} {es : List Expr} {pos : Pos} {D : Ends} {ss : List Stmt} {st : Stmt} {α β γ : Type} [R α] [R β] [R γ] {x : α} {y : β} {z : γ} {c c1 c2 : Bool}
theorem xcv {op : CmpOp} (h : CmpX X op x y c) (ha : XV X B F0 Γ a x) (hb : XV X B F0 Γ b y) (hm : behindInMarks op b = false := by first | exact nomark _ | rfl) : XE X B F0 Γ (.Compare a [op] [b] pos) k c := by
  obtain ⟨r, ho, hz⟩ := h
  exact x_cmp ho ha hb hm hz
theorem xct {op : CmpOp} (h : CmpX X op x y c) (ha : XV X B F0 Γ a x) (hb : XV X B F0 Γ b y) (hm : behindInMarks op b = false := by first | exact nomark _ | rfl) : XT X B F0 Γ (.Compare a [op] [b] pos) c := fun F σ H Q A q => by
  obtain ⟨r, ho, hz⟩ := h
  exact WT.of (pt_cmpR ho can_e can_e hm) (x_two ha hb A fun F' H' v w g r1 r2 => hz H' v w _ r1 r2 ⟨c, rfl, q F' H' g⟩)
/-- a op b op' c -/
theorem xch {op op' : CmpOp} {d : Expr} (h1 : CmpX X op x y c1) (h2 : CmpX X op' y z c2) (ha : XV X B F0 Γ a x) (hb : XV X B F0 Γ b y) (hc : XV X B F0 Γ d z) (hm : lastMarks [op, op'] [b, d] = false := by with_unfolding_all rfl) : XE X B F0 Γ (.Compare a [op, op'] [b, d] pos) k (c1 && c2) := by
  obtain ⟨r, ho, hz⟩ := h1
  obtain ⟨r', ho', hz'⟩ := h2
  exact xchain ho ho' ha hb hc hz hz' hm
theorem xcht {op op' : CmpOp} {d : Expr} (h1 : CmpX X op x y c1) (h2 : CmpX X op' y z c2) (ha : XV X B F0 Γ a x) (hb : XV X B F0 Γ b y) (hc : XV X B F0 Γ d z) (hm : lastMarks [op, op'] [b, d] = false := by with_unfolding_all rfl) : XT X B F0 Γ (.Compare a [op, op'] [b, d] pos) (c1 && c2) := fun F σ H Q A q => by
  obtain ⟨r, ho, hz⟩ := h1
  obtain ⟨r', ho', hz'⟩ := h2
  refine WT.of (pt_chain ho ho' can_e can_e can_e hm) (x_two ha hb A fun F1 H1 v w g r1 r2 => hz H1 v w _ r1 r2 ⟨c1, rfl, ?_⟩)
  cases c1 with
  | false => exact ⟨false, rfl, q F1 H1 g⟩
  | true => exact hc F1 σ H1 _ (A.grow g) fun F2 H2 u g2 r3 => hz' H2 w u _ (R.mono g2.hh r2) r3 ⟨c2, rfl, q F2 H2 (g.trans g2)⟩
theorem cx_lt {i j : Int} : CmpX X .Lt i j (decide (i < j)) := ⟨_, op_lt, fun H v w Q r1 r2 q => ⟨i, j, r1, r2, q⟩⟩
theorem cx_le {i j : Int} : CmpX X .LtE i j (decide (i ≤ j)) := ⟨_, op_le, fun H v w Q r1 r2 q => ⟨i, j, r1, r2, q⟩⟩
theorem cx_gt {i j : Int} : CmpX X .Gt i j (decide (j < i)) := ⟨_, op_gt, fun H v w Q r1 r2 q => ⟨i, j, r1, r2, q⟩⟩
theorem cx_ge {i j : Int} : CmpX X .GtE i j (decide (j ≤ i)) := ⟨_, op_ge, fun H v w Q r1 r2 q => ⟨i, j, r1, r2, q⟩⟩
theorem cx_eq [DecidableEq α] [Scal α] {x y : α} : CmpX X .Eq x y (decide (x = y)) := ⟨_, op_eq, fun H v w Q r1 r2 q => by
  obtain ⟨h1, h2⟩ := Scal.eq r1 r2
  exact ⟨h1, by rw [h2]; exact q⟩⟩
theorem cx_ne [DecidableEq α] [Scal α] {x y : α} : CmpX X .NotEq x y (!decide (x = y)) := ⟨_, op_ne, fun H v w Q r1 r2 q => by
  obtain ⟨h1, h2⟩ := Scal.eq r1 r2
  exact ⟨h1, by rw [h2]; exact q⟩⟩
theorem cx_isN [NN α] {o : Option α} : CmpX X .Is o () o.isNone := ⟨_, op_isN, fun H v w Q r1 r2 q => ⟨r2, by rw [non_opt r1]; exact q⟩⟩
theorem cx_notN [NN α] {o : Option α} : CmpX X .IsNot o () (!o.isNone) := ⟨_, op_notN, fun H v w Q r1 r2 q => ⟨r2, by rw [non_opt r1]; exact q⟩⟩
theorem cx_in [DecidableEq α] [Flat α] {as : List α} : CmpX X .In x as (decide (x ∈ as)) := ⟨_, op_in_seq, fun H v w Q r1 ⟨p, vs, e, hp, r2⟩ q => by
  obtain ⟨h1, h2⟩ := r2.inV r1
  exact ⟨p, vs, e, .inl (SqL.of hp), Flat.flat r1, h1, by rw [if_neg Bool.false_ne_true, h2]; exact q⟩⟩
theorem cx_nin [DecidableEq α] [Flat α] {as : List α} : CmpX X .NotIn x as (!decide (x ∈ as)) := ⟨_, op_notIn_seq, fun H v w Q r1 ⟨p, vs, e, hp, r2⟩ q => by
  obtain ⟨h1, h2⟩ := r2.inV r1
  exact ⟨p, vs, e, .inl (SqL.of hp), Flat.flat r1, h1, by rw [if_pos rfl, h2]; exact q⟩⟩
theorem cx_inT [DecidableEq α] [Flat α] {t : Tup α} : CmpX X .In x t (decide (x ∈ t.items)) := ⟨_, op_in_seq, fun H v w Q r1 ⟨p, vs, e, hp, r2⟩ q => by
  obtain ⟨h1, h2⟩ := Reps.inV r1 r2
  exact ⟨p, vs, e, .inr (SqT.of hp), Flat.flat r1, h1, by rw [if_neg Bool.false_ne_true, h2]; exact q⟩⟩
theorem cx_ninT [DecidableEq α] [Flat α] {t : Tup α} : CmpX X .NotIn x t (!decide (x ∈ t.items)) := ⟨_, op_notIn_seq, fun H v w Q r1 ⟨p, vs, e, hp, r2⟩ q => by
  obtain ⟨h1, h2⟩ := Reps.inV r1 r2
  exact ⟨p, vs, e, .inr (SqT.of hp), Flat.flat r1, h1, by rw [if_pos rfl, h2]; exact q⟩⟩
theorem xdinT {κ : Type} [R κ] [DecidableEq κ] [DK κ] {d : Dct κ β} {c : κ} (hu : X.A.units + 1 < cLine) (ha : XV X B F0 Γ a c) (hb : XV X B F0 Γ b d) (hm : behindInMarks .In b = false := by rfl) : XT X B F0 Γ (.Compare a [.In] [b] pos) (dGet d.kvs c).isSome := fun F σ H Q A q =>
  WT.of (pt_cmp (pc_din hu can_e can_e) hm) (x_two ha hb A fun F' H' v w g r1 ⟨p, ws, e, hp, r⟩ => by
    refine ⟨p, _, e, DK.get hp r1, (dGet d.kvs c).isSome, ?_, q F' H' g⟩
    rcases r.get (c := c) with ⟨h1, h2⟩ | ⟨b, v, h1, h2, _⟩
    · rw [h1, h2]; rfl
    · rw [h1, h2]; rfl)
theorem xdninT {κ : Type} [R κ] [DecidableEq κ] [DK κ] {d : Dct κ β} {c : κ} (hu : X.A.units + 1 < cLine) (ha : XV X B F0 Γ a c) (hb : XV X B F0 Γ b d) (hm : behindInMarks .NotIn b = false := by rfl) : XT X B F0 Γ (.Compare a [.NotIn] [b] pos) (!(dGet d.kvs c).isSome) := fun F σ H Q A q =>
  WT.of (pt_cmp (pc_dnotin hu can_e can_e) hm) (x_two ha hb A fun F' H' v w g r1 ⟨p, ws, e, hp, r⟩ => by
    refine ⟨p, _, e, DK.get hp r1, !(dGet d.kvs c).isSome, ?_, q F' H' g⟩
    rcases r.get (c := c) with ⟨h1, h2⟩ | ⟨b, v, h1, h2, _⟩
    · rw [h1, h2]; rfl
    · rw [h1, h2]; rfl)
end

/-! ### data -/
class Dat (α : Type) [R α] [DecidableEq α] where
  dat : α → PyData
  ok : α → Prop
  dep : Nat
  dp : ∀ {K : Kf} {H : Hp} {v : V} {a : α}, R.rep K H v a → Dp K H v (dat a)
  lay : ∀ a, ok a → (dat a).canLay0 = true
  depth : ∀ a, (dat a).depth ≤ dep
  eqv : ∀ a b, PyData.eqv (dat a) (dat b) = decide (a = b)
instance : Dat Int := ⟨PyData.int, fun _ => True, 0, fun {K H v a} h => by have e : v = .int a := h; subst e; exact .int a, fun _ _ => rfl, fun _ => Nat.le_refl _, fun a b => by
  show (a == b) = _
  exact Bool.beq_eq_decide_eq a b⟩
instance : Dat Bool := ⟨PyData.bool, fun _ => True, 0, fun {K H v a} h => by have e : v = .bl a := h; subst e; exact .bl a, fun _ _ => rfl, fun _ => Nat.le_refl _, fun a b => by
  show (a == b) = _
  exact Bool.beq_eq_decide_eq a b⟩
instance : Dat Str := ⟨PyData.str, fun x => PyData.strOk x = true, 0, fun {K H v a} h => by have e : v = .str a := h; subst e; exact .str a, fun a h => by show PyData.strOk a = true; exact h, fun _ => Nat.le_refl _, fun a b => by
  show (a == b) = _
  by_cases e : a = b
  · subst e; simp
  · simp [e]⟩
section
variable {α β γ : Type} [R α] [DecidableEq α] [Dat α] [R β] [DecidableEq β] [Dat β] [R γ] [DecidableEq γ] [Dat γ]
theorem dps {K : Kf} {H : Hp} {vs : List V} {as : List α} (r : Reps K H vs as) : DpAll K H vs (as.map Dat.dat) := by
  induction r with
  | nil => exact .nil
  | cons q _ ih => exact .cons (Dat.dp q) ih
theorem lays : ∀ (as : List α), (∀ a ∈ as, Dat.ok a) → PyData.canLayAll0 (as.map Dat.dat) = true
  | [], _ => rfl
  | a :: t, h => by
    show ((Dat.dat a).canLay0 && PyData.canLayAll0 (t.map Dat.dat)) = true
    rw [Dat.lay a (h a List.mem_cons_self), lays t fun b hb => h b (List.mem_cons_of_mem _ hb)]; rfl
theorem deps : ∀ (as : List α), PyData.depthAll (as.map Dat.dat) ≤ Dat.dep α
  | [] => Nat.zero_le _
  | a :: t => by
    show max (Dat.dat a).depth (PyData.depthAll (t.map Dat.dat)) ≤ _
    exact Nat.max_le.mpr ⟨Dat.depth a, deps t⟩
theorem eqvs : ∀ (as bs : List α), PyData.eqvAll (as.map Dat.dat) (bs.map Dat.dat) = decide (as = bs)
  | [], [] => rfl
  | [], b :: t => rfl
  | a :: t, [] => rfl
  | a :: t, b :: u => by
    show (PyData.eqv (Dat.dat a) (Dat.dat b) && PyData.eqvAll (t.map Dat.dat) (u.map Dat.dat)) = _
    rw [Dat.eqv, eqvs t u]
    by_cases h1 : a = b <;> by_cases h2 : t = u <;> simp [h1, h2]
instance : Dat (List α) := ⟨fun as => .list (as.map Dat.dat), fun as => ∀ a ∈ as, Dat.ok a, Dat.dep α + 1, fun ⟨p, vs, e, hp, r⟩ => by subst e; exact .lst (SqL.of hp) (dps r), fun as h => lays as h, fun as => by
  show PyData.depthAll _ + 1 ≤ _
  exact Nat.succ_le_succ (deps as), fun a b => eqvs a b⟩
instance : Dat (Tup α) := ⟨fun as => .tuple (as.items.map Dat.dat), fun as => ∀ a ∈ as.items, Dat.ok a, Dat.dep α + 1, fun ⟨p, vs, e, hp, r⟩ => by subst e; exact .tup (SqT.of hp) (dps r), fun as h => lays as.items h, fun as => by
  show PyData.depthAll _ + 1 ≤ _
  exact Nat.succ_le_succ (deps as.items), fun a b => by
  show PyData.eqvAll _ _ = _
  rw [eqvs]
  cases a; cases b
  by_cases h : ‹List α› = ‹List α› <;> simp⟩
instance : Dat (α × β) := ⟨fun a => .tuple [Dat.dat a.1, Dat.dat a.2], fun a => Dat.ok a.1 ∧ Dat.ok a.2, max (Dat.dep α) (Dat.dep β) + 1, fun ⟨p, v1, v2, e, hp, r1, r2⟩ => by subst e; exact .tup (SqT.of hp) (.cons (Dat.dp r1) (.cons (Dat.dp r2) .nil)), fun a h => by
  show ((Dat.dat a.1).canLay0 && ((Dat.dat a.2).canLay0 && true)) = true
  rw [Dat.lay _ h.1, Dat.lay _ h.2]; rfl, fun a => by
  show max (Dat.dat a.1).depth (max (Dat.dat a.2).depth 0) + 1 ≤ _
  have := Dat.depth a.1
  have := Dat.depth a.2
  omega, fun a b => by
  show (PyData.eqv (Dat.dat a.1) (Dat.dat b.1) && (PyData.eqv (Dat.dat a.2) (Dat.dat b.2) && true)) = _
  rw [Dat.eqv, Dat.eqv]
  obtain ⟨a1, a2⟩ := a
  obtain ⟨b1, b2⟩ := b
  by_cases h1 : a1 = b1 <;> by_cases h2 : a2 = b2 <;> simp [h1, h2]⟩
instance : Dat (T3 α β γ) := ⟨fun a => .tuple [Dat.dat a.a, Dat.dat a.b, Dat.dat a.c], fun a => Dat.ok a.a ∧ Dat.ok a.b ∧ Dat.ok a.c, max (Dat.dep α) (max (Dat.dep β) (Dat.dep γ)) + 1, fun ⟨p, v1, v2, v3, e, hp, r1, r2, r3⟩ => by subst e; exact .tup (SqT.of hp) (.cons (Dat.dp r1) (.cons (Dat.dp r2) (.cons (Dat.dp r3) .nil))), fun a h => by
  show ((Dat.dat a.a).canLay0 && ((Dat.dat a.b).canLay0 && ((Dat.dat a.c).canLay0 && true))) = true
  rw [Dat.lay _ h.1, Dat.lay _ h.2.1, Dat.lay _ h.2.2]; rfl, fun a => by
  show max (Dat.dat a.a).depth (max (Dat.dat a.b).depth (max (Dat.dat a.c).depth 0)) + 1 ≤ _
  have := Dat.depth a.a
  have := Dat.depth a.b
  have := Dat.depth a.c
  omega, fun a b => by
  show (PyData.eqv (Dat.dat a.a) (Dat.dat b.a) && (PyData.eqv (Dat.dat a.b) (Dat.dat b.b) && (PyData.eqv (Dat.dat a.c) (Dat.dat b.c) && true))) = _
  rw [Dat.eqv, Dat.eqv, Dat.eqv]
  obtain ⟨a1, a2, a3⟩ := a
  obtain ⟨b1, b2, b3⟩ := b
  by_cases h1 : a1 = b1 <;> by_cases h2 : a2 = b2 <;> by_cases h3 : a3 = b3 <;> simp [h1, h2, h3]⟩
instance : Dat (T4 α β γ γ) := ⟨fun a => .tuple [Dat.dat a.a, Dat.dat a.b, Dat.dat a.c, Dat.dat a.d], fun a => Dat.ok a.a ∧ Dat.ok a.b ∧ Dat.ok a.c ∧ Dat.ok a.d, max (Dat.dep α) (max (Dat.dep β) (Dat.dep γ)) + 1, fun ⟨p, v1, v2, v3, v4, e, hp, r1, r2, r3, r4⟩ => by subst e; exact .tup (SqT.of hp) (.cons (Dat.dp r1) (.cons (Dat.dp r2) (.cons (Dat.dp r3) (.cons (Dat.dp r4) .nil)))), fun a h => by
  show ((Dat.dat a.a).canLay0 && ((Dat.dat a.b).canLay0 && ((Dat.dat a.c).canLay0 && ((Dat.dat a.d).canLay0 && true)))) = true
  rw [Dat.lay _ h.1, Dat.lay _ h.2.1, Dat.lay _ h.2.2.1, Dat.lay _ h.2.2.2]; rfl, fun a => by
  show max (Dat.dat a.a).depth (max (Dat.dat a.b).depth (max (Dat.dat a.c).depth (max (Dat.dat a.d).depth 0))) + 1 ≤ _
  have := Dat.depth a.a
  have := Dat.depth a.b
  have := Dat.depth a.c
  have := Dat.depth a.d
  omega, fun a b => by
  show (PyData.eqv (Dat.dat a.a) (Dat.dat b.a) && (PyData.eqv (Dat.dat a.b) (Dat.dat b.b) && (PyData.eqv (Dat.dat a.c) (Dat.dat b.c) && (PyData.eqv (Dat.dat a.d) (Dat.dat b.d) && true)))) = _
  rw [Dat.eqv, Dat.eqv, Dat.eqv, Dat.eqv]
  obtain ⟨a1, a2, a3, a4⟩ := a
  obtain ⟨b1, b2, b3, b4⟩ := b
  by_cases h1 : a1 = b1 <;> by_cases h2 : a2 = b2 <;> by_cases h3 : a3 = b3 <;> by_cases h4 : a4 = b4 <;> simp [h1, h2, h3, h4]⟩
theorem shaped {a : α} (h : Dat.ok a) (hd : Dat.dep α ≤ 64) : SeqAt.shaped (Dat.dat a) = true := by
  unfold SeqAt.shaped
  rw [Dat.lay a h, decide_eq_true (Nat.le_trans (Dat.depth a) hd)]; rfl
variable {X : Cx} {a b : α}
theorem cx_eqD (hu : X.A.units + 64 < cLine) (h1 : Dat.ok a) (h2 : Dat.ok b) (hd : Dat.dep α ≤ 64 := by decide) : CmpX X .Eq a b (decide (a = b)) := ⟨_, op_eqD hu, fun H v w Q r1 r2 q => ⟨_, _, Dat.dp r1, Dat.dp r2, shaped h1 hd, shaped h2 hd, by rw [Dat.eqv]; exact q⟩⟩
theorem cx_neD (hu : X.A.units + 64 < cLine) (h1 : Dat.ok a) (h2 : Dat.ok b) (hd : Dat.dep α ≤ 64 := by decide) : CmpX X .NotEq a b (!decide (a = b)) := ⟨_, op_neD hu, fun H v w Q r1 r2 q => ⟨_, _, Dat.dp r1, Dat.dp r2, shaped h1 hd, shaped h2 hd, by rw [Dat.eqv]; exact q⟩⟩
end
end Cb

set_option Elab.async false
set_option linter.all false
set_option maxRecDepth 100000
/-! Cb8: built-ins: sorted, list(range), enumerate, zip, reversed, min, max, abs, sum, all, isinstance; extend by a tuple; lists or tuples -/
namespace Cb
open PySem PySem.Spec L2
open PyProof.Rows hiding St

/-! ### lists of ints -/
theorem reps_ints {K : Kf} {F : Hp} : ∀ {vs : List V} {ns : List Int}, Reps K F vs ns → vs = ns.map V.int
  | _, _, .nil => rfl
  | _, _, .cons q t => by
    have e : _ = V.int _ := q
    rw [List.map_cons, e, reps_ints t]
theorem ints_reps {K : Kf} {F : Hp} : ∀ ns : List Int, Reps K F (ns.map V.int) ns
  | [] => .nil
  | n :: t => .cons rfl (ints_reps t)
theorem reps_bls {K : Kf} {F : Hp} : ∀ {vs : List V} {ns : List Bool}, Reps K F vs ns → vs = ns.map V.bl
  | _, _, .nil => rfl
  | _, _, .cons q t => by
    have e : _ = V.bl _ := q
    rw [List.map_cons, e, reps_bls t]
/-- sorted -/
def isort (ns : List Int) : List Int := ns.mergeSort (fun x y => decide (x ≤ y))
def lmin : List Int → Int
  | [] => 0
  | [a] => a
  | a :: b :: t => if a ≤ lmin (b :: t) then a else lmin (b :: t)
def lmax : List Int → Int
  | [] => 0
  | [a] => a
  | a :: b :: t => if lmax (b :: t) ≤ a then a else lmax (b :: t)
theorem lmin_spec : ∀ (l : List Int), l ≠ [] → lmin l ∈ l ∧ ∀ y ∈ l, lmin l ≤ y
  | [], h => absurd rfl h
  | [a], _ => ⟨List.mem_singleton.mpr rfl, fun y hy => by rw [List.mem_singleton.mp hy]; exact Int.le_refl _⟩
  | a :: b :: t, _ => by
    obtain ⟨h1, h2⟩ := lmin_spec (b :: t) (List.cons_ne_nil _ _)
    show (if a ≤ lmin (b :: t) then a else lmin (b :: t)) ∈ _ ∧ ∀ y ∈ a :: b :: t, (if a ≤ lmin (b :: t) then a else lmin (b :: t)) ≤ y
    by_cases h : a ≤ lmin (b :: t)
    · rw [if_pos h]
      refine ⟨List.mem_cons_self, fun y hy => ?_⟩
      rcases List.mem_cons.mp hy with rfl | hy
      · exact Int.le_refl _
      · exact Int.le_trans h (h2 y hy)
    · rw [if_neg h]
      refine ⟨List.mem_cons_of_mem _ h1, fun y hy => ?_⟩
      rcases List.mem_cons.mp hy with rfl | hy
      · omega
      · exact h2 y hy
theorem lmax_spec : ∀ (l : List Int), l ≠ [] → lmax l ∈ l ∧ ∀ y ∈ l, y ≤ lmax l
  | [], h => absurd rfl h
  | [a], _ => ⟨List.mem_singleton.mpr rfl, fun y hy => by rw [List.mem_singleton.mp hy]; exact Int.le_refl _⟩
  | a :: b :: t, _ => by
    obtain ⟨h1, h2⟩ := lmax_spec (b :: t) (List.cons_ne_nil _ _)
    show (if lmax (b :: t) ≤ a then a else lmax (b :: t)) ∈ _ ∧ ∀ y ∈ a :: b :: t, y ≤ (if lmax (b :: t) ≤ a then a else lmax (b :: t))
    by_cases h : lmax (b :: t) ≤ a
    · rw [if_pos h]
      refine ⟨List.mem_cons_self, fun y hy => ?_⟩
      rcases List.mem_cons.mp hy with rfl | hy
      · exact Int.le_refl _
      · exact Int.le_trans (h2 y hy) h
    · rw [if_neg h]
      refine ⟨List.mem_cons_of_mem _ h1, fun y hy => ?_⟩
      rcases List.mem_cons.mp hy with rfl | hy
      · omega
      · exact h2 y hy
section
variable {X : Cx} {B F0 : Hp} {Γ : Ev} {k k1 k2 : Bool} {e a b i o : Expr} {es : List Expr} {pos p : Pos} {D : Ends} {ss : List Stmt} {st : Stmt}
theorem x_cb {P : List V → Hp → VK → Prop} {id : String} {f : Str} (hc : CallR X (.builtin id) P) (hg : Gl X f) (hm : X.mg f = none) (hv : bootBuiltins f = some (.builtin id)) {σ : St} {H : Hp} {Q : VK} (h : WE X a σ H (fun v H1 => P [v] H1 Q))
    (hn : f ≠ "__name__" := by decide) (hdb : (f == ("__debug__" : Str)) = false := by decide) (hs : starEach [a] X.env = (false, eval a X.env) :: starEach [] X.env := by rfl) : WE X (.Call (.Name f p) [a] [] pos) σ H Q :=
  WE.of (pe_callB hc hg hm hv (pa_cons can_e pa_nil hs) hn hdb (he := hs)) h
theorem xsorted {ns : List Int} (ms : X.mg "sorted" = none) (ha : XV X B F0 Γ a ns) (hg : Gl X "sorted" := by rfl) (hs : starEach [a] X.env = (false, eval a X.env) :: starEach [] X.env := by rfl) : XO X B F0 Γ (.Call (.Name "sorted" p) [a] [] pos) k (isort ns) := fun F σ H Q A q =>
  x_cb cr_sortedI hg ms (by decide +kernel) (ha F σ H _ A fun F' H' v g ⟨l, vs, e, hl, r⟩ => by
    have ev := reps_ints r
    subst ev
    refine ⟨l, ns, by rw [e], SqL.of hl, fun ns' l' hp hw hn => ?_⟩
    have e2 : ns' = isort ns := PySem.W.os_sorted_mergeSort hp hw
    subst e2
    exact x_new g hn (ints_reps _) q) (hs := hs)
theorem xmin1 {ns : List Int} (hc : X.calm = true) (mm : X.mg "min" = none) (ha : XV X B F0 Γ a ns) (hne : ns ≠ []) (hg : Gl X "min" := by rfl) (hs : starEach [a] X.env = (false, eval a X.env) :: starEach [] X.env := by rfl) : XE X B F0 Γ (.Call (.Name "min" p) [a] [] pos) k (lmin ns) := fun F σ H Q A q =>
  x_cb (cr_min hc) hg mm (by decide +kernel) (ha F σ H _ A fun F' H' v g ⟨l, vs, e, hl, r⟩ => by
    have ev := reps_ints r
    subst ev
    refine ⟨l, ns, by rw [e], SqL.of hl, List.length_pos_iff.mpr hne, fun m hm hle => ?_⟩
    obtain ⟨h1, h2⟩ := lmin_spec ns hne
    have e2 : m = lmin ns := Int.le_antisymm (hle _ h1) (h2 _ hm)
    subst e2
    exact q F' H' _ g rfl) (hs := hs)
theorem xmax1 {ns : List Int} (hc : X.calm = true) (mm : X.mg "max" = none) (ha : XV X B F0 Γ a ns) (hne : ns ≠ []) (hg : Gl X "max" := by rfl) (hs : starEach [a] X.env = (false, eval a X.env) :: starEach [] X.env := by rfl) : XE X B F0 Γ (.Call (.Name "max" p) [a] [] pos) k (lmax ns) := fun F σ H Q A q =>
  x_cb (cr_max hc) hg mm (by decide +kernel) (ha F σ H _ A fun F' H' v g ⟨l, vs, e, hl, r⟩ => by
    have ev := reps_ints r
    subst ev
    refine ⟨l, ns, by rw [e], SqL.of hl, List.length_pos_iff.mpr hne, fun m hm hle => ?_⟩
    obtain ⟨h1, h2⟩ := lmax_spec ns hne
    have e2 : m = lmax ns := Int.le_antisymm (h2 _ hm) (hle _ h1)
    subst e2
    exact q F' H' _ g rfl) (hs := hs)
theorem xsum {ns : List Int} (hc : X.calm = true) (mm : X.mg "sum" = none) (ha : XV X B F0 Γ a ns) (hg : Gl X "sum" := by rfl) (hs : starEach [a] X.env = (false, eval a X.env) :: starEach [] X.env := by rfl) : XE X B F0 Γ (.Call (.Name "sum" p) [a] [] pos) k ns.sum := fun F σ H Q A q =>
  x_cb (cr_sum hc) hg mm (by decide +kernel) (ha F σ H _ A fun F' H' v g ⟨l, vs, e, hl, r⟩ => by
    have ev := reps_ints r
    subst ev
    exact ⟨l, ns, by rw [e], SqL.of hl, q F' H' _ g rfl⟩) (hs := hs)
theorem xall {ns : List Bool} (hc : X.calm = true) (mm : X.mg "all" = none) (ha : XV X B F0 Γ a ns) (hg : Gl X "all" := by rfl) (hs : starEach [a] X.env = (false, eval a X.env) :: starEach [] X.env := by rfl) : XE X B F0 Γ (.Call (.Name "all" p) [a] [] pos) k (ns.all id) := fun F σ H Q A q =>
  x_cb (cr_all hc) hg mm (by decide +kernel) (ha F σ H _ A fun F' H' v g ⟨l, vs, e, hl, r⟩ => by
    have ev := reps_bls r
    subst ev
    exact ⟨l, ns, by rw [e], SqL.of hl, q F' H' _ g rfl⟩) (hs := hs)
theorem xabs {n : Int} (mm : X.mg "abs" = none) (ha : XV X B F0 Γ a n) (hg : Gl X "abs" := by rfl) (hs : starEach [a] X.env = (false, eval a X.env) :: starEach [] X.env := by rfl) : XE X B F0 Γ (.Call (.Name "abs" p) [a] [] pos) k (if n < 0 then -n else n) := fun F σ H Q A q =>
  x_cb call_abs hg mm (by decide +kernel) (ha F σ H _ A fun F' H' v g r => ⟨n, by rw [show v = V.int n from r], q F' H' _ g rfl⟩) (hs := hs)
theorem x_cb2 {α β : Type} [R α] [R β] {x : α} {y : β} {P : List V → Hp → VK → Prop} {id : String} {f : Str} (hc : CallR X (.builtin id) P) (hg : Gl X f) (hm : X.mg f = none) (hv : bootBuiltins f = some (.builtin id)) (ha : XV X B F0 Γ a x) (hb : XV X B F0 Γ b y) {F σ H} {Q : VK} (A : AS X.K B F0 Γ F σ H)
    (h : ∀ F' H' v w, Grow F H F' H' → R.rep X.K H' v x → R.rep X.K H' w y → P [v, w] H' Q) (hn : f ≠ "__name__") (hdb : (f == ("__debug__" : Str)) = false) (hs : starEach [a, b] X.env = (false, eval a X.env) :: starEach [b] X.env) (hs2 : starEach [b] X.env = (false, eval b X.env) :: starEach [] X.env) (hpl : (backTo pos (starEach [b] X.env)).any (·.1) = false) : WE X (.Call (.Name f p) [a, b] [] pos) σ H Q :=
  WE.of (pe_callB hc hg hm hv (pa_cons can_e (pa_cons can_e pa_nil hs2) hs) hn hdb (he := hs) (hpl := hpl)) (x_two ha hb A h)
theorem xmin2 {m n : Int} (hc : X.calm = true) (mm : X.mg "min" = none) (ha : XV X B F0 Γ a m) (hb : XV X B F0 Γ b n) (hg : Gl X "min" := by rfl) (hs : starEach [a, b] X.env = (false, eval a X.env) :: starEach [b] X.env := by rfl) (hs2 : starEach [b] X.env = (false, eval b X.env) :: starEach [] X.env := by rfl) (hpl : (backTo pos (starEach [b] X.env)).any (·.1) = false := by rfl) : XE X B F0 Γ (.Call (.Name "min" p) [a, b] [] pos) k (if n < m then n else m) := fun F σ H Q A q =>
  x_cb2 (call_min2 hc) hg mm (by decide +kernel) ha hb A (fun F' H' v w g r1 r2 => ⟨m, n, by rw [show v = V.int m from r1, show w = V.int n from r2], q F' H' _ g rfl⟩) (by decide) (by decide) hs hs2 hpl
theorem xmax2 {m n : Int} (hc : X.calm = true) (mm : X.mg "max" = none) (ha : XV X B F0 Γ a m) (hb : XV X B F0 Γ b n) (hg : Gl X "max" := by rfl) (hs : starEach [a, b] X.env = (false, eval a X.env) :: starEach [b] X.env := by rfl) (hs2 : starEach [b] X.env = (false, eval b X.env) :: starEach [] X.env := by rfl) (hpl : (backTo pos (starEach [b] X.env)).any (·.1) = false := by rfl) : XE X B F0 Γ (.Call (.Name "max" p) [a, b] [] pos) k (if n > m then n else m) := fun F σ H Q A q =>
  x_cb2 (call_max2 hc) hg mm (by decide +kernel) ha hb A (fun F' H' v w g r1 r2 => ⟨m, n, by rw [show v = V.int m from r1, show w = V.int n from r2], q F' H' _ g rfl⟩) (by decide) (by decide) hs hs2 hpl
/-- list(range(n)) -/
theorem xlistRg {n : Int} {p' pos' : Pos} (hc : X.calm = true) (ml : X.mg "list" = none) (mr : X.mg "range" = none) (ha : XV X B F0 Γ a n) (hn : 0 ≤ n ∧ n ≤ 16777216) (hg : Gl X "list" := by rfl) (hg2 : Gl X "range" := by rfl) (hs : starEach [a] X.env = (false, eval a X.env) :: starEach [] X.env := by rfl)
    (hs2 : starEach [.Call (.Name "range" p') [a] [] pos'] X.env = (false, eval (.Call (.Name "range" p') [a] [] pos') X.env) :: starEach [] X.env := by rfl) : XO X B F0 Γ (.Call (.Name "list" p) [.Call (.Name "range" p') [a] [] pos'] [] pos) k (rng 0 n.toNat) := fun F σ H Q A q =>
  WE.of (pe_listRg hc hg ml (prg_1 hg2 mr can_e hs) hs2) (ha F σ H _ A fun F' H' v g r => ⟨n, r, RgOk.of_le (Int.le_refl _) hn.2 (by decide) hn.1, fun l nl => by
    have e : rgV 0 n = (rng 0 n.toNat).map V.int := by
      unfold rgV rng
      rw [List.map_map, show (n - 0).toNat = n.toNat by omega]
      rfl
    rw [e]
    exact x_new g nl (ints_reps _) q⟩)
/-- a list times a number -/
theorem Reps.rep {α : Type} [R α] {K : Kf} {F : Hp} {vs : List V} {as : List α} (r : Reps K F vs as) : ∀ n : Nat, Reps K F (List.replicate n vs).flatten (List.replicate n as).flatten
  | 0 => .nil
  | n + 1 => by
    rw [List.replicate_succ, List.replicate_succ, List.flatten_cons, List.flatten_cons]
    exact r.append (Reps.rep r n)
theorem xrep {α : Type} [R α] [Pure α] {as : List α} {n : Int} (ha : XV X B F0 Γ a as) (hb : XV X B F0 Γ b n) (h : n < 2 ^ 63 ∧ -(2 ^ 63) ≤ n ∧ as.length * n.toNat ≤ sizeLine) : XO X B F0 Γ (.BinOp a .Mult b pos) k (List.replicate n.toNat as).flatten := fun F σ H Q A q =>
  WE.of (pe_op op_rep can_e can_e) (x_two ha hb A fun F' H' v w g r1 r2 => by
    obtain ⟨p1, vs, e1, h1, q1⟩ := r1
    exact ⟨p1, n, vs, e1, r2, h1, h.2.1, h.1, by rw [Reps.length q1]; exact h.2.2, fun p np => x_new (g.trans (Grow.tups g.fh)) np (reps_lift g.fh (q1.rep _)) q⟩)
/-! ### isinstance -/
class TyN (α : Type) [R α] where
  ty : α → String
  tx : ∀ {K : Kf} {H : Hp} {v : V} {a : α}, R.rep K H v a → TyX K H v (.type (ty a))
instance : TyN Int := ⟨fun _ => "int", fun {K H v a} h => by have e : v = .int a := h; subst e; exact .base (.int a)⟩
instance : TyN Bool := ⟨fun _ => "bool", fun {K H v a} h => by have e : v = .bl a := h; subst e; exact .base (.bl a)⟩
instance : TyN Str := ⟨fun _ => "str", fun {K H v a} h => by have e : v = .str a := h; subst e; exact .base (.str a)⟩
instance : TyN Unit := ⟨fun _ => "NoneType", fun {K H v a} h => by have e : v = .non := h; subst e; exact .base .non⟩
instance {α : Type} [R α] : TyN (List α) := ⟨fun _ => "list", fun ⟨p, vs, e, hp, _⟩ => by subst e; exact .base (.lst hp)⟩
instance {α : Type} [R α] : TyN (Tup α) := ⟨fun _ => "tuple", fun ⟨p, vs, e, hp, _⟩ => by subst e; exact .base (.tup hp)⟩
instance {α β : Type} [R α] [R β] : TyN (α × β) := ⟨fun _ => "tuple", fun ⟨p, _, _, e, hp, _⟩ => by subst e; exact .base (.tup hp)⟩
instance {α β γ : Type} [R α] [R β] [R γ] : TyN (T3 α β γ) := ⟨fun _ => "tuple", fun ⟨p, _, _, _, e, hp, _⟩ => by subst e; exact .base (.tup hp)⟩
instance {α β γ δ : Type} [R α] [R β] [R γ] [R δ] : TyN (T4 α β γ δ) := ⟨fun _ => "tuple", fun ⟨p, _, _, _, _, e, hp, _⟩ => by subst e; exact .base (.tup hp)⟩
instance {α : Type} [R α] [TyN α] : TyN (Option α) := ⟨fun o => match o with | none => "NoneType" | some a => TyN.ty a, fun {K H v a} r => match a, r with
  | none, r => by have e : v = .non := r; subst e; exact .base .non
  | some a, r => TyN.tx (α := α) r⟩
instance {α β : Type} [R α] [R β] [TyN α] [TyN β] : TyN (Sum α β) := ⟨fun o => match o with | .inl a => TyN.ty a | .inr a => TyN.ty a, fun {K H v a} r => match a, r with
  | .inl a, r => TyN.tx (α := α) r
  | .inr a, r => TyN.tx (α := β) r⟩
theorem xisi {α : Type} [R α] [TyN α] {x : α} {t : Str} {T : String} {pt : Pos} {c : Bool} (mi : X.mg "isinstance" = none) (mt : X.mg t = none) (ha : XV X B F0 Γ a x) (hv : bootBuiltins t = some (.type T)) (hk : kitB (TyN.ty x) T = some c) (hg : Gl X "isinstance" := by rfl) (hg2 : Gl X t := by rfl) (hn : t ≠ "__name__" := by decide) (hdb : (t == ("__debug__" : Str)) = false := by decide)
    (hs : starEach [a, .Name t pt] X.env = (false, eval a X.env) :: starEach [.Name t pt] X.env := by rfl) (hs2 : starEach [.Name t pt] X.env = (false, eval (.Name t pt) X.env) :: starEach [] X.env := by rfl) (hpl : (backTo pos (starEach [.Name t pt] X.env)).any (·.1) = false := by rfl) : XE X B F0 Γ (.Call (.Name "isinstance" p) [a, .Name t pt] [] pos) k c := fun F σ H Q A q =>
  WE.of (pe_callB call_isi hg mi (by decide +kernel) (pa_cons can_e (pa_cons (pe_bltn (v := .ty T) hg2 mt hv rfl hn hdb) pa_nil hs2) hs) (by decide) (by decide) (he := hs) (hpl := hpl)) (ha F σ H _ A fun F' H' v g r => ⟨v, _, _, _, c, rfl, .ty T, TyN.tx r, kit_ty hk, q F' H' _ g rfl⟩)
end
/-! ### enumerate, zip, reversed -/
section
variable {X : Cx} {B F0 : Hp} {Γ : Ev} {k k1 k2 : Bool} {e a b i o : Expr} {es : List Expr} {pos p : Pos} {D : Ends} {ss : List Stmt} {st : Stmt} {α β : Type} [R α] [R β]
theorem pair_new {K : Kf} {F1 H1 : Hp} {T : Addr} {v w : V} {x : α} {y : β} (s2 : Same F1 H1) (nT : H1 T = none) (r1 : R.rep K (rf k B F1) v x) (r2 : R.rep K (rf k B F1) w y) :
    ∃ F2, Grow F1 H1 F2 (upd H1 T (.tup [v, w])) ∧ R.rep K (rf k B F2) (.ref T) (x, y) :=
  ⟨_, Grow.new s2 nT, T, v, w, rfl, tup_in, R.mono (rf_mono (sub_upd (s2.free nT))) r1, R.mono (rf_mono (sub_upd (s2.free nT))) r2⟩
def enum (as : List α) : List (Int × α) := (List.range as.length).zipWith (fun (n : Nat) a => ((n : Int), a)) as
theorem enum_length (as : List α) : (enum as).length = as.length := by unfold enum; simp
theorem enum_at {as : List α} {n : Nat} (h : n < (enum as).length) : (enum as)[n] = ((n : Int), as[n]'(by rw [enum_length] at h; exact h)) := by
  simp [enum]
theorem xi_enum {elts : List Expr} {kk : Nat} {tpos : Pos} {as : List α} (me : X.mg "enumerate" = none) (h : XE X B F0 Γ e k as) (hg : Gl X "enumerate" := by rfl) (hs : starEach [e] X.env = [(false, eval e X.env)] := by rfl) : XI X B F0 Γ (.Tuple elts kk tpos) (.Call (.Name "enumerate" p) [e] [] pos) k (enum as) := fun F σ H _ A q =>
  WI.of (pi_enum hg me (pa_cons can_e pa_nil (by rw [hs]; rfl)) hs) (h F σ H _ A fun F' H' v g ⟨l, vs, ev, hl, r⟩ => ⟨l, vs, by rw [ev], SqL.of (g.fh _ _ (rf_sub _ _ hl)), q F' H' _ g {
    go := fun i hi F1 H1 s1 s2 => by
      have hi' : i < as.length := by rw [enum_length] at hi; exact hi
      obtain ⟨u, hu, ru⟩ := Reps.get r (List.getElem?_eq_getElem hi')
      have hq := SqL.of (K := X.K) (s2 _ _ (s1 _ _ (rf_sub _ _ hl)))
      refine ⟨⟨vs, u, hq, hu⟩, fun w H2 ⟨T, x, ew, nT, eH, y⟩ => ?_⟩
      have q2 := y vs hq
      rw [hu] at q2; cases q2
      subst ew eH
      rw [enum_at hi]
      exact pair_new s2 nT rfl (R.mono (rf_mono s1) ru)
    stop := fun i hi F1 H1 s1 s2 => ⟨vs, SqL.of (s2 _ _ (s1 _ _ (rf_sub _ _ hl))), by rw [Reps.length r]; rw [enum_length] at hi; exact Nat.le_of_eq hi.symm⟩ }⟩)
theorem xi_zip {elts : List Expr} {kk : Nat} {tpos : Pos} {as : List α} {bs : List β} (mz : X.mg "zip" = none) (h : XE X B F0 Γ a k as) (h2 : XE X B F0 Γ b k bs) (hg : Gl X "zip" := by rfl) (hs : starEach [a, b] X.env = (false, eval a X.env) :: starEach [b] X.env := by rfl) (hs2 : starEach [b] X.env = (false, eval b X.env) :: starEach [] X.env := by rfl) (hpl : (backTo pos (starEach [b] X.env)).any (·.1) = false := by rfl) :
    XI X B F0 Γ (.Tuple elts kk tpos) (.Call (.Name "zip" p) [a, b] [] pos) k (as.zip bs) := fun F σ H _ A q =>
  WI.of (pi_zip hg mz (pa_cons can_e (pa_cons can_e pa_nil hs2) hs) hs hpl) (x_twoF h h2 A fun F' H' v w g ⟨l, vs, ev, hl, r⟩ ⟨l2, ws, ew, hl2, r2⟩ => ⟨l, l2, vs, ws, by rw [ev, ew], SqL.of (g.fh _ _ (rf_sub _ _ hl)), SqL.of (g.fh _ _ (rf_sub _ _ hl2)), q F' H' _ g {
    go := fun i hi F1 H1 s1 s2 => by
      have hi' : i < min as.length bs.length := by rw [List.length_zip] at hi; exact hi
      have hi1 : i < as.length := by omega
      have hi2 : i < bs.length := by omega
      obtain ⟨u, hu, ru⟩ := Reps.get r (List.getElem?_eq_getElem hi1)
      obtain ⟨u2, hu2, ru2⟩ := Reps.get r2 (List.getElem?_eq_getElem hi2)
      have hq := SqL.of (K := X.K) (s2 _ _ (s1 _ _ (rf_sub _ _ hl)))
      have hq2 := SqL.of (K := X.K) (s2 _ _ (s1 _ _ (rf_sub _ _ hl2)))
      refine ⟨⟨vs, ws, u, u2, hq, hq2, hu, hu2⟩, fun w H2 ⟨T, x, y, ew, nT, eH, y1, y2⟩ => ?_⟩
      have q1 := y1 vs hq
      rw [hu] at q1; cases q1
      have q2 := y2 ws hq2
      rw [hu2] at q2; cases q2
      subst ew eH
      rw [List.getElem_zip]
      exact pair_new s2 nT (R.mono (rf_mono s1) ru) (R.mono (rf_mono s1) ru2)
    stop := fun i hi F1 H1 s1 s2 => ⟨vs, ws, SqL.of (s2 _ _ (s1 _ _ (rf_sub _ _ hl))), SqL.of (s2 _ _ (s1 _ _ (rf_sub _ _ hl2))), by rw [Reps.length r, Reps.length r2]; rw [List.length_zip] at hi; omega⟩ }⟩)
theorem xi_rev {tg : Expr} {as : List α} (mr : X.mg "reversed" = none) (h : XE X B F0 Γ e k as) (hg : Gl X "reversed" := by rfl) (hs : starEach [e] X.env = [(false, eval e X.env)] := by rfl) : XI X B F0 Γ tg (.Call (.Name "reversed" p) [e] [] pos) k as.reverse := fun F σ H _ A q =>
  WI.of (pi_reversed hg mr (pa_cons can_e pa_nil (by rw [hs]; rfl)) hs) (h F σ H _ A fun F' H' v g ⟨l, vs, ev, hl, r⟩ => ⟨l, vs, by rw [ev], SqL.of (g.fh _ _ (rf_sub _ _ hl)), q F' H' _ g {
    go := fun i hi F1 H1 s1 s2 => by
      have hi' : i < as.length := by rw [List.length_reverse] at hi; exact hi
      have hlen := Reps.length r
      obtain ⟨u, hu, ru⟩ := Reps.get r (i := as.length - 1 - i) (List.getElem?_eq_getElem (by omega))
      have hq := SqL.of (K := X.K) (s2 _ _ (s1 _ _ (rf_sub _ _ hl)))
      refine ⟨⟨by rw [hlen]; exact hi', vs, u, hq, by rw [hlen]; exact hu⟩, fun w H2 ⟨eH, y⟩ => ?_⟩
      subst eH
      have q2 := y vs hq
      rw [hlen, hu] at q2; cases q2
      refine ⟨F1, Grow.refl s2, ?_⟩
      rw [List.getElem_reverse]
      exact R.mono (rf_mono s1) ru
    stop := fun i hi F1 H1 s1 s2 => by
      show vs.length ≤ i
      rw [Reps.length r]; rw [List.length_reverse] at hi; exact Nat.le_of_eq hi.symm }⟩)
end
end Cb

set_option Elab.async false
set_option linter.all false
set_option maxRecDepth 100000
/-! Cb9: tuples put together and cut; extend by a tuple; a list or a tuple -/
namespace Cb
open PySem PySem.Spec L2
open PyProof.Rows hiding St
section
variable {X : Cx} {B F0 : Hp} {Γ : Ev} {k k1 k2 : Bool} {e a b i o : Expr} {es : List Expr} {pos p : Pos} {D : Ends} {ss : List Stmt} {st : Stmt} {α β : Type} [R α] [R β]
theorem xcatT {t u : Tup α} (ha : XE X B F0 Γ a k t) (hb : XE X B F0 Γ b k u) (hz : t.items.length + u.items.length ≤ sizeLine) : XE X B F0 Γ (.BinOp a .Add b pos) k (Tup.mk (t.items ++ u.items)) := fun F σ H Q A q =>
  WE.of (pe_op op_catA can_e can_e) (x_twoF ha hb A fun F' H' v w g ⟨p1, vs, e1, h1, q1⟩ ⟨p2, ws, e2, h2, q2⟩ => by
    have l1 := Reps.length q1
    have l2 := Reps.length q2
    refine ⟨p1, p2, vs, ws, e1, e2, SqT.of (g.fh _ _ (rf_sub _ _ h1)), SqT.of (g.fh _ _ (rf_sub _ _ h2)), by rw [l1, l2]; exact hz, fun z => ?_, fun _ z => ?_, fun _ _ p np => ?_⟩
    · subst z
      have : t.items = [] := by cases h : t.items with | nil => rfl | cons _ _ => rw [h] at l1; simp at l1
      refine q F' H' _ g ⟨p2, ws, rfl, h2, ?_⟩
      show Reps _ _ _ (t.items ++ u.items)
      rw [this]; exact q2
    · subst z
      have : u.items = [] := by cases h : u.items with | nil => rfl | cons _ _ => rw [h] at l2; simp at l2
      refine q F' H' _ g ⟨p1, vs, rfl, h1, ?_⟩
      show Reps _ _ _ (t.items ++ u.items)
      rw [this, List.append_nil]; exact q1
    · exact q _ _ _ (g.trans (Grow.new g.fh np)) ⟨p, _, rfl, tup_in, Reps.mono (rf_mono (sub_upd (g.fh.free np))) (Reps.append q1 q2)⟩)
theorem cut_whole {l : List α} {lo hi : Option Int} (h : HT.sIx l.length 0 lo = 0 ∧ HT.sIx l.length l.length hi = l.length) : cut l lo hi = l := by
  unfold cut
  rw [h.1, h.2, List.drop_zero, Nat.sub_zero, List.take_length]
theorem xslT {t : Tup α} {lo hi : Option Expr} {i j : Option Int} {p2 : Pos} (ha : XE X B F0 Γ a k t) (hl : XP X B F0 Γ lo i) (hh : XP X B F0 Γ hi j) : XE X B F0 Γ (.Subscript a (.Slice lo hi none p2) pos) k (Tup.mk (cut t.items i j)) := fun F σ H Q A q => by
  obtain ⟨tl, pl, hl⟩ := hl
  obtain ⟨th, ph, hh⟩ := hh
  refine WE.of (pe_slice sl_tupA can_e pl ph) (ha F σ H _ A fun F1 H1 v g r => hl F1 σ H1 _ (A.grow g) fun F2 H2 g2 => hh F2 σ H2 _ (A.grow (g.trans g2)) fun F3 H3 g3 => ?_)
  obtain ⟨p, vs, e, hp, rs⟩ := R.mono (rf_mono (g2.trans g3).ff) r
  have l1 := Reps.length rs
  refine ⟨p, vs, e, SqT.of (g3.fh _ _ (rf_sub _ _ hp)), fun w => ?_, fun w l nl => ?_⟩
  · refine q F3 H3 _ (g.trans (g2.trans g3)) ⟨p, vs, rfl, hp, ?_⟩
    show Reps _ _ _ (cut t.items i j)
    rw [cut_whole (by rw [← l1]; exact w)]; exact rs
  · exact q _ _ _ ((g.trans (g2.trans g3)).trans (Grow.new g3.fh nl)) ⟨l, _, rfl, tup_in, (Reps.cut rs i j).mono (rf_mono (sub_upd (g3.fh.free nl)))⟩
/-- xs.extend(t), t a tuple -/
def rExtendT : V → List V → Hp → VK → Prop := fun x vs H Q => ∃ l b xs zs, x = .ref l ∧ vs = [.ref b] ∧ H l = some (.lst xs) ∧ H b = some (.tup zs) ∧ xs.length + zs.length ≤ sizeLine ∧ Q .non (upd H l (.lst (xs ++ zs)))
end
end Cb
namespace Cb
open PySem PySem.Spec L2
open PyProof.Rows hiding St
/-- a list, or a tuple -/
structure Sq (α : Type) where
  tup : Bool
  items : List α
def sqRep {α : Type} [R α] (K : Kf) (F : Hp) (v : V) (s : Sq α) : Prop := match s.tup with
  | true => R.rep K F v (Tup.mk s.items)
  | false => R.rep K F v s.items
instance {α : Type} [R α] : R (Sq α) := ⟨sqRep, fun {K F F' v s} h r => by
  unfold sqRep at *
  cases e : s.tup with
  | true => rw [e] at r; exact R.mono h r
  | false => rw [e] at r; exact R.mono h r⟩
section
variable {X : Cx} {B F0 : Hp} {Γ : Ev} {k k1 k2 : Bool} {e a b i o : Expr} {es : List Expr} {pos p : Pos} {D : Ends} {ss : List Stmt} {st : Stmt} {α β : Type} [R α] [R β]
theorem XV.sqL {l : List α} (h : XV X B F0 Γ e l) : XV X B F0 Γ e (Sq.mk false l) := h
theorem XV.sqT {t : Tup α} (h : XV X B F0 Γ e t) : XV X B F0 Γ e (Sq.mk true t.items) := h
theorem XE.sqL {l : List α} (h : XE X B F0 Γ e k l) : XE X B F0 Γ e k (Sq.mk false l) := h
theorem XE.sqT {t : Tup α} (h : XE X B F0 Γ e k t) : XE X B F0 Γ e k (Sq.mk true t.items) := h
theorem cx_inQ [DecidableEq α] [Flat α] {x : α} {s : Sq α} : CmpX X .In x s (decide (x ∈ s.items)) := by
  obtain ⟨t, l⟩ := s
  cases t
  · obtain ⟨r, h1, h2⟩ := (cx_in (X := X) (x := x) (as := l)).ex
    exact ⟨r, h1, h2⟩
  · obtain ⟨r, h1, h2⟩ := (cx_inT (X := X) (x := x) (t := Tup.mk l)).ex
    exact ⟨r, h1, h2⟩
theorem cx_ninQ [DecidableEq α] [Flat α] {x : α} {s : Sq α} : CmpX X .NotIn x s (!decide (x ∈ s.items)) := by
  obtain ⟨t, l⟩ := s
  cases t
  · obtain ⟨r, h1, h2⟩ := (cx_nin (X := X) (x := x) (as := l)).ex
    exact ⟨r, h1, h2⟩
  · obtain ⟨r, h1, h2⟩ := (cx_ninT (X := X) (x := x) (t := Tup.mk l)).ex
    exact ⟨r, h1, h2⟩
theorem xlenQ {s : Sq α} (ml : X.mg "len" = none) (ha : XV X B F0 Γ a s) (hg : Gl X "len" := by rfl) (hs : starEach [a] X.env = (false, eval a X.env) :: starEach [] X.env := by rfl) : XE X B F0 Γ (.Call (.Name "len" p) [a] [] pos) k (s.items.length : Int) := by
  obtain ⟨t, l⟩ := s
  cases t
  · exact xlen (as := l) ml ha hg hs
  · exact xlenT (t := Tup.mk l) ml ha hg hs
theorem xslQ {s : Sq α} {lo hi : Option Expr} {i j : Option Int} {p2 : Pos} (ha : XE X B F0 Γ a k s) (hl : XP X B F0 Γ lo i) (hh : XP X B F0 Γ hi j) : XE X B F0 Γ (.Subscript a (.Slice lo hi none p2) pos) k (Sq.mk s.tup (cut s.items i j)) := by
  obtain ⟨t, l⟩ := s
  cases t
  · exact (xsl (as := l) ha hl hh).fz
  · exact xslT (t := Tup.mk l) ha hl hh
theorem xi_sq {tg : Expr} {s : Sq α} (h : XE X B F0 Γ e k s) : XI X B F0 Γ tg e k s.items := by
  obtain ⟨t, l⟩ := s
  cases t
  · -- a list
    have q := xi_list (tg := tg) (as := l) h
    exact q
  · exact xi_tup (tg := tg) (t := Tup.mk l) h
theorem xtupOfQ {s : Sq α} (ml : X.mg "tuple" = none) (ha : XE X B F0 Γ a k s) (hg : Gl X "tuple" := by rfl) (hs : starEach [a] X.env = (false, eval a X.env) :: starEach [] X.env := by rfl) : XE X B F0 Γ (.Call (.Name "tuple" p) [a] [] pos) k (Tup.mk s.items) := by
  obtain ⟨t, l⟩ := s
  cases t
  · exact xtupOf (as := l) ml ha hg hs
  · exact xtupOfT (t := Tup.mk l) ml ha hg hs
/-- isinstance(x, (list, tuple)) of such a thing -/
theorem xisiQ {s : Sq α} {p1 p2 p3 : Pos} {x1 : Nat} (mi : X.mg "isinstance" = none) (m1 : X.mg "list" = none) (m2 : X.mg "tuple" = none) (ha : XV X B F0 Γ a s) (hg : Gl X "isinstance" := by rfl) (hg1 : Gl X "list" := by rfl) (hg2 : Gl X "tuple" := by rfl)
    (hs : starEach [a, .Tuple [.Name "list" p1, .Name "tuple" p2] x1 p3] X.env = (false, eval a X.env) :: starEach [.Tuple [.Name "list" p1, .Name "tuple" p2] x1 p3] X.env := by rfl) (hs2 : starEach [.Tuple [.Name "list" p1, .Name "tuple" p2] x1 p3] X.env = (false, eval (.Tuple [.Name "list" p1, .Name "tuple" p2] x1 p3) X.env) :: starEach [] X.env := by rfl)
    (hs3 : starEach [.Name "list" p1, .Name "tuple" p2] X.env = (false, eval (.Name "list" p1) X.env) :: starEach [.Name "tuple" p2] X.env := by rfl) (hs4 : starEach [.Name "tuple" p2] X.env = (false, eval (.Name "tuple" p2) X.env) :: starEach [] X.env := by rfl)
    (hpl : (backTo pos (starEach [.Tuple [.Name "list" p1, .Name "tuple" p2] x1 p3] X.env)).any (·.1) = false := by rfl) : XE X B F0 Γ (.Call (.Name "isinstance" p) [a, .Tuple [.Name "list" p1, .Name "tuple" p2] x1 p3] [] pos) k true := fun F σ H Q A q =>
  WE.of (pe_callB call_isiT hg mi (by decide +kernel) (pa_cons can_e (pa_cons (pe_tup (pa_cons (pe_bltn (v := .ty "list") hg1 m1 (by decide +kernel) rfl) (pa_cons (pe_bltn (v := .ty "tuple") hg2 m2 (by decide +kernel) rfl) pa_nil hs4) hs3)) pa_nil hs2) hs) (by decide) (by decide) (he := hs) (hpl := hpl))
    (ha F σ H _ A fun F' H' v g r => by
      refine ⟨small (by decide), fun T nT => ?_⟩
      have g2 := g.trans (Grow.newH (o := .tup [.ty "list", .ty "tuple"]) g.fh nT)
      have tx : ∃ t, TyX X.K (upd H' T (.tup [.ty "list", .ty "tuple"])) v (.type t) ∧ PySem.W.kitAny X.K (.type t) [.type "list", .type "tuple"] = some true := by
        have r' : R.rep X.K (upd H' T (.tup [.ty "list", .ty "tuple"])) v s := R.mono (sub_upd nT) r
        obtain ⟨t, l⟩ := s
        cases t
        · exact ⟨"list", TyN.tx (α := List α) (a := l) r', kitAny_cons (b := true) (kit_ty (by decide +kernel)) (fun z => by cases z) fun _ => rfl⟩
        · exact ⟨"tuple", TyN.tx (α := Tup α) (a := Tup.mk l) r', kitAny_cons (b := false) (kit_ty (by decide +kernel)) (fun _ => kitAny_cons (b := true) (kit_ty (by decide +kernel)) (fun z => by cases z) fun _ => rfl) fun z => by cases z⟩
      obtain ⟨t, t1, t2⟩ := tx
      exact ⟨v, T, _, _, [.type "list", .type "tuple"], true, rfl, upd_same, .cons (.ty _) (.cons (.ty _) .nil), t1, t2, q F' _ _ g2 rfl⟩)
end
end Cb

set_option Elab.async false
set_option linter.all false
set_option maxRecDepth 100000
/-! Cb10: great numbers; a list taken back; targets of a list -/
namespace Cb
open PySem PySem.Spec L2
open PyProof.Rows hiding St

/-! ### great numbers -/
def Big (n : Nat) (i : Int) : Prop := i.natAbs < 2 ^ n
theorem Big.mono {n m : Nat} {i : Int} (h : Big n i) (l : n ≤ m) : Big m i := Nat.lt_of_lt_of_le h (Nat.pow_le_pow_right (by decide) l)
theorem Big.add {n : Nat} {i j : Int} (h : Big n i) (h' : Big n j) : Big (n + 1) (i + j) := by
  unfold Big at *
  rw [Nat.pow_succ]
  omega
theorem Big.mul {n m : Nat} {i j : Int} (h : Big n i) (h' : Big m j) : Big (n + m) (i * j) := by
  unfold Big at *
  rw [Int.natAbs_mul, Nat.pow_add]
  exact Nat.mul_lt_mul'' h h'
theorem Big.small {n : Nat} {i : Int} (h : i.natAbs < 2 ^ 60) (l : 60 ≤ n) : Big n i := Big.mono (n := 60) h l
theorem Big.ok {n m : Nat} {i j : Int} (h : Big n i) (h' : Big m j) (h0 : 0 < n) (h1 : 0 < m) (l : n + m ≤ 100000000) : IntMulOk i j := by
  have b : ∀ x : Int, Builtin.Int.intBits x ≤ x.natAbs.log2 + 1 := fun x => by
    unfold Builtin.Int.intBits
    split <;> omega
  have x := PySem.Flt.log2_lt_of h0 h
  have y := PySem.Flt.log2_lt_of h1 h'
  have b1 := b i
  have b2 := b j
  have e : bitsLine = 134217728 := by decide
  unfold IntMulOk
  intro z
  rw [Bool.and_eq_true] at z
  have z2 := z.2
  unfold Builtin.Int.intTooBig at z2
  have z3 := of_decide_eq_true z2
  rw [e] at z3
  omega
theorem Big.bits {i : Int} (h : Builtin.Int.intBits i ≤ 1048576) : Big 1048577 i := by
  unfold Big
  unfold Builtin.Int.intBits at h
  split at h
  · rename_i z
    have e : i.natAbs = 0 := by simpa using z
    rw [e]
    exact Nat.pow_pos (by decide)
  · exact Nat.lt_of_lt_of_le Nat.lt_log2_self (Nat.pow_le_pow_right (by decide) (by omega))
section
variable {X : Cx} {B F0 : Hp} {Γ : Ev} {k k1 k2 : Bool} {e a b i o : Expr} {es : List Expr} {pos p : Pos} {D : Ends} {ss : List Stmt} {st : Stmt} {α β γ : Type} [R α] [R β] [R γ]
theorem op_mulB : OpR X (binaryOp .Mult) (rI IntMulOk fun i j => .int (i * j)) := opI fun _ _ _ _ _ _ _ hc q => mul_int q hc
theorem xmulB {i j : Int} (ha : XV X B F0 Γ a i) (hb : XV X B F0 Γ b j) (c : IntMulOk i j) : XE X B F0 Γ (.BinOp a .Mult b pos) k (i * j) := x_op op_mulB ha hb fun H v w Q r1 r2 q => ⟨i, j, r1, r2, c, q _ fun _ => rfl⟩

/-! ### lengths of tuples of several kinds; their heads -/
theorem xlen2 {x : α × β} (ml : X.mg "len" = none) (ha : XV X B F0 Γ a x) (hg : Gl X "len" := by rfl) (hs : starEach [a] X.env = (false, eval a X.env) :: starEach [] X.env := by rfl) : XE X B F0 Γ (.Call (.Name "len" p) [a] [] pos) k (2 : Int) :=
  XA.one call_len_seq hg ml PySem.boot_len ha (fun H v Q ⟨q, v1, v2, e, hp, r⟩ h => ⟨q, _, by rw [e], .inr (SqT.of hp), h _ fun _ => rfl⟩) (hs := hs)
theorem xlen3 {x : T3 α β γ} (ml : X.mg "len" = none) (ha : XV X B F0 Γ a x) (hg : Gl X "len" := by rfl) (hs : starEach [a] X.env = (false, eval a X.env) :: starEach [] X.env := by rfl) : XE X B F0 Γ (.Call (.Name "len" p) [a] [] pos) k (3 : Int) :=
  XA.one call_len_seq hg ml PySem.boot_len ha (fun H v Q ⟨q, v1, v2, v3, e, hp, r⟩ h => ⟨q, _, by rw [e], .inr (SqT.of hp), h _ fun _ => rfl⟩) (hs := hs)
/-- t[:2] of a tuple of three -/
theorem xsl3_2 {x : T3 α α β} {p2 p3 : Pos} {j : Nat} (ha : XE X B F0 Γ a k x) : XE X B F0 Γ (.Subscript a (.Slice none (some (.Constant (.int 2) j p3)) none p2) pos) k (Tup.mk [x.a, x.b]) := fun F σ H Q A q => by
  obtain ⟨t2, po2, h2⟩ := xp (X := X) (B := B) (F0 := F0) (Γ := Γ) (e := .Constant (.int 2) j p3) (i := 2) iv
  refine WE.of (pe_slice sl_tupA can_e po_none po2) (ha F σ H _ A fun F1 H1 v g r => h2 F1 σ H1 _ (A.grow g) fun F2 H2 g2 => ?_)
  obtain ⟨p, v1, v2, v3, e, hp, r1, r2, r3⟩ := R.mono (rf_mono g2.ff) r
  refine ⟨p, _, e, SqT.of (g2.fh _ _ (rf_sub _ _ hp)), fun w => ?_, fun w l nl => ?_⟩
  · exact absurd w.2 (by show ¬ HT.sIx 3 3 (some ((2 : Nat) : Int)) = 3; rw [HT.sIx_nat]; decide)
  · exact q _ _ _ ((g.trans g2).trans (Grow.new g2.fh nl)) ⟨l, [v1, v2], rfl, tup_in, .cons (R.mono (rf_mono (sub_upd (g2.fh.free nl))) r1) (.cons (R.mono (rf_mono (sub_upd (g2.fh.free nl))) r2) .nil)⟩

/-! ### a frozen new list is taken back -/
/-- what leans on tuples alone -/
def Slot.Indep (s : Slot) : Prop := ∀ {K : Kf} {B F : Hp} {o : Option V} {O : Hp}, s.ok K B F o O → s.ok K B (tups F) o O
theorem ind_junk : Slot.Indep junk := fun _ => trivial
theorem rf_tups {k : Bool} {B F : Hp} : Same (tups F) (rf k B (tups F)) := fun b o e => by
  obtain ⟨q, t⟩ := tups_is e
  cases k
  · exact e
  · exact res_at e (.inl t)
theorem pure_tups {α : Type} [R α] [Pure α] {K : Kf} {B F : Hp} {v : V} {a : α} {k : Bool} (r : R.rep K (rf k B F) v a) : R.rep K (rf k B (tups F)) v a :=
  R.mono ((fun b o e => by
    obtain ⟨q, t⟩ := tups_is e
    exact rf_tups _ _ (tups_at (rf_sub _ _ q) t)) : Same (tups (rf k B F)) (rf k B (tups F))) (Pure.tup r)
theorem ind_vl {α : Type} [R α] [Pure α] {k : Bool} {a : α} : Slot.Indep (vl k a) := fun ⟨v, e, r⟩ => ⟨v, e, pure_tups r⟩
theorem ind_own {α : Type} [R α] [Pure α] {k : Bool} {as : List α} : Slot.Indep (ownd k as) := fun ⟨v, e, p, vs, e2, hp, r⟩ => ⟨v, e, p, vs, e2, hp, Paired.mono (fun _ _ x => pure_tups x) r⟩
theorem ind_pr {α : Type} [R α] {a : α} : Slot.Indep (pr a) := fun h => h
inductive AllI : Ev → Prop
  | nil : AllI []
  | cons {s : Slot} {Γ : Ev} (h : s.Indep) (t : AllI Γ) : AllI (s :: Γ)
theorem AllI.all {Γ : Ev} (h : AllI Γ) : ∀ s ∈ Γ, s.Indep := by
  induction h with
  | nil => intro s hs; cases hs
  | cons h _ ih =>
    intro s hs
    rcases List.mem_cons.mp hs with rfl | hs
    · exact h
    · exact ih s hs
theorem Slots.tups' {K : Kf} {B F : Hp} : ∀ {Γ : Ev} {σ : St} {O : Hp}, (∀ s ∈ Γ, s.Indep) → Slots K B F Γ σ O → Slots K B (tups F) Γ σ O
  | [], [], _, _, _ => trivial
  | s :: Γ, o :: σ, O, h, ⟨O1, O2, a, b, c, d, e⟩ => ⟨O1, O2, a, b, c, h s List.mem_cons_self d, Slots.tups' (fun s hs => h s (List.mem_cons_of_mem _ hs)) e⟩
  | [], _ :: _, _, _, h => h.elim
  | _ :: _, [], _, _, h => h.elim
theorem ts_reown [Pure α] {as : List α} (i : Nat) (hΓ : Γ[i]? = some (vl true as)) (hF : F0 = B) (hI : ∀ s ∈ Γ.set i junk, s.Indep) (ht : TSs X B F0 (Γ.set i (ownd true as)) ss D) : TSs X B F0 Γ ss D := fun F σ H A => by
  obtain ⟨⟨O, s, so, d, nt⟩, sF, sB, s0, bf⟩ := A
  obtain ⟨o, O1, Or, e1, h1, h2, h3, ⟨v, rfl, p, vs, rfl, hp, r⟩, h5⟩ := s.focus hΓ
  obtain ⟨fp, tp⟩ := res_is (show res B F p = some (.lst vs) from hp)
  have nB : B p = none := tp.resolve_left (by intro z; cases z)
  have hOp : O p = none := by
    cases w : O p with
    | none => rfl
    | some u => have := (d p (by rw [w]; simp)).1; rw [fp] at this; cases this
  have hσ : σ.set i (some (.ref p)) = σ := by
    apply List.ext_getElem?
    intro l
    by_cases hl : i = l
    · subst hl
      have hl : i < σ.length := by
        rcases Nat.lt_or_ge i σ.length with z | z
        · exact z
        · rw [List.getElem?_eq_none z] at e1; cases e1
      rw [List.getElem?_set_self hl]; exact e1.symm
    · rw [List.getElem?_set_ne hl]
  -- all but the list at p
  let F' : Hp := fun x => if x = p then none else F x
  have hF' : Same F' F := fun b u e => by
    by_cases z : b = p
    · have : F' b = none := if_pos z
      rw [this] at e; cases e
    · have : F' b = F b := if_neg z
      rw [this] at e; exact e
  have tF : Same (tups F) F' := fun b u e => by
    obtain ⟨q, t⟩ := tups_is e
    have : b ≠ p := fun z => by subst z; rw [fp] at q; cases q; cases t
    show (if b = p then none else F b) = _
    rw [if_neg this]; exact q
  have sJ : Slots X.K B F (Γ.set i junk) (σ.set i none) O := h5 F junk none (fun _ => none) O (Same.refl _) trivial (fun _ _ z => nomatch z) h2 fun x => .inl rfl
  have sT : Slots X.K B F' (Γ.set i junk) (σ.set i none) O := (Slots.tups' hI sJ).mono tF
  have iL : i < Γ.length := by
    rcases Nat.lt_or_ge i Γ.length with z | z
    · exact z
    · rw [List.getElem?_eq_none z] at hΓ; cases hΓ
  obtain ⟨o', P1, Pr, e2, q1, q2, q3, _, q5⟩ := sT.focus (i := i) (s := junk) (by rw [List.getElem?_set_self iL])
  have pH : H p = some (.lst vs) := sF _ _ fp
  have s1 : Same (one p (.lst vs)) H := one_sub pH
  have sP : Same Pr H := q2.trans so
  have nPr : Pr p = none := by
    cases w : Pr p with
    | none => rfl
    | some u => rw [q2 _ _ w] at hOp; cases hOp
  have rT : Reps X.K (rf true B F') vs as := Paired.mono (fun _ _ x => R.mono (rf_mono tF) (pure_tups x)) r
  have key := q5 F' (ownd true as) (some (.ref p)) (one p (.lst vs)) (join (one p (.lst vs)) Pr) (Same.refl _) ⟨_, rfl, p, vs, rfl, one_at, rT⟩ (join_left _ _) (join_right s1 sP) fun x => by
    by_cases z : x = p
    · subst z; exact .inr nPr
    · left; unfold one; rw [if_neg z]
  rw [List.set_set, List.set_set, hσ] at key
  refine ht F' σ H ⟨⟨_, key, join_sub s1 sP, fun x hx => ?_, fun x u w => ?_⟩, hF'.trans sF, sB, ?_, ?_⟩
  · by_cases z : x = p
    · subst z; exact ⟨if_pos rfl, nB⟩
    · cases w : join (one p (.lst vs)) Pr x with
      | none => exact absurd w hx
      | some u =>
        rcases join_is w with q | q
        · exact absurd (one_is q).1 z
        · have hO : O x ≠ none := by rw [q2 _ _ q]; simp
          exact ⟨(if_neg z : F' x = F x).trans (d x hO).1, (d x hO).2⟩
  · rcases join_is w with q | q
    · obtain ⟨rfl, rfl⟩ := one_is q; rfl
    · exact nt _ _ (q2 _ _ q)
  · subst hF
    intro b u e
    have : b ≠ p := fun z => by subst z; rw [nB] at e; cases e
    show (if b = p then none else F b) = _
    rw [if_neg this]; exact s0 _ _ e
  · intro b u e
    have : b ≠ p := fun z => by subst z; rw [nB] at e; cases e
    show (if b = p then none else F b) = _
    rw [if_neg this]; exact bf _ _ e
/-- name, name = [a, b] -/
theorem tg_unl2 {x y : α} {t1 t2 : Expr} {kk : Nat} {p : Pos} {is1 is2 : List Nat} {U1 U2 : Ev → Ev} (hc : X.calm = true) (h1 : TGt X B t1 k x is1 U1) (h2 : TGt X B t2 k y is2 U2)
    (hs : (assignEach [t1, t2] X.env).map (·.2) = assign t1 X.env :: (assignEach [t2] X.env).map (·.2) := by rfl) (hs2 : (assignEach [t2] X.env).map (·.2) = assign t2 X.env :: (assignEach [] X.env).map (·.2) := by rfl)
    (hn : (assignEach [t1, t2] X.env).length = 2 := by rfl) (hst : (assignEach [t1, t2] X.env).findIdx? (·.1) = none := by rfl) :
    TGt X B (.Tuple [t1, t2] kk p) k [x, y] (is1 ++ is2) (fun Γ => U2 (U1 Γ)) := fun F0 Γ F σ H v Q A r q => by
  obtain ⟨pa, vs, ev, ep, rr⟩ := r
  cases rr with
  | cons r1 t =>
    cases t with
    | cons r2 t =>
      cases t
      refine WG.of (pg_unl hc (pgs_cons can_g (pgs_cons can_g pgs_nil hs2) hs) hn hst) ⟨pa, _, ev, SqL.of (A.sF _ _ (rf_sub _ _ ep)), rfl, _, _, rfl, ?_⟩
      refine h1 F0 Γ F σ H _ _ A r1 fun σ1 g1 l1 A1 => ⟨_, [], rfl, h2 F0 _ F σ1 H _ _ A1 r2 fun σ2 g2 l2 A2 => ⟨rfl, q σ2 (fun j hj => ?_) (l2.trans l1) A2⟩⟩
      rw [g2 j (fun z => hj (by simp [z])), g1 j (fun z => hj (by simp [z]))]
end
end Cb
namespace Cb
open PySem PySem.Spec L2
open PyProof.Rows hiding St
section
variable {X : Cx} {B F0 : Hp} {Γ : Ev} {k : Bool} {pos : Pos}
/-- a whole number of the module -/
theorem xgi {n : Str} {i : Int} (h : ∃ t, X.mg n = some (.int i t)) (hg : Gl X n := by rfl) (hd : (n == ("__debug__" : Str)) = false := by decide) : XE X B F0 Γ (.Name n pos) k i := by
  obtain ⟨t, e⟩ := h
  exact x_const (v := .int i) (pe_glob hg e ⟨t, rfl⟩ hd) fun _ => rfl
end
end Cb
namespace Cb
open PySem PySem.Spec L2
open PyProof.Rows hiding St
/-- data without texts -/
class DatT (α : Type) [R α] [DecidableEq α] [Dat α] : Prop where
  ok : ∀ a : α, Dat.ok a
instance : DatT Int := ⟨fun _ => trivial⟩
instance : DatT Bool := ⟨fun _ => trivial⟩
section
variable {α β γ : Type} [R α] [DecidableEq α] [Dat α] [DatT α] [R β] [DecidableEq β] [Dat β] [DatT β] [R γ] [DecidableEq γ] [Dat γ] [DatT γ]
instance : DatT (List α) := ⟨fun _ a _ => DatT.ok a⟩
instance : DatT (Tup α) := ⟨fun _ a _ => DatT.ok a⟩
instance : DatT (α × β) := ⟨fun _ => ⟨DatT.ok _, DatT.ok _⟩⟩
instance : DatT (T3 α β γ) := ⟨fun _ => ⟨DatT.ok _, DatT.ok _, DatT.ok _⟩⟩
instance : DatT (T4 α β γ γ) := ⟨fun _ => ⟨DatT.ok _, DatT.ok _, DatT.ok _, DatT.ok _⟩⟩
end
end Cb

set_option Elab.async false
set_option linter.all false
set_option maxRecDepth 100000
/-! Cb11: a list that owns its lists -/
namespace Cb
open PySem PySem.Spec L2
open PyProof.Rows hiding St
section
variable {X : Cx} {B F0 : Hp} {Γ : Ev} {k k1 k2 : Bool} {e a b i o : Expr} {es : List Expr} {pos p : Pos} {D : Ends} {ss : List Stmt} {st : Stmt}
theorem set_self {σ : St} {i : Nat} {v : Option V} (e1 : σ[i]? = some v) : σ.set i v = σ := by
  apply List.ext_getElem?
  intro j
  by_cases hj : i = j
  · subst hj
    have hl : i < σ.length := by
      rcases Nat.lt_or_ge i σ.length with z | z
      · exact z
      · rw [List.getElem?_eq_none z] at e1; cases e1
    rw [List.getElem?_set_self hl]; exact e1.symm
  · rw [List.getElem?_set_ne hj]
theorem grow_free {F H F' H' O : Hp} (g : Grow F H F' H') (so : Same O H) (d : ∀ x, O x ≠ none → F x = none) (nt : ∀ x o, O x = some o → isTup o = false) {x : Addr} {o : HO} (e : O x = some o) : F' x = none := by
  cases q : F' x with
  | none => rfl
  | some o' =>
    rcases g.nw x o' q with z | z | z
    · rw [d x (by rw [e]; simp)] at z; cases z
    · rw [so _ _ e] at z; cases z
    · have e1 := g.fh _ _ q
      have e2 := g.hh _ _ (so _ _ e)
      rw [e1] at e2; cases e2
      rw [nt _ _ e] at z; cases z
/-- an owned thing in hand: one of its list cells may be written, and new cells may join it -/
theorem AS.poke {β β' : Type} [Ow β] [Ow β'] {b : β} {K : Kf} {F : Hp} {σ : St} {H : Hp} {i : Nat} (A : AS K B F0 Γ F σ H) (e : Γ[i]? = some (ownd k b)) :
    ∃ v O1, σ[i]? = some (some v) ∧ Same O1 H ∧ Ow.own K (rf k B F) v b O1 ∧
      ∀ F' H' O' q xs xs' (b' : β'), Grow F H F' H' → O1 q = some (.lst xs) → Same O' H' → (∀ x o, O' x = some o → H x = none ∧ F' x = none ∧ isTup o = false) → Ow.own K (rf k B F') v b' (upd (join O' O1) q (.lst xs')) →
        AS K B F0 (Γ.set i (ownd k b')) F' σ (upd H' q (.lst xs')) := by
  obtain ⟨⟨O, s, so, d, nt⟩, sF, sB, s0, bf⟩ := id A
  obtain ⟨o, O1, Or, e1, h1, h2, h3, ⟨v, rfl, r⟩, h5⟩ := s.focus e
  refine ⟨v, O1, e1, h1.trans so, r, fun F' H' O' q xs xs' b' g hq sO' nO' own => ?_⟩
  have qO : O q = some (.lst xs) := h1 _ _ hq
  have qH : H q = some (.lst xs) := so _ _ qO
  have dq := d q (by rw [qO]; simp)
  have A' := A.grow g
  have fr : ∀ {x : Addr} {o : HO}, O x = some o → F' x = none := fun e => grow_free g so (fun x hx => (d x hx).1) nt e
  have hF' : F' q = none := fr qO
  have hOr : Or q = none := (h3 q).resolve_left (by rw [hq]; simp)
  have sj : Same (join O' O1) H' := join_sub sO' ((h1.trans so).trans g.hh)
  have sN : Same (upd (join O' O1) q (.lst xs')) (upd H' q (.lst xs')) := fun b u q' => by
    by_cases z : b = q
    · subst z; rw [upd_same] at q' ⊢; exact q'
    · rw [upd_ne z] at q' ⊢; exact sj _ _ q'
  have sOr : Same Or (upd H' q (.lst xs')) := fun b u q' => by
    rw [upd_ne (ne_of_none q' hOr)]; exact g.hh _ _ (so _ _ (h2 _ _ q'))
  have key := h5 F' (ownd k b') (some v) (upd (join O' O1) q (.lst xs')) (join (upd (join O' O1) q (.lst xs')) Or) g.ff ⟨v, rfl, own⟩ (join_left _ _) (join_right sN sOr) fun x => by
    cases w : Or x with
    | none => exact .inr rfl
    | some u =>
      left
      have ne : x ≠ q := fun z => by subst z; rw [hOr] at w; cases w
      rw [upd_ne ne]
      unfold join
      cases w2 : O' x with
      | none => exact (h3 x).resolve_right (by rw [w]; simp)
      | some u2 =>
        have := (nO' x u2 w2).1
        rw [so _ _ (h2 _ _ w)] at this; cases this
  rw [set_self e1] at key
  refine ⟨⟨_, key, join_sub sN sOr, fun x hx => ?_, fun x o q' => ?_⟩, fun b u q' => ?_, fun b u q' => ?_, A'.s0, A'.bf⟩
  · cases e : join (upd (join O' O1) q (.lst xs')) Or x with
    | none => exact absurd e hx
    | some o =>
      rcases join_is e with y | y
      · by_cases z : x = q
        · subst z; exact ⟨hF', dq.2⟩
        · rw [upd_ne z] at y
          rcases join_is y with y | y
          · exact ⟨(nO' x o y).2.1, A.sB.free (nO' x o y).1⟩
          · have hO := h1 _ _ y
            exact ⟨fr hO, (d x (by rw [hO]; simp)).2⟩
      · have hO := h2 _ _ y
        exact ⟨fr hO, (d x (by rw [hO]; simp)).2⟩
  · rcases join_is q' with y | y
    · by_cases z : x = q
      · subst z; rw [upd_same] at y; cases y; rfl
      · rw [upd_ne z] at y
        rcases join_is y with y | y
        · exact (nO' x o y).2.2
        · exact nt _ _ (h1 _ _ y)
    · exact nt _ _ (h2 _ _ y)
  · rw [upd_ne (ne_of_none q' hF')]; exact g.fh _ _ q'
  · rw [upd_ne (ne_of_none q' dq.2)]; exact A'.sB _ _ q'
end

/-! ### a list of its own lists -/
structure Nest (α : Type) where
  ls : List (List α)
structure NestO {α : Type} [R α] (K : Kf) (F : Hp) (v : V) (ls : List (List α)) (O : Hp) (p : Addr) (cs : List (Addr × List V)) : Prop where
  v : v = .ref p
  out : O p = some (.lst (cs.map fun c => V.ref c.1))
  nd : (cs.map Prod.fst).Nodup
  np : p ∉ cs.map Prod.fst
  inn : ∀ c ∈ cs, O c.1 = some (.lst c.2)
  rp : Paired (fun (c : Addr × List V) (l : List α) => Reps K F c.2 l) cs ls
theorem nest_reps {α : Type} [R α] {K : Kf} {F G : Hp} (h : Same F G) : ∀ {cs : List (Addr × List V)} {ls : List (List α)}, Paired (fun (c : Addr × List V) (l : List α) => Reps K F c.2 l) cs ls → (∀ c ∈ cs, G c.1 = some (.lst c.2)) → Reps K G (cs.map fun c => V.ref c.1) ls
  | _, _, .nil, _ => .nil
  | _, _, .cons r t, g => .cons ⟨_, _, rfl, g _ List.mem_cons_self, r.mono h⟩ (nest_reps h t fun c hc => g c (List.mem_cons_of_mem _ hc))
instance {α : Type} [R α] : R (Nest α) := ⟨fun K F v n => R.rep K F v n.ls, fun h r => R.mono (α := List (List α)) h r⟩
instance {α : Type} [R α] : Ow (Nest α) where
  own := fun K F v n O => ∃ p cs, NestO K F v n.ls O p cs
  omono := fun h ⟨p, cs, q⟩ => ⟨p, cs, q.v, q.out, q.nd, q.np, q.inn, Paired.mapP q.rp fun _ _ r => r.mono h⟩
  oread := fun {K F H v b O} ⟨p, cs, q⟩ hF hO => ⟨p, _, q.v, hO _ _ q.out, nest_reps hF q.rp fun c hc => hO _ _ (q.inn c hc)⟩
instance {α : Type} [R α] : NN (Nest α) := ⟨fun ⟨_, _, e, _⟩ => nomatch e⟩
theorem Paired.snoc {α β : Type} {P : α → β → Prop} : ∀ {l : List α} {m : List β} {a : α} {b : β}, Paired P l m → P a b → Paired P (l ++ [a]) (m ++ [b])
  | _, _, _, _, .nil, h => .cons h .nil
  | _, _, _, _, .cons r t, h => .cons r (Paired.snoc t h)
theorem Paired.set' {α β : Type} {P : α → β → Prop} : ∀ {l : List α} {m : List β} {a : α} {b : β} (n : Nat), Paired P l m → P a b → Paired P (l.set n a) (m.set n b)
  | _, _, _, _, _, .nil, h => .nil
  | _, _, _, _, 0, .cons r t, h => .cons h t
  | _, _, _, _, n + 1, .cons r t, h => .cons r (Paired.set' n t h)
theorem Paired.get' {α β : Type} {P : α → β → Prop} : ∀ {l : List α} {m : List β} {b : β} (n : Nat), Paired P l m → m[n]? = some b → ∃ a, l[n]? = some a ∧ P a b
  | _, _, _, n, .nil, h => by simp at h
  | _, _, _, 0, .cons r t, h => by
    have e := Option.some.inj h
    subst e
    exact ⟨_, rfl, r⟩
  | _, _, _, n + 1, .cons r t, h => by
    obtain ⟨a, e, q⟩ := Paired.get' n t (by simpa using h)
    exact ⟨a, by simpa using e, q⟩
theorem set_fst {cs : List (Addr × List V)} {t : Nat} {c : Addr × List V} {v : List V} (hc : cs[t]? = some c) : (cs.set t (c.1, v)).map Prod.fst = cs.map Prod.fst := by
  apply List.ext_getElem?
  intro y
  rw [List.getElem?_map, List.getElem?_map]
  by_cases hy : t = y
  · subst hy
    have hl : t < cs.length := by
      rcases Nat.lt_or_ge t cs.length with z | z
      · exact z
      · rw [List.getElem?_eq_none z] at hc; cases hc
    rw [List.getElem?_set_self hl, hc]; rfl
  · rw [List.getElem?_set_ne hy]
theorem nodup_inj : ∀ (l : List Addr), l.Nodup → ∀ (i j : Nat) (x : Addr), l[i]? = some x → l[j]? = some x → i = j
  | [], _, i, _, _, h, _ => by simp at h
  | a :: t, nd, 0, 0, _, _, _ => rfl
  | a :: t, nd, 0, j + 1, x, h, h2 => by
    have e := Option.some.inj h
    subst e
    exact absurd (List.mem_of_getElem? (show t[j]? = some a by simpa using h2)) (List.nodup_cons.mp nd).1
  | a :: t, nd, i + 1, 0, x, h, h2 => by
    have e := Option.some.inj h2
    subst e
    exact absurd (List.mem_of_getElem? (show t[i]? = some a by simpa using h)) (List.nodup_cons.mp nd).1
  | a :: t, nd, i + 1, j + 1, x, h, h2 => congrArg (· + 1) (nodup_inj t (List.nodup_cons.mp nd).2 i j x (by simpa using h) (by simpa using h2))
section
variable {X : Cx} {B F0 : Hp} {Γ : Ev} {k k1 k2 : Bool} {e a b i o ix : Expr} {es : List Expr} {pos p : Pos} {D : Ends} {ss : List Stmt} {st : Stmt} {α : Type} [R α]
theorem xnest0 (h : XO X B F0 Γ e k ([] : List (List α))) : XO X B F0 Γ e k (Nest.mk [] : Nest α) := fun F σ H Q A q =>
  h F σ H Q A fun F' H' v O g so n ⟨p, vs, ev, ep, r⟩ => by
    have e : vs = [] := by cases r; rfl
    subst e
    exact q F' H' v O g so n ⟨p, [], ev, ep, List.nodup_nil, (fun z => by cases z), (fun c hc => by cases hc), .nil⟩
/-- xs.append([..]) -/
theorem ts_nappend {N : Nest α} {l : List α} {n : Str} {p pa cp ep : Pos} (i : Nat) (hΓ : Γ[i]? = some (ownd k N)) (he : XO X B F0 Γ e k l) (hz : N.ls.length < sizeLine) (ht : TSs X B F0 (Γ.set i (ownd k (Nest.mk (N.ls ++ [l])))) ss D)
    (hN : X.N[i]? = some n := by rfl) (hv : Vis X.env.scope n := by first | exact Or.inl rfl | exact Or.inr (Or.inl rfl) | exact Or.inr (Or.inr rfl)) (hd : (n == ("__debug__" : Str)) = false := by decide) (hcd : (n == ("__classdict__" : Str)) = false := by decide)
    (hbase : attributeBase (.Name n p) "append" X.env (eval (.Name n p) X.env) = eval (.Name n p) X.env := by rfl)
    (hfew : ((backTo cp (starEach [e] X.env)).all (fun x => !x.1) && (backToKw cp (keywordEach [] X.env)).all (fun x => x.1.isSome) && decide ([e].length + ([] : List Keyword).length + (if ([] : List Keyword).isEmpty then 0 else 1) < 30)) = true := by rfl)
    (hline : (pa.endLine == cp.line) = true := by rfl) (hst : starEach [e] X.env = (false, eval e X.env) :: starEach [] X.env := by rfl) (hpl : (backTo cp (starEach [] X.env)).any (·.1) = false := by rfl) (hs : swapsWith (.Call (.Attribute (.Name n p) "append" pa) [e] [] cp) none ep.line X.env = pure false := by rfl) :
    TSs X B F0 Γ (.Expr (.Call (.Attribute (.Name n p) "append" pa) [e] [] cp) ep :: ss) D :=
  ts_cons fun F σ H A => WS.of (ps_expr (pe_bm PySem.F.plainAttrs_list PySem.F.slot_list_append PySem.F.type_list_append mt_append (pe_var hN hv hd hcd) (pa_cons can_e pa_nil hst) hbase hfew hline hst hpl) hs) (by
    obtain ⟨v, O1, e1, sO, ⟨p, cs, N1⟩, w⟩ := A.poke (β' := Nest α) hΓ
    obtain ⟨rfl, out, nd, np, inn, rp⟩ := N1
    have hp := sO _ _ out
    refine ⟨.ref p, e1, .inl ⟨rfl, _, SqL.of hp⟩, he F σ H _ A fun F' H' v O g so nn ⟨q, ws, ev, eq, r⟩ => ?_⟩
    subst ev
    have nq := (nn q _ eq).1
    have qp : q ≠ p := fun z => by subst z; rw [hp] at nq; cases nq
    have qc : ∀ c ∈ cs, c.1 ≠ q := fun c hc z => by rw [← z, sO _ _ (inn c hc)] at nq; cases nq
    have nO : ∀ x, H x ≠ none → O x = none := fun x hx => by
      cases w : O x with
      | none => rfl
      | some u => exact absurd (nn x u w).1 hx
    refine ⟨p, _, .ref q, rfl, rfl, g.hh _ _ hp, by rw [List.length_map, Paired.length rp]; exact hz, ht F' σ _ (w F' H' O p _ _ _ g out so nn ⟨p, cs ++ [(q, ws)], rfl, ?_, ?_, ?_, ?_, ?_⟩)⟩
    · rw [upd_same, List.map_append]; rfl
    · rw [List.map_append, List.nodup_append]
      refine ⟨nd, by simp, fun a ha b hb => ?_⟩
      obtain ⟨c, hc, rfl⟩ := List.mem_map.mp ha
      rw [List.map_cons, List.map_nil, List.mem_singleton] at hb
      rw [hb]; exact qc c hc
    · rw [List.map_append, List.mem_append]
      rintro (z | z)
      · exact np z
      · rw [List.map_cons, List.map_nil, List.mem_singleton] at z
        exact qp z.symm
    · intro c hc
      rcases List.mem_append.mp hc with z | z
      · rw [upd_ne (fun z2 => np (by rw [← z2]; exact List.mem_map_of_mem z))]
        unfold join
        rw [nO c.1 (by rw [sO _ _ (inn c z)]; simp)]
        exact inn c z
      · rw [List.mem_singleton.mp z, upd_ne qp]
        exact join_left _ _ _ _ eq
    · exact Paired.snoc (Paired.mapP rp fun _ _ r => Reps.mono (rf_mono g.ff) r) r)
/-- xs[i].append(e) -/
theorem ts_napp {N : Nest α} {l : List α} {x : α} {j : Int} {t : Nat} {n : Str} {p pa cp ep sp : Pos} (i : Nat) (hΓ : Γ[i]? = some (ownd k N)) (hx : XV X B F0 Γ ix j) (he : XE X B F0 Γ e k x) (hj : ixN N.ls.length j = some t) (hl : N.ls[t]? = some l) (hz : l.length < sizeLine)
    (ht : TSs X B F0 (Γ.set i (ownd k (Nest.mk (N.ls.set t (l ++ [x]))))) ss D) (hpi : PlainIx ix := by exact fun _ _ => rfl)
    (hN : X.N[i]? = some n := by rfl) (hv : Vis X.env.scope n := by first | exact Or.inl rfl | exact Or.inr (Or.inl rfl) | exact Or.inr (Or.inr rfl)) (hd : (n == ("__debug__" : Str)) = false := by decide) (hcd : (n == ("__classdict__" : Str)) = false := by decide)
    (hbase : attributeBase (.Subscript (.Name n p) ix sp) "append" X.env (eval (.Subscript (.Name n p) ix sp) X.env) = eval (.Subscript (.Name n p) ix sp) X.env := by rfl)
    (hfew : ((backTo cp (starEach [e] X.env)).all (fun x => !x.1) && (backToKw cp (keywordEach [] X.env)).all (fun x => x.1.isSome) && decide ([e].length + ([] : List Keyword).length + (if ([] : List Keyword).isEmpty then 0 else 1) < 30)) = true := by rfl)
    (hline : (pa.endLine == cp.line) = true := by rfl) (hst : starEach [e] X.env = (false, eval e X.env) :: starEach [] X.env := by rfl) (hpl : (backTo cp (starEach [] X.env)).any (·.1) = false := by rfl) (hs : swapsWith (.Call (.Attribute (.Subscript (.Name n p) ix sp) "append" pa) [e] [] cp) none ep.line X.env = pure false := by rfl) :
    TSs X B F0 Γ (.Expr (.Call (.Attribute (.Subscript (.Name n p) ix sp) "append" pa) [e] [] cp) ep :: ss) D :=
  ts_cons fun F σ H A => WS.of (ps_expr (pe_bm PySem.F.plainAttrs_list PySem.F.slot_list_append PySem.F.type_list_append mt_append (pe_ix ix_list (pe_var hN hv hd hcd) can_e hpi) (pa_cons can_e pa_nil hst) hbase hfew hline hst hpl) hs) (by
    obtain ⟨v, O1, e1, sO, ⟨p, cs, N1⟩, w⟩ := A.poke (β' := Nest α) hΓ
    obtain ⟨rfl, out, nd, np, inn, rp⟩ := N1
    have hp := sO _ _ out
    obtain ⟨c, hc, rc⟩ := Paired.get' t rp hl
    have hcm : c ∈ cs := List.mem_of_getElem? hc
    have hcO := inn c hcm
    refine ⟨.ref p, e1, hx F σ H _ A fun F1 H1 v1 g1 r1 => ?_⟩
    have r1' : v1 = .int j := r1
    subst r1'
    refine ⟨p, _, j, .ref c.1, rfl, rfl, SqL.of (g1.hh _ _ hp), ?_, .inl ⟨rfl, _, SqL.of (g1.hh _ _ (sO _ _ hcO))⟩, he F1 σ H1 _ (A.grow g1) fun F' H' v g2 rv => ?_⟩
    · unfold atI
      rw [List.length_map, Paired.length rp, hj]
      show (cs.map fun c => V.ref c.1)[t]? = _
      rw [List.getElem?_map, hc]; rfl
    have g := g1.trans g2
    refine ⟨c.1, c.2, v, rfl, rfl, g.hh _ _ (sO _ _ hcO), by rw [Reps.length rc]; exact hz, ht F' σ _ (w F' H' (fun _ => none) c.1 c.2 _ _ g hcO (fun _ _ z => nomatch z) (fun _ _ z => nomatch z) ⟨p, cs.set t (c.1, c.2 ++ [v]), rfl, ?_, ?_, ?_, ?_, ?_⟩)⟩
    all_goals have mf := set_fst (v := c.2 ++ [v]) hc
    all_goals have cp : c.1 ≠ p := fun z => np (by rw [← z]; exact List.mem_map_of_mem hcm)
    · rw [upd_ne cp.symm]
      have : (cs.set t (c.1, c.2 ++ [v])).map (fun c => V.ref c.1) = cs.map fun c => V.ref c.1 := by
        have h := congrArg (List.map V.ref) mf
        rw [List.map_map, List.map_map] at h
        exact h
      rw [this]; exact out
    · rw [mf]; exact nd
    · rw [mf]; exact np
    · intro c2 hc2
      obtain ⟨y, hy⟩ := List.mem_iff_getElem?.mp hc2
      by_cases ty : t = y
      · subst ty
        have hl : t < cs.length := by
          rcases Nat.lt_or_ge t cs.length with z | z
          · exact z
          · rw [List.getElem?_eq_none z] at hc; cases hc
        rw [List.getElem?_set_self hl] at hy
        cases hy
        exact upd_same
      · rw [List.getElem?_set_ne ty] at hy
        have hm : c2 ∈ cs := List.mem_of_getElem? hy
        have ne : c2.1 ≠ c.1 := by
          intro z
          apply ty
          have hl1 : (cs.map Prod.fst)[t]? = some c.1 := by rw [List.getElem?_map, hc]; rfl
          have hl2 : (cs.map Prod.fst)[y]? = some c.1 := by rw [List.getElem?_map, hy]; exact congrArg some z
          have l1 : t < (cs.map Prod.fst).length := by
            rcases Nat.lt_or_ge t (cs.map Prod.fst).length with z | z
            · exact z
            · rw [List.getElem?_eq_none z] at hl1; cases hl1
          exact (nodup_inj _ nd t y c.1 hl1 hl2)
        rw [upd_ne ne]
        exact inn c2 hm
    · exact Paired.set' t (Paired.mapP rp fun _ _ r => Reps.mono (rf_mono g.ff) r) ((Reps.mono (rf_mono g.ff) rc).append (.cons rv .nil)))
/-- the inner lists are frozen -/
theorem AS.nfreeze {N : Nest α} {K : Kf} {F : Hp} {σ : St} {H : Hp} {i : Nat} (A : AS K B F0 Γ F σ H) (e : Γ[i]? = some (ownd k N)) : ∃ F', AS K B F0 (Γ.set i (ownd k N.ls)) F' σ H := by
  obtain ⟨⟨O, s, so, d, nt⟩, sF, sB, s0, bf⟩ := A
  obtain ⟨o, O1, Or, e1, h1, h2, h3, ⟨v, rfl, p, cs, rfl, out, nd, np, inn, rp⟩, h5⟩ := s.focus e
  let G : Hp := fun x => if x ∈ cs.map Prod.fst then O1 x else none
  have Gis : ∀ {x u}, G x = some u → O1 x = some u ∧ x ∈ cs.map Prod.fst := fun {x u} q => by
    have q' : (if x ∈ cs.map Prod.fst then O1 x else none) = some u := q
    split at q'
    · exact ⟨q', by assumption⟩
    · cases q'
  have GH : Same G H := fun b u q => so _ _ (h1 _ _ (Gis q).1)
  have FF : Same F (join F G) := join_left _ _
  have sFG : Same (join F G) H := join_sub sF GH
  have atc : ∀ c ∈ cs, (rf k B (join F G)) c.1 = some (.lst c.2) := fun c hc => by
    have hO := h1 _ _ (inn c hc)
    have dc := d c.1 (by rw [hO]; simp)
    refine rf_new ?_ dc.2
    refine join_right sF GH _ _ ?_
    show (if c.1 ∈ cs.map Prod.fst then O1 c.1 else none) = _
    rw [if_pos (List.mem_map_of_mem hc)]
    exact inn c hc
  have hOr : ∀ x, O1 x ≠ none → Or x = none := fun x hx => (h3 x).resolve_left hx
  have sone : Same (one p (.lst (cs.map fun c => V.ref c.1))) O := one_sub (h1 _ _ out)
  have key := h5 (join F G) (ownd k N.ls) (some (.ref p)) (one p (.lst (cs.map fun c => V.ref c.1))) (join (one p (.lst (cs.map fun c => V.ref c.1))) Or) FF ⟨.ref p, rfl, p, _, rfl, one_at, nest_reps (rf_mono FF) rp atc⟩ (join_left _ _) (join_right sone h2) fun x => by
    by_cases z : x = p
    · subst z; exact .inr (hOr x (by rw [out]; simp))
    · left; unfold one; rw [if_neg z]
  rw [set_self e1] at key
  refine ⟨join F G, ⟨_, key, (join_sub sone h2).trans so, fun x hx => ?_, fun x o q => nt _ _ (join_sub sone h2 _ _ q)⟩, sFG, sB, s0.trans FF, bf.trans FF⟩
  cases e : join (one p (.lst (cs.map fun c => V.ref c.1))) Or x with
  | none => exact absurd e hx
  | some u =>
    have hO := join_sub sone h2 _ _ e
    have dx := d x (by rw [hO]; simp)
    refine ⟨?_, dx.2⟩
    unfold join
    rw [dx.1]
    show (if x ∈ cs.map Prod.fst then O1 x else none) = none
    split
    · rename_i hm
      rcases join_is e with q | q
      · obtain ⟨rfl, _⟩ := one_is q; exact absurd hm np
      · rcases h3 x with z | z
        · exact z
        · rw [q] at z; cases z
    · rfl
theorem ts_nfreeze {N : Nest α} (i : Nat) (hΓ : Γ[i]? = some (ownd k N)) (ht : TSs X B F0 (Γ.set i (ownd k N.ls)) ss D) : TSs X B F0 Γ ss D := fun F σ H A =>
  let ⟨F', A'⟩ := A.nfreeze hΓ
  ht F' σ H A'
/-- a pair of things of one kind as a tuple -/
theorem XE.pairT {x y : α} (h : XE X B F0 Γ e k (x, y)) : XE X B F0 Γ e k (Tup.mk [x, y]) := fun F σ H Q A q =>
  h F σ H Q A fun F' H' v g ⟨p, v1, v2, ev, hp, r1, r2⟩ => q F' H' v g ⟨p, _, ev, hp, .cons r1 (.cons r2 .nil)⟩
theorem XV.pairT {x y : α} (h : XV X B F0 Γ e (x, y)) : XV X B F0 Γ e (Tup.mk [x, y]) := fun F σ H Q A q =>
  h F σ H Q A fun F' H' v g ⟨p, v1, v2, ev, hp, r1, r2⟩ => q F' H' v g ⟨p, _, ev, hp, .cons r1 (.cons r2 .nil)⟩
end
end Cb
namespace Cb
open PySem PySem.Spec L2
open PyProof.Rows hiding St
section
variable {X : Cx} {B F0 : Hp} {Γ : Ev} {k k1 k2 : Bool} {e a b : Expr} {pos p : Pos} {D : Ends} {ss : List Stmt} {α β γ : Type} [R α] [R β] [R γ]
/-- {c: x} -/
theorem xd1 {c : Int} {x : β} (ha : XV X B F0 Γ a c) (hb : XE X B F0 Γ b k x) : XO X B F0 Γ (.Dict [some a] [b] pos) k (Dct.mk [(c, x)] : Dct Int β) := fun F σ H Q A q =>
  WE.of (pe_disp (pps_cons can_e can_e pps_nil) (by rfl) (by rfl) (fun z => by cases z) (Nat.le_of_ble_eq_true rfl)) fun p np => by
    have g0 : Grow F H F (upd H p (.dK [])) := Grow.newH A.sF np
    refine ha F σ _ _ (A.grow g0) fun F1 H1 v g1 r1 => hb F1 σ H1 _ ((A.grow g0).grow g1) fun F2 H2 w g2 r2 => ?_
    have r1' : v = .int c := r1
    subst r1'
    have g := g0.trans (g1.trans g2)
    have g12 := g1.trans g2
    have hp : H2 p = some (.dK []) := g12.hh _ _ upd_same
    have fp : F2 p = none := grow_free (O := one p (.dK [])) g12 (one_sub upd_same) (fun x hx => by
      cases w : one p (.dK []) x with
      | none => exact absurd w hx
      | some o => obtain ⟨rfl, _⟩ := one_is w; exact A.sF.free np) (fun x o w => by obtain ⟨rfl, rfl⟩ := one_is w; rfl) one_at
    refine ⟨hp, [(Sum.inl c, w)], rfl, Nat.le_of_ble_eq_true rfl, q F2 _ (.ref p) (one p (DK.ho [(c, w)])) ⟨fun b u z => ?_, g.ff, fun b u z => ?_, g.nw⟩ (one_sub upd_same) (fun x o z => ?_) ⟨p, [(c, w)], rfl, one_at, .cons ⟨rfl, r2⟩ .nil⟩⟩
    · rw [upd_ne (ne_of_none z np)]; exact g.hh _ _ z
    · rw [upd_ne (ne_of_none z fp)]; exact g.fh _ _ z
    · obtain ⟨rfl, rfl⟩ := one_is z
      exact ⟨np, fp, DK.notTup _⟩
/-! ### a list of three things of three kinds -/
structure L3 (α β γ : Type) where
  a : α
  b : β
  c : γ
  deriving DecidableEq
instance : R (L3 α β γ) := ⟨fun K F v t => ∃ p v1 v2 v3, v = .ref p ∧ F p = some (.lst [v1, v2, v3]) ∧ R.rep K F v1 t.a ∧ R.rep K F v2 t.b ∧ R.rep K F v3 t.c, fun h ⟨p, v1, v2, v3, e, q, r1, r2, r3⟩ => ⟨p, v1, v2, v3, e, h _ _ q, R.mono h r1, R.mono h r2, R.mono h r3⟩⟩
instance [DecidableEq α] [Dat α] [DecidableEq β] [Dat β] [DecidableEq γ] [Dat γ] : Dat (L3 α β γ) := ⟨fun a => .list [Dat.dat a.a, Dat.dat a.b, Dat.dat a.c], fun a => Dat.ok a.a ∧ Dat.ok a.b ∧ Dat.ok a.c, max (Dat.dep α) (max (Dat.dep β) (Dat.dep γ)) + 1, fun ⟨p, v1, v2, v3, e, hp, r1, r2, r3⟩ => by subst e; exact .lst (SqL.of hp) (.cons (Dat.dp r1) (.cons (Dat.dp r2) (.cons (Dat.dp r3) .nil))), fun a h => by
  show ((Dat.dat a.a).canLay0 && ((Dat.dat a.b).canLay0 && ((Dat.dat a.c).canLay0 && true))) = true
  rw [Dat.lay _ h.1, Dat.lay _ h.2.1, Dat.lay _ h.2.2]; rfl, fun a => by
  show max (Dat.dat a.a).depth (max (Dat.dat a.b).depth (max (Dat.dat a.c).depth 0)) + 1 ≤ _
  have := Dat.depth a.a
  have := Dat.depth a.b
  have := Dat.depth a.c
  omega, fun a b => by
  show (PyData.eqv (Dat.dat a.a) (Dat.dat b.a) && (PyData.eqv (Dat.dat a.b) (Dat.dat b.b) && (PyData.eqv (Dat.dat a.c) (Dat.dat b.c) && true))) = _
  rw [Dat.eqv, Dat.eqv, Dat.eqv]
  obtain ⟨a1, a2, a3⟩ := a
  obtain ⟨b1, b2, b3⟩ := b
  by_cases h1 : a1 = b1 <;> by_cases h2 : a2 = b2 <;> by_cases h3 : a3 = b3 <;> simp [h1, h2, h3]⟩
end
end Cb
namespace Cb
open PySem PySem.Spec L2
open PyProof.Rows hiding St
theorem XV.nest {X : Cx} {B F0 : Hp} {Γ : Ev} {e : Expr} {α : Type} [R α] {N : Nest α} (h : XV X B F0 Γ e N) : XV X B F0 Γ e N.ls := h
end Cb

set_option Elab.async false
set_option linter.all false
set_option maxRecDepth 100000
/-! Cb12: data in lists; sorted sets of pairs -/
namespace Cb
open PySem PySem.Spec L2
open PyProof.Rows hiding St
section
variable {X : Cx} {B F0 : Hp} {Γ : Ev} {k k1 k2 : Bool} {e a b i o : Expr} {es : List Expr} {pos p : Pos} {D : Ends} {ss : List Stmt} {st : Stmt}
theorem any_dat {α : Type} [R α] [DecidableEq α] [Dat α] (x : α) (as : List α) : ((as.map Dat.dat).any fun z => PyData.eqv z (Dat.dat x)) = decide (x ∈ as) := by
  induction as with
  | nil => rfl
  | cons a t ih =>
    rw [List.map_cons, List.any_cons, ih, Dat.eqv]
    by_cases h1 : a = x
    · subst h1; simp
    · have h2 : ¬ x = a := fun z => h1 z.symm
      by_cases h3 : x ∈ t <;> simp [h1, h2, h3]
theorem cx_inD {α : Type} [R α] [DecidableEq α] [Dat α] [DatT α] {x : α} {as : List α} (hu : X.A.units + 65 < cLine) (hd : Dat.dep (List α) ≤ 64 := by decide) (hd' : Dat.dep α ≤ 64 := by decide) : CmpX X .In x as (decide (x ∈ as)) := ⟨_, op_inD hu, fun H v w Q r1 r2 q =>
  ⟨_, as.map Dat.dat, Dat.dp r1, Dat.dp (α := List α) r2, shaped (DatT.ok _) hd', shaped (α := List α) (DatT.ok _) hd, by rw [any_dat]; exact q⟩⟩
theorem cx_ninD {α : Type} [R α] [DecidableEq α] [Dat α] [DatT α] {x : α} {as : List α} (hu : X.A.units + 65 < cLine) (hd : Dat.dep (List α) ≤ 64 := by decide) (hd' : Dat.dep α ≤ 64 := by decide) : CmpX X .NotIn x as (!decide (x ∈ as)) := ⟨_, op_notInD hu, fun H v w Q r1 r2 q =>
  ⟨_, as.map Dat.dat, Dat.dp r1, Dat.dp (α := List α) r2, shaped (DatT.ok _) hd', shaped (α := List α) (DatT.ok _) hd, by rw [any_dat]; exact q⟩⟩
theorem cx_inDs {α : Type} [R α] [DecidableEq α] [Dat α] {x : α} {as : List α} (hu : X.A.units + 65 < cLine) (h1 : Dat.ok x) (h2 : ∀ y ∈ as, Dat.ok y) (hd : Dat.dep (List α) ≤ 64 := by decide) (hd' : Dat.dep α ≤ 64 := by decide) : CmpX X .In x as (decide (x ∈ as)) := ⟨_, op_inD hu, fun H v w Q r1 r2 q =>
  ⟨_, as.map Dat.dat, Dat.dp r1, Dat.dp (α := List α) r2, shaped h1 hd', shaped (α := List α) h2 hd, by rw [any_dat]; exact q⟩⟩
theorem cx_ninDs {α : Type} [R α] [DecidableEq α] [Dat α] {x : α} {as : List α} (hu : X.A.units + 65 < cLine) (h1 : Dat.ok x) (h2 : ∀ y ∈ as, Dat.ok y) (hd : Dat.dep (List α) ≤ 64 := by decide) (hd' : Dat.dep α ≤ 64 := by decide) : CmpX X .NotIn x as (!decide (x ∈ as)) := ⟨_, op_notInD hu, fun H v w Q r1 r2 q =>
  ⟨_, as.map Dat.dat, Dat.dp r1, Dat.dp (α := List α) r2, shaped h1 hd', shaped (α := List α) h2 hd, by rw [any_dat]; exact q⟩⟩

/-! ### sorted(set(xs)), xs pairs of small ints in order -/
def prL (q : Int × Int) : List Int := [q.1, q.2]
theorem pairs_ks {K : Kf} {H : Hp} : ∀ {vs : List V} {as : List (Int × Int)}, Reps K H vs as → ∃ ks : List (Addr × List Int), vs = ks.map (fun c => V.ref c.1) ∧ ks.map (·.2) = as.map prL ∧ ∀ c ∈ ks, H c.1 = some (.tup (c.2.map V.int))
  | _, _, .nil => ⟨[], rfl, rfl, fun c hc => by cases hc⟩
  | _, _, .cons (l₁ := vs) (l₂ := as) (b := a) r t => by
    obtain ⟨ks, e1, e2, e3⟩ := pairs_ks t
    obtain ⟨p, v1, v2, ev, hp, r1, r2⟩ := r
    have r1' : v1 = .int a.1 := r1
    have r2' : v2 = .int a.2 := r2
    subst ev r1' r2'
    refine ⟨(p, prL a) :: ks, by rw [e1]; rfl, by rw [List.map_cons, e2]; rfl, fun c hc => ?_⟩
    rcases List.mem_cons.mp hc with rfl | hc
    · exact hp
    · exact e3 c hc
theorem ks_pairs {K : Kf} {H : Hp} : ∀ {ks : List (Addr × List Int)} {as : List (Int × Int)}, ks.map (·.2) = as.map prL → (∀ c ∈ ks, H c.1 = some (.tup (c.2.map V.int))) → Reps K H (ks.map fun c => V.ref c.1) as
  | [], [], _, _ => .nil
  | [], _ :: _, h, _ => by simp at h
  | _ :: _, [], h, _ => by simp at h
  | c :: ks, a :: as, h, g => by
    rw [List.map_cons, List.map_cons] at h
    obtain ⟨h1, h2⟩ := List.cons.inj h
    have gc := g c List.mem_cons_self
    rw [h1] at gc
    exact .cons ⟨c.1, _, _, rfl, gc, rfl, rfl⟩ (ks_pairs h2 fun c hc => g c (List.mem_cons_of_mem _ hc))
def PLt (p q : Int × Int) : Prop := p.1 < q.1 ∨ (p.1 = q.1 ∧ p.2 < q.2)
def PBd (p : Int × Int) : Prop := (0 ≤ p.1 ∧ p.1 < 64) ∧ (0 ≤ p.2 ∧ p.2 < 64)
theorem code_prL (p : Int × Int) : TS.code 64 (prL p) = p.1 * 64 + p.2 := code_pair p.1 p.2
theorem prL_inj {p q : Int × Int} (h : prL p = prL q) : p = q := by
  unfold prL at h
  obtain ⟨h1, h2⟩ := List.cons.inj h
  obtain ⟨h3, _⟩ := List.cons.inj h2
  exact Prod.ext h1 h3
theorem code_inj {p q : Int × Int} (hp : PBd p) (hq : PBd q) (h : p.1 * 64 + p.2 = q.1 * 64 + q.2) : p = q := by
  obtain ⟨⟨_, _⟩, _, _⟩ := hp
  obtain ⟨⟨_, _⟩, _, _⟩ := hq
  exact Prod.ext (by omega) (by omega)
theorem plt_nodup {as : List (Int × Int)} (h : as.Pairwise PLt) : (as.map prL).Nodup := by
  unfold List.Nodup
  rw [List.pairwise_map]
  exact h.imp fun q e => by
    have := prL_inj e
    subst this
    rcases q with q | ⟨_, q⟩ <;> exact absurd q (Int.lt_irrefl _)
theorem sorted_unique {as : List (Int × Int)} (hb : ∀ p ∈ as, PBd p) (hs : as.Pairwise PLt) {L : List (List Int)} (hp : L.Perm (as.map prL)) (hw : L.Pairwise fun q r => TS.code 64 q ≤ TS.code 64 r) : L = as.map prL := by
  have e1 : (L.map (TS.code 64)).Perm ((as.map prL).map (TS.code 64)) := hp.map _
  have s1 : (L.map (TS.code 64)).Pairwise (· ≤ ·) := by rw [List.pairwise_map]; exact hw
  have s2 : ((as.map prL).map (TS.code 64)).Pairwise (· ≤ ·) := by
    rw [List.map_map, List.pairwise_map]
    have hs' : as.Pairwise (fun a b => (a ∈ as ∧ b ∈ as) ∧ PLt a b) := by
      refine List.Pairwise.imp_of_mem (fun ha hb h => ⟨⟨ha, hb⟩, h⟩) hs
    refine hs'.imp fun {x y} ⟨⟨hx, hy⟩, q⟩ => ?_
    show TS.code 64 (prL x) ≤ TS.code 64 (prL y)
    rw [code_prL, code_prL]
    obtain ⟨⟨_, _⟩, _, _⟩ := hb x hx
    obtain ⟨⟨_, _⟩, _, _⟩ := hb y hy
    rcases q with q | ⟨_, q⟩ <;> omega
  have e := PySem.W.Srt.one _ _ e1 s1 s2
  have inj : ∀ (l m : List (List Int)), (∀ x ∈ l, ∃ p ∈ as, x = prL p) → (∀ x ∈ m, ∃ p ∈ as, x = prL p) → l.map (TS.code 64) = m.map (TS.code 64) → l = m := by
    intro l
    induction l with
    | nil => intro m _ _ h; cases m with | nil => rfl | cons _ _ => simp at h
    | cons a t ih =>
      intro m h1 h2 h
      cases m with
      | nil => simp at h
      | cons b u =>
        rw [List.map_cons, List.map_cons] at h
        obtain ⟨e1, e2⟩ := List.cons.inj h
        obtain ⟨p, hp, rfl⟩ := h1 a List.mem_cons_self
        obtain ⟨q, hq, rfl⟩ := h2 b List.mem_cons_self
        rw [code_prL, code_prL] at e1
        have := code_inj (hb p hp) (hb q hq) e1
        subst this
        rw [ih u (fun x hx => h1 x (List.mem_cons_of_mem _ hx)) (fun x hx => h2 x (List.mem_cons_of_mem _ hx)) e2]
  have all : ∀ x ∈ as.map prL, ∃ p ∈ as, x = prL p := fun x hx => by
    obtain ⟨p, hp, rfl⟩ := List.mem_map.mp hx
    exact ⟨p, hp, rfl⟩
  exact inj _ _ (fun x hx => all x (hp.mem_iff.mp hx)) all e
theorem xsortSetP {as : List (Int × Int)} {p1 p2 p3 p4 : Pos} (ms : X.mg "sorted" = none) (mset : X.mg "set" = none) (hc : X.calm = true) (hu : X.A.units + 64 < cLine) (ha : XV X B F0 Γ a as) (hl : as.length < 64) (hb : ∀ p ∈ as, PBd p) (hs : as.Pairwise PLt) (hg : Gl X "sorted" := by rfl) (hg2 : Gl X "set" := by rfl)
    (hs1 : starEach [.Call (.Name "set" p2) [a] [] p3] X.env = (false, eval (.Call (.Name "set" p2) [a] [] p3) X.env) :: starEach [] X.env := by rfl) (hs2 : starEach [a] X.env = (false, eval a X.env) :: starEach [] X.env := by rfl) :
    XO X B F0 Γ (.Call (.Name "sorted" p1) [.Call (.Name "set" p2) [a] [] p3] [] p4) k as := fun F σ H Q A q =>
  x_cb (cr_sortedT hc) hg ms (by decide +kernel) (x_ty (cr_setOfT hc hu) hg2 mset (by decide +kernel) (ha F σ H _ A fun F' H' v g ⟨l, vs, e, hl', r⟩ => by
    obtain ⟨ks, e1, e2, e3⟩ := pairs_ks r
    have kl : ks.length < 64 := by
      have := congrArg List.length e2
      rw [List.length_map, List.length_map] at this
      omega
    refine ⟨l, ks, by rw [e], SqL.of (by rw [← e1]; exact hl'), fun c hc => SqT.of (e3 c hc), kl, fun s L ns h1 h2 => ?_⟩
    have g2 : Grow F' H' F' (upd H' s (SetTO X.prog X.w s L)) := Grow.newH g.fh ns
    have at3 : ∀ c ∈ ks, (upd H' s (SetTO X.prog X.w s L)) c.1 = some (.tup (c.2.map V.int)) := fun c hc => g2.hh _ _ (e3 c hc)
    have kd : ∀ c ∈ ks, ∃ p ∈ as, c.2 = prL p := fun c hc => by
      have : c.2 ∈ ks.map (·.2) := List.mem_map_of_mem hc
      rw [e2] at this
      obtain ⟨p, hp, e⟩ := List.mem_map.mp this
      exact ⟨p, hp, e.symm⟩
    refine ⟨s, L, 2, 64, rfl, upd_same, fun c hc => SqT.of (at3 c (h1 c hc)), by decide, fun c hc => ?_, fun L' p pm nd _ pw np => ?_⟩
    · obtain ⟨p, hp, e⟩ := kd c (h1 c hc)
      rw [e]
      refine ⟨rfl, fun m hm => ?_⟩
      obtain ⟨b1, b2⟩ := hb p hp
      unfold prL at hm
      simp only [List.mem_cons, List.not_mem_nil, or_false] at hm
      rcases hm with rfl | rfl
      · exact b1
      · exact b2
    · have eL : L'.map (·.2) = as.map prL := by
        refine sorted_unique hb hs ((List.perm_ext_iff_of_nodup nd (plt_nodup hs)).mpr fun x => ?_) (by rw [List.pairwise_map]; exact pw)
        rw [← e2]
        constructor
        · intro hx
          obtain ⟨c, hc, rfl⟩ := List.mem_map.mp hx
          exact List.mem_map_of_mem (h1 c (pm.mem_iff.mp hc))
        · intro hx
          obtain ⟨c, hc, rfl⟩ := List.mem_map.mp hx
          have := h2 c hc
          obtain ⟨c2, hc2, e⟩ := List.mem_map.mp this
          rw [← e]
          exact List.mem_map_of_mem (pm.mem_iff.mpr hc2)
      have rr : Reps X.K (upd H' s (SetTO X.prog X.w s L)) (L'.map fun c => V.ref c.1) as := ks_pairs eL fun c hc => at3 c (h1 c (pm.mem_iff.mp hc))
      exact x_new ((g.trans g2).trans (Grow.tups g2.fh)) np (reps_lift g2.fh rr) q) (hs := hs2)) (hs := hs1)
end
end Cb
namespace Cb
open PySem PySem.Spec L2
open PyProof.Rows hiding St
section
variable {X : Cx} {B F0 : Hp} {Γ : Ev} {k : Bool} {e : Expr} {D : Ends} {ss : List Stmt} {α β : Type} [R α] [R β]
theorem reps_inl {K : Kf} {F : Hp} : ∀ {vs : List V} {as : List α}, Reps K F vs as → Reps K F vs (as.map (Sum.inl : α → α ⊕ β))
  | _, _, .nil => .nil
  | _, _, .cons r t => .cons r (reps_inl t)
/-- an owned list may take things of another kind -/
theorem ts_suml (β : Type) [R β] {as : List α} (i : Nat) (hΓ : Γ[i]? = some (ownd k as)) (ht : TSs X B F0 (Γ.set i (ownd k (as.map (Sum.inl : α → α ⊕ β)))) ss D) : TSs X B F0 Γ ss D := fun F σ H A => by
  refine ht F σ H ?_
  obtain ⟨⟨O, s, so, d, nt⟩, sF, sB, s0, bf⟩ := A
  obtain ⟨o, O1, Or, e1, h1, h2, h3, ⟨v, rfl, p, vs, rfl, ep, r⟩, h5⟩ := s.focus hΓ
  have key := h5 F (ownd k (as.map (Sum.inl : α → α ⊕ β))) (some (.ref p)) O1 O (Same.refl _) ⟨.ref p, rfl, p, vs, rfl, ep, reps_inl r⟩ h1 h2 h3
  rw [set_self e1] at key
  exact ⟨⟨O, key, so, d, nt⟩, sF, sB, s0, bf⟩
end
end Cb
namespace Cb
open PySem PySem.Spec L2
theorem hu65_of {A : Around} {k : Nat} (hr : Room k A) : A.units + 65 < cLine := by have := hr.un; omega
end Cb

set_option Elab.async false
set_option linter.all false
set_option maxRecDepth 100000
/-! Cb13: pens: a list of two that a callee changes -/
namespace Cb
open PySem PySem.Spec L2
open PyProof.Rows hiding St
theorem int_reps {K : Kf} {F : Hp} : ∀ (ns : List Int), Reps K F (ns.map V.int) ns
  | [] => .nil
  | _ :: t => .cons rfl (int_reps t)
/-- a list of ints at a known place -/
structure AtL where
  p : Addr
  xs : List Int
instance : R AtL := ⟨fun K F v a => R.rep K F v a.xs, fun h r => R.mono (α := List Int) h r⟩
instance : Ow AtL where
  own := fun K F v a O => v = .ref a.p ∧ O a.p = some (.lst (a.xs.map V.int))
  omono := fun _ h => h
  oread := fun ⟨e, q⟩ hF hO => ⟨_, _, e, hO _ _ q, int_reps _⟩
def PenOk (x y : Int) : Prop := y = 0 ∨ (y = 1 ∧ 0 ≤ x ∧ x < 2147483648)
structure Pn where
  p : Addr
instance : R Pn := ⟨fun K F v a => v = .ref a.p ∧ ∃ x y, F a.p = some (.lst [.int x, .int y]) ∧ PenOk x y, fun h ⟨e, x, y, q, ok⟩ => ⟨e, x, y, h _ _ q, ok⟩⟩
instance : Ow Pn where
  own := fun K F v a O => v = .ref a.p ∧ ∃ x y, O a.p = some (.lst [.int x, .int y]) ∧ PenOk x y
  omono := fun _ h => h
  oread := fun ⟨e, x, y, q, ok⟩ hF hO => ⟨e, x, y, hO _ _ q, ok⟩
def del (p : Addr) (H : Hp) : Hp := fun x => if x = p then none else H x
theorem del_sub {p : Addr} {H : Hp} : Same (del p H) H := fun b u e => by
  unfold del at e
  split at e
  · cases e
  · exact e
theorem del_ne {p b : Addr} {H : Hp} (h : b ≠ p) : del p H b = H b := by unfold del; rw [if_neg h]
theorem del_self {p : Addr} {H : Hp} : del p H p = none := by unfold del; rw [if_pos rfl]
class ArgsP (A : Type) [Args A] : Prop where
  dl : ∀ {K : Kf} {H : Hp} {vs : List V} {a : A} {p : Addr} {l : List V}, Args.args K H vs a → H p = some (.lst l) → Args.args K (del p H) vs a
instance : ArgsP Unit := ⟨fun h _ => h⟩
theorem pure_del {α : Type} [R α] [Pure α] {K : Kf} {H : Hp} {v : V} {a : α} {p : Addr} {l : List V} (r : R.rep K H v a) (h : H p = some (.lst l)) : R.rep K (del p H) v a :=
  R.mono (fun b o e => by
    obtain ⟨q, t⟩ := tups_is e
    rw [del_ne (fun z => by subst z; rw [h] at q; cases q; cases t)]
    exact q) (Pure.tup r)
instance {α A : Type} [R α] [Pure α] [Args A] [ArgsP A] : ArgsP (α × A) := ⟨fun ⟨v, r, e, q, t⟩ h => ⟨v, r, e, pure_del q h, ArgsP.dl t h⟩⟩
/-- what a def promises that changes the pen it is handed -/
def spP {A Z : Type} [Args A] [R Z] (K : Kf) (pre : A → Prop) (post : A → Z → Prop) : Sp := fun vs H Q _ => ∃ (p : Addr) (x y : Int) (r : List V) (a : A), vs = .ref p :: r ∧ H p = some (.lst [.int x, .int y]) ∧ PenOk x y ∧ Args.args K (del p H) r a ∧ pre a ∧
  ∀ v H' G c x' y', Same (del p H) H' → H' p = some (.lst [.int x', .int y']) → PenOk x' y' → Same G H' → NW H G → R.rep K G v c → post a c → Q v H'
def RDP {Z : Type} [R Z] (K : Kf) (B : Hp) (p : Addr) (D : Ends) (Rl : Z → Prop) : Prop := ∀ F H v c x y, Same B H → Same F H → F p = none → H p = some (.lst [.int x, .int y]) → PenOk x y → R.rep K (rf true B F) v c → Rl c → D.rt v H
section
variable {P : Program} {w : World} {K : Kf} {mg : Str → Option Value} {base : Heap} {x qual : Str} {st : Stmt} {f : Addr} {fd : FuncData} {N ps : List Str} {k : Nat} {A : Type} [Args A]
theorem as_startP {a : A} {H : Hp} {N : List Str} {vs : List V} {p : Addr} {x y : Int} (hp : H p = some (.lst [.int x, .int y])) (h : Args.args K (del p H) vs a) :
    AS K (del p H) (del p H) ((ownd true (AtL.mk p [x, y]) :: Args.env a) ++ List.replicate (N.length - (Args.len A + 1)) junk) (del p H) (L2.start N (.ref p :: vs)) H := by
  have s := Args.slots h (slots_junk (K := K) (B := del p H) (F := del p H) (N.length - (Args.len A + 1)) (fun _ => none))
  have e : L2.start N (.ref p :: vs) = some (.ref p) :: (vs.map some ++ List.replicate (N.length - (Args.len A + 1)) none) := by
    unfold L2.start
    rw [List.length_cons, Args.length h]
    rfl
  rw [e]
  refine ⟨⟨one p (.lst [.int x, .int y]), ⟨one p (.lst [.int x, .int y]), fun _ => none, Same.refl _, (fun _ _ z => nomatch z), fun _ => .inr rfl, ⟨.ref p, rfl, rfl, one_at⟩, s⟩, one_sub hp, fun b hb => ?_, fun b o z => ?_⟩, del_sub, del_sub, Same.refl _, Same.refl _⟩
  · cases w : one p (.lst [V.int x, V.int y]) b with
    | none => exact absurd w hb
    | some o => obtain ⟨rfl, _⟩ := one_is w; exact ⟨del_self, del_self⟩
  · obtain ⟨rfl, rfl⟩ := one_is z; rfl
theorem fn_p {Z : Type} [R Z] {pre : A → Prop} {post : A → Z → Prop} (F : Fun K x qual st f fd) (S : FnScope N ps (defScope st)) (hl : Args.len A + 1 = ps.length)
    (h : ∀ cdv Ar outer s H E, Room k (Ar.deeper (envOfC qual (defScope st) s.heap.objs.size f cdv)) → ∀ (p : Addr) (px py : Int) (a : A) (B : Hp) (D : Ends), PenOk px py → pre a → RDP K B p D (post a) → TSs (Xc P w K mg base N qual st f cdv Ar outer s H E) B B ((ownd true (AtL.mk p [px, py]) :: Args.env a) ++ List.replicate (N.length - (Args.len A + 1)) junk) (defBody st) D) :
    FnOk P w K mg base CX0 (k + 1) f fd ps (spP K pre post) := by
  refine F.ok S (fun vs H Q E h => ?_) (fun cdv Ar outer s H vs Q E hr hq => ?_)
  · obtain ⟨p, x, y, r, a, rfl, _, _, ha, _⟩ := h
    rw [List.length_cons, Args.length ha]; exact hl
  · obtain ⟨p, x, y, r, a, rfl, hp, ok, ha, hpre, q⟩ := hq
    refine ⟨_, can_ss, h cdv Ar outer s H E hr p x y a (del p H) _ ok hpre (fun F H' v c x' y' h1 h2 h3 h4 ok' rr hc => ?_) (del p H) _ H (as_startP hp ha)⟩
    refine q v H' (res (del p H) F) c x' y' h1 h4 ok' ((res_sub _ F).trans h2) (fun b o e => ?_) rr hc
    obtain ⟨z1, z2⟩ := res_is e
    rcases z2 with z2 | z2
    · exact .inr z2
    · left
      have ne : b ≠ p := fun z => by subst z; rw [h3] at z1; cases z1
      rw [del_ne ne] at z2; exact z2
end
section
variable {X : Cx} {B F0 : Hp} {Γ : Ev} {k k1 k2 : Bool} {e a b i o : Expr} {es : List Expr} {pos : Pos} {D : Ends} {ss : List Stmt} {st : Stmt} {p : Addr}
theorem XV.atl {a : AtL} (h : XV X B F0 Γ e a) : XV X B F0 Γ e a.xs := h
theorem own_free {β : Type} [Ow β] {bb : β} {K : Kf} {F : Hp} {σ : St} {H : Hp} {i : Nat} (A : AS K B F0 Γ F σ H) (hΓ : Γ[i]? = some (ownd k bb)) : ∃ v O1, σ[i]? = some (some v) ∧ Ow.own K (rf k B F) v bb O1 ∧ Same O1 H ∧ ∀ x o, O1 x = some o → F x = none ∧ B x = none := by
  obtain ⟨⟨O, s, so, d, nt⟩, sF, sB, s0, bf⟩ := A
  obtain ⟨o, O1, Or, e1, h1, h2, h3, ⟨v, rfl, r⟩, h5⟩ := s.focus hΓ
  exact ⟨v, O1, e1, r, h1.trans so, fun x o q => d x (by rw [h1 _ _ q]; simp)⟩
/-- return, the pen known -/
theorem ts_retP {Z : Type} [R Z] {c : Z} {Rl : Z → Prop} {x y : Int} (i : Nat) (hΓ : Γ[i]? = some (ownd k (AtL.mk p [x, y]))) (ok : PenOk x y) (he : XE X B F0 Γ e true c) (hr : RDP X.K B p D Rl) (hc : Rl c) : TSs X B F0 Γ (.Return (some e) pos :: ss) D :=
  ts_cons fun F σ H A => WS.of (ps_ret can_e) (he F σ H _ A fun F' H' v g r => by
    obtain ⟨v1, O1, e1, ⟨rfl, ep⟩, so, fr⟩ := own_free (A.grow g) hΓ
    exact hr F' H' v c x y (A.sB.trans g.hh) g.fh (fr _ _ ep).1 (so _ _ ep) ok r hc)
/-- return, the pen as it stands -/
theorem ts_retN {Z : Type} [R Z] {c : Z} {Rl : Z → Prop} (i : Nat) (hΓ : Γ[i]? = some (ownd k (Pn.mk p))) (he : XE X B F0 Γ e true c) (hr : RDP X.K B p D Rl) (hc : Rl c) : TSs X B F0 Γ (.Return (some e) pos :: ss) D :=
  ts_cons fun F σ H A => WS.of (ps_ret can_e) (he F σ H _ A fun F' H' v g r => by
    obtain ⟨v1, O1, e1, ⟨rfl, x, y, ep, ok⟩, so, fr⟩ := own_free (A.grow g) hΓ
    exact hr F' H' v c x y (A.sB.trans g.hh) g.fh (fr _ _ ep).1 (so _ _ ep) ok r hc)
/-- an owned slot said otherwise -/
theorem AS.own_as {β β' : Type} [Ow β] [Ow β'] {bb : β} {bb' : β'} {K : Kf} {F : Hp} {σ : St} {H : Hp} {i : Nat} (A : AS K B F0 Γ F σ H) (hΓ : Γ[i]? = some (ownd k bb)) (h : ∀ v O1, σ[i]? = some (some v) → Ow.own K (rf k B F) v bb O1 → Ow.own K (rf k B F) v bb' O1) : AS K B F0 (Γ.set i (ownd k bb')) F σ H := by
  obtain ⟨⟨O, s, so, d, nt⟩, sF, sB, s0, bf⟩ := A
  obtain ⟨o, O1, Or, e1, h1, h2, h3, ⟨v, rfl, r⟩, h5⟩ := s.focus hΓ
  have key := h5 F (ownd k bb') (some v) O1 O (Same.refl _) ⟨v, rfl, h v O1 e1 r⟩ h1 h2 h3
  rw [set_self e1] at key
  exact ⟨⟨O, key, so, d, nt⟩, sF, sB, s0, bf⟩
theorem ts_pen {x y : Int} (i : Nat) (hΓ : Γ[i]? = some (ownd k [x, y])) (ok : PenOk x y) (ht : ∀ p, TSs X B F0 (Γ.set i (ownd k (Pn.mk p))) ss D) : TSs X B F0 Γ ss D := fun F σ H A => by
  obtain ⟨v, O1, e1, ⟨q, vs, rfl, ep, r⟩, so, fr⟩ := own_free A hΓ
  refine ht q F σ H (A.own_as hΓ fun v' O1' e' ⟨q', vs', e2, ep', r'⟩ => ?_)
  rw [e1] at e'
  cases e'
  cases e2
  have := reps_ints r'
  subst this
  exact ⟨rfl, x, y, ep', ok⟩
theorem ts_pn {x y : Int} (i : Nat) (hΓ : Γ[i]? = some (ownd k (AtL.mk p [x, y]))) (ok : PenOk x y) (ht : TSs X B F0 (Γ.set i (ownd k (Pn.mk p))) ss D) : TSs X B F0 Γ ss D := fun F σ H A =>
  ht F σ H (A.own_as hΓ fun v' O1' e' ⟨e2, ep'⟩ => ⟨e2, x, y, ep', ok⟩)
/-- pen[i] = e -/
theorem ts_lputA {as : List Int} {x : Int} {n : Str} {pp p' : Pos} {ix : Int} {m : Nat} (j : Nat) (hΓ : Γ[j]? = some (ownd k (AtL.mk p as))) (he : XE X B F0 Γ e k x) (hi : XV X B F0 Γ i ix) (hm : ixN as.length ix = some m) (ht : TSs X B F0 (Γ.set j (ownd k (AtL.mk p (as.set m x)))) ss D)
    (hN : X.N[j]? = some n := by rfl) (hv : Vis X.env.scope n := by first | exact Or.inl rfl | exact Or.inr (Or.inl rfl) | exact Or.inr (Or.inr rfl)) (hd : (n == ("__debug__" : Str)) = false := by decide) (hcd : (n == ("__classdict__" : Str)) = false := by decide)
    (ha : ∀ v, assign (.Subscript (.Name n pp) i p') X.env v = (do
      let ov ← holding [v] (eval (.Name n pp) X.env)
      let iv ← holding [v, ov] (eval i X.env)
      standAt p'
      holding [v, ov, iv] (setItem ov iv v)
      release [v, ov, iv] []) := by intro _; rfl)
    (hs : swapsWithSole [.Subscript (.Name n pp) i p'] e pos.line X.env = pure false := by rfl) (hw : swappedStores [.Subscript (.Name n pp) i p'] e X.env = pure none := by rfl)
    (h1 : (assignEach [.Subscript (.Name n pp) i p'] X.env).map (·.2) = [assign (.Subscript (.Name n pp) i p') X.env] := by rfl) : TSs X B F0 Γ (.Assign [.Subscript (.Name n pp) i p'] e pos :: ss) D :=
  ts_cons fun F σ H A => WS.of (ps_asg can_e (pg_sub (pe_var hN hv hd hcd) can_e set_list ha) hs hw h1) (he F σ H _ A fun F1 H1 v g r => by
    obtain ⟨v0, O1, e1, sO, ⟨rfl, ep⟩, w⟩ := (A.grow g).poke (β' := AtL) hΓ
    refine ⟨.ref p, e1, hi F1 σ H1 _ (A.grow g) fun F2 H2 u g2 r2 => ?_⟩
    have rv : v = .int x := r
    subst rv
    refine ⟨p, _, ix, m, rfl, r2, g2.hh _ _ (sO _ _ ep), by rw [List.length_map]; exact hm, ht F2 σ _ (w F2 H2 (fun _ => none) p _ _ (AtL.mk p (as.set m x)) g2 ep (fun _ _ z => nomatch z) (fun _ _ z => nomatch z) ⟨rfl, ?_⟩)⟩
    rw [upd_same, List.map_set])
end
end Cb

set_option Elab.async false
set_option linter.all false
set_option maxRecDepth 100000
/-! Cb14: expressions that draw by a pen -/
namespace Cb
open PySem PySem.Spec L2
open PyProof.Rows hiding St
/-- how the heaps stand behind a draw: all but the pen's cell as before -/
structure Kept (p : Addr) (F H F' H' : Hp) : Prop where
  ff : Same F F'
  kp : ∀ x o, x ≠ p → H x = some o → H' x = some o
  pp : H p ≠ none → H' p ≠ none
  nw : ∀ x o, F' x = some o → F x = some o ∨ H x = none ∨ isTup o = true
theorem Kept.dom {p : Addr} {F H F' H' : Hp} (h : Kept p F H F' H') {x : Addr} (e : H' x = none) : H x = none := by
  cases w : H x with
  | none => rfl
  | some o =>
    by_cases z : x = p
    · subst z; exact absurd e (h.pp (by rw [w]; simp))
    · rw [h.kp x o z w] at e; cases e
theorem Kept.trans {p : Addr} {F H F1 H1 F2 H2 : Hp} (a : Kept p F H F1 H1) (b : Kept p F1 H1 F2 H2) : Kept p F H F2 H2 where
  ff := a.ff.trans b.ff
  kp := fun x o z e => b.kp x o z (a.kp x o z e)
  pp := fun e => b.pp (a.pp e)
  nw := fun x o e => by
    rcases b.nw x o e with q | q | q
    · exact a.nw x o q
    · exact .inr (.inl (a.dom q))
    · exact .inr (.inr q)
theorem Grow.kept {F H F' H' : Hp} (p : Addr) (g : Grow F H F' H') : Kept p F H F' H' where
  ff := g.ff
  kp := fun x o _ e => g.hh _ _ e
  pp := fun e z => e (g.hh.free z)
  nw := g.nw
/-- a heap without a list that is being made -/
def off (d : Option Addr) (H : Hp) : Hp := fun x => if d = some x then none else H x
theorem off_none {H : Hp} : off none H = H := by funext x; unfold off; rw [if_neg (fun z => nomatch z)]
theorem off_sub {d : Option Addr} {H : Hp} : Same (off d H) H := fun b u e => by
  unfold off at e
  split at e
  · cases e
  · exact e
theorem off_ne {d : Option Addr} {H : Hp} {x : Addr} (h : d ≠ some x) : off d H x = H x := by unfold off; rw [if_neg h]
theorem off_at {d : Addr} {H : Hp} : off (some d) H d = none := by unfold off; rw [if_pos rfl]
def OffOk (p : Addr) (d : Option Addr) (F H : Hp) : Prop := ∀ a, d = some a → (∃ l, H a = some (.lst l)) ∧ F a = none ∧ a ≠ p
theorem AS.up {K : Kf} {B F0 F H H2 : Hp} {Γ : Ev} {σ : St} (A : AS K B F0 Γ F σ H) (s : Same H H2) : AS K B F0 Γ F σ H2 := by
  obtain ⟨⟨O, sl, so, d, nt⟩, sF, sB, s0, bf⟩ := A
  exact ⟨⟨O, sl, so.trans s, d, nt⟩, sF.trans s, sB.trans s, s0, bf⟩
theorem Grow.offs {F H F' H' : Hp} {p : Addr} {d : Option Addr} (g : Grow F H F' H') (hd : OffOk p d F H) : OffOk p d F' H' ∧ Grow F (off d H) F' (off d H') := by
  have fr : ∀ a, d = some a → F' a = none := fun a e => by
    obtain ⟨⟨l, hl⟩, fa, _⟩ := hd a e
    cases w : F' a with
    | none => rfl
    | some o =>
      rcases g.nw _ _ w with z | z | z
      · rw [fa] at z; cases z
      · rw [hl] at z; cases z
      · have e1 := g.fh _ _ w
        rw [g.hh _ _ hl] at e1; cases e1; cases z
  refine ⟨fun a e => ⟨(hd a e).1.imp fun l hl => g.hh _ _ hl, fr a e, (hd a e).2.2⟩, ⟨fun b u z => ?_, g.ff, fun b u z => ?_, fun x o z => ?_⟩⟩
  · have nb : d ≠ some b := fun e => by subst e; rw [off_at] at z; cases z
    rw [off_ne nb] at z ⊢; exact g.hh _ _ z
  · have nb : d ≠ some b := fun e => by rw [fr b e] at z; cases z
    rw [off_ne nb]; exact g.fh _ _ z
  · rcases g.nw x o z with q | q | q
    · exact .inl q
    · right; left
      by_cases nb : d = some x
      · subst nb; exact off_at
      · rw [off_ne nb]; exact q
    · exact .inr (.inr q)
def XR (X : Cx) (B F0 : Hp) (Γ : Ev) (p : Addr) (e : Expr) {Z : Type} [R Z] (Pr : Z → Prop) : Prop :=
  ∀ d F σ H Q, OffOk p d F H → AS X.K B F0 Γ F σ (off d H) → (∀ F' H' v c, Kept p F H F' H' → OffOk p d F' H' → AS X.K B F0 Γ F' σ (off d H') → Pr c → R.rep X.K (rf true B F') v c → Q v H') → WE X e σ H Q
def XRT (X : Cx) (B F0 : Hp) (Γ : Ev) (p : Addr) (e : Expr) : Prop :=
  ∀ d F σ H (Q : Bool → Hp → Prop), OffOk p d F H → AS X.K B F0 Γ F σ (off d H) → (∀ F' H' c, Kept p F H F' H' → OffOk p d F' H' → AS X.K B F0 Γ F' σ (off d H') → Q c H') → WT X e σ H Q
theorem off0 {p : Addr} {F H : Hp} : OffOk p none F H := fun _ e => nomatch e
theorem ev_self {Γ : Ev} {i : Nat} {s : Slot} (e1 : Γ[i]? = some s) : Γ.set i s = Γ := by
  apply List.ext_getElem?
  intro j
  by_cases hj : i = j
  · subst hj
    have hl : i < Γ.length := by
      rcases Nat.lt_or_ge i Γ.length with z | z
      · exact z
      · rw [List.getElem?_eq_none z] at e1; cases e1
    rw [List.getElem?_set_self hl]; exact e1.symm
  · rw [List.getElem?_set_ne hj]
section
variable {X : Cx} {B F0 : Hp} {Γ : Ev} {k k1 k2 : Bool} {e a b i o : Expr} {es : List Expr} {pos : Pos} {D : Ends} {ss : List Stmt} {st : Stmt} {p : Addr}
theorem xr_of {Z : Type} [R Z] {c : Z} (h : XE X B F0 Γ e true c) : XR X B F0 Γ p e (· = c) := fun d F σ H Q od A q =>
  h F σ H Q (A.up off_sub) fun F' H' v g r => q F' H' v c (g.kept p) (g.offs od).1 (A.grow (g.offs od).2) rfl r
theorem xr_call {A Z : Type} [Args A] [ArgsP A] [R Z] {pre : A → Prop} {post : A → Z → Prop} {f n : Str} {ag : A} {pf pn : Pos} (j : Nat) (hΓ : Γ[j]? = some (ownd k (Pn.mk p))) (c : CalX X f (spP X.K pre post)) (h : XA X B F0 Γ es (fun K H vs => Args.args K H vs ag)) (hp : pre ag) (hg : Gl X f := by rfl)
    (hN : X.N[j]? = some n := by rfl) (hv : Vis X.env.scope n := by first | exact Or.inl rfl | exact Or.inr (Or.inl rfl) | exact Or.inr (Or.inr rfl)) (hd : (n == ("__debug__" : Str)) = false := by decide) (hcd : (n == ("__classdict__" : Str)) = false := by decide)
    (hdb : (f == ("__debug__" : Str)) = false := by decide) (hs : starEach (.Name n pn :: es) X.env = (false, eval (.Name n pn) X.env) :: starEach es X.env := by rfl) (hpl : (backTo pos (starEach es X.env)).any (·.1) = false := by rfl) : XR X B F0 Γ p (.Call (.Name f pf) (.Name n pn :: es) [] pos) (post ag) := fun d F σ H Q od AA q => by
  obtain ⟨v0, O1, e1, sO, ⟨rfl, x, y, ep, ok⟩, w⟩ := AA.poke (β' := Pn) hΓ
  obtain ⟨kk, fa, fd, ps, G0, hr, hm, kp, bd⟩ := c.ex
  refine WE.of (pe_call G0 hr hg hm kp bd .nil pass0 (pa_cons (pe_var hN hv hd hcd) can_a hs) hdb hs hpl) ⟨.ref p, e1, h F σ H _ (AA.up off_sub) fun F' H' vs g r => ?_⟩
  have hpH : H p = some (.lst [.int x, .int y]) := off_sub _ _ (sO _ _ ep)
  have hp' := g.hh _ _ hpH
  show spP X.K pre post (.ref p :: (vs ++ [])) H' Q _
  rw [List.append_nil]
  refine ⟨p, x, y, vs, ag, rfl, hp', ok, ArgsP.dl r hp', hp, fun v H2 G c x' y' h1 h2 ok' h3 nw rr hc => ?_⟩
  have sHm : Same H' (upd H2 p (.lst [.int x, .int y])) := fun b u z => by
    by_cases zb : b = p
    · subst zb; rw [hp'] at z; cases z; exact upd_same
    · rw [upd_ne zb]; exact h1 _ _ (by rw [del_ne zb]; exact z)
  have Gp : G p = none := by
    cases wG : G p with
    | none => rfl
    | some o =>
      rcases nw p o wG with z | z
      · rw [hp'] at z; cases z
      · have := h3 _ _ wG; rw [h2] at this; cases this; cases z
  have sGm : Same G (upd H2 p (.lst [.int x, .int y])) := fun b u z => by
    rw [upd_ne (fun zb => by subst zb; rw [Gp] at z; cases z)]; exact h3 _ _ z
  have gm : Grow F' H' (join F' G) (upd H2 p (.lst [.int x, .int y])) := Grow.ret g.fh sHm sGm nw
  have gA := g.trans gm
  obtain ⟨od2, gO⟩ := gA.offs od
  have AS' := w (join F' G) _ (fun _ => none) p [.int x, .int y] [.int x', .int y'] (Pn.mk p) gO ep (fun _ _ z => nomatch z) (fun _ _ z => nomatch z) ⟨rfl, x', y', upd_same, ok'⟩
  have dp : d ≠ some p := fun e => (od p e).2.2 rfl
  have eH : upd (off d (upd H2 p (.lst [.int x, .int y]))) p (.lst [.int x', .int y']) = off d H2 := by
    funext b
    by_cases zb : b = p
    · subst zb; rw [upd_same, off_ne dp]; exact h2.symm
    · rw [upd_ne zb]
      unfold off
      rw [upd_ne zb]
  rw [eH, ev_self hΓ] at AS'
  refine q (join F' G) H2 v c ⟨gA.ff, fun b o zb z => ?_, fun _ => by rw [h2]; simp, gA.nw⟩ (fun a e => ?_) AS' hc (R.mono (ret_res g.fh ((AA.up off_sub).sB.trans g.hh) sHm sGm nw) rr)
  · exact h1 _ _ (by rw [del_ne zb]; exact g.hh _ _ z)
  · obtain ⟨⟨l, hl⟩, q2, q3⟩ := od2 a e
    rw [upd_ne q3] at hl
    exact ⟨⟨l, hl⟩, q2, q3⟩
theorem xr_add {Pa Pb : Int → Prop} (ha : XR X B F0 Γ p a Pa) (hb : XR X B F0 Γ p b Pb) : XR X B F0 Γ p (.BinOp a .Add b pos) (fun n : Int => ∃ i j, Pa i ∧ Pb j ∧ n = i + j) := fun d F σ H Q od A q =>
  WE.of (pe_op op_add can_e can_e) (ha d F σ H _ od A fun F1 H1 v i k1 o1 A1 pi ri => hb d F1 σ H1 _ o1 A1 fun F2 H2 w j k2 o2 A2 pj rj => ⟨i, j, ri, rj, q F2 H2 (.int (i + j)) (i + j) (k1.trans k2) o2 A2 ⟨i, j, pi, pj, rfl⟩ rfl⟩)
theorem xr_weak {Z : Type} [R Z] {Pa Pb : Z → Prop} (ha : XR X B F0 Γ p a Pa) (h : ∀ z, Pa z → Pb z) : XR X B F0 Γ p a Pb := fun d F σ H Q od A q => ha d F σ H Q od A fun F' H' v c k o A' pc r => q F' H' v c k o A' (h c pc) r
theorem ts_setR {Z : Type} [R Z] {Pr : Z → Prop} {n : Str} {pn : Pos} (j : Nat) (hN : X.N.Nodup) (he : XR X B F0 Γ p e Pr) (ht : ∀ c, Pr c → TSs X B F0 (Γ.set j (vl true c)) ss D) (hi : X.N[j]? = some n := by rfl) (hx : Loc X.env.scope n := by first | exact Or.inl rfl | exact Or.inr rfl)
    (hs : swapsWith e (some (.Name n pn)) pos.line X.env = pure false := by rfl) (hf : X.fn n = true ∨ X.env.scope.names.lookup n = some .local := by first | exact .inl rfl | exact .inr rfl) : TSs X B F0 Γ (.Assign [.Name n pn] e pos :: ss) D :=
  ts_cons fun F σ H A => WS.of (ps_set hN hi hx can_e hs hf) (he none F σ H _ off0 (by rw [off_none]; exact A) fun F' H' v c _ _ A' pc r => ht c pc F' _ H' (by rw [off_none] at A'; exact A'.set j r))
theorem xrt_cmp {op : CmpOp} {Pa : Int → Prop} {y : Int} (h : ∀ i : Int, ∃ c, CmpX X op i y c) (ha : XR X B F0 Γ p a Pa) (hb : XV X B F0 Γ b y) (hm : behindInMarks op b = false := by first | exact nomark _ | rfl) : XRT X B F0 Γ p (.Compare a [op] [b] pos) := fun d F σ H Q od A q => by
  obtain ⟨r, hr⟩ : ∃ r, OpR X (compareOp op) r ∧ ∀ i : Int, ∃ c, ∀ H v w Q, R.rep X.K H v i → R.rep X.K H w y → Q (.bl c) H → r v w H Q := by
    obtain ⟨c, r, ho, hz⟩ := h 0
    exact ⟨fun v w H Q => ∃ i c, R.rep X.K H v (i : Int) ∧ R.rep X.K H w y ∧ CmpX X op i y c ∧ Q (.bl c) H, by
      intro pins s σ H x y' v u Q I rx ry ⟨i, c, h1, h2, ⟨r', ho', hz'⟩, q⟩
      exact ho' pins s σ H x y' v u Q I rx ry (hz' H x y' Q h1 h2 q), fun i => by
      obtain ⟨c, hc⟩ := h i
      exact ⟨c, fun H v w Q h1 h2 q => ⟨i, c, h1, h2, hc, q⟩⟩⟩
  exact WT.of (pt_cmpR hr.1 can_e can_e hm) (ha d F σ H _ od A fun F1 H1 v i k1 o1 A1 pi ri => hb F1 σ H1 _ (A1.up off_sub) fun F2 H2 w g r2 => by
    obtain ⟨c, hc⟩ := hr.2 i
    exact hc H2 v w _ ri r2 ⟨c, rfl, q F2 H2 c (k1.trans (g.kept p)) (g.offs o1).1 (A1.grow (g.offs o1).2)⟩)
end
end Cb

set_option Elab.async false
set_option linter.all false
set_option maxRecDepth 100000
/-! Cb15: lists made with draws; a place drawn out of a list; index -/
namespace Cb
open PySem PySem.Spec L2
open PyProof.Rows hiding St
structure LcR (X : Cx) (B F0 : Hp) (Γ : Ev) (scope : Scope) (tg it elt c : Expr) (j : Nat) (p : Addr) {α β : Type} [R α] [R β] (xs : List α) (f : α → β) : Prop where
  ex : ∃ k0 : Bool, XI X B F0 Γ tg it k0 xs ∧ (∀ s H0 C cl fp (v : V) (σ : St) (H : Hp) (Q : St → Hp → Prop), Q (σ.set j (some v)) H → WG (Blk X scope s H0 C cl fp) tg v σ H Q) ∧ Γ[j]? = some junk ∧
    (∀ x ∈ xs, ∀ s H0 C cl fp F1, XRT (Blk X scope s H0 C cl fp) B F1 (Γ.set j (vl k0 x)) p c) ∧ ∀ x ∈ xs, ∀ s H0 C cl fp F1, XE (Blk X scope s H0 C cl fp) B F1 (Γ.set j (vl k0 x)) elt true (f x)
section
variable {X : Cx} {B F0 : Hp} {Γ : Ev} {k k1 k2 : Bool} {e a b i o : Expr} {es : List Expr} {pos : Pos} {D : Ends} {ss : List Stmt} {st : Stmt} {p : Addr} {α β : Type} [R α] [R β]
theorem AS.unset {K : Kf} {F : Hp} {σ : St} {H : Hp} {j : Nat} {s : Slot} {o' : Option V} (hw : Γ[j]? = some junk) (A : AS K B F0 (Γ.set j s) F ((L2.wipe σ [j]).set j o') H) : AS K B F0 Γ F σ H := by
  obtain ⟨⟨O, sl, so, d, nt⟩, sF, sB, s0, bf⟩ := A
  have hlΓ : j < Γ.length := by
    rcases Nat.lt_or_ge j Γ.length with z | z
    · exact z
    · rw [List.getElem?_eq_none z] at hw; cases hw
  have len := sl.length
  have hlσ : j < σ.length := by
    rw [List.length_set, List.length_set, wipe_length] at len
    omega
  obtain ⟨o, O1, Or, e1, h1, h2, h3, _, h5⟩ := sl.focus (List.getElem?_set_self hlΓ)
  have key := h5 F junk (σ[j]'hlσ) (fun _ => none) O (Same.refl _) trivial (fun _ _ z => nomatch z) h2 fun x => .inl rfl
  have eΓ : (Γ.set j s).set j junk = Γ := by rw [List.set_set]; exact ev_self hw
  have eσ : ((L2.wipe σ [j]).set j o').set j (σ[j]'hlσ) = σ := by
    rw [List.set_set]
    show (σ.set j none).set j (σ[j]'hlσ) = σ
    rw [List.set_set]
    exact set_self (List.getElem?_eq_getElem hlσ)
  rw [eΓ, eσ] at key
  exact ⟨⟨O, key, so, d, nt⟩, sF, sB, s0, bf⟩
theorem lcR_read {scope : Scope} {tg it elt c : Expr} {j jp : Nat} {xs : List α} {f : α → β} (L : LcR X B F0 Γ scope tg it elt c j p xs f) (hz : xs.length ≤ sizeLine) (hp : Γ[jp]? = some (ownd k (Pn.mk p))) :
    (∀ (s : Shared) (H : Hp) (C : Addr) (cl : List (Str × Addr)) (fp : List Addr), PTs (Blk X scope s H C cl fp) [c] (WTb X scope c)) ∧ ∀ {F σ H} {Q : VK}, AS X.K B F0 Γ F σ H →
      (∀ F' H' Dd acc (ys : List α), ys.Sublist xs → H' Dd = some (.lst acc) → F' Dd = none → AS X.K B F0 Γ F' σ (off (some Dd) H') → Reps X.K (rf true B F') acc (ys.map f) → Q (.ref Dd) H') →
      tLc (WI X tg it) (WGb X scope tg) (WTb X scope c) (WEb X scope elt) [j] σ H Q := by
  obtain ⟨k0, hi, hg, hw, ht, he⟩ := L.ex
  refine ⟨fun s H C cl fp => pts_one ⟨fun pins s' σ H' Q I h => h s H C cl fp pins s' I⟩, fun {F σ H Q} A q => ?_⟩
  refine hi F σ H _ A fun F' H1 J g ok => fun Dd nD => ?_
  have A1 := A.grow g
  have pin : H1 p ≠ none := by
    obtain ⟨v, O1, e1, ⟨rfl, x, y, ep, _⟩, so, _⟩ := own_free A1 hp
    rw [so _ _ ep]; simp
  have Dp : Dd ≠ p := fun z => by subst z; exact pin nD
  have e0 : off (some Dd) (upd H1 Dd (.lst [])) = H1 := by
    funext b
    by_cases zb : b = Dd
    · subst zb; rw [off_at, nD]
    · rw [off_ne (fun z => zb (Option.some.inj z).symm), upd_ne zb]
  refine ⟨fun i m H2 => m = xs.length - i ∧ i ≤ xs.length ∧ ∃ acc F2 ys, H2 Dd = some (.lst acc) ∧ Same F' F2 ∧ OffOk p (some Dd) F2 H2 ∧ AS X.K B F0 Γ F2 σ (off (some Dd) H2) ∧ List.Sublist ys (xs.take i) ∧ Reps X.K (rf true B F2) acc (ys.map f),
    ⟨xs.length, by simp, Nat.zero_le _, [], F', [], upd_same, Same.refl _, fun a e => by cases e; exact ⟨⟨_, upd_same⟩, A1.sF.free nD, Dp⟩, by rw [e0]; exact A1, List.Sublist.slnil, .nil⟩, ?_⟩
  rintro i m H2 ⟨rfl, hile, acc, F2, ys, hD, s2, od2, A2, sl, racc⟩
  have f2H : Same F2 H2 := A2.sF.trans off_sub
  by_cases hlt : i < xs.length
  · refine .inr ⟨(ok.go i hlt F2 H2 s2 f2H).1, fun H3 => i + 1 ≤ xs.length ∧ ∃ acc F3 ys, H3 Dd = some (.lst acc) ∧ Same F' F3 ∧ OffOk p (some Dd) F3 H3 ∧ AS X.K B F0 Γ F3 σ (off (some Dd) H3) ∧ List.Sublist ys (xs.take (i + 1)) ∧ Reps X.K (rf true B F3) acc (ys.map f),
      fun H3 ⟨h1, h2⟩ => ⟨xs.length - (i + 1), by omega, rfl, h1, h2⟩, fun v H3 y => ?_⟩
    obtain ⟨F3, g3, rv⟩ := (ok.go i hlt F2 H2 s2 f2H).2 v H3 y
    obtain ⟨od3, gO⟩ := g3.offs od2
    have A3 : AS X.K B F0 Γ F3 σ (off (some Dd) H3) := A2.grow gO
    have et : xs.take (i + 1) = xs.take i ++ [xs[i]] := by rw [List.take_add_one, List.getElem?_eq_getElem hlt]; rfl
    have hx : xs[i] ∈ xs := List.getElem_mem hlt
    have Aw : AS X.K B F0 Γ F3 (L2.wipe σ [j]) (off (some Dd) H3) := A3.wipe [j] ⟨hw, trivial⟩
    have A4 := Aw.set j rv
    have ws : L2.wipe ((L2.wipe σ [j]).set j (some v)) [j] = L2.wipe σ [j] := wipe_same (is := [j]) (fun j' hj => by rw [List.getElem?_set_ne (fun z => hj (by simp [z]))]) (by simp) (fun _ h => h)
    intro s H0 C cl fp
    refine hg s H0 C cl fp v _ H3 _ ⟨ws, ?_⟩
    intro s1 H01 C1 cl1 fp1
    refine ht xs[i] hx s1 H01 C1 cl1 fp1 F0 (some Dd) F3 _ H3 _ od3 A4 fun F5 H5 cc k5 od5 A5 => ?_
    -- the slots, without the comprehension's own
    have back : AS X.K B F0 Γ F5 σ (off (some Dd) H5) := AS.unset hw A5
    have hD5 : H5 Dd = some (.lst acc) := k5.kp _ _ Dp (g3.hh _ _ hD)
    have f5 : Same F' F5 := (s2.trans g3.ff).trans k5.ff
    cases cc with
    | true =>
      rw [if_pos rfl]
      intro s2' H02 C2 cl2 fp2
      refine he xs[i] hx s2' H02 C2 cl2 fp2 F0 F5 _ H5 _ (A5.up off_sub) fun F6 H6 u g6 ru => ?_
      obtain ⟨od6, gO6⟩ := g6.offs od5
      have h6 : H6 Dd = some (.lst acc) := g6.hh _ _ hD5
      have e6 : off (some Dd) (upd H6 Dd (.lst (acc ++ [u]))) = off (some Dd) H6 := by
        funext b
        by_cases zb : b = Dd
        · subst zb; rw [off_at, off_at]
        · rw [off_ne (fun z => zb (Option.some.inj z).symm), off_ne (fun z => zb (Option.some.inj z).symm), upd_ne zb]
      have yl : ys.length ≤ i := by
        have a := sl.length_le
        rw [List.length_take] at a
        omega
      refine ⟨acc, h6, ?_, hlt, acc ++ [u], F6, ys ++ [xs[i]], upd_same, f5.trans g6.ff, fun a e => ?_, by rw [e6]; exact back.grow gO6, by rw [et]; exact sl.append (List.Sublist.refl _), ?_⟩
      · rw [Reps.length racc, List.length_map]; omega
      · cases e
        exact ⟨⟨_, upd_same⟩, (od6 Dd rfl).2.1, Dp⟩
      · rw [List.map_append]
        exact (racc.mono (rf_mono (((g3.ff).trans k5.ff).trans g6.ff))).append (.cons ru .nil)
    | false =>
      rw [if_neg Bool.false_ne_true]
      refine ⟨hlt, acc, F5, ys, hD5, f5, od5, back, by rw [et]; exact sl.trans (List.sublist_append_left _ _), racc.mono (rf_mono (g3.ff.trans k5.ff))⟩
  · have ei : i = xs.length := by omega
    subst ei
    rw [List.take_length] at sl
    exact .inl ⟨ok.stop _ rfl F2 H2 s2 f2H, q F2 H2 Dd acc ys sl hD (od2 Dd rfl).2.1 A2 racc⟩
/-- name = [.. if a draw ..] -/
theorem ts_setLcR {scope : Scope} {tg it elt c : Expr} {jn n : Str} {py spos : Pos} {xs : List α} {f : α → β} (i j jp : Nat) (hΓ : Γ[jp]? = some (ownd k (Pn.mk p))) (hc : X.calm = true) (hN : X.N.Nodup) (ok : BlkOk X.N X.env.scope scope [(jn, j)]) (L : LcR X B F0 Γ scope tg it elt c j p xs f) (hz : xs.length ≤ sizeLine)
    (ht : ∀ ys : List α, ys.Sublist xs → TSs X B F0 (Γ.set i (ownd true (ys.map f))) ss D) (hsw : swapsWith (.ListComp elt [⟨tg, it, [c], 0⟩] scope pos) (some (.Name n py)) spos.line X.env = pure true) (hy : X.N[i]? = some n := by rfl) (hyl : X.env.scope.names.lookup n = some .local := by rfl)
    (hs : ∀ x, foldedSetIterable it X.env x = pure x := by intro _; rfl) : TSs X B F0 Γ (.Assign [.Name n py] (.ListComp elt [⟨tg, it, [c], 0⟩] scope pos) spos :: ss) D := ts_cons fun F σ H A => by
  obtain ⟨pt, h⟩ := lcR_read (k := k) L hz hΓ
  exact WS.of (ps_setLc hc hN hy hyl hsw can_i ok (fun s H C cl fp => ⟨fun pins s' σ H' v u Q I r hh => hh s H C cl fp pins s' u I r⟩) pt (fun s H C cl fp => ⟨fun pins s' σ H' Q I hh => hh s H C cl fp pins s' I⟩) hs)
    (h A fun F' H' Dd acc ys sl hD fD A' r => by
      have g : Grow F' (off (some Dd) H') F' H' := ⟨off_sub, Same.refl _, A'.sF.trans off_sub, fun _ _ e => .inl e⟩
      refine ht ys sl F' _ H' (A'.seto g i (O' := one Dd (.lst acc)) (one_sub hD) (fun x o e => ?_) ⟨Dd, acc, rfl, one_at, r⟩)
      obtain ⟨rfl, rfl⟩ := one_is e
      exact ⟨off_at, fD, rfl⟩)
end
section
variable {X : Cx} {B F0 : Hp} {Γ : Ev} {k k1 k2 : Bool} {e a b i o : Expr} {es : List Expr} {pos : Pos} {D : Ends} {ss : List Stmt} {st : Stmt} {p : Addr}
/-- found.append(left.pop(a draw)) -/
theorem ts_appPop {as fs : List Int} {Pr : Int → Prop} {nl nf : Str} {pf paf cpf pl pal cpl ep : Pos} (jf jl : Nat) (hf : Γ[jf]? = some (ownd true fs)) (hl : Γ[jl]? = some (ownd true as)) (hne : jf ≠ jl) (he : XR X B F0 Γ p e Pr) (hP : ∀ n, Pr n → 0 ≤ n ∧ n < as.length) (hz : fs.length < sizeLine) (hza : as.length ≤ 1000)
    (ht : ∀ (m : Nat) (hm : m < as.length), TSs X B F0 ((Γ.set jl (ownd true (as.eraseIdx m))).set jf (ownd true (fs ++ [as[m]]))) ss D)
    (hNf : X.N[jf]? = some nf := by rfl) (hvf : Vis X.env.scope nf := by first | exact Or.inl rfl | exact Or.inr (Or.inl rfl) | exact Or.inr (Or.inr rfl)) (hdf : (nf == ("__debug__" : Str)) = false := by decide) (hcdf : (nf == ("__classdict__" : Str)) = false := by decide)
    (hNl : X.N[jl]? = some nl := by rfl) (hvl : Vis X.env.scope nl := by first | exact Or.inl rfl | exact Or.inr (Or.inl rfl) | exact Or.inr (Or.inr rfl)) (hdl : (nl == ("__debug__" : Str)) = false := by decide) (hcdl : (nl == ("__classdict__" : Str)) = false := by decide)
    (hb1 : attributeBase (.Name nl pl) "pop" X.env (eval (.Name nl pl) X.env) = eval (.Name nl pl) X.env := by rfl)
    (hf1 : ((backTo cpl (starEach [e] X.env)).all (fun x => !x.1) && (backToKw cpl (keywordEach [] X.env)).all (fun x => x.1.isSome) && decide ([e].length + ([] : List Keyword).length + (if ([] : List Keyword).isEmpty then 0 else 1) < 30)) = true := by rfl)
    (hl1 : (pal.endLine == cpl.line) = true := by rfl) (hs1 : starEach [e] X.env = (false, eval e X.env) :: starEach [] X.env := by rfl) (hp1 : (backTo cpl (starEach [] X.env)).any (·.1) = false := by rfl)
    (hb2 : attributeBase (.Name nf pf) "append" X.env (eval (.Name nf pf) X.env) = eval (.Name nf pf) X.env := by rfl)
    (hf2 : ((backTo cpf (starEach [.Call (.Attribute (.Name nl pl) "pop" pal) [e] [] cpl] X.env)).all (fun x => !x.1) && (backToKw cpf (keywordEach [] X.env)).all (fun x => x.1.isSome) && decide (([.Call (.Attribute (.Name nl pl) "pop" pal) [e] [] cpl] : List Expr).length + ([] : List Keyword).length + (if ([] : List Keyword).isEmpty then 0 else 1) < 30)) = true := by rfl)
    (hl2 : (paf.endLine == cpf.line) = true := by rfl) (hs2 : starEach [.Call (.Attribute (.Name nl pl) "pop" pal) [e] [] cpl] X.env = (false, eval (.Call (.Attribute (.Name nl pl) "pop" pal) [e] [] cpl) X.env) :: starEach [] X.env := by rfl) (hp2 : (backTo cpf (starEach [] X.env)).any (·.1) = false := by rfl)
    (hsw : swapsWith (.Call (.Attribute (.Name nf pf) "append" paf) [.Call (.Attribute (.Name nl pl) "pop" pal) [e] [] cpl] [] cpf) none ep.line X.env = pure false := by rfl) :
    TSs X B F0 Γ (.Expr (.Call (.Attribute (.Name nf pf) "append" paf) [.Call (.Attribute (.Name nl pl) "pop" pal) [e] [] cpl] [] cpf) ep :: ss) D :=
  ts_cons fun F σ H A => WS.of (ps_expr (pe_bm PySem.F.plainAttrs_list PySem.F.slot_list_append PySem.F.type_list_append mt_append (pe_var hNf hvf hdf hcdf) (pa_cons (pe_bm PySem.F.plainAttrs_list PySem.F.slot_list_pop PySem.F.type_list_pop mt_popAt (pe_var hNl hvl hdl hcdl) (pa_cons can_e pa_nil hs1) hb1 hf1 hl1 hs1 hp1) pa_nil hs2) hb2 hf2 hl2 hs2 hp2) hsw) (by
    obtain ⟨qf, vf, ef, hpf, rf', _⟩ := A.write hf
    obtain ⟨ql, vl', el, hpl, rl, _⟩ := A.write hl
    refine ⟨.ref qf, ef, .inl ⟨rfl, _, SqL.of hpf⟩, .ref ql, el, .inl ⟨rfl, _, SqL.of hpl⟩, he none F σ H _ off0 (by rw [off_none]; exact A) fun F1 H1 v n kp _ A1 pn rn => ?_⟩
    rw [off_none] at A1
    have rn' : v = .int n := rn
    subst rn'
    obtain ⟨n0, n1⟩ := hP n pn
    obtain ⟨ql', xs, el', hpl', rl', wl⟩ := A1.write hl
    rw [el] at el'
    cases el'
    have hm : n.toNat < as.length := by omega
    have xl := Reps.length rl'
    obtain ⟨y, hy, ry⟩ := rl'.get (List.getElem?_eq_getElem hm)
    have ei : ixN xs.length n = some n.toNat := by
      unfold ixN
      rw [if_pos n0, if_pos (by omega)]
    have A2 := wl F1 H1 _ _ (Grow.refl A1.sF) (Reps.eraseIdx n.toNat rl')
    have hf2' : (Γ.set jl (ownd true (as.eraseIdx n.toNat)))[jf]? = some (ownd true fs) := by rw [List.getElem?_set_ne hne.symm]; exact hf
    obtain ⟨qf', ys, ef', hpf', rff, wf⟩ := A2.write hf2'
    rw [ef] at ef'
    cases ef'
    refine ⟨ql, xs, n, n.toNat, y, rfl, rfl, hpl', by omega, by omega, (ixN_seq ei).1, hy, qf, ys, y, rfl, rfl, hpf', by rw [Reps.length rff]; exact hz, ?_⟩
    refine ht n.toNat hm F1 σ _ (wf F1 _ _ _ (Grow.refl A2.sF) (rff.append (.cons ?_ .nil)))
    exact ry)
/-- xs.index(x), ints -/
theorem xindex {as : List Int} {x : Int} {j : Nat} {pa : Pos} (ha : XV X B F0 Γ a as) (hb : XV X B F0 Γ b x) (hj : as[j]? = some x) (hno : ∀ m, m < j → as[m]? ≠ some x)
    (hbase : attributeBase a "index" X.env (eval a X.env) = eval a X.env := by rfl)
    (hfew : ((backTo pos (starEach [b] X.env)).all (fun x => !x.1) && (backToKw pos (keywordEach [] X.env)).all (fun x => x.1.isSome) && decide ([b].length + ([] : List Keyword).length + (if ([] : List Keyword).isEmpty then 0 else 1) < 30)) = true := by rfl)
    (hline : (pa.endLine == pos.line) = true := by rfl) (hst : starEach [b] X.env = (false, eval b X.env) :: starEach [] X.env := by rfl) (hpl : (backTo pos (starEach [] X.env)).any (·.1) = false := by rfl) :
    XE X B F0 Γ (.Call (.Attribute a "index" pa) [b] [] pos) k (j : Int) := fun F σ H Q A q =>
  WE.of (pe_bm PySem.F.plainAttrs_list PySem.F.slot_list_index PySem.F.type_list_index mt_index can_e (pa_cons can_e pa_nil hst) hbase hfew hline hst hpl) (ha F σ H _ A fun F1 H1 v g ⟨l, vs, ev, hl, r⟩ => by
    subst ev
    have e := reps_ints r
    subst e
    refine ⟨.inl ⟨rfl, _, SqL.of hl⟩, hb F1 σ H1 _ (A.grow g) fun F2 H2 w g2 r2 => ?_⟩
    have r2' : w = .int x := r2
    subst r2'
    refine ⟨l, as.map V.int, .int x, j, .int x, rfl, rfl, SqL.of (g2.hh _ _ hl), rfl, by rw [List.all_map]; exact List.all_eq_true.mpr fun _ _ => rfl, by rw [List.getElem?_map, hj]; rfl, ?_, fun m z hm hz => ?_, q F2 H2 _ (g.trans g2) rfl⟩
    · show eqV (.int x) (.int x) = true
      simp [eqV]
    · rw [List.getElem?_map] at hz
      cases w : as[m]? with
      | none => rw [w] at hz; cases hz
      | some u =>
        rw [w] at hz
        have ez : V.int u = z := Option.some.inj hz
        subst ez
        have : u ≠ x := fun e => hno m hm (by rw [w, e])
        simp [eqV, this])
end
end Cb

set_option Elab.async false
set_option linter.all false
set_option maxRecDepth 100000
/-! Cb16: promises of defs that draw -/
namespace Cb
open PySem PySem.Spec L2
open PyProof.Rows hiding St
def sP0 {Z : Type} [R Z] (K : Kf) (post : Z → Prop) : Sp := spP K (fun _ : Unit => True) (fun _ => post)
def sP1 {T1 Z : Type} [R T1] [R Z] (K : Kf) (pre : T1 → Prop) (post : T1 → Z → Prop) : Sp := spP K (fun a : T1 × Unit => pre a.1) (fun a => post a.1)
section
variable {X : Cx} {B F0 : Hp} {Γ : Ev} {k : Bool} {e : Expr} {es : List Expr} {pos : Pos} {p : Addr} {f n : Str} {pf pn : Pos}
theorem xrp1 {T1 Z : Type} [R T1] [Pure T1] [R Z] {pre : T1 → Prop} {post : T1 → Z → Prop} {x1 : T1} (j : Nat) (hΓ : Γ[j]? = some (ownd k (Pn.mk p))) (c : CalX X f (sP1 X.K pre post)) (h : XA X B F0 Γ es (fun K H vs => Args.args (A := T1 × Unit) K H vs (x1, ()))) (hp : pre x1) (hg : Gl X f := by rfl)
    (hN : X.N[j]? = some n := by rfl) (hv : Vis X.env.scope n := by first | exact Or.inl rfl | exact Or.inr (Or.inl rfl) | exact Or.inr (Or.inr rfl)) (hd : (n == ("__debug__" : Str)) = false := by decide) (hcd : (n == ("__classdict__" : Str)) = false := by decide)
    (hdb : (f == ("__debug__" : Str)) = false := by decide) (hs : starEach (.Name n pn :: es) X.env = (false, eval (.Name n pn) X.env) :: starEach es X.env := by rfl) (hpl : (backTo pos (starEach es X.env)).any (·.1) = false := by rfl) : XR X B F0 Γ p (.Call (.Name f pf) (.Name n pn :: es) [] pos) (post x1) :=
  xr_call (A := T1 × Unit) (pre := fun a : T1 × Unit => pre a.1) (post := fun a : T1 × Unit => post a.1) (ag := (x1, ())) j hΓ c h hp hg hN hv hd hcd hdb hs hpl
theorem xrp0 {Z : Type} [R Z] {post : Z → Prop} (j : Nat) (hΓ : Γ[j]? = some (ownd k (Pn.mk p))) (c : CalX X f (sP0 X.K post)) (hg : Gl X f := by rfl)
    (hN : X.N[j]? = some n := by rfl) (hv : Vis X.env.scope n := by first | exact Or.inl rfl | exact Or.inr (Or.inl rfl) | exact Or.inr (Or.inr rfl)) (hd : (n == ("__debug__" : Str)) = false := by decide) (hcd : (n == ("__classdict__" : Str)) = false := by decide)
    (hdb : (f == ("__debug__" : Str)) = false := by decide) (hs : starEach (.Name n pn :: []) X.env = (false, eval (.Name n pn) X.env) :: starEach [] X.env := by rfl) (hpl : (backTo pos (starEach [] X.env)).any (·.1) = false := by rfl) : XR X B F0 Γ p (.Call (.Name f pf) (.Name n pn :: []) [] pos) post :=
  xr_call (A := Unit) (pre := fun _ : Unit => True) (post := fun _ : Unit => post) (ag := ()) j hΓ c y0 trivial hg hN hv hd hcd hdb hs hpl
end
section
variable {P : Program} {w : World} {K : Kf} {mg : Str → Option Value} {base : Heap} {x : Str} {st : Stmt} {N ps : List Str} {k : Nat} {A : Type} [Args A]
theorem cal_p {Z : Type} [R Z] {pre : A → Prop} {post : A → Z → Prop} (U : FnAt K mg x st ps) (S : FnScope N ps (defScope st)) (hl : Args.len A + 1 = ps.length)
    (h : ∀ f cdv Ar outer s H E, Room k (Ar.deeper (envOfC x (defScope st) s.heap.objs.size f cdv)) → ∀ (p : Addr) (px py : Int) (a : A) (B : Hp) (D : Ends), PenOk px py → pre a → RDP K B p D (post a) → TSs (Xc P w K mg base N x st f cdv Ar outer s H E) B B ((ownd true (AtL.mk p [px, py]) :: Args.env a) ++ List.replicate (N.length - (Args.len A + 1)) junk) (defBody st) D) :
    CalL P w K mg base (k + 1) x (spP K pre post) := by
  obtain ⟨f, fd, F, hm, hb⟩ := U.ex
  exact ⟨f, fd, ps, fn_p F S hl (h f), hm, F.kp, hb⟩
end
theorem eq_all {X : Cx} {y : Int} (i : Int) : ∃ c, CmpX X .Eq i y c := ⟨_, cx_eq⟩
theorem lt_all {X : Cx} {y : Int} (i : Int) : ∃ c, CmpX X .Lt i y c := ⟨_, cx_lt⟩
end Cb

set_option Elab.async false
set_option linter.all false
set_option maxRecDepth 100000
/-! Cb17: a draw by a pen without a name -/
namespace Cb
open PySem PySem.Spec L2
open PyProof.Rows hiding St
def XEr (X : Cx) (B F0 : Hp) (Γ : Ev) (e : Expr) {Z : Type} [R Z] (Pr : Z → Prop) : Prop :=
  ∀ F σ H Q, AS X.K B F0 Γ F σ H → (∀ F' H' v c, Grow F H F' H' → Pr c → R.rep X.K (rf true B F') v c → Q v H') → WE X e σ H Q
section
variable {X : Cx} {B F0 : Hp} {Γ : Ev} {k : Bool} {e : Expr} {es : List Expr} {pos : Pos} {D : Ends} {ss : List Stmt}
theorem xer_tmp {Z : Type} [R Z] {post : Z → Prop} {f : Str} {pf : Pos} {x y : Int} {l : List Int} (c : CalX X f (sP0 X.K post)) (he : XO X B F0 Γ e true l) (hl : l = [x, y]) (ok : PenOk x y) (hg : Gl X f := by rfl)
    (hdb : (f == ("__debug__" : Str)) = false := by decide) (hs : starEach [e] X.env = (false, eval e X.env) :: starEach [] X.env := by rfl) (hpl : (backTo pos (starEach [] X.env)).any (·.1) = false := by rfl) : XEr X B F0 Γ (.Call (.Name f pf) [e] [] pos) post := fun F σ H Q A q => by
  subst hl
  obtain ⟨kk, fa, fd, ps, G0, hr, hm, kp, bd⟩ := c.ex
  refine WE.of (pe_call G0 hr hg hm kp bd .nil pass0 (pa_cons can_e pa_nil hs) hdb hs hpl) (he F σ H _ A fun F' H' v O g so n ⟨p, vs, ev, ep, r⟩ => ?_)
  subst ev
  have ev2 := reps_ints r
  subst ev2
  have hp' : H' p = some (.lst [.int x, .int y]) := so _ _ ep
  obtain ⟨np, nf, _⟩ := n p _ ep
  show sP0 X.K post (V.ref p :: ([] ++ [])) H' Q _
  refine ⟨p, x, y, [], (), rfl, hp', ok, rfl, trivial, fun v H2 G c x' y' h1 h2 ok' h3 nw rr hc => ?_⟩
  have s2 : Same H H2 := fun b u z => by
    have zb : b ≠ p := fun e => by subst e; rw [np] at z; cases z
    exact h1 _ _ (by rw [del_ne zb]; exact g.hh _ _ z)
  have nG : NW H G := fun b o z => by
    rcases nw b o z with w | w
    · exact .inl (g.hh.free w)
    · exact .inr w
  have sF' : Same F' H2 := fun b u z => by
    have zb : b ≠ p := fun e => by subst e; rw [nf] at z; cases z
    exact h1 _ _ (by rw [del_ne zb]; exact g.fh _ _ z)
  refine q (join F' G) H2 v c ⟨s2, g.ff.trans (join_left _ _), join_sub sF' h3, fun b o z => ?_⟩ hc (R.mono (fun b o z => ?_) rr)
  · rcases join_is z with w | w
    · exact g.nw _ _ w
    · exact .inr (nG _ _ w)
  · refine res_at (join_right sF' h3 _ _ z) ?_
    rcases nG b o z with w | w
    · exact .inr (A.sB.free w)
    · exact .inl w
theorem ts_asgr {Z : Type} [R Z] {Pr : Z → Prop} {tg : Expr} (he : XEr X B F0 Γ e Pr) (ht : ∀ c, Pr c → ∃ (is : List Nat) (U : Ev → Ev), TGt X B tg true c is U ∧ TSs X B F0 (U Γ) ss D) (hs : swapsWithSole [tg] e pos.line X.env = pure false := by rfl) (hw : swappedStores [tg] e X.env = pure none := by rfl)
    (h1 : (assignEach [tg] X.env).map (·.2) = [assign tg X.env] := by rfl) : TSs X B F0 Γ (.Assign [tg] e pos :: ss) D :=
  ts_cons fun F σ H A => WS.of (ps_asg can_e can_g hs hw h1) (he F σ H _ A fun F' H' v c g pc r => by
    obtain ⟨is, U, hg, ht⟩ := ht c pc
    exact hg F0 Γ F' σ H' v _ (A.grow g) r fun σ' _ _ A' => ht F' σ' H' A')
end
end Cb

set_option Elab.async false
set_option linter.all false
set_option maxRecDepth 100000
/-! Cb18: sorted lists of data -/
namespace Cb
open PySem PySem.Spec L2
open PyProof.Rows hiding St
def dsort {α : Type} [R α] [DecidableEq α] [Dat α] (as : List α) : List α := as.mergeSort (PySem.W.dataLe false (Dat.dat : α → PyData))
def rSortD (α : Type) [R α] [DecidableEq α] [Dat α] (K : Kf) (A : Around) : List V → Hp → VK → Prop := fun vs H Q => ∃ (a : Addr) (xs : List V) (as : List α), vs = [V.ref a] ∧ SqL K H a xs ∧ Reps K H xs as ∧ PySem.W.AllAlike (as.map Dat.dat) ∧ PySem.W.Sortable (as.map Dat.dat) ∧ as.length ≤ sizeLine ∧
  (∀ b, b ∈ as → A.units + 2 + (Dat.dat b).depth < cLine) ∧ ∀ ys p, Reps K H ys (dsort as) → H p = none → Q (.ref p) (upd H p (.lst ys))
section
variable {X : Cx} {α : Type} [R α] [DecidableEq α] [Dat α]
theorem each_of {P : V → α → Prop} : ∀ {xs : List V} {us : List Value} {as : List α}, Vals xs us → Paired P xs as → PySem.W.EachIs (fun (u : Value) (b : α) => ∃ x, RelV x u ∧ P x b) us as
  | _, _, _, .nil, .nil => .nil
  | _, _, _, .cons r t, .cons q t2 => .cons ⟨_, r, q⟩ (each_of t t2)
theorem of_each {P : V → α → Prop} : ∀ {us : List Value} {as : List α}, PySem.W.EachIs (fun (u : Value) (b : α) => ∃ x, RelV x u ∧ P x b) us as → ∃ xs, Vals xs us ∧ Paired P xs as
  | _, _, .nil => ⟨[], .nil, .nil⟩
  | _, _, .cons ⟨x, r, q⟩ t => by
    obtain ⟨xs, h1, h2⟩ := of_each t
    exact ⟨x :: xs, .cons r h1, .cons q h2⟩
theorem cr_sortedD : CallR X (.builtin "sorted") (rSortD α X.K X.A) := by
  intro pins s σ H vs us Q I r h
  obtain ⟨a, xs, as, rfl, hs, hx, al, so, hz, hu, q⟩ := h
  obtain ⟨its, rv, hl, hz2⟩ := I.list hs
  rw [Vals.ref1 r]
  have e1 := each_of rv hx
  refine PySem.W.sorted_data (enc := (Dat.dat : α → PyData)) hl.isList e1 (e1.mono fun u b ⟨x, rx, qx⟩ => Dp.reads I (Dat.dat b) x u (Dat.dp qx) rx) al so hz hu fun out lo eo => ?_
  obtain ⟨ys, h1, h2⟩ := of_each eo
  obtain ⟨ep, he'⟩ := PyProof.Rows.sortedAll_at s.heap its out.toArray
  have hlen : ys.length ≤ sizeLine := by rw [h1.length, lo]; exact hz
  exact ⟨.ref _, upd H (s.heap.objs.size + 1) (.lst ys), I.laid (t' := s.toks) (fun _ _ => PyProof.Rows.sortedAll_old) (Nat.le_succ _) ⟨hlen, out, ep, h1, he'⟩, rfl, q ys _ h2 (I.hok.fresh (Nat.le_succ _))⟩
end
section
variable {X : Cx} {B F0 : Hp} {Γ : Ev} {k : Bool} {a : Expr} {pos p : Pos} {α : Type} [R α] [DecidableEq α] [Dat α] [Pure α]
theorem xsortedD {as : List α} (ms : X.mg "sorted" = none) (ha : XV X B F0 Γ a as) (al : PySem.W.AllAlike (as.map Dat.dat)) (so : PySem.W.Sortable (as.map Dat.dat)) (hz : as.length ≤ sizeLine) (hu : X.A.units + 64 < cLine) (hd : Dat.dep α ≤ 60 := by decide) (hg : Gl X "sorted" := by rfl) (hs : starEach [a] X.env = (false, eval a X.env) :: starEach [] X.env := by rfl) :
    XO X B F0 Γ (.Call (.Name "sorted" p) [a] [] pos) k (dsort as) := fun F σ H Q A q =>
  x_cb (cr_sortedD (α := α)) hg ms (by decide +kernel) (ha F σ H _ A fun F' H' v g ⟨l, vs, e, hl, r⟩ => by
    subst e
    refine ⟨l, vs, as, rfl, SqL.of hl, r, al, so, hz, fun b _ => ?_, fun ys p' r2 np => x_new (g.trans (Grow.tups g.fh)) np (reps_lift g.fh r2) q⟩
    have := Dat.depth b
    omega) (hs := hs)
end
end Cb
namespace Cb
open PySem PySem.Spec L2
open PyProof.Rows hiding St
section
variable {X : Cx} {B F0 : Hp} {Γ : Ev} {k : Bool} {a b c d : Expr} {pos p : Pos}
/-- {x: u, y: v}, texts -/
theorem xd2S {x y u v : Str} (hne : x ≠ y) (ha : XV X B F0 Γ a x) (hb : XV X B F0 Γ b u) (hc : XV X B F0 Γ c y) (hd : XV X B F0 Γ d v) : XO X B F0 Γ (.Dict [some a, some c] [b, d] pos) k (Dct.mk [(x, u), (y, v)] : Dct Str Str) := fun F σ H Q A q =>
  WE.of (pe_disp (pps_cons can_e can_e (pps_cons can_e can_e pps_nil)) (by rfl) (by rfl) (fun z => by cases z) (Nat.le_of_ble_eq_true rfl)) fun p np => by
    have g0 : Grow F H F (upd H p (.dK [])) := Grow.newH A.sF np
    refine ha F σ _ _ (A.grow g0) fun F1 H1 w1 g1 r1 => hb F1 σ H1 _ ((A.grow g0).grow g1) fun F2 H2 w2 g2 r2 => hc F2 σ H2 _ (((A.grow g0).grow g1).grow g2) fun F3 H3 w3 g3 r3 => hd F3 σ H3 _ ((((A.grow g0).grow g1).grow g2).grow g3) fun F4 H4 w4 g4 r4 => ?_
    have e1 : w1 = .str x := r1
    have e2 : w2 = .str u := r2
    have e3 : w3 = .str y := r3
    have e4 : w4 = .str v := r4
    subst e1 e2 e3 e4
    have gg := g1.trans (g2.trans (g3.trans g4))
    have g := g0.trans gg
    have hp : H4 p = some (.dK []) := gg.hh _ _ upd_same
    have fp : F4 p = none := grow_free (O := one p (.dK [])) gg (one_sub upd_same) (fun z hz => by
      cases w : one p (.dK []) z with
      | none => exact absurd w hz
      | some o => obtain ⟨rfl, _⟩ := one_is w; exact A.sF.free np) (fun z o w => by obtain ⟨rfl, rfl⟩ := one_is w; rfl) one_at
    refine ⟨hp, [(Sum.inr x, .str u), (Sum.inr y, .str v)], rfl, Nat.le_of_ble_eq_true rfl, ?_⟩
    have em : mergeK [] [(Sum.inr x, V.str u), (Sum.inr y, V.str v)] = [(Sum.inr x, V.str u), (Sum.inr y, V.str v)] := by
      show putK (putK [] (Sum.inr x) (V.str u)) (Sum.inr y) (V.str v) = _
      rw [putK_eq, putK_eq]
      unfold dPut
      simp [hne]
    rw [em]
    refine q F4 _ (.ref p) (one p (DK.ho [(x, V.str u), (y, V.str v)])) ⟨fun b' u' z => ?_, g.ff, fun b' u' z => ?_, g.nw⟩ (one_sub upd_same) (fun z o w => ?_) ⟨p, [(x, .str u), (y, .str v)], rfl, one_at, .cons ⟨rfl, rfl⟩ (.cons ⟨rfl, rfl⟩ .nil)⟩
    · rw [upd_ne (ne_of_none z np)]; exact g.hh _ _ z
    · rw [upd_ne (ne_of_none z fp)]; exact g.fh _ _ z
    · obtain ⟨rfl, rfl⟩ := one_is w
      exact ⟨np, fp, DK.notTup _⟩
end
end Cb

set_option Elab.async false
set_option linter.all false
set_option maxRecDepth 100000
/-! Cb19: a draw by a pen without a name, with one more argument -/
namespace Cb
open PySem PySem.Spec L2
open PyProof.Rows hiding St
section
variable {X : Cx} {B F0 : Hp} {Γ : Ev} {k : Bool} {e : Expr} {es : List Expr} {pos : Pos} {D : Ends} {ss : List Stmt}
theorem xer_tmp1 {T1 Z : Type} [R T1] [Pure T1] [R Z] {pre : T1 → Prop} {post : T1 → Z → Prop} {x1 : T1} {f : Str} {pf : Pos} {x y : Int} {l : List Int} (c : CalX X f (sP1 X.K pre post)) (he : XO X B F0 Γ e true l) (hl : l = [x, y]) (ok : PenOk x y) (h : XA X B F0 Γ es (fun K H vs => Args.args (A := T1 × Unit) K H vs (x1, ()))) (hp : pre x1) (hg : Gl X f := by rfl)
    (hdb : (f == ("__debug__" : Str)) = false := by decide) (hs : starEach (e :: es) X.env = (false, eval e X.env) :: starEach es X.env := by rfl) (hpl : (backTo pos (starEach es X.env)).any (·.1) = false := by rfl) : XEr X B F0 Γ (.Call (.Name f pf) (e :: es) [] pos) (post x1) := fun F σ H Q A q => by
  subst hl
  obtain ⟨kk, fa, fd, ps, G0, hr, hm, kp, bd⟩ := c.ex
  refine WE.of (pe_call G0 hr hg hm kp bd .nil pass0 (pa_cons can_e can_a hs) hdb hs hpl) (he F σ H _ A fun F1 H1 v O g1 so n ⟨p, vs, ev, ep, r⟩ => h F1 σ H1 _ (A.grow g1) fun F' H' ws g2 r2 => ?_)
  subst ev
  have ev2 := reps_ints r
  subst ev2
  have hp1 : H1 p = some (.lst [.int x, .int y]) := so _ _ ep
  have hp' := g2.hh _ _ hp1
  obtain ⟨np, nf1, _⟩ := n p _ ep
  have g := g1.trans g2
  have nf : F' p = none := by
    cases w : F' p with
    | none => rfl
    | some o =>
      rcases g2.nw _ _ w with z | z | z
      · rw [nf1] at z; cases z
      · rw [hp1] at z; cases z
      · have := g2.fh _ _ w; rw [hp'] at this; cases this; cases z
  show sP1 X.K pre post (V.ref p :: (ws ++ [])) H' Q _
  rw [List.append_nil]
  refine ⟨p, x, y, ws, (x1, ()), rfl, hp', ok, ArgsP.dl r2 hp', hp, fun v H2 G c x' y' h1 h2 ok' h3 nw rr hc => ?_⟩
  have s2 : Same H H2 := fun b u z => by
    have zb : b ≠ p := fun e => by subst e; rw [np] at z; cases z
    exact h1 _ _ (by rw [del_ne zb]; exact g.hh _ _ z)
  have nG : NW H G := fun b o z => by
    rcases nw b o z with w | w
    · exact .inl (g.hh.free w)
    · exact .inr w
  have sF' : Same F' H2 := fun b u z => by
    have zb : b ≠ p := fun e => by subst e; rw [nf] at z; cases z
    exact h1 _ _ (by rw [del_ne zb]; exact g.fh _ _ z)
  refine q (join F' G) H2 v c ⟨s2, g.ff.trans (join_left _ _), join_sub sF' h3, fun b o z => ?_⟩ hc (R.mono (fun b o z => ?_) rr)
  · rcases join_is z with w | w
    · exact g.nw _ _ w
    · exact .inr (nG _ _ w)
  · refine res_at (join_right sF' h3 _ _ z) ?_
    rcases nG b o z with w | w
    · exact .inr (A.sB.free w)
    · exact .inl w
/-- name = a relational value -/
theorem ts_setr {Z : Type} [R Z] {Pr : Z → Prop} {n : Str} {pn : Pos} (j : Nat) (hN : X.N.Nodup) (he : XEr X B F0 Γ e Pr) (ht : ∀ c, Pr c → TSs X B F0 (Γ.set j (vl true c)) ss D) (hi : X.N[j]? = some n := by rfl) (hx : Loc X.env.scope n := by first | exact Or.inl rfl | exact Or.inr rfl)
    (hs : swapsWith e (some (.Name n pn)) pos.line X.env = pure false := by rfl) (hf : X.fn n = true ∨ X.env.scope.names.lookup n = some .local := by first | exact .inl rfl | exact .inr rfl) : TSs X B F0 Γ (.Assign [.Name n pn] e pos :: ss) D :=
  ts_cons fun F σ H A => WS.of (ps_set hN hi hx can_e hs hf) (he F σ H _ A fun F' H' v c g pc r => ht c pc F' _ H' ((A.grow g).set j r))
end
end Cb

set_option Elab.async false
set_option linter.all false
set_option maxRecDepth 100000
/-! Cb20: a list within a told tuple or list is changed; one of two kinds known -/
namespace Cb
open PySem PySem.Spec L2
open PyProof.Rows hiding St
section
variable {X : Cx} {B F0 : Hp} {Γ : Ev} {k : Bool} {e : Expr} {α β : Type} [R α] [R β]
theorem XE.outl {s : Sum α β} {a : α} (h : XE X B F0 Γ e k s) (q : s = .inl a) : XE X B F0 Γ e k a := by subst q; exact h
theorem XE.outr {s : Sum α β} {a : β} (h : XE X B F0 Γ e k s) (q : s = .inr a) : XE X B F0 Γ e k a := by subst q; exact h
theorem XV.outl {s : Sum α β} {a : α} (h : XV X B F0 Γ e s) (q : s = .inl a) : XV X B F0 Γ e a := by subst q; exact h
theorem XV.outr {s : Sum α β} {a : β} (h : XV X B F0 Γ e s) (q : s = .inr a) : XV X B F0 Γ e a := by subst q; exact h
theorem XE.outo {s : Option α} {a : α} (h : XE X B F0 Γ e k s) (q : s = Option.some a) : XE X B F0 Γ e k a := by subst q; exact h
theorem XV.outo {s : Option α} {a : α} (h : XV X B F0 Γ e s) (q : s = Option.some a) : XV X B F0 Γ e a := by subst q; exact h
theorem XV.inl {a : α} (h : XV X B F0 Γ e a) : XV X B F0 Γ e (Sum.inl a : Sum α β) := h
theorem XV.inr {a : β} (h : XV X B F0 Γ e a) : XV X B F0 Γ e (Sum.inr a : Sum α β) := h
end
/-- a tuple or list of len things whose t-th is a list, of at most cap things, that may be changed -/
structure MutX where
  len : Nat
  t : Nat
  cap : Nat
def sqO (F : Hp) (p : Addr) (us : List V) : Prop := F p = some (.tup us) ∨ F p = some (.lst us)
theorem sqO.mono {F F' : Hp} (h : Same F F') {p : Addr} {us : List V} (s : sqO F p us) : sqO F' p us := s.imp (h _ _) (h _ _)
instance : R MutX := ⟨fun K F v m => ∃ p us q vs, v = .ref p ∧ sqO F p us ∧ us.length = m.len ∧ us[m.t]? = some (.ref q) ∧ F q = some (.lst vs) ∧ vs.length ≤ m.cap,
  fun h ⟨p, us, q, vs, e, s, l, z, w, c⟩ => ⟨p, us, q, vs, e, s.mono h, l, z, h _ _ w, c⟩⟩
instance : Ow MutX where
  own := fun K F v m O => ∃ p us q vs, v = .ref p ∧ sqO F p us ∧ us.length = m.len ∧ us[m.t]? = some (.ref q) ∧ O q = some (.lst vs) ∧ vs.length ≤ m.cap
  omono := fun h ⟨p, us, q, vs, e, s, l, z, w, c⟩ => ⟨p, us, q, vs, e, s.mono h, l, z, w, c⟩
  oread := fun ⟨p, us, q, vs, e, s, l, z, w, c⟩ hF hO => ⟨p, us, q, vs, e, s.mono hF, l, z, hO _ _ w, c⟩
section
variable {X : Cx} {B F0 : Hp} {Γ : Ev} {k : Bool} {e ix : Expr} {D : Ends} {ss : List Stmt} {α : Type} [R α]
/-- what is told is taken apart: its t-th list may be changed from here on -/
theorem ts_mutx {x : α} (i : Nat) (m : MutX) (hΓ : Γ[i]? = some (vl true x)) (hF : F0 = B) (hI : ∀ s ∈ Γ.set i junk, s.Indep)
    (hx : ∀ K F v, R.rep K F v x → ∃ p us q vs, v = .ref p ∧ sqO F p us ∧ us.length = m.len ∧ us[m.t]? = some (.ref q) ∧ F q = some (.lst vs) ∧ vs.length ≤ m.cap ∧ q ≠ p)
    (ht : TSs X B F0 (Γ.set i (ownd true m)) ss D) : TSs X B F0 Γ ss D := fun F σ H A => by
  obtain ⟨⟨O, s, so, d, nt⟩, sF, sB, s0, bf⟩ := A
  obtain ⟨o, O1, Or, e1, h1, h2, h3, ⟨v, rfl, rv⟩, h5⟩ := s.focus hΓ
  obtain ⟨p, us, q, vs, rfl, hp, hl, hz, hq, hc, qp⟩ := hx _ _ _ rv
  obtain ⟨fq, tq⟩ := res_is (show res B F q = some (.lst vs) from hq)
  have nB : B q = none := tq.resolve_left (by intro z; cases z)
  have hOq : O q = none := by
    cases w : O q with
    | none => rfl
    | some u => have := (d q (by rw [w]; simp)).1; rw [fq] at this; cases this
  have hσ : σ.set i (some (.ref p)) = σ := set_self e1
  let F' : Hp := del q F
  have hF' : Same F' F := del_sub
  have tF : Same (tups F) F' := fun b u w => by
    obtain ⟨w1, t⟩ := tups_is w
    have : b ≠ q := fun z => by subst z; rw [fq] at w1; cases w1; cases t
    show del q F b = _
    rw [del_ne this]; exact w1
  have sJ : Slots X.K B F (Γ.set i junk) (σ.set i none) O := h5 F junk none (fun _ => none) O (Same.refl _) trivial (fun _ _ z => nomatch z) h2 fun x => .inl rfl
  have sT : Slots X.K B F' (Γ.set i junk) (σ.set i none) O := (Slots.tups' hI sJ).mono tF
  have iL : i < Γ.length := by
    rcases Nat.lt_or_ge i Γ.length with z | z
    · exact z
    · rw [List.getElem?_eq_none z] at hΓ; cases hΓ
  obtain ⟨o', P1, Pr, e2, q1, q2, q3, _, q5⟩ := sT.focus (i := i) (s := junk) (by rw [List.getElem?_set_self iL])
  have pH : H q = some (.lst vs) := sF _ _ fq
  have s1 : Same (one q (.lst vs)) H := one_sub pH
  have sP : Same Pr H := q2.trans so
  have nPr : Pr q = none := by
    cases w : Pr q with
    | none => rfl
    | some u => rw [q2 _ _ w] at hOq; cases hOq
  have hp' : sqO (rf true B F') p us := by
    rcases hp with w | w
    · obtain ⟨w1, _⟩ := res_is (show res B F p = some (.tup us) from w)
      exact .inl (res_at (show del q F p = _ by rw [del_ne qp.symm]; exact w1) (.inl rfl))
    · obtain ⟨w1, w2⟩ := res_is (show res B F p = some (.lst us) from w)
      exact .inr (res_at (show del q F p = _ by rw [del_ne qp.symm]; exact w1) (.inr (w2.resolve_left (by intro z; cases z))))
  have key := q5 F' (ownd true m) (some (.ref p)) (one q (.lst vs)) (join (one q (.lst vs)) Pr) (Same.refl _) ⟨_, rfl, p, us, q, vs, rfl, hp', hl, hz, one_at, hc⟩ (join_left _ _) (join_right s1 sP) fun x => by
    by_cases z : x = q
    · subst z; exact .inr nPr
    · left; unfold one; rw [if_neg z]
  rw [List.set_set, List.set_set, hσ] at key
  refine ht F' σ H ⟨⟨_, key, join_sub s1 sP, fun x hx => ?_, fun x u w => ?_⟩, hF'.trans sF, sB, ?_, ?_⟩
  · by_cases z : x = q
    · subst z; exact ⟨del_self, nB⟩
    · cases w : join (one q (.lst vs)) Pr x with
      | none => exact absurd w hx
      | some u =>
        rcases join_is w with y | y
        · exact absurd (one_is y).1 z
        · have hO : O x ≠ none := by rw [q2 _ _ y]; simp
          exact ⟨(del_ne z).trans (d x hO).1, (d x hO).2⟩
  · rcases join_is w with y | y
    · obtain ⟨rfl, rfl⟩ := one_is y; rfl
    · exact nt _ _ (q2 _ _ y)
  · subst hF
    intro b u w
    have : b ≠ q := fun z => by subst z; rw [nB] at w; cases w
    show del q F b = _
    rw [del_ne this]; exact s0 _ _ w
  · intro b u w
    have : b ≠ q := fun z => by subst z; rw [nB] at w; cases w
    show del q F b = _
    rw [del_ne this]; exact bf _ _ w
/-- a call without arguments that changes the list -/
theorem ts_mutx0 {m : MutX} {j : Int} {n name : Str} {id : String} {p pa cp ep sp : Pos} {r : V → List V → Hp → VK → Prop} (i : Nat) (hΓ : Γ[i]? = some (ownd k m)) (slot : PySem.Slot "list" name id) (hty : typeOf (.builtin id) = pure (.type "method_descriptor")) (hm : MtR X id r)
    (hr : ∀ q vs H Q, H q = some (.lst vs) → (∀ u vs', vs'.length ≤ vs.length → Q u (upd H q (.lst vs'))) → r (.ref q) [] H Q) (hix : XV X B F0 Γ ix j) (hj : ixN m.len j = some m.t)
    (ht : TSs X B F0 (Γ.set i (ownd k m)) ss D) (hpi : PlainIx ix) (hN : X.N[i]? = some n) (hv : Vis X.env.scope n) (hd : (n == ("__debug__" : Str)) = false) (hcd : (n == ("__classdict__" : Str)) = false)
    (hbase : attributeBase (.Subscript (.Name n p) ix sp) name X.env (eval (.Subscript (.Name n p) ix sp) X.env) = eval (.Subscript (.Name n p) ix sp) X.env) (hline : (pa.endLine == cp.line) = true) (hs : swapsWith (.Call (.Attribute (.Subscript (.Name n p) ix sp) name pa) [] [] cp) none ep.line X.env = pure false) :
    TSs X B F0 Γ (.Expr (.Call (.Attribute (.Subscript (.Name n p) ix sp) name pa) [] [] cp) ep :: ss) D :=
  ts_cons fun F σ H A => WS.of (ps_expr (pe_bm0 PySem.F.plainAttrs_list slot hty hm (pe_ix ix_seq (pe_var hN hv hd hcd) can_e hpi) hbase hline) hs) (by
    obtain ⟨v, O1, e1, sO, ⟨b, us, q, vs, rfl, hb, hl, hz, hq, hc⟩, w⟩ := A.poke (β' := MutX) hΓ
    refine ⟨.ref b, e1, hix F σ H _ A fun F1 H1 v1 g1 r1 => ?_⟩
    have r1' : v1 = .int j := r1
    subst r1'
    have hat : atI us j = some (.ref q) := by unfold atI; rw [hl, hj]; exact hz
    have hqH := g1.hh _ _ (sO _ _ hq)
    have fin : (∃ T, T = "list") → r (.ref q) [] H1 _ := fun _ => hr q vs H1 _ hqH fun u vs' le => ht F1 σ _ (w F1 H1 (fun _ => none) q vs vs' _ g1 hq (fun _ _ z => nomatch z) (fun _ _ z => nomatch z) ⟨b, us, q, vs', rfl, hb.mono (rf_mono g1.ff), hl, hz, upd_same, Nat.le_trans le hc⟩)
    have tyq : tyV X.K "list" (.ref q) H1 := .inl ⟨rfl, _, SqL.of hqH⟩
    rcases hb with z | z
    · exact .inr (.inl ⟨b, us, j, .ref q, rfl, rfl, SqT.of (g1.fh _ _ (g1.ff _ _ (rf_sub _ _ z))), hat, tyq, fin ⟨_, rfl⟩⟩)
    · exact .inl ⟨b, us, j, .ref q, rfl, rfl, SqL.of (g1.fh _ _ (g1.ff _ _ (rf_sub _ _ z))), hat, tyq, fin ⟨_, rfl⟩⟩)
/-- x[i].append(e) -/
theorem ts_mutxA {β : Type} [R β] {y : β} {m : MutX} {j : Int} {n : Str} {p pa cp ep sp : Pos} (i : Nat) (hΓ : Γ[i]? = some (ownd k m)) (hix : XV X B F0 Γ ix j) (hj : ixN m.len j = some m.t) (he : XV X B F0 Γ e y) (hcap : m.cap < sizeLine)
    (ht : TSs X B F0 (Γ.set i (ownd k (MutX.mk m.len m.t (m.cap + 1)))) ss D) (hpi : PlainIx ix := by exact fun _ _ => rfl)
    (hN : X.N[i]? = some n := by rfl) (hv : Vis X.env.scope n := by first | exact Or.inl rfl | exact Or.inr (Or.inl rfl) | exact Or.inr (Or.inr rfl)) (hd : (n == ("__debug__" : Str)) = false := by decide) (hcd : (n == ("__classdict__" : Str)) = false := by decide)
    (hbase : attributeBase (.Subscript (.Name n p) ix sp) "append" X.env (eval (.Subscript (.Name n p) ix sp) X.env) = eval (.Subscript (.Name n p) ix sp) X.env := by rfl)
    (hfew : ((backTo cp (starEach [e] X.env)).all (fun x => !x.1) && (backToKw cp (keywordEach [] X.env)).all (fun x => x.1.isSome) && decide ([e].length + ([] : List Keyword).length + (if ([] : List Keyword).isEmpty then 0 else 1) < 30)) = true := by rfl)
    (hline : (pa.endLine == cp.line) = true := by rfl) (hst : starEach [e] X.env = (false, eval e X.env) :: starEach [] X.env := by rfl) (hpl : (backTo cp (starEach [] X.env)).any (·.1) = false := by rfl) (hs : swapsWith (.Call (.Attribute (.Subscript (.Name n p) ix sp) "append" pa) [e] [] cp) none ep.line X.env = pure false := by rfl) :
    TSs X B F0 Γ (.Expr (.Call (.Attribute (.Subscript (.Name n p) ix sp) "append" pa) [e] [] cp) ep :: ss) D :=
  ts_cons fun F σ H A => WS.of (ps_expr (pe_bm PySem.F.plainAttrs_list PySem.F.slot_list_append PySem.F.type_list_append mt_append (pe_ix ix_seq (pe_var hN hv hd hcd) can_e hpi) (pa_cons can_e pa_nil hst) hbase hfew hline hst hpl) hs) (by
    obtain ⟨v, O1, e1, sO, ⟨b, us, q, vs, rfl, hb, hl, hz, hq, hc⟩, w⟩ := A.poke (β' := MutX) hΓ
    refine ⟨.ref b, e1, hix F σ H _ A fun F1 H1 v1 g1 r1 => ?_⟩
    have r1' : v1 = .int j := r1
    subst r1'
    have hat : atI us j = some (.ref q) := by unfold atI; rw [hl, hj]; exact hz
    have hqH := g1.hh _ _ (sO _ _ hq)
    have tyq : tyV X.K "list" (.ref q) H1 := .inl ⟨rfl, _, SqL.of hqH⟩
    have fin := he F1 σ H1 (fun u H2 => rAppend (.ref q) [u] H2 fun _ H3 => WSs X ss D σ H3) (A.grow g1) fun F' H' v g2 rv => by
      have g := g1.trans g2
      exact ⟨q, vs, v, rfl, rfl, g.hh _ _ (sO _ _ hq), by omega, ht F' σ _ (w F' H' (fun _ => none) q vs (vs ++ [v]) _ g hq (fun _ _ z => nomatch z) (fun _ _ z => nomatch z) ⟨b, us, q, vs ++ [v], rfl, hb.mono (rf_mono g.ff), hl, hz, upd_same, by rw [List.length_append]; exact Nat.add_le_add hc (Nat.le_refl 1)⟩)⟩
    rcases hb with z | z
    · exact .inr (.inl ⟨b, us, j, .ref q, rfl, rfl, SqT.of (g1.fh _ _ (g1.ff _ _ (rf_sub _ _ z))), hat, tyq, fin⟩)
    · exact .inl ⟨b, us, j, .ref q, rfl, rfl, SqL.of (g1.fh _ _ (g1.ff _ _ (rf_sub _ _ z))), hat, tyq, fin⟩)
theorem ts_mutxR {m : MutX} {j : Int} {n : Str} {p pa cp ep sp : Pos} (i : Nat) (hΓ : Γ[i]? = some (ownd k m)) (hix : XV X B F0 Γ ix j) (hj : ixN m.len j = some m.t) (ht : TSs X B F0 (Γ.set i (ownd k m)) ss D) (hpi : PlainIx ix := by exact fun _ _ => rfl)
    (hN : X.N[i]? = some n := by rfl) (hv : Vis X.env.scope n := by first | exact Or.inl rfl | exact Or.inr (Or.inl rfl) | exact Or.inr (Or.inr rfl)) (hd : (n == ("__debug__" : Str)) = false := by decide) (hcd : (n == ("__classdict__" : Str)) = false := by decide)
    (hbase : attributeBase (.Subscript (.Name n p) ix sp) "reverse" X.env (eval (.Subscript (.Name n p) ix sp) X.env) = eval (.Subscript (.Name n p) ix sp) X.env := by rfl) (hline : (pa.endLine == cp.line) = true := by rfl) (hs : swapsWith (.Call (.Attribute (.Subscript (.Name n p) ix sp) "reverse" pa) [] [] cp) none ep.line X.env = pure false := by rfl) :
    TSs X B F0 Γ (.Expr (.Call (.Attribute (.Subscript (.Name n p) ix sp) "reverse" pa) [] [] cp) ep :: ss) D :=
  ts_mutx0 i hΓ PySem.F.slot_list_reverse PySem.F.type_list_reverse mt_reverse (fun q vs H Q hq z => ⟨q, vs, rfl, rfl, hq, z _ _ (by rw [List.length_reverse]; exact Nat.le_refl _)⟩) hix hj ht hpi hN hv hd hcd hbase hline hs
theorem ts_mutxC {m : MutX} {j : Int} {n : Str} {p pa cp ep sp : Pos} (i : Nat) (hΓ : Γ[i]? = some (ownd k m)) (hix : XV X B F0 Γ ix j) (hj : ixN m.len j = some m.t) (ht : TSs X B F0 (Γ.set i (ownd k m)) ss D) (hpi : PlainIx ix := by exact fun _ _ => rfl)
    (hN : X.N[i]? = some n := by rfl) (hv : Vis X.env.scope n := by first | exact Or.inl rfl | exact Or.inr (Or.inl rfl) | exact Or.inr (Or.inr rfl)) (hd : (n == ("__debug__" : Str)) = false := by decide) (hcd : (n == ("__classdict__" : Str)) = false := by decide)
    (hbase : attributeBase (.Subscript (.Name n p) ix sp) "clear" X.env (eval (.Subscript (.Name n p) ix sp) X.env) = eval (.Subscript (.Name n p) ix sp) X.env := by rfl) (hline : (pa.endLine == cp.line) = true := by rfl) (hs : swapsWith (.Call (.Attribute (.Subscript (.Name n p) ix sp) "clear" pa) [] [] cp) none ep.line X.env = pure false := by rfl) :
    TSs X B F0 Γ (.Expr (.Call (.Attribute (.Subscript (.Name n p) ix sp) "clear" pa) [] [] cp) ep :: ss) D :=
  ts_mutx0 i hΓ PySem.F.slot_list_clear PySem.F.type_list_clear mt_clear (fun q vs H Q hq z => ⟨q, vs, rfl, rfl, hq, z _ _ (Nat.zero_le _)⟩) hix hj ht hpi hN hv hd hcd hbase hline hs
end
/-! which things hold a list -/
theorem mx_pair {α β : Type} [R α] [R β] {a : α} {bs : List β} {c : Nat} (h : bs.length ≤ c) : ∀ K F v, R.rep K F v ((a, bs) : α × List β) → ∃ p us q vs, v = V.ref p ∧ sqO F p us ∧ us.length = (MutX.mk 2 1 c).len ∧ us[(MutX.mk 2 1 c).t]? = some (.ref q) ∧ F q = some (.lst vs) ∧ vs.length ≤ (MutX.mk 2 1 c).cap ∧ q ≠ p :=
  fun K F v ⟨p, v1, v2, e, hp, _, q, vs, e2, hq, r⟩ => ⟨p, [v1, v2], q, vs, e, .inl hp, rfl, by rw [e2]; rfl, hq, by rw [Reps.length r]; exact h, fun z => by subst z; rw [hp] at hq; cases hq⟩
theorem mx_pairl {α β γ : Type} [R α] [R β] [R γ] {a : α} {s : Sum (List β) γ} {bs : List β} {c : Nat} (e : s = .inl bs) (h : bs.length ≤ c) : ∀ K F v, R.rep K F v ((a, s) : α × Sum (List β) γ) → ∃ p us q vs, v = V.ref p ∧ sqO F p us ∧ us.length = (MutX.mk 2 1 c).len ∧ us[(MutX.mk 2 1 c).t]? = some (.ref q) ∧ F q = some (.lst vs) ∧ vs.length ≤ (MutX.mk 2 1 c).cap ∧ q ≠ p := by
  subst e; exact mx_pair (a := a) h
theorem mx_pairr {α β γ : Type} [R α] [R β] [R γ] {a : α} {s : Sum γ (List β)} {bs : List β} {c : Nat} (e : s = .inr bs) (h : bs.length ≤ c) : ∀ K F v, R.rep K F v ((a, s) : α × Sum γ (List β)) → ∃ p us q vs, v = V.ref p ∧ sqO F p us ∧ us.length = (MutX.mk 2 1 c).len ∧ us[(MutX.mk 2 1 c).t]? = some (.ref q) ∧ F q = some (.lst vs) ∧ vs.length ≤ (MutX.mk 2 1 c).cap ∧ q ≠ p := by
  subst e; exact mx_pair (a := a) h
end Cb

set_option Elab.async false
set_option linter.all false
set_option maxRecDepth 100000
/-! Cb21: zip of a tuple and a list -/
namespace Cb
open PySem PySem.Spec L2
open PyProof.Rows hiding St
/-- a tuple and a list side by side -/
def ItzM (K : Kf) (a b : Addr) : It where
  go := fun i H => ∃ xs ys x y, SqT K H a xs ∧ SqL K H b ys ∧ xs[i]? = some x ∧ ys[i]? = some y
  yld := fun i H v H' => ∃ T x y, v = .ref T ∧ H T = none ∧ H' = upd H T (.tup [x, y]) ∧ (∀ xs, SqT K H a xs → xs[i]? = some x) ∧ ∀ ys, SqL K H b ys → ys[i]? = some y
  stop := fun i H => ∃ xs ys, SqT K H a xs ∧ SqL K H b ys ∧ i ≤ xs.length ∧ i ≤ ys.length ∧ (i = xs.length ∨ i = ys.length)
section
variable {z TI TO i1 i2 : Addr}
abbrev zcells (z TI TO i1 i2 : Addr) : List Addr := [z, TI, TO, i1, i2]
def ZSt (z TI TO i1 i2 a b : Addr) (i : Nat) (h : Heap) : Prop := IsZip h z TI TO .none ∧ IsTupOf2 h TI (.ref i1) (.ref i2) ∧ (∃ x y, IsTupOf2 h TO x y) ∧ h.IsTupleIter i1 a i ∧ h.IsListIter i2 b i
theorem zcase {c : Addr} {P : Addr → Prop} (h : c ∈ zcells z TI TO i1 i2) (h1 : P z) (h2 : P TI) (h3 : P TO) (h4 : P i1) (h5 : P i2) : P c := by
  have e : c = z ∨ c = TI ∨ c = TO ∨ c = i1 ∨ c = i2 := by simpa using h
  rcases e with q | q | q | q | q <;> (rw [q]; assumption)
theorem turn_zipM {P : Program} {w : World} {K : Kf} {elts : List Expr} {kk : Nat} {tpos : Pos} {a b : Addr} (S : ZipSep2 z TI TO i1 i2 [i1, a] [i2, b]) (na : a ≠ i1) (nb : b ≠ i2) :
    Turn P w K (.Tuple elts kk tpos) (ItzM K a b) (zcells z TI TO i1 i2) z (ZSt z TI TO i1 i2 a b) := by
  refine ⟨by simp, fun i h st c hc => ?_, fun i h h' st k => ?_, ?_, ?_, fun A i s Q E st h => wpAny_pyIter_zip st.1 h⟩
  · obtain ⟨u1, u2, ⟨x, y, u3⟩, ⟨o1, e1, _, d1⟩, ⟨o2, e2, _, d2⟩⟩ := st
    exact zcase (P := fun c => ∃ o, h.get? c = some o ∧ ∀ v, o.data ≠ .cell v) hc ⟨_, u1, fun v q => nomatch q⟩ ⟨_, u2, fun v q => nomatch q⟩ ⟨_, u3, fun v q => nomatch q⟩ ⟨o1, e1, fun v q => by rw [d1] at q; cases q⟩ ⟨o2, e2, fun v q => by rw [d2] at q; cases q⟩
  · obtain ⟨u1, u2, ⟨x, y, u3⟩, u4, u5⟩ := st
    exact ⟨k z (by simp) _ u1, k TI (by simp) _ u2, ⟨x, y, k TO (by simp) _ u3⟩, u4.at fun o q => k i1 (by simp) o q, u5.at fun o q => k i2 (by simp) o q⟩
  · intro X hP hw hK hc i pins s σ H E I hf st hg
    subst hP hw hK
    obtain ⟨u1, u2, ⟨x0, y0, u3⟩, u4, u5⟩ := st
    obtain ⟨xs, ys, x, y, qx, qy, hx, hy⟩ := hg
    obtain ⟨its, rv, p, _⟩ := I.tuple qx
    obtain ⟨its2, rv2, p2, _⟩ := I.list qy
    obtain ⟨u, hu, ru⟩ := rv.get hx
    obtain ⟨v, hv, rw'⟩ := rv2.get hy
    have hh : X.A.in1.handled = none := I.ok.hd hc
    have lt1 : i < its.toArray.size := by
      have := (List.getElem?_eq_some_iff.mp hu).1
      simpa using this
    have lt2 : i < its2.toArray.size := by
      have := (List.getElem?_eq_some_iff.mp hv).1
      simpa using this
    have hzl : z < s.heap.objs.size := Heap.lt_size u1
    refine wpAny_pyNext_zipD2_item S (Draws.tuple hh i1 a na its.toArray) (Draws.list hh i2 b nb its2.toArray) u1 u2 u3 ⟨u4, p⟩ ⟨u5, p2.isList⟩ lt1 lt2 fun x1 x2 h' tk e1 e2 w1 w2 w3 w4 hT hsz hk => ?_
    have e1' : u = x1 := by
      have : its[i]? = some x1 := by simpa using e1
      rw [hu] at this; exact Option.some.inj this
    have e2' : v = x2 := by
      have : its2[i]? = some x2 := by simpa using e2
      rw [hv] at this; exact Option.some.inj this
    subst e1' e2'
    refine ⟨_, rfl, wpAny_letOwnedTupleGo_zip (s := { s with heap := h', toks := tk }) w1 fun h'' z'' sb => ?_⟩
    have hT2 : h''.get? s.heap.objs.size = some { cls := .type "tuple", data := .seq #[u, v] } := (sb.2 _ (Nat.ne_of_gt hzl)).trans hT
    have nw : ObjOk X.prog X.w (upd H s.heap.objs.size (.tup [x, y])) h'' s.heap.objs.size (.tup [x, y]) := ⟨by show 2 ≤ sizeLine; decide, [u, v], .cons ru (.cons rw' .nil), ⟨_, hT2, rfl, _, rfl⟩⟩
    have I1 : Inv X pins σ (upd H s.heap.objs.size (.tup [x, y])) { s with heap := h'', toks := tk } := I.turnedNew (t' := tk) (ch := zcells z TI TO i1 i2)
      (fun c o hb q => (sb.2 c (fun y => hb (by simp [y]))).trans (hk c o (fun y => hb (by simp [y])) (fun y => hb (by simp [y])) (fun y => hb (by simp [y])) (fun y => hb (by simp [y])) q)) hf (Nat.le_refl _) nw
    refine ⟨.ref s.heap.objs.size, _, I1, rfl, ⟨_, x, y, rfl, I.hok.fresh (Nat.le_refl _), rfl, fun l hl => by rw [I.tuple_inj hl qx]; exact hx, fun l hl => by rw [I.list_inj hl qy]; exact hy⟩, ⟨z'', ?_, ⟨u, v, ?_⟩, ?_, ?_⟩, fun c hcm => ?_⟩
    · exact (sb.2 _ S.TIz).trans (hk _ _ S.TIz S.TITO S.TIi1 S.TIi2 u2)
    · exact (sb.2 _ S.TOz).trans w2
    · exact w3.1.at fun o q => (sb.2 _ S.zi1.symm).trans q
    · exact w4.1.at fun o q => (sb.2 _ S.zi2.symm).trans q
    · have lt : c < s.heap.objs.size := by
        refine zcase (P := fun c => c < s.heap.objs.size) hcm hzl (Heap.lt_size u2) (Heap.lt_size u3) ?_ ?_
        · obtain ⟨_, e, _⟩ := u4; exact Heap.lt_size e
        · obtain ⟨_, e, _⟩ := u5; exact Heap.lt_size e
      rw [upd_ne (Nat.ne_of_lt lt)]
      exact (hf c hcm).1
  · intro X hP hw hK hc i pins s σ H E I hf st hg
    subst hP hw hK
    obtain ⟨u1, u2, ⟨x0, y0, u3⟩, u4, u5⟩ := st
    obtain ⟨xs, ys, qx, qy, l1, l2, le⟩ := hg
    obtain ⟨its, rv, p, _⟩ := I.tuple qx
    obtain ⟨its2, rv2, p2, _⟩ := I.list qy
    have hh : X.A.in1.handled = none := I.ok.hd hc
    have n1 := rv.length
    have n2 := rv2.length
    have z1 : its.toArray.size = its.length := by simp
    have z2 : its2.toArray.size = its2.length := by simp
    exact wpAny_pyNext_zipD2_end S (Draws.tuple hh i1 a na its.toArray) (Draws.list hh i2 b nb its2.toArray) u1 u2 u3 ⟨u4, p⟩ ⟨u5, p2.isList⟩ (by omega) (by omega) (by omega) fun h' tk hk => ⟨rfl, I.turnedL (t' := tk) (ch := zcells z TI TO i1 i2) (fun c o hb q =>
      hk c o (fun y => hb (by simp [y])) (fun y => hb (by simp [y])) (fun y => hb (by simp [y])) (fun y => hb (by simp [y])) q) hf⟩
end
def iZipM (K : Kf) (ta : TA) : TI := fun σ H R => ta σ H fun vs H1 => ∃ a b xs ys, vs = [V.ref a, V.ref b] ∧ SqT K H1 a xs ∧ SqL K H1 b ys ∧ R (ItzM K a b) H1
theorem zsep (n a b : Nat) (ha : a < n) (hb : b < n) : ZipSep2 (n + 4) (n + 2) (n + 3) n (n + 1) [n, a] [n + 1, b] := by
  have N : ∀ {x y : Nat}, (x < y ∨ y < x) → x ≠ y := fun h => by omega
  have M : ∀ {c x y : Nat}, c ≠ x → c ≠ y → c ∉ [x, y] := fun h1 h2 q => by
    rcases List.mem_cons.mp q with e | e
    · exact h1 e
    · exact h2 (List.mem_singleton.mp e)
  exact ⟨N (x := n + 2) (y := n + 4) (by omega), N (x := n + 3) (y := n + 4) (by omega), N (x := n + 2) (y := n + 3) (by omega), N (x := n + 2) (y := n) (by omega), List.mem_cons_self, M (c := n + 4) (x := n) (y := a) (by omega) (by omega), M (c := n + 3) (x := n) (y := a) (by omega) (by omega),
    N (x := n + 2) (y := n + 1) (by omega), List.mem_cons_self, M (c := n + 4) (x := n + 1) (y := b) (by omega) (by omega), M (c := n + 3) (x := n + 1) (y := b) (by omega) (by omega), M (c := n) (x := n + 1) (y := b) (by omega) (by omega), M (c := n + 1) (x := n) (y := a) (by omega) (by omega)⟩
theorem pi_zipM {X : Cx} {e e2 : Expr} {ta : TA} {p pos tpos : Pos} {elts : List Expr} {kk : Nat} (hg : Gl X "zip") (hm : X.mg "zip" = none) (ha : PA X [e, e2] ta)
    (hs : starEach [e, e2] X.env = (false, eval e X.env) :: starEach [e2] X.env := by rfl) (hpl : (backTo pos (starEach [e2] X.env)).any (·.1) = false := by rfl) : PI X (.Tuple elts kk tpos) (.Call (.Name "zip" p) [e, e2] [] pos) (iZipM X.K ta) := by
  constructor
  intro pins s σ H R I h
  refine Call_ (ld_blt I hg hm PyProof.Rows.boot_zip (PyProof.Rows.callWith_type1 (thn (ha.run pos pins s σ H _ I h) fun us s1 ⟨vs, H1, I1, r1, a, b, xs, ys, ex, qx, qy, q⟩ => ?_) hs hpl))
  subst ex
  rcases r1 with _ | ⟨r, rr⟩
  rcases rr with _ | ⟨r', rr⟩
  cases rr
  cases r
  cases r'
  obtain ⟨its, rv, p1, _⟩ := I1.tuple qx
  obtain ⟨its2, rv2, p2, _⟩ := I1.list qy
  obtain ⟨o1, ho1, _⟩ := id p1
  have la : a < s1.heap.objs.size := Heap.lt_size ho1
  have lb : b < s1.heap.objs.size := p2.lt
  refine zip_begins2 (begins_tuple a its.toArray) (begins_list b its2.toArray) p1 p2.isList fun h' hz hTI hTO g1 g2 hsz hk => wpAny_pyIter_zip hz ?_
  have I2 : Inv X pins σ H1 { s1 with heap := h' } := I1.kept (t' := s1.toks) hk
  refine ⟨s1.heap.objs.size + 4, zcells _ _ _ _ _, _, _, H1, rfl, I2, turn_zipM (zsep _ a b la lb) (Nat.ne_of_lt la) (Nat.ne_of_lt (Nat.lt_succ_of_lt lb)), ⟨hz, hTI, ⟨_, _, hTO⟩, ⟨_, g1, rfl, rfl⟩, ⟨_, g2, rfl, rfl⟩⟩, fun c hcm => ?_, q⟩
  have fr : ∀ c, s1.heap.objs.size ≤ c → FpOk X pins H1 c := fun c hle => I1.fpOk hle (I1.hok.fresh hle)
  exact zcase hcm (fr _ (Nat.le_add_right _ _)) (fr _ (Nat.le_add_right _ _)) (fr _ (Nat.le_add_right _ _)) (fr _ (Nat.le_refl _)) (fr _ (Nat.le_add_right _ _))
section
variable {X : Cx} {B F0 : Hp} {Γ : Ev} {k : Bool} {a b : Expr} {pos p : Pos} {α β : Type} [R α] [R β]
theorem xi_zipM {elts : List Expr} {kk : Nat} {tpos : Pos} {t : Tup α} {bs : List β} (mz : X.mg "zip" = none) (h : XE X B F0 Γ a k t) (h2 : XE X B F0 Γ b k bs) (hg : Gl X "zip" := by rfl) (hs : starEach [a, b] X.env = (false, eval a X.env) :: starEach [b] X.env := by rfl) (hs2 : starEach [b] X.env = (false, eval b X.env) :: starEach [] X.env := by rfl) (hpl : (backTo pos (starEach [b] X.env)).any (·.1) = false := by rfl) :
    XI X B F0 Γ (.Tuple elts kk tpos) (.Call (.Name "zip" p) [a, b] [] pos) k (t.items.zip bs) := fun F σ H _ A q =>
  WI.of (pi_zipM hg mz (pa_cons can_e (pa_cons can_e pa_nil hs2) hs) hs hpl) (x_twoF h h2 A fun F' H' v w g ⟨l, vs, ev, hl, r⟩ ⟨l2, ws, ew, hl2, r2⟩ => ⟨l, l2, vs, ws, by rw [ev, ew], SqT.of (g.fh _ _ (rf_sub _ _ hl)), SqL.of (g.fh _ _ (rf_sub _ _ hl2)), q F' H' _ g (by
    have at1 : ∀ F1 H1, Same F' F1 → Same F1 H1 → SqT X.K H1 l vs := fun F1 H1 s1 s2 => SqT.of (s2 _ _ (s1 _ _ (rf_sub _ _ hl)))
    have at2 : ∀ F1 H1, Same F' F1 → Same F1 H1 → SqL X.K H1 l2 ws := fun F1 H1 s1 s2 => SqL.of (s2 _ _ (s1 _ _ (rf_sub _ _ hl2)))
    refine ⟨fun i hi F1 H1 s1 s2 => ?_, fun i hi F1 H1 s1 s2 => ⟨vs, ws, at1 F1 H1 s1 s2, at2 F1 H1 s1 s2, ?_⟩⟩
    · have hi' : i < min t.items.length bs.length := by rw [List.length_zip] at hi; exact hi
      have hi1 : i < t.items.length := by omega
      have hi2 : i < bs.length := by omega
      obtain ⟨u, hu, ru⟩ := Reps.get r (List.getElem?_eq_getElem hi1)
      obtain ⟨u2, hu2, ru2⟩ := Reps.get r2 (List.getElem?_eq_getElem hi2)
      refine ⟨⟨vs, ws, u, u2, at1 F1 H1 s1 s2, at2 F1 H1 s1 s2, hu, hu2⟩, fun w H2 ⟨T, x, y, ew, nT, eH, y1, y2⟩ => ?_⟩
      have q1 := y1 vs (at1 F1 H1 s1 s2)
      rw [hu] at q1; cases q1
      have q2 := y2 ws (at2 F1 H1 s1 s2)
      rw [hu2] at q2; cases q2
      subst ew eH
      rw [List.getElem_zip]
      exact pair_new s2 nT (R.mono (rf_mono s1) ru) (R.mono (rf_mono s1) ru2)
    · rw [List.length_zip] at hi
      rw [Reps.length r, Reps.length r2]; omega)⟩)
end
end Cb

set_option Elab.async false
set_option linter.all false
set_option maxRecDepth 100000
/-! Cb22: a call that makes an owned thing of any kind; lists of lists stand apart -/
namespace Cb
open PySem PySem.Spec L2
open PyProof.Rows hiding St
theorem xcw1 {X : Cx} {B F0 : Hp} {Γ : Ev} {e : Expr} {es : List Expr} {pos p : Pos} {f : Str} {T1 Z : Type} [R T1] [Ow Z] {pre : T1 → Prop} {m : T1 → Z} {x1 : T1} (c : CalX X f (so1 X.K pre m)) (h : XA X B F0 Γ (e :: es) (fun K H vs => Args.args (A := T1 × Unit) K H vs (x1, ()))) (hp : pre x1) (hg : Gl X f := by rfl)
    (hdb : (f == ("__debug__" : Str)) = false := by decide) (hs : starEach (e :: es) X.env = (false, eval e X.env) :: starEach es X.env := by rfl) (hpl : (backTo pos (starEach es X.env)).any (·.1) = false := by rfl) : XO X B F0 Γ (.Call (.Name f p) (e :: es) [] pos) true (m x1) :=
  xcallOw (A := T1 × Unit) (pre := fun a : T1 × Unit => pre a.1) (m := fun a : T1 × Unit => m a.1) (ag := (x1, ())) c h hp hg hdb hs hpl
theorem xcw2 {X : Cx} {B F0 : Hp} {Γ : Ev} {e : Expr} {es : List Expr} {pos p : Pos} {f : Str} {T1 T2 Z : Type} [R T1] [R T2] [Ow Z] {pre : T1 → T2 → Prop} {m : T1 → T2 → Z} {x1 : T1} {x2 : T2} (c : CalX X f (so2 X.K pre m)) (h : XA X B F0 Γ (e :: es) (fun K H vs => Args.args (A := T1 × T2 × Unit) K H vs (x1, x2, ()))) (hp : pre x1 x2) (hg : Gl X f := by rfl)
    (hdb : (f == ("__debug__" : Str)) = false := by decide) (hs : starEach (e :: es) X.env = (false, eval e X.env) :: starEach es X.env := by rfl) (hpl : (backTo pos (starEach es X.env)).any (·.1) = false := by rfl) : XO X B F0 Γ (.Call (.Name f p) (e :: es) [] pos) true (m x1 x2) :=
  xcallOw (A := T1 × T2 × Unit) (pre := fun a : T1 × T2 × Unit => pre a.1 a.2.1) (m := fun a : T1 × T2 × Unit => m a.1 a.2.1) (ag := (x1, x2, ())) c h hp hg hdb hs hpl
theorem xcw3 {X : Cx} {B F0 : Hp} {Γ : Ev} {e : Expr} {es : List Expr} {pos p : Pos} {f : Str} {T1 T2 T3 Z : Type} [R T1] [R T2] [R T3] [Ow Z] {pre : T1 → T2 → T3 → Prop} {m : T1 → T2 → T3 → Z} {x1 : T1} {x2 : T2} {x3 : T3} (c : CalX X f (so3 X.K pre m)) (h : XA X B F0 Γ (e :: es) (fun K H vs => Args.args (A := T1 × T2 × T3 × Unit) K H vs (x1, x2, x3, ()))) (hp : pre x1 x2 x3) (hg : Gl X f := by rfl)
    (hdb : (f == ("__debug__" : Str)) = false := by decide) (hs : starEach (e :: es) X.env = (false, eval e X.env) :: starEach es X.env := by rfl) (hpl : (backTo pos (starEach es X.env)).any (·.1) = false := by rfl) : XO X B F0 Γ (.Call (.Name f p) (e :: es) [] pos) true (m x1 x2 x3) :=
  xcallOw (A := T1 × T2 × T3 × Unit) (pre := fun a : T1 × T2 × T3 × Unit => pre a.1 a.2.1 a.2.2.1) (m := fun a : T1 × T2 × T3 × Unit => m a.1 a.2.1 a.2.2.1) (ag := (x1, x2, x3, ())) c h hp hg hdb hs hpl
theorem xcw4 {X : Cx} {B F0 : Hp} {Γ : Ev} {e : Expr} {es : List Expr} {pos p : Pos} {f : Str} {T1 T2 T3 T4 Z : Type} [R T1] [R T2] [R T3] [R T4] [Ow Z] {pre : T1 → T2 → T3 → T4 → Prop} {m : T1 → T2 → T3 → T4 → Z} {x1 : T1} {x2 : T2} {x3 : T3} {x4 : T4} (c : CalX X f (so4 X.K pre m)) (h : XA X B F0 Γ (e :: es) (fun K H vs => Args.args (A := T1 × T2 × T3 × T4 × Unit) K H vs (x1, x2, x3, x4, ()))) (hp : pre x1 x2 x3 x4) (hg : Gl X f := by rfl)
    (hdb : (f == ("__debug__" : Str)) = false := by decide) (hs : starEach (e :: es) X.env = (false, eval e X.env) :: starEach es X.env := by rfl) (hpl : (backTo pos (starEach es X.env)).any (·.1) = false := by rfl) : XO X B F0 Γ (.Call (.Name f p) (e :: es) [] pos) true (m x1 x2 x3 x4) :=
  xcallOw (A := T1 × T2 × T3 × T4 × Unit) (pre := fun a : T1 × T2 × T3 × T4 × Unit => pre a.1 a.2.1 a.2.2.1 a.2.2.2.1) (m := fun a : T1 × T2 × T3 × T4 × Unit => m a.1 a.2.1 a.2.2.1 a.2.2.2.1) (ag := (x1, x2, x3, x4, ())) c h hp hg hdb hs hpl
theorem xcw5 {X : Cx} {B F0 : Hp} {Γ : Ev} {e : Expr} {es : List Expr} {pos p : Pos} {f : Str} {T1 T2 T3 T4 T5 Z : Type} [R T1] [R T2] [R T3] [R T4] [R T5] [Ow Z] {pre : T1 → T2 → T3 → T4 → T5 → Prop} {m : T1 → T2 → T3 → T4 → T5 → Z} {x1 : T1} {x2 : T2} {x3 : T3} {x4 : T4} {x5 : T5} (c : CalX X f (so5 X.K pre m)) (h : XA X B F0 Γ (e :: es) (fun K H vs => Args.args (A := T1 × T2 × T3 × T4 × T5 × Unit) K H vs (x1, x2, x3, x4, x5, ()))) (hp : pre x1 x2 x3 x4 x5) (hg : Gl X f := by rfl)
    (hdb : (f == ("__debug__" : Str)) = false := by decide) (hs : starEach (e :: es) X.env = (false, eval e X.env) :: starEach es X.env := by rfl) (hpl : (backTo pos (starEach es X.env)).any (·.1) = false := by rfl) : XO X B F0 Γ (.Call (.Name f p) (e :: es) [] pos) true (m x1 x2 x3 x4 x5) :=
  xcallOw (A := T1 × T2 × T3 × T4 × T5 × Unit) (pre := fun a : T1 × T2 × T3 × T4 × T5 × Unit => pre a.1 a.2.1 a.2.2.1 a.2.2.2.1 a.2.2.2.2.1) (m := fun a : T1 × T2 × T3 × T4 × T5 × Unit => m a.1 a.2.1 a.2.2.1 a.2.2.2.1 a.2.2.2.2.1) (ag := (x1, x2, x3, x4, x5, ())) c h hp hg hdb hs hpl

theorem ind_nest {α : Type} [R α] [Pure α] {k : Bool} {N : Nest α} : Slot.Indep (ownd k N) := fun ⟨v, e, p, cs, q⟩ => ⟨v, e, p, cs, q.v, q.out, q.nd, q.np, q.inn, Paired.mapP q.rp fun _ _ r => Paired.mono (fun _ _ x => pure_tups x) r⟩
theorem ind_pn {k : Bool} {a : Pn} : Slot.Indep (ownd k a) := fun ⟨v, e, h⟩ => ⟨v, e, h⟩
theorem ind_dct {κ β : Type} [R κ] [DecidableEq κ] [DK κ] [R β] [Pure β] {k : Bool} {d : Dct κ β} : Slot.Indep (ownd k d) := fun ⟨v, e, p, ws, e2, hp, r⟩ => ⟨v, e, p, ws, e2, hp, Paired.mono (fun _ _ x => ⟨x.1, pure_tups x.2⟩) r⟩
end Cb

set_option Elab.async false
set_option linter.all false
set_option maxRecDepth 100000
/-! Cb23: an owned list put into a list of lists -/
namespace Cb
open PySem PySem.Spec L2
open PyProof.Rows hiding St
section
variable {X : Cx} {B F0 : Hp} {Γ : Ev} {k : Bool} {D : Ends} {ss : List Stmt} {α : Type} [R α]
/-- an owned list taken out of the assertion and out of the heap -/
theorem AS.takeout {l : List α} {K : Kf} {F : Hp} {σ : St} {H : Hp} {j : Nat} (A : AS K B F0 Γ F σ H) (hj : Γ[j]? = some (ownd k l)) :
    ∃ q vs, σ[j]? = some (some (.ref q)) ∧ H q = some (.lst vs) ∧ F q = none ∧ Reps K (rf k B F) vs l ∧ AS K B F0 (Γ.set j junk) F σ (del q H) := by
  obtain ⟨⟨O, s, so, d, nt⟩, sF, sB, s0, bf⟩ := id A
  obtain ⟨o, O1, Or, e1, h1, h2, h3, ⟨v, rfl, q, vs, rfl, hq, r⟩, h5⟩ := s.focus hj
  have qO := h1 _ _ hq
  have dq := d q (by rw [qO]; simp)
  have hOr : Or q = none := (h3 q).resolve_left (by rw [hq]; simp)
  have key := h5 F junk (some (.ref q)) (fun _ => none) Or (Same.refl _) trivial (fun _ _ z => nomatch z) (Same.refl _) fun x => .inl rfl
  rw [set_self e1] at key
  have dl : ∀ {G : Hp}, G q = none → Same G H → Same G (del q H) := fun g s b u e => by rw [del_ne (ne_of_none e g)]; exact s _ _ e
  exact ⟨q, vs, e1, so _ _ qO, dq.1, r, ⟨Or, key, dl hOr (h2.trans so), fun x hx => by
    cases w : Or x with
    | none => exact absurd w hx
    | some u => exact d x (by rw [h2 _ _ w]; simp), fun x u w => nt _ _ (h2 _ _ w)⟩, dl dq.1 sF, dl dq.2 sB, s0, bf⟩
/-- xs.append(l), l a list of this def's own -/
theorem ts_nmove {N : Nest α} {l : List α} {n m : Str} {p pm pa cp ep : Pos} (i j : Nat) (hi : (Γ.set j junk)[i]? = some (ownd k N)) (hj : Γ[j]? = some (ownd k l)) (hz : N.ls.length < sizeLine) (ht : TSs X B F0 ((Γ.set j junk).set i (ownd k (Nest.mk (N.ls ++ [l])))) ss D)
    (hN : X.N[i]? = some n := by rfl) (hv : Vis X.env.scope n := by first | exact Or.inl rfl | exact Or.inr (Or.inl rfl) | exact Or.inr (Or.inr rfl)) (hd : (n == ("__debug__" : Str)) = false := by decide) (hcd : (n == ("__classdict__" : Str)) = false := by decide)
    (hM : X.N[j]? = some m := by rfl) (hvm : Vis X.env.scope m := by first | exact Or.inl rfl | exact Or.inr (Or.inl rfl) | exact Or.inr (Or.inr rfl)) (hdm : (m == ("__debug__" : Str)) = false := by decide) (hcdm : (m == ("__classdict__" : Str)) = false := by decide)
    (hbase : attributeBase (.Name n p) "append" X.env (eval (.Name n p) X.env) = eval (.Name n p) X.env := by rfl)
    (hfew : ((backTo cp (starEach [.Name m pm] X.env)).all (fun x => !x.1) && (backToKw cp (keywordEach [] X.env)).all (fun x => x.1.isSome) && decide ([Expr.Name m pm].length + ([] : List Keyword).length + (if ([] : List Keyword).isEmpty then 0 else 1) < 30)) = true := by rfl)
    (hline : (pa.endLine == cp.line) = true := by rfl) (hst : starEach [.Name m pm] X.env = (false, eval (.Name m pm) X.env) :: starEach [] X.env := by rfl) (hpl : (backTo cp (starEach [] X.env)).any (·.1) = false := by rfl) (hs : swapsWith (.Call (.Attribute (.Name n p) "append" pa) [.Name m pm] [] cp) none ep.line X.env = pure false := by rfl) :
    TSs X B F0 Γ (.Expr (.Call (.Attribute (.Name n p) "append" pa) [.Name m pm] [] cp) ep :: ss) D :=
  ts_cons fun F σ H A => WS.of (ps_expr (pe_bm PySem.F.plainAttrs_list PySem.F.slot_list_append PySem.F.type_list_append mt_append (pe_var hN hv hd hcd) (pa_cons (pe_var hM hvm hdm hcdm) pa_nil hst) hbase hfew hline hst hpl) hs) (by
    obtain ⟨q, ws, ej, hq, fq, r, A'⟩ := A.takeout hj
    obtain ⟨v, O1, e1, sO, ⟨p, cs, N1⟩, w⟩ := A'.poke (β' := Nest α) hi
    obtain ⟨rfl, out, nd, np, inn, rp⟩ := N1
    have dn : ∀ {x o}, O1 x = some o → H x = some o ∧ x ≠ q := fun {x o} e => by
      have h := sO _ _ e
      refine ⟨del_sub _ _ h, fun z => ?_⟩
      subst z; rw [del_self] at h; cases h
    have hp := (dn out).1
    have qp : p ≠ q := (dn out).2
    refine ⟨.ref p, e1, .inl ⟨rfl, _, SqL.of hp⟩, ⟨.ref q, ej, ⟨p, _, .ref q, rfl, rfl, hp, by rw [List.length_map, Paired.length rp]; exact hz, ht F σ _ (w F H (one q (.lst ws)) p _ _ _ ⟨del_sub, Same.refl _, A.sF, fun _ _ e => .inl e⟩ out (one_sub hq) (fun x o e => ?_) ⟨p, cs ++ [(q, ws)], rfl, ?_, ?_, ?_, ?_, ?_⟩)⟩⟩⟩
    · obtain ⟨rfl, rfl⟩ := one_is e
      exact ⟨del_self, fq, rfl⟩
    · rw [upd_same, List.map_append]; rfl
    · rw [List.map_append, List.nodup_append]
      refine ⟨nd, by simp, fun a ha b hb => ?_⟩
      obtain ⟨c, hc, rfl⟩ := List.mem_map.mp ha
      rw [List.map_cons, List.map_nil, List.mem_singleton] at hb
      rw [hb]; exact (dn (inn c hc)).2
    · rw [List.map_append, List.mem_append]
      rintro (z | z)
      · exact np z
      · rw [List.map_cons, List.map_nil, List.mem_singleton] at z
        exact qp z
    · intro c hc
      rcases List.mem_append.mp hc with z | z
      · rw [upd_ne (fun z2 => np (by rw [← z2]; exact List.mem_map_of_mem z))]
        unfold join
        rw [show one q (.lst ws) c.1 = none from if_neg (dn (inn c z)).2]
        exact inn c z
      · rw [List.mem_singleton.mp z, upd_ne qp.symm]
        exact join_left _ _ _ _ one_at
    · exact Paired.snoc (Paired.mapP rp fun _ _ r => r) r)
end
end Cb

set_option Elab.async false
set_option linter.all false
set_option maxRecDepth 100000
/-! Cb24: a loop over a range, or over an owned list of ints, whose body may change told things -/
namespace Cb
open PySem PySem.Spec L2
open PyProof.Rows hiding St
section
variable {X : Cx} {B F0 : Hp} {Γ : Ev} {k : Bool} {a b : Expr} {pos : Pos} {D : Ends} {α : Type} [R α]
/-- things to walk that lean on no frozen heap -/
def XIU (X : Cx) (B F0 : Hp) (Γ : Ev) (tg it : Expr) (k : Bool) {α : Type} [R α] (xs : List α) : Prop :=
  ∀ F σ H (R : It → Hp → Prop), AS X.K B F0 Γ F σ H → (∀ F' H' J, Grow F H F' H' → (∀ F2, ItOk J X.K B F2 k xs) → R J H') → WI X tg it σ H R
theorem xiu_range1 {tg : Expr} {p : Pos} {n : Int} (mr : X.mg "range" = none) (h : XV X B F0 Γ a n) (hn : -(2 ^ 62) ≤ n ∧ n < 2 ^ 62) (hg : Gl X "range" := by rfl) (hs : starEach [a] X.env = [(false, eval a X.env)] := by rfl) : XIU X B F0 Γ tg (.Call (.Name "range" p) [a] [] pos) k (rng 0 n.toNat) := fun F σ H R A q =>
  WI.of (pi_range1 hg mr (pa_cons can_e pa_nil (by rw [hs]; rfl)) hs) (h F σ H _ A fun F' H' v g r => ⟨n, by rw [show v = V.int n from r], hn.1, hn.2, q F' H' _ g fun _ => itr_ok⟩)
theorem ts_forU {tg it : Expr} {body : List Stmt} {xs : List α} {is : List Nat} {U : α → Ev → Ev} (hc : X.calm = true) (hp : PassesOwn (model X.prog X.w) X.A X.env X.xe) (hi : XIU X B F0 Γ tg it k xs) (hg : ∀ x, TGt X B tg k x is (U x)) (I : List α → Ev → Prop) (h0 : I xs Γ)
    (hb : ∀ (x : α) (r : List α) (Γ1 : Ev), (∃ d, xs = d ++ x :: r) → I (x :: r) Γ1 → TSs X B F0 (U x Γ1) body { D with nx := after X.K B F0 (I r), ct := after X.K B F0 (I r), bk := D.nx })
    (hd : ∀ (Γ1 : Ev) (F1 F : Hp) (σ : St) (H : Hp), I [] Γ1 → AS X.K B F0 Γ1 F σ H → D.nx σ H) (hs : ∀ x, foldedSetIterable it X.env x = pure x := by intro _; rfl) : TSt X B F0 Γ (.For tg it body [] pos) D := fun F σ H A =>
  WS.of (ps_for hp hc can_i can_g can_ss hs) (hi F σ H _ A fun F' H' J g ok => by
    refine ⟨fun i m σ2 H2 => m = xs.length - i ∧ i ≤ xs.length ∧ after X.K B F0 (I (xs.drop i)) σ2 H2, ⟨xs.length, by simp, Nat.zero_le _, Γ, F', h0, A.grow g⟩, ?_⟩
    rintro i m σ2 H2 ⟨rfl, hi, Γ2, F2, hI, A2⟩
    by_cases hlt : i < xs.length
    · have w := (ok F2).go i hlt F2 H2 (Same.refl _) A2.sF
      refine .inr ⟨w.1, after X.K B F0 (I (xs.drop (i + 1))), fun σ3 H3 q => ⟨xs.length - (i + 1), by omega, rfl, hlt, q⟩, fun v H3 y => ?_⟩
      obtain ⟨F3, g3, rv⟩ := w.2 v H3 y
      have ed : xs.drop i = xs[i] :: xs.drop (i + 1) := List.drop_eq_getElem_cons hlt
      rw [ed] at hI
      exact hg xs[i] F0 Γ2 F3 σ2 H3 v _ (A2.grow g3) rv fun σ4 _ _ A4 => hb xs[i] (xs.drop (i + 1)) Γ2 ⟨xs.take i, by rw [← ed, List.take_append_drop]⟩ hI F3 σ4 H3 A4
    · have ei : i = xs.length := by omega
      subst ei
      rw [List.drop_length] at hI
      exact .inl ⟨(ok F2).stop _ rfl F2 H2 (Same.refl _) A2.sF, hd Γ2 F' F2 σ2 H2 hI A2⟩)
end
/-! a loop over a list of ints of this def's own, that stays -/
section
variable {X : Cx} {B F0 : Hp} {Γ : Ev} {k : Bool} {pos : Pos} {D : Ends} {ss : List Stmt}
theorem ts_atl {as : List Int} (i : Nat) (hΓ : Γ[i]? = some (ownd k as)) (ht : ∀ p, TSs X B F0 (Γ.set i (ownd k (AtL.mk p as))) ss D) : TSs X B F0 Γ ss D := fun F σ H A => by
  obtain ⟨v, O1, e, ⟨p, vs, rfl, hp, r⟩, sO, fr⟩ := own_free A hΓ
  refine ht p F σ H (A.own_as hΓ fun w O2 e2 ho => ?_)
  rw [e] at e2
  cases e2
  obtain ⟨p', vs', e3, hp', r'⟩ := ho
  cases e3
  exact ⟨rfl, by rw [← reps_ints r']; exact hp'⟩
theorem ts_unatl {as : List Int} {p : Addr} (i : Nat) (hΓ : Γ[i]? = some (ownd k (AtL.mk p as))) (ht : TSs X B F0 (Γ.set i (ownd k as)) ss D) : TSs X B F0 Γ ss D := fun F σ H A =>
  ht F σ H (A.own_as hΓ fun v O1 _ ⟨e, hp⟩ => ⟨p, _, e, hp, int_reps _⟩)
theorem ts_forO {tg : Expr} {n : Str} {pn : Pos} {body : List Stmt} {xs : List Int} {is : List Nat} {U : Int → Ev → Ev} {p : Addr} (j : Nat) (hc : X.calm = true) (hp : PassesOwn (model X.prog X.w) X.A X.env X.xe) (hΓ : Γ[j]? = some (ownd k (AtL.mk p xs))) (hg : ∀ x, TGt X B tg true x is (U x)) (I : List Int → Ev → Prop) (h0 : I xs Γ)
    (hI : ∀ r Γ1, I r Γ1 → Γ1[j]? = some (ownd k (AtL.mk p xs)))
    (hb : ∀ (x : Int) (r : List Int) (Γ1 : Ev), (∃ d, xs = d ++ x :: r) → I (x :: r) Γ1 → TSs X B F0 (U x Γ1) body { D with nx := after X.K B F0 (I r), ct := after X.K B F0 (I r), bk := D.nx })
    (hd : ∀ (Γ1 : Ev) (F1 F : Hp) (σ : St) (H : Hp), I [] Γ1 → AS X.K B F0 Γ1 F σ H → D.nx σ H) (hN : X.N[j]? = some n := by rfl) (hv : Vis X.env.scope n := by first | exact Or.inl rfl | exact Or.inr (Or.inl rfl) | exact Or.inr (Or.inr rfl)) (hdb : (n == ("__debug__" : Str)) = false := by decide) (hcd : (n == ("__classdict__" : Str)) = false := by decide)
    (hs : ∀ x, foldedSetIterable (.Name n pn) X.env x = pure x := by intro _; rfl) : TSt X B F0 Γ (.For tg (.Name n pn) body [] pos) D := fun F σ H A => by
  obtain ⟨v, O1, e, ⟨ev, hO⟩, sO, fr⟩ := own_free A hΓ
  subst ev
  have at_ : ∀ {Γ1 : Ev} {F2 : Hp} {σ2 : St} {H2 : Hp}, Γ1[j]? = some (ownd k (AtL.mk p xs)) → AS X.K B F0 Γ1 F2 σ2 H2 → H2 p = some (.lst (xs.map V.int)) := fun h A2 => by
    obtain ⟨v2, O2, _, ⟨_, h2⟩, s2, _⟩ := own_free A2 h
    exact s2 _ _ h2
  refine WS.of (ps_for hp hc (pi_list (pe_var hN hv hdb hcd)) can_g can_ss hs) ⟨.ref p, e, p, rfl, ⟨_, SqL.of (sO _ _ hO)⟩, ?_⟩
  refine ⟨fun i m σ2 H2 => m = xs.length - i ∧ i ≤ xs.length ∧ after X.K B F0 (I (xs.drop i)) σ2 H2, ⟨xs.length, by simp, Nat.zero_le _, Γ, F, h0, A⟩, ?_⟩
  rintro i m σ2 H2 ⟨rfl, hi, Γ2, F2, hI2, A2⟩
  have hq := SqL.of (K := X.K) (at_ (hI _ _ hI2) A2)
  by_cases hlt : i < xs.length
  · have hg1 : (xs.map V.int)[i]? = some (.int xs[i]) := by rw [List.getElem?_map, List.getElem?_eq_getElem hlt]; rfl
    refine .inr ⟨⟨_, _, hq, hg1⟩, after X.K B F0 (I (xs.drop (i + 1))), fun σ3 H3 q => ⟨xs.length - (i + 1), by omega, rfl, hlt, q⟩, fun v H3 ⟨eH, y⟩ => ?_⟩
    have := y _ hq
    rw [hg1] at this
    cases this
    subst eH
    have ed : xs.drop i = xs[i] :: xs.drop (i + 1) := List.drop_eq_getElem_cons hlt
    rw [ed] at hI2
    exact hg xs[i] F0 Γ2 F2 σ2 _ _ _ A2 rfl fun σ4 _ _ A4 => hb xs[i] (xs.drop (i + 1)) Γ2 ⟨xs.take i, by rw [← ed, List.take_append_drop]⟩ hI2 F2 σ4 _ A4
  · have ei : i = xs.length := by omega
    subst ei
    rw [List.drop_length] at hI2
    exact .inl ⟨⟨_, hq, by simp⟩, hd Γ2 F F2 σ2 H2 hI2 A2⟩
end
end Cb

set_option Elab.async false
set_option linter.all false
set_option maxRecDepth 100000
/-! Cb25: a new list of lists frozen; how many kinds of numbers a list holds -/
namespace Cb
open PySem PySem.Spec L2
open PyProof.Rows hiding St
section
variable {X : Cx} {B F0 : Hp} {Γ : Ev} {k : Bool} {e : Expr} {α : Type} [R α]
theorem XO.fzn {N : Nest α} (h : XO X B F0 Γ e k N) : XE X B F0 Γ e k N.ls := fun F σ H Q A q =>
  h F σ H Q A fun F' H' v O g so n ⟨p, cs, N1⟩ => by
    have sN : Same F' (join F' O) := join_left _ _
    have sJ : Same (join F' O) H' := join_sub g.fh so
    have sO : Same O (join F' O) := join_right g.fh so
    have nB : ∀ {x o}, O x = some o → B x = none := fun {x o} e => A.sB.free (n x o e).1
    refine q (join F' O) H' v ⟨g.hh, g.ff.trans sN, sJ, fun x o e => ?_⟩ ⟨p, _, N1.v, rf_new (sO _ _ N1.out) (nB N1.out), nest_reps (rf_mono sN) N1.rp fun c hc => rf_new (sO _ _ (N1.inn c hc)) (nB (N1.inn c hc))⟩
    rcases join_is e with w | w
    · exact g.nw x o w
    · exact .inr (.inl (n x o w).1)
end
section
variable {X : Cx} {B F0 : Hp} {Γ : Ev} {k : Bool} {a : Expr} {pos p : Pos} {β : Type} [R β]
theorem pd_keys {K : Kf} {F : Hp} : ∀ {ws : List (Int × V)} {kvs : List (Int × β)}, PD K F ws kvs → ws.map ((fun kv : Key × V => kV kv.1) ∘ fun kv : Int × V => ((Sum.inl kv.1 : Key), kv.2)) = kvs.map (V.int ∘ fun x => x.1)
  | _, _, .nil => rfl
  | _, _, .cons h t => by rw [List.map_cons, List.map_cons, pd_keys t]; show V.int _ :: _ = V.int _ :: _; rw [h.1]
/-- list(d), a dict by ints -/
theorem xlistD {d : Dct Int β} (hc : X.calm = true) (ml : X.mg "list" = none) (ha : XV X B F0 Γ a d) (hg : Gl X "list" := by rfl) (hs : starEach [a] X.env = (false, eval a X.env) :: starEach [] X.env := by rfl) : XO X B F0 Γ (.Call (.Name "list" p) [a] [] pos) k (d.kvs.map (·.1)) := fun F σ H Q A q =>
  x_ty (call_list_dK hc) hg ml (by decide +kernel) (ha F σ H _ A fun F' H' v g ⟨b, ws, e, hp, r⟩ => ⟨b, _, by rw [e], hp, fun l nl => by
    have e2 : ((ws.map fun kv : Int × V => ((Sum.inl kv.1 : Key), kv.2)).map fun kv => kV kv.1) = (d.kvs.map (·.1)).map V.int := by
      rw [List.map_map, List.map_map]
      exact pd_keys r
    rw [e2]
    exact x_new g nl (int_reps _) q⟩) (hs := hs)
end
end Cb

set_option Elab.async false
set_option linter.all false
set_option maxRecDepth 100000
/-! Cb26: len(set(xs)) of ints; a pair of a text and a list -/
namespace Cb
open PySem PySem.Spec L2
open PyProof.Rows hiding St
theorem ind_atl {k : Bool} {a : AtL} : Slot.Indep (ownd k a) := fun ⟨v, e, h⟩ => ⟨v, e, h⟩
def kstep (acc : List Int) (x : Int) : List Int := if x ∈ acc then acc else acc ++ [x]
/-- the numbers of a list, each once -/
def kinds (ns : List Int) : List Int := ns.foldl kstep []
theorem kinds_snoc (ns : List Int) (x : Int) : kinds (ns ++ [x]) = kstep (kinds ns) x := by unfold kinds; rw [List.foldl_append]; rfl
theorem kinds_spec (ns : List Int) : (kinds ns).Nodup ∧ ∀ x, x ∈ kinds ns ↔ x ∈ ns := by
  have key : ∀ (l acc : List Int), acc.Nodup → (l.foldl kstep acc).Nodup ∧ ∀ x, x ∈ l.foldl kstep acc ↔ x ∈ acc ∨ x ∈ l := by
    intro l
    induction l with
    | nil => intro acc h; exact ⟨h, fun x => by simp⟩
    | cons a l ih =>
      intro acc h
      rw [List.foldl_cons]
      have hk : (kstep acc a).Nodup ∧ ∀ x, x ∈ kstep acc a ↔ x ∈ acc ∨ x = a := by
        unfold kstep
        by_cases q : a ∈ acc
        · rw [if_pos q]
          exact ⟨h, fun x => ⟨.inl, fun z => z.elim id fun e => e ▸ q⟩⟩
        · rw [if_neg q]
          exact ⟨List.nodup_append.mpr ⟨h, by simp, fun b hb c hc e => q (by rw [List.mem_singleton.mp hc] at e; exact e ▸ hb)⟩, fun x => by simp⟩
      obtain ⟨h1, h2⟩ := ih _ hk.1
      refine ⟨h1, fun x => ?_⟩
      rw [h2, hk.2, List.mem_cons]
      constructor
      · rintro ((z | z) | z)
        · exact .inl z
        · exact .inr (.inl z)
        · exact .inr (.inr z)
      · rintro (z | z | z)
        · exact .inl (.inl z)
        · exact .inl (.inr z)
        · exact .inr z
  obtain ⟨a, b⟩ := key ns [] (by simp)
  exact ⟨a, fun x => by rw [show kinds ns = ns.foldl kstep [] from rfl, b]; simp⟩
theorem kinds_nodup {ns : List Int} (h : ns.Nodup) : kinds ns = ns := by
  have key : ∀ (l acc : List Int), (acc ++ l).Nodup → l.foldl kstep acc = acc ++ l := by
    intro l
    induction l with
    | nil => intro acc _; simp
    | cons a l ih =>
      intro acc h
      have na : a ∉ acc := fun z => (List.nodup_append.mp h).2.2 a z a (by simp) rfl
      rw [List.foldl_cons, show kstep acc a = acc ++ [a] from if_neg na, ih _ (by rw [List.append_assoc]; exact h), List.append_assoc]
      rfl
  have := key ns [] (by simpa using h)
  simpa [kinds] using this
theorem met_kinds (ns : List Int) : ∀ i, i ≤ ns.length → PyProof.Rows.firstMet (fun i => ns.getD i 0) i = kinds (ns.take i)
  | 0, _ => rfl
  | i + 1, h => by
    have lt : i < ns.length := h
    have g : ns.getD i 0 = ns[i] := by simp [List.getD, lt]
    have ih := met_kinds ns i (Nat.le_of_lt lt)
    rw [PyProof.Rows.firstMet_succ, List.take_add_one, List.getElem?_eq_getElem lt, show (some ns[i]).toList = [ns[i]] from rfl, kinds_snoc, ih]
    show (if (kinds (ns.take i)).any (· == ns.getD i 0) then kinds (ns.take i) else kinds (ns.take i) ++ [ns.getD i 0]) = _
    rw [g]
    unfold kstep
    by_cases q : ns[i] ∈ kinds (ns.take i)
    · rw [if_pos q, if_pos (show ((kinds (ns.take i)).any fun x => x == ns[i]) = true from List.any_eq_true.mpr ⟨ns[i], q, beq_self_eq_true _⟩)]
    · rw [if_neg q, if_neg (fun z => by
        obtain ⟨y, hy, e⟩ := List.any_eq_true.mp z
        exact q (eq_of_beq e ▸ hy))]
def tKinds (K : Kf) (ta : TE) : TE := fun σ H Q => ta σ H fun x H1 => ∃ (l : Addr) (ns : List Int), x = V.ref l ∧ SqL K H1 l (ns.map V.int) ∧ ns.length ≤ 4000 ∧ Q (.int ((kinds ns).length : Nat)) H1
theorem pe_kinds {X : Cx} {a : Expr} {ta : TE} {p p2 q pos : Pos} (hg : Gl X "len") (hm : X.mg "len" = none) (hg2 : Gl X "set") (hm2 : X.mg "set" = none) (ha : PE X a ta) (hc : X.calm = true)
    (na : starEach [a] X.env = (false, eval a X.env) :: starEach [] X.env) : PE X (.Call (.Name "len" p) [.Call (.Name "set" p2) [a] [] q] [] pos) (tKinds X.K ta) := by
  constructor
  intro pins s σ H Q I h
  refine Call_ (ld_blt I hg hm boot_len (PyProof.Rows.callWith_builtin1 (PyProof.Rows.args_cons (Call_ (ld_blt I hg2 hm2 boot_set ?_)) rfl) rfl rfl))
  refine PyProof.Rows.callWith_type1 (PyProof.Rows.args_cons (thn (ha.run pins s σ H _ I h) fun v s1 ⟨x, H1, I1, r1, l, ns, ex, hq, hl, q1⟩ => PyProof.Rows.args_nil ?_) na) na rfl
  subst ex
  cases r1
  obtain ⟨its, r, pl, hz⟩ := I1.list hq
  have hn : its.toArray.size = ns.length := by simp [← r.length]
  refine call_set_list (I1.ok.hd hc) pl.isList (by simpa using RZ.intsAre_vals r) (by rw [hn]; unfold scanBound; omega) fun h' tk hS hk => PyProof.Rows.args_nil ?_
  rw [hn, met_kinds ns ns.length (Nat.le_refl _), List.take_length] at hS
  obtain ⟨o, es, ep, t, ho, hex, hd, _, _, _, hf, he⟩ := hS
  have kl : (kinds ns).length ≤ ns.length := Fl_nodup_len (kinds_spec ns).1 fun x hx => ((kinds_spec ns).2 x).mp hx
  have I2 : Inv X pins σ H1 { s1 with heap := h', toks := tk } := I1.kept fun b o e => hk b o (Heap.lt_size e) e
  exact call_len_set ho hex hd hf (by rw [he]; omega) ⟨V.int (kinds ns).length, H1, I2.tok _, ⟨_, by rw [he]⟩, q1⟩
where
  Fl_nodup_len {l m : List Int} (h : l.Nodup) (s : ∀ x ∈ l, x ∈ m) : l.length ≤ m.length := by
    induction l generalizing m with
    | nil => exact Nat.zero_le _
    | cons a t ih =>
      have ha := s a List.mem_cons_self
      have nd := List.nodup_cons.mp h
      have := ih nd.2 (m := m.erase a) fun x hx => (List.mem_erase_of_ne (fun e : x = a => nd.1 (e ▸ hx))).mpr (s x (List.mem_cons_of_mem _ hx))
      rw [List.length_erase_of_mem ha] at this
      have := List.length_pos_of_mem ha
      rw [List.length_cons]; omega
section
variable {X : Cx} {B F0 : Hp} {Γ : Ev} {k : Bool} {a : Expr} {pos p p2 q : Pos} {ns : List Int}
theorem xkinds (hc : X.calm = true) (ml : X.mg "len" = none) (ms : X.mg "set" = none) (ha : XV X B F0 Γ a ns) (hz : ns.length ≤ 4000) (hg : Gl X "len" := by rfl) (hg2 : Gl X "set" := by rfl) (hs : starEach [a] X.env = (false, eval a X.env) :: starEach [] X.env := by rfl) :
    XE X B F0 Γ (.Call (.Name "len" p) [.Call (.Name "set" p2) [a] [] q] [] pos) k ((kinds ns).length : Int) := fun F σ H Q A q =>
  WE.of (pe_kinds hg ml hg2 ms can_e hc hs) (ha F σ H _ A fun F' H' v g ⟨l, vs, e, hp, r⟩ => ⟨l, ns, e, by rw [← reps_ints r]; exact SqL.of hp, hz, q F' H' _ g rfl⟩)
end
end Cb

set_option Elab.async false
set_option linter.all false
set_option maxRecDepth 100000
/-! Cb27: xs[::-1] -/
namespace Cb
open PySem PySem.Spec L2
open PyProof.Rows hiding St
section
variable {X : Cx} {B F0 : Hp} {Γ : Ev} {k : Bool} {a : Expr} {pos p1 p2 p3 : Pos} {j : Nat} {α : Type} [R α] {as : List α}
theorem xrev (ha : XE X B F0 Γ a k as) : XO X B F0 Γ (.Subscript a (.Slice none none (some (.UnaryOp .USub (.Constant (.int 1) j p1) p2)) p3) pos) k as.reverse := fun F σ H Q A q =>
  WE.of (pe_revL can_e) (ha F σ H _ A fun F' H' v g ⟨p, vs, e, hp, r⟩ => ⟨p, vs, e, SqL.of (g.fh _ _ (rf_sub _ _ hp)), fun l nl => x_new g nl r.reverse q⟩)
theorem xrevV [Pure α] (ha : XV X B F0 Γ a as) : XO X B F0 Γ (.Subscript a (.Slice none none (some (.UnaryOp .USub (.Constant (.int 1) j p1) p2)) p3) pos) k as.reverse := fun F σ H Q A q =>
  WE.of (pe_revL can_e) (ha F σ H _ A fun F' H' v g ⟨p, vs, e, hp, r⟩ => ⟨p, vs, e, SqL.of hp, fun l nl => x_new (g.trans (Grow.tups g.fh)) nl (reps_lift g.fh r).reverse q⟩)
end
end Cb

set_option Elab.async false
set_option linter.all false
set_option maxRecDepth 100000
/-! Cb28: what broken tells: nothing, a brace or a rope -/
namespace Cb
open PySem PySem.Spec L2
open PyProof.Rows hiding St
abbrev Brk := Option (Sum (Str × Int) (T3 Str Int Str))
def brDat : Brk → PyData
  | none => .none
  | some (.inl a) => Dat.dat a
  | some (.inr a) => Dat.dat a
def brOk : Brk → Prop
  | none => True
  | some (.inl a) => Dat.ok a
  | some (.inr a) => Dat.ok a
instance : Dat Brk where
  dat := brDat
  ok := brOk
  dep := 2
  dp := fun {K H v a} r => match a, r with
    | none, r => by
      have e : v = .non := r
      subst e; exact .non
    | some (.inl a), r => Dat.dp (α := Str × Int) (K := K) r
    | some (.inr a), r => Dat.dp (α := T3 Str Int Str) (K := K) r
  lay := fun a h => match a, h with
    | none, _ => rfl
    | some (.inl a), h => Dat.lay (α := Str × Int) a h
    | some (.inr a), h => Dat.lay (α := T3 Str Int Str) a h
  depth := fun a => match a with
    | none => by decide
    | some (.inl a) => Nat.le_trans (Dat.depth (α := Str × Int) a) (by decide)
    | some (.inr a) => Nat.le_trans (Dat.depth (α := T3 Str Int Str) a) (by decide)
  eqv := fun a b => match a, b with
    | none, none => rfl
    | none, some (.inl b) => rfl
    | none, some (.inr b) => rfl
    | some (.inl a), none => rfl
    | some (.inr a), none => rfl
    | some (.inl a), some (.inl b) => by
      show PyData.eqv (Dat.dat a) (Dat.dat b) = _
      rw [Dat.eqv]
      by_cases h : a = b <;> simp [h]
    | some (.inr a), some (.inr b) => by
      show PyData.eqv (Dat.dat a) (Dat.dat b) = _
      rw [Dat.eqv]
      by_cases h : a = b <;> simp [h]
    | some (.inl a), some (.inr b) => by
      show (PyData.eqv (Dat.dat a.1) (Dat.dat b.a) && (PyData.eqv (Dat.dat a.2) (Dat.dat b.b) && false)) = _
      simp
    | some (.inr a), some (.inl b) => by
      show (PyData.eqv (Dat.dat a.a) (Dat.dat b.1) && (PyData.eqv (Dat.dat a.b) (Dat.dat b.2) && false)) = _
      simp
/-- the field of what breaks -/
def bx : Brk → Int
  | some (.inl a) => a.2
  | some (.inr a) => a.b
  | none => 0
theorem brk_ty {o : Brk} (h : (!o.isNone) = true) : kitB (TyN.ty o) "tuple" = some true := by
  match o, h with
  | some (.inl a), _ => show kitB "tuple" "tuple" = some true; decide +kernel
  | some (.inr a), _ => show kitB "tuple" "tuple" = some true; decide +kernel
section
variable {X : Cx} {B F0 : Hp} {Γ : Ev} {k : Bool} {e : Expr} {pos p' : Pos} {j : Nat} {o : Brk}
theorem xbrk1 (ha : XE X B F0 Γ e k o) (hn : (!o.isNone) = true) : XE X B F0 Γ (.Subscript e (.Constant (.int 1) j p') pos) k (bx o) :=
  x_itm (n := 1) ha (xi (k := false)).v (fun K F v r => by
    match o, hn, r with
    | some (.inl a), _, r =>
      obtain ⟨p, v1, v2, e, hp, r1, r2⟩ := (show R.rep K F v (a : Str × Int) from r)
      exact ⟨p, _, v2, e, hp, rfl, r2⟩
    | some (.inr a), _, r =>
      obtain ⟨p, v1, v2, v3, e, hp, r1, r2, r3⟩ := (show R.rep K F v (a : T3 Str Int Str) from r)
      exact ⟨p, _, v2, e, hp, rfl, r2⟩) fun _ _ => rfl
end
end Cb

set_option Elab.async false
set_option linter.all false
set_option maxRecDepth 100000
/-! Cb29: xs.insert(i, e) -/
namespace Cb
open PySem PySem.Spec PyProof.Rows L2
section
variable {α : Type} [R α] {X : Cx} {B F0 : Hp} {Γ : Ev} {k : Bool} {e a : Expr} {ss : List Stmt} {D : Ends} {as : List α} {x : α}
def ins (xs : List α) (i : Int) (x : α) : List α := xs.take i.toNat ++ [x] ++ xs.drop i.toNat
theorem ts_insert {n : Str} {p pa cp ep : Pos} {ix : Int} (j : Nat) (hΓ : Γ[j]? = some (ownd k as)) (hi : XV X B F0 Γ a ix) (he : XE X B F0 Γ e k x) (hz : as.length < sizeLine ∧ 0 ≤ ix ∧ ix < 2 ^ 63) (ht : TSs X B F0 (Γ.set j (ownd k (ins as ix x))) ss D)
    (hN : X.N[j]? = some n := by rfl) (hv : Vis X.env.scope n := by first | exact Or.inl rfl | exact Or.inr (Or.inl rfl) | exact Or.inr (Or.inr rfl)) (hd : (n == ("__debug__" : Str)) = false := by decide) (hcd : (n == ("__classdict__" : Str)) = false := by decide)
    (hbase : attributeBase (.Name n p) "insert" X.env (eval (.Name n p) X.env) = eval (.Name n p) X.env := by rfl)
    (hfew : ((backTo cp (starEach [a, e] X.env)).all (fun x => !x.1) && (backToKw cp (keywordEach [] X.env)).all (fun x => x.1.isSome) && decide ([a, e].length + ([] : List Keyword).length + (if ([] : List Keyword).isEmpty then 0 else 1) < 30)) = true := by rfl)
    (hline : (pa.endLine == cp.line) = true := by rfl) (hst : starEach [a, e] X.env = (false, eval a X.env) :: starEach [e] X.env := by rfl) (hst2 : starEach [e] X.env = (false, eval e X.env) :: starEach [] X.env := by rfl) (hpl : (backTo cp (starEach [e] X.env)).any (·.1) = false := by rfl) (hs : swapsWith (.Call (.Attribute (.Name n p) "insert" pa) [a, e] [] cp) none ep.line X.env = pure false := by rfl) :
    TSs X B F0 Γ (.Expr (.Call (.Attribute (.Name n p) "insert" pa) [a, e] [] cp) ep :: ss) D :=
  ts_cons fun F σ H A => WS.of (ps_expr (pe_bm PySem.F.plainAttrs_list PySem.F.slot_list_insert PySem.F.type_list_insert mt_insert (pe_var hN hv hd hcd) (pa_cons can_e (pa_cons can_e pa_nil hst2) hst) hbase hfew hline hst hpl) hs) (by
    obtain ⟨q, vs, e1, hp, r, w⟩ := A.writeL hΓ
    refine ⟨.ref q, e1, .inl ⟨rfl, _, SqL.of hp⟩, hi F σ H _ A fun F1 H1 u g1 r1 => he F1 σ H1 _ (A.grow g1) fun F' H' v g2 rv => ?_⟩
    have g := g1.trans g2
    have e2 : u = .int ix := r1
    subst e2
    exact ⟨q, vs, ix, v, rfl, rfl, g.hh _ _ hp, by rw [Reps.length r]; exact hz.1, hz.2.1, hz.2.2, ht F' σ _ (w g ((((r.mono (rf_mono g.ff)).take ix.toNat).append (.cons rv .nil)).append ((r.mono (rf_mono g.ff)).drop ix.toNat)))⟩)
/-- a slot's value, by what is known of it alone -/
theorem ts_gen {β : Type} {mk : β → Slot} {b : β} {P : β → Prop} (j : Nat) (h : Γ[j]? = some (mk b)) (p : P b) (ht : ∀ b, P b → TSs X B F0 (Γ.set j (mk b)) ss D) : TSs X B F0 Γ ss D := by
  have e : Γ.set j (mk b) = Γ := by
    apply List.ext_getElem?
    intro n
    by_cases c : j = n
    · subst c
      rw [List.getElem?_set_self (by rcases Nat.lt_or_ge j Γ.length with z | z; exact z; rw [List.getElem?_eq_none z] at h; cases h), h]
    · rw [List.getElem?_set_ne c]
  have := ht b p
  rw [e] at this
  exact this
end
end Cb

set_option Elab.async false
set_option linter.all false
set_option maxRecDepth 100000
/-! Cb33: sorted of frozen data -/
namespace Cb
open PySem PySem.Spec L2
open PyProof.Rows hiding St
def rSortG (α : Type) [R α] [DecidableEq α] [Dat α] (K : Kf) (A : Around) : List V → Hp → VK → Prop := fun vs H Q => ∃ (a : Addr) (xs : List V) (as : List α) (G : Hp), vs = [V.ref a] ∧ SqL K H a xs ∧ Same G H ∧ Reps K G xs as ∧ PySem.W.AllAlike (as.map Dat.dat) ∧ PySem.W.Sortable (as.map Dat.dat) ∧ as.length ≤ sizeLine ∧
  (∀ b, b ∈ as → A.units + 2 + (Dat.dat b).depth < cLine) ∧ ∀ ys p, Reps K G ys (dsort as) → H p = none → Q (.ref p) (upd H p (.lst ys))
section
variable {X : Cx} {α : Type} [R α] [DecidableEq α] [Dat α]
theorem cr_sortedG : CallR X (.builtin "sorted") (rSortG α X.K X.A) := by
  intro pins s σ H vs us Q I r h
  obtain ⟨a, xs, as, G, rfl, hs, sG, hx, al, so, hz, hu, q⟩ := h
  obtain ⟨its, rv, hl, hz2⟩ := I.list hs
  rw [Vals.ref1 r]
  have e1 := each_of rv hx
  refine PySem.W.sorted_data (enc := (Dat.dat : α → PyData)) hl.isList e1 (e1.mono fun u b ⟨x, rx, qx⟩ => Dp.reads I (Dat.dat b) x u (Dat.dp (R.mono sG qx)) rx) al so hz hu fun out lo eo => ?_
  obtain ⟨ys, h1, h2⟩ := of_each eo
  obtain ⟨ep, he'⟩ := PyProof.Rows.sortedAll_at s.heap its out.toArray
  have hlen : ys.length ≤ sizeLine := by rw [h1.length, lo]; exact hz
  exact ⟨.ref _, upd H (s.heap.objs.size + 1) (.lst ys), I.laid (t' := s.toks) (fun _ _ => PyProof.Rows.sortedAll_old) (Nat.le_succ _) ⟨hlen, out, ep, h1, he'⟩, rfl, q ys _ h2 (I.hok.fresh (Nat.le_succ _))⟩
end
section
variable {X : Cx} {B F0 : Hp} {Γ : Ev} {k : Bool} {a : Expr} {pos p : Pos} {α : Type} [R α] [DecidableEq α] [Dat α]
theorem xsortedF {as : List α} (ms : X.mg "sorted" = none) (ha : XE X B F0 Γ a k as) (al : PySem.W.AllAlike (as.map Dat.dat)) (so : PySem.W.Sortable (as.map Dat.dat)) (hz : as.length ≤ sizeLine) (hu : X.A.units + 64 < cLine) (hd : Dat.dep α ≤ 60 := by decide) (hg : Gl X "sorted" := by rfl) (hs : starEach [a] X.env = (false, eval a X.env) :: starEach [] X.env := by rfl) :
    XO X B F0 Γ (.Call (.Name "sorted" p) [a] [] pos) k (dsort as) := fun F σ H Q A q =>
  x_cb (cr_sortedG (α := α)) hg ms (by decide +kernel) (ha F σ H _ A fun F' H' v g ⟨l, vs, e, hl, r⟩ => by
    subst e
    have sm : Same (rf k B F') H' := fun b o e => g.fh _ _ (rf_sub _ _ e)
    refine ⟨l, vs, as, rf k B F', rfl, SqL.of (sm _ _ hl), sm, r, al, so, hz, fun b _ => ?_, fun ys p' r2 np => x_new g np r2 q⟩
    have := Dat.depth b
    omega) (hs := hs)
end
end Cb

set_option Elab.async false
set_option linter.all false
set_option maxRecDepth 100000
/-! Ss1: tables of sets up to 512 slots -/
namespace Cb
open PySem PySem.Spec L2
open PyProof.Rows hiding St

/-! ### the masks, and that each slot comes -/
def orb : List Nat := [0, 1, 6, 31, 156, 269, 322, 75, 376, 345, 190, 439, 148, 229, 122, 99, 496, 433, 118, 79, 396, 445, 178, 379, 360, 265, 302, 487, 388, 405, 490, 403, 480, 353, 230, 127, 124,
  109, 34, 171, 344, 185, 414, 23, 116, 69, 346, 195, 464, 273, 342, 175, 364, 285, 402, 475, 328, 105, 14, 71, 356, 245, 202, 499, 448, 193, 454, 223, 92, 461, 258, 267, 312, 25, 126, 119, 84, 421,
  58, 291, 432, 113, 54, 271, 332, 125, 114, 59, 296, 457, 238, 167, 324, 85, 426, 83, 416, 33, 166, 319, 60, 301, 482, 363, 280, 377, 350, 215, 52, 261, 282, 387, 400, 465, 278, 367, 300, 477, 338,
  155, 264, 297, 462, 263, 292, 437, 138, 179, 384, 385, 390, 415, 28, 141, 194, 459, 248, 217, 62, 311, 20, 101, 506, 483, 368, 305, 502, 463, 268, 317, 50, 251, 232, 137, 174, 359, 260, 277, 362,
  275, 352, 225, 102, 511, 508, 493, 418, 43, 216, 57, 286, 407, 500, 453, 218, 67, 336, 145, 214, 47, 236, 157, 274, 347, 200, 489, 398, 455, 228, 117, 74, 371, 320, 65, 326, 95, 476, 333, 130, 139,
  184, 409, 510, 503, 468, 293, 442, 163, 304, 497, 438, 143, 204, 509, 498, 443, 168, 329, 110, 39, 196, 469, 298, 467, 288, 417, 38, 191, 444, 173, 354, 235, 152, 249, 222, 87, 436, 133, 154, 259,
  272, 337, 150, 239, 172, 349, 210, 27, 136, 169, 334, 135, 164, 309, 10, 51, 256, 257, 262, 287, 412, 13, 66, 331, 120, 89, 446, 183, 404, 485, 378, 355, 240, 177, 374, 335, 140, 189, 434, 123,
  104, 9, 46, 231, 132, 149, 234, 147, 224, 97, 486, 383, 380, 365, 290, 427, 88, 441, 158, 279, 372, 325, 90, 451, 208, 17, 86, 431, 108, 29, 146, 219, 72, 361, 270, 327, 100, 501, 458, 243, 192,
  449, 198, 479, 348, 205, 2, 11, 56, 281, 382, 375, 340, 165, 314, 35, 176, 369, 310, 15, 76, 381, 370, 315, 40, 201, 494, 423, 68, 341, 170, 339, 160, 289, 422, 63, 316, 45, 226, 107, 24, 121, 94,
  471, 308, 5, 26, 131, 144, 209, 22, 111, 44, 221, 82, 411, 8, 41, 206, 7, 36, 181, 394, 435, 128, 129, 134, 159, 284, 397, 450, 203, 504, 473, 318, 55, 276, 357, 250, 227, 112, 49, 246, 207, 12,
  61, 306, 507, 488, 393, 430, 103, 4, 21, 106, 19, 96, 481, 358, 255, 252, 237, 162, 299, 472, 313, 30, 151, 244, 197, 474, 323, 80, 401, 470, 303, 492, 413, 18, 91, 456, 233, 142, 199, 484, 373,
  330, 115, 64, 321, 70, 351, 220, 77, 386, 395, 440, 153, 254, 247, 212, 37, 186, 419, 48, 241, 182, 399, 460, 253, 242, 187, 424, 73, 366, 295, 452, 213, 42, 211, 32, 161, 294, 447, 188, 429, 98,
  491, 408, 505, 478, 343, 180, 389, 410, 3, 16, 81, 406, 495, 428, 93, 466, 283, 392, 425, 78, 391, 420, 53, 266, 307]
def chain (m : Nat) : List Nat → Bool
  | x :: y :: r => Nat.beq ((x * 5 + 1) % (m + 1)) y && chain m (y :: r)
  | _ => true
theorem chain_at (m : Nat) : ∀ (l : List Nat) (c : Nat), chain m l = true → l[0]? = some (lcgN m c) → ∀ i, i < l.length → l[i]? = some (lcgN m (c + i))
  | [], _, _, _, i, hi => absurd hi (Nat.not_lt_zero _)
  | x :: r, c, _, h0, 0, _ => h0
  | [x], c, _, _, i + 1, hi => absurd hi (by simp)
  | x :: y :: r, c, hc, h0, i + 1, hi => by
    have hx : x = lcgN m c := by simpa using h0
    have e : (Nat.beq ((x * 5 + 1) % (m + 1)) y && chain m (y :: r)) = true := hc
    obtain ⟨e1, e2⟩ := Bool.and_eq_true_iff.mp e
    have ey : (x * 5 + 1) % (m + 1) = y := Nat.eq_of_beq_eq_true e1
    have z := chain_at m (y :: r) (c + 1) e2 (by rw [List.getElem?_cons_zero, ← ey, hx] <;> rfl) i (Nat.lt_of_succ_lt_succ hi)
    rw [List.getElem?_cons_succ, z, Nat.add_right_comm c 1 i]; rfl
def Msk (m : Nat) : Prop := MaskOk m ∨ m = 511
theorem orb_chain : chain 511 orb = true := by decide +kernel
theorem orb_len : orb.length = 512 := by decide +kernel
theorem orb_all : ((List.range 512).all fun j => orb.any fun x => Nat.beq x j) = true := by decide +kernel
theorem orb_at {i : Nat} (h : i < 512) : orb[i]? = some (lcgN 511 i) := by
  have z := chain_at 511 orb 0 orb_chain rfl i (by rw [orb_len]; exact h)
  rwa [Nat.zero_add] at z
theorem msk_hit {m : Nat} (hm : Msk m) : (∀ j, j ≤ m → ∃ b, b ≤ m ∧ lcgN m b = j) ∧ lcgN m (m + 1) = 0 := by
  rcases hm with hm | rfl
  · exact ⟨fun j hj => lcg_all hm hj, lcg_round hm⟩
  · refine ⟨fun j hj => ?_, ?_⟩
    · obtain ⟨x, hx, e⟩ := List.any_eq_true.mp (List.all_eq_true.mp orb_all j (List.mem_range.mpr (Nat.lt_succ_of_le hj)))
      obtain ⟨i, hi, ei⟩ := List.getElem_of_mem hx
      have hi' : i < 512 := by rw [orb_len] at hi; exact hi
      have z := orb_at hi'
      rw [List.getElem?_eq_getElem hi, ei, Nat.eq_of_beq_eq_true e] at z
      exact ⟨i, Nat.le_of_lt_succ hi', (Option.some.inj z).symm⟩
    · have z : some 307 = some (lcgN 511 511) := (show orb[511]? = some 307 by decide +kernel).symm.trans (orb_at (by decide))
      show (lcgN 511 511 * 5 + 1) % 512 = 0
      rw [← Option.some.inj z]
theorem msk_per {m : Nat} (hm : Msk m) : ∀ c, lcgN m (m + 1 + c) = lcgN m c
  | 0 => (msk_hit hm).2
  | c + 1 => by
    have z := msk_per hm c
    show (lcgN m (m + 1 + c) * 5 + 1) % (m + 1) = _
    rw [z]; rfl
theorem msk_any {m i j : Nat} (hm : Msk m) (hi : i ≤ m) (hj : j ≤ m) : ∃ c, c ≤ m ∧ lcgI m i c = j := by
  obtain ⟨u, hu, rfl⟩ := (msk_hit hm).1 i hi
  obtain ⟨v, hv, rfl⟩ := (msk_hit hm).1 j hj
  by_cases q : u ≤ v
  · exact ⟨v - u, by omega, by rw [lcgN_add, show u + (v - u) = v by omega]⟩
  · exact ⟨m + 1 + v - u, by omega, by rw [lcgN_add, show u + (m + 1 + v - u) = m + 1 + v by omega, msk_per hm]⟩
theorem msk_run {m j : Nat} (hm : Msk m) (z : Int) (hj : j ≤ m) : ∃ n, n ≤ m + 12 ∧ runI m (SetTable.bits z) n = j := by
  obtain ⟨c, hc, e⟩ := msk_any hm (runI_le m (SetTable.bits z) 12) hj
  exact ⟨12 + c, by omega, (runI_tail (bits_lt z) c).trans e⟩
theorem way_bd {m : Nat} (z : Int) (c : Nat) : way m z c ≤ m := by
  have r := runEnd_bd (m := m) (i := SetTable.bits z % (m + 1)) (Nat.le_of_lt_succ (Nat.mod_lt _ (Nat.succ_pos m)))
  have q : (nth m (runAt m (SetTable.bits z % (m + 1)) (SetTable.bits z)) c).j + (nth m (runAt m (SetTable.bits z % (m + 1)) (SetTable.bits z)) c).more ≤ m :=
    nth_in c _ (by simp only [runAt]; omega)
  exact Nat.le_trans (Nat.le_add_right _ _) q
theorem msk_way {m j : Nat} (hm : Msk m) (z : Int) (hj : j ≤ m) : ∃ c, c < 10 * SetTable.turns m ∧ way m z c = j := by
  obtain ⟨n, hn, e⟩ := msk_run hm z hj
  obtain ⟨c, hc, e2⟩ := run_nth m (SetTable.bits z) n
  exact ⟨c, by unfold SetTable.turns; omega, (congrArg SetTable.Probe.j e2).trans e⟩
theorem msk_odd {m : Nat} (hm : Msk m) : m % 2 = 1 := by
  rcases hm with (e | e | e) | e <;> subst e <;> rfl
theorem msk_top {m : Nat} (hm : Msk m) : m ≤ 511 := by
  rcases hm with (e | e | e) | e <;> subst e <;> decide

/-! ### a table from whose hashes all slots are found again -/
structure Lay (t : SetTable) (zs : List Int) : Prop where
  up : Ris t.place.toList
  nod : t.dummies = #[]
  num : t.place.size = zs.length
  msk : Msk t.mask
  fnd : ∀ (i : Nat) (z : Int) (j : Nat), zs[i]? = some z → t.place.toList[i]? = some j → ∃ c, way t.mask z c = j ∧ ∀ c', c' < c → way t.mask z c' ∈ t.place.toList
section
variable {t : SetTable} {zs : List Int} {z : Int} {N : Nat}
theorem Lay.room (T : Lay t zs) (hl : zs.length ≤ t.mask) (z : Int) : ∃ N, N < 10 * SetTable.turns t.mask ∧ way t.mask z N ∉ t.place.toList ∧ ∀ c, c < N → way t.mask z c ∈ t.place.toList := by
  obtain ⟨j, hj, hn⟩ := st_missing t.place.toList (t.mask + 1) (by rw [Array.length_toList, T.num]; exact Nat.lt_succ_of_le hl)
  obtain ⟨c, hc, rfl⟩ := msk_way T.msk z (Nat.le_of_lt_succ hj)
  obtain ⟨N, l1, l2, l3⟩ := st_least (p := fun c => ¬ way t.mask z c ∈ t.place.toList) c hn
  exact ⟨N, Nat.lt_of_le_of_lt l1 hc, l2, fun c' q => Classical.byContradiction (l3 c' q)⟩
theorem Lay.ahead (T : Lay t zs) {i j : Nat} (hN : way t.mask z N ∉ t.place.toList) (hi : zs[i]? = some z) (hj : t.place.toList[i]? = some j) : ∃ c, c < N ∧ way t.mask z c = j := by
  obtain ⟨c, e, hb⟩ := T.fnd i z j hi hj
  refine ⟨c, Classical.byContradiction fun q => ?_, e⟩
  rcases Nat.eq_or_lt_of_le (Nat.le_of_not_lt q) with q | q
  · exact hN (by rw [q, e]; exact List.mem_of_getElem? hj)
  · exact hN (hb N q)
theorem Lay.ins (T : Lay t zs) (hN : way t.mask z N ∉ t.place.toList) (hb : ∀ c, c < N → way t.mask z c ∈ t.place.toList) {p : Nat} (hp : p = SetTable.below t.place (way t.mask z N)) :
    Lay (t.put (way t.mask z N)).1 (zs.take p ++ z :: zs.drop p) ∧ p ≤ zs.length := by
  have num := T.num
  have cut := (below_cut T.up (way t.mask z N)).1
  rw [← hp] at cut
  have ll : t.place.toList.length = zs.length := by rw [Array.length_toList]; exact num
  have pz : p ≤ zs.length := num ▸ cut
  have pl : (t.put (way t.mask z N)).1.place.toList = t.place.toList.take p ++ way t.mask z N :: t.place.toList.drop p := by rw [hp]; exact put_place t _
  have more : ∀ x, x ∈ t.place.toList → x ∈ (t.put (way t.mask z N)).1.place.toList := fun x hx => by rw [pl]; exact mem_ins.mpr (.inr hx)
  refine ⟨⟨ris_insert T.up fun e => hN (List.mem_of_getElem? (Array.getElem?_toList.trans e)), put_dm T.nod _, ?_, T.msk, fun i z' j' h1 h2 => ?_⟩, pz⟩
  · rw [← Array.length_toList, pl, len_ins _ (by omega), len_ins _ pz, ll]
  · rw [tins_get zs pz] at h1
    rw [pl, tins_get _ (by omega)] at h2
    have old : ∀ i', zs[i']? = some z' → t.place.toList[i']? = some j' → ∃ c, way t.mask z' c = j' ∧ ∀ c', c' < c → way t.mask z' c' ∈ (t.put (way t.mask z N)).1.place.toList := fun i' a b => by
      obtain ⟨c, e, k⟩ := T.fnd i' z' j' a b
      exact ⟨c, e, fun c' q => more _ (k c' q)⟩
    by_cases q1 : i < p
    · rw [if_pos q1] at h1 h2; exact old i h1 h2
    · by_cases q2 : i = p
      · rw [if_neg q1, if_pos q2] at h1 h2
        cases h1; cases h2
        exact ⟨N, rfl, fun c' q => more _ (hb c' q)⟩
      · rw [if_neg q1, if_neg q2] at h1 h2; exact old _ h1 h2
end

/-! ### all laid anew -/
section
variable {m : Nat} {ow : Array (Option Nat)}
theorem open_slot (hm : Msk m) (z : Int) {j : Nat} (hj : j ≤ m) (hf : oAt ow j = none) :
    ∃ N, SetTable.layClean.free m ow (SetTable.turns m) (SetTable.bits z % (m + 1)) (SetTable.bits z) = some (way m z N) ∧ oAt ow (way m z N) = none ∧ ∀ c, c < N → oAt ow (way m z c) ≠ none := by
  obtain ⟨n, hn, e⟩ := msk_run hm z hj
  have hw : way m z (L2.off m (SetTable.bits z % (m + 1)) (SetTable.bits z) n) = j := by
    have q := nth_off m n (SetTable.bits z % (m + 1)) (SetTable.bits z)
    rw [itL_run] at q
    exact (congrArg SetTable.Probe.j q).trans e
  obtain ⟨N, l1, l2, l3⟩ := st_least (p := fun c => oAt ow (way m z c) = none) _ (hw ▸ hf)
  have sm : ∀ {o : Option Nat}, o ≠ none → o.isNone = false := fun {o} q => by cases o with | none => exact absurd rfl q | some _ => rfl
  have nn : ∀ {o : Option Nat}, o = none → o.isNone = true := fun {o} q => by rw [q]; rfl
  exact ⟨N, free_spec m ow (SetTable.turns m) n _ _ N (by unfold SetTable.turns; omega) l1 (fun c q => sm (l3 c q)) (nn l2), l2, l3⟩
theorem own_more (hm : Msk m) {zs : List Int} (W : Own m zs ow) (hl : zs.length ≤ m) (z : Int) :
    ∃ j, SetTable.layClean.free m ow (SetTable.turns m) (SetTable.bits z % (m + 1)) (SetTable.bits z) = some j ∧ Own m (zs ++ [z]) (ow.setIfInBounds j (some zs.length)) := by
  obtain ⟨ps, lp, inp⟩ := W.ps
  obtain ⟨j0, b0, n0⟩ := st_missing ps (m + 1) (by omega)
  have f0 : oAt ow j0 = none := Classical.byContradiction fun q => n0 (inp j0 (Nat.le_of_lt_succ b0) q)
  obtain ⟨N, e1, e2, e3⟩ := open_slot hm z (Nat.le_of_lt_succ b0) f0
  have jm : way m z N ≤ m := way_bd z N
  have js : way m z N < ow.size := W.sz.symm ▸ Nat.lt_succ_of_le jm
  have ne : ∀ {i : Nat}, oAt ow i ≠ none → i ≠ way m z N := fun {i} q e => q (e ▸ e2)
  have put : oAt (ow.setIfInBounds (way m z N) (some zs.length)) (way m z N) = some zs.length := oAt_set_self _ js
  have keep : ∀ {i : Nat}, oAt ow i ≠ none → oAt (ow.setIfInBounds (way m z N) (some zs.length)) i ≠ none := fun {i} q => by rw [oAt_set_ne _ (ne q)]; exact q
  have lz : (zs ++ [z]).length = zs.length + 1 := by simp
  refine ⟨way m z N, e1, ⟨by rw [Array.size_setIfInBounds, W.sz], fun i k hi e => ?_, fun k hk => ?_, way m z N :: ps, by rw [lz, List.length_cons, lp], fun i hi q => ?_⟩⟩
  · by_cases c : i = way m z N
    · subst c
      rw [put] at e
      cases e
      exact ⟨z, N, by simp, rfl, fun c q => keep (e3 c q)⟩
    · rw [oAt_set_ne _ c] at e
      obtain ⟨z', N', a1, a2, a3⟩ := W.at_ i k hi e
      have kl := (List.getElem?_eq_some_iff.mp a1).1
      exact ⟨z', N', by rw [List.getElem?_append_left kl]; exact a1, a2, fun c q => keep (a3 c q)⟩
  · rw [lz] at hk
    rcases Nat.eq_or_lt_of_le (Nat.le_of_lt_succ hk) with c | c
    · exact ⟨way m z N, jm, by rw [put, c]⟩
    · obtain ⟨i, hi, e⟩ := W.all k c
      exact ⟨i, hi, by rw [oAt_set_ne _ (ne (by rw [e]; exact Option.some_ne_none k))]; exact e⟩
  · by_cases c : i = way m z N
    · rw [c]; exact .head _
    · rw [oAt_set_ne _ c] at q
      exact .tail _ (inp i hi q)
theorem own_fold (hm : Msk m) : ∀ (rest zs : List Int) (ow : Array (Option Nat)), Own m zs ow → zs.length + rest.length ≤ m →
    ∃ ow', rest.foldl (stepF m) (some (ow, zs.length)) = some (ow', (zs ++ rest).length) ∧ Own m (zs ++ rest) ow'
  | [], zs, ow, W, _ => ⟨ow, by simp, by simpa using W⟩
  | z :: rest, zs, ow, W, hl => by
    have l1 : (zs ++ [z]).length = zs.length + 1 := by simp
    have l2 : rest.length + 1 = (z :: rest).length := rfl
    obtain ⟨j, e, W'⟩ := own_more hm W (by omega) z
    obtain ⟨ow', f, W2⟩ := own_fold hm rest (zs ++ [z]) _ W' (by omega)
    rw [l1, List.append_assoc] at f
    rw [List.append_assoc] at W2
    exact ⟨ow', by rw [List.foldl_cons, stepF_some e]; exact f, W2⟩
theorem own_all (hm : Msk m) {zs : Array Int} (hn : zs.size ≤ m) : ∃ ow, SetTable.layClean m zs = some ow ∧ Own m zs.toList ow := by
  obtain ⟨ow, f, W⟩ := own_fold hm zs.toList [] _ (Own.init m) (by simpa using hn)
  exact ⟨ow, by rw [layClean_eq, show (0 : Nat) = ([] : List Int).length from rfl, f]; rfl, W⟩
theorem lay_anew (t : SetTable) {zs : Array Int} {want : Nat} (hw : SetTable.sizeAbove want = m + 1) (hm : Msk m) (hn : zs.size ≤ m) :
    ∃ u ord, t.relaid zs want = some (u, ord) ∧ ord.toList.Perm (List.range zs.size) ∧ Lay u (ord.toList.map fun i => zs.getD i 0) ∧ u.mask = m ∧ u.led = t.led ∧ u.plain = t.plain := by
  obtain ⟨ow, e, W⟩ := own_all hm hn
  obtain ⟨r1, r2⟩ := ris_live (fun j => ow.getD j none) (List.range (m + 1)) List.pairwise_lt_range
  change Ris ((liveOf m ow).map (·.1)) at r1
  change ∀ x ∈ (liveOf m ow).map (·.1), x ∈ List.range (m + 1) at r2
  have sat : ∀ k, k < zs.size → k ∈ (liveOf m ow).map (·.2) := fun k hk => by
    obtain ⟨j, b1, b2⟩ := W.all k hk
    exact List.mem_map_of_mem (f := (·.2)) ((mem_live W.sz).mpr ⟨b1, b2⟩)
  have len : (liveOf m ow).length = zs.size := by
    refine Nat.le_antisymm ?_ ?_
    · obtain ⟨ps, p1, p2⟩ := W.ps
      have q := nat_nodup_len ((liveOf m ow).map fun x : Nat × Nat => x.1) ps (show List.Nodup _ from r1.imp fun h => Nat.ne_of_lt h) fun x hx => by
        obtain ⟨⟨y, k⟩, hq, rfl⟩ := List.mem_map.mp hx
        obtain ⟨b1, b2⟩ := (mem_live W.sz).mp hq
        exact p2 y b1 (by rw [b2]; exact Option.some_ne_none k)
      rw [List.length_map, p1, Array.length_toList] at q
      exact q
    · have q := nat_nodup_len (List.range zs.size) ((liveOf m ow).map fun x : Nat × Nat => x.2) List.nodup_range fun k hk => sat k (List.mem_range.mp hk)
      rwa [List.length_map, List.length_range] at q
  refine ⟨tabOf t m ow, ((liveOf m ow).map (·.2)).toArray, by rw [relaid_eq, hw]; simp only [Nat.add_sub_cancel]; rw [e]; rfl, perm_range _ _ (by simp [len]) sat, ⟨r1, rfl, by simp [tabOf], hm, fun i z j h1 h2 => ?_⟩, rfl, rfl, rfl⟩
  change ((liveOf m ow).map (·.1))[i]? = some j at h2
  change (((liveOf m ow).map (·.2)).map fun i => zs.getD i 0)[i]? = some z at h1
  rw [List.getElem?_map] at h2
  rw [List.getElem?_map, List.getElem?_map] at h1
  obtain ⟨⟨y, k⟩, hq, rfl⟩ := Option.map_eq_some_iff.mp h2
  rw [hq] at h1
  obtain ⟨b1, b2⟩ := (mem_live W.sz).mp (List.mem_of_getElem? hq)
  obtain ⟨z0, N, a1, a2, a3⟩ := W.at_ y k b1 b2
  have ez : z0 = z := by
    have q : zs.getD k 0 = z := Option.some.inj h1
    rw [← q, Array.getD_eq_getD_getElem?, ← Array.getElem?_toList, a1]; rfl
  subst ez
  refine ⟨N, a2, fun c q => ?_⟩
  obtain ⟨k2, e2⟩ := Option.ne_none_iff_exists'.mp (a3 c q)
  exact List.mem_map_of_mem (f := (·.1)) ((mem_live W.sz).mpr ⟨way_bd z0 c, e2⟩)
end
end Cb

set_option Elab.async false
set_option linter.all false
set_option maxRecDepth 100000
/-! Ss2: sets of tuples of numbers and texts, on the heap -/
namespace Cb
open PySem PySem.Spec L2
open PyProof.Rows hiding St
abbrev IsK (P : Program) (w : World) (h : Heap) (c : List Key) (b : Addr) : Prop := IsTupleKey (mixKind P w) h c b
abbrev kHash (P : Program) (w : World) (c : List Key) : Int := tupleKeyHash (mixKind P w) c
section
variable {P : Program} {w : World} {A : Around} {E : Value → Shared → Prop} {s : Shared}

/-! ### what a search asks of such a tuple -/
def flatIt : Value → Prop
  | .int .. => True
  | .str .. => True
  | _ => False
theorem flat_items {c : List Key} {vs : List Value} (h : ItemsAre (mixKind P w) c vs) : ∀ v, v ∈ vs → flatIt v := by
  induction h with
  | nil => exact fun v hv => nomatch hv
  | cons h1 _ ih =>
    intro v hv
    rcases List.mem_cons.mp hv with rfl | q
    · rcases keyIs_shape h1 with ⟨i, t, rfl, rfl⟩ | ⟨x, t, rfl, rfl⟩ <;> trivial
    · exact ih v q
theorem flat_cls {v : Value} (n : Nat) (h : flatIt v) : ofAClassStatement n v = pure false := by
  cases v <;> first | exact h.elim | (cases n <;> rfl)
theorem flat_hash {v : Value} (n : Nat) (h : flatIt v) : ∃ b, hashByValue n v = pure b := by
  cases v <;> first | exact h.elim | (cases n <;> exact ⟨_, rfl⟩)
theorem key_cls {c : List Key} {b : Addr} {Q : Bool → Shared → Prop} (x : IsK P w s.heap c b) (q : Q false s) : wpAny (model P w) A (ofAClassStatement 8 (.ref b)) Q E s := by
  have ty := x.typeIs
  obtain ⟨o, its, n, ho, -, hd, hi⟩ := x
  have fl := flat_items hi
  unfold ofAClassStatement
  refine wpAny_bind (wpAny_typeOf ty ?_)
  dsimp only
  simp only [show (("tuple" : String) == "tuple") = true by decide, if_true, Bool.not_true, Bool.false_eq_true, if_false]
  try refine wpAny_bind (wpAny_pure ?_)
  try simp only [Bool.not_true, Bool.false_eq_true, if_false]
  refine wpAny_bind (wpAny_seqItems ho hd (wpAny_bind ?_))
  show wpAny _ _ (forIn its _ _) _ _ s
  rw [← Array.forIn_toList]
  refine wpAny_forIn_list _ (fun l r s1 => s1 = s ∧ r.1 = none ∧ ∀ v, v ∈ l → flatIt v) _ (fun v l r s1 z => ?_) (fun r s1 z => ?_) _ _ ⟨rfl, rfl, fl⟩
  · obtain ⟨rfl, hr, hf⟩ := z
    rw [flat_cls _ (hf v (.head _))]
    exact wpAny_bind (wpAny_pure (wpAny_pure ⟨rfl, rfl, fun u hu => hf u (.tail _ hu)⟩))
  · obtain ⟨r1, r2⟩ := r
    obtain ⟨rfl, hr, -⟩ := z
    cases (show r1 = none from hr)
    exact wpAny_pure q
theorem key_byv {c : List Key} {b : Addr} {Q : Bool → Shared → Prop} (x : IsK P w s.heap c b) (q : ∀ y, Q y s) : wpAny (model P w) A (hashByValue 8 (.ref b)) Q E s := by
  have ty := x.typeIs
  obtain ⟨o, its, n, ho, -, hd, hi⟩ := x
  have fl := flat_items hi
  unfold hashByValue
  refine wpAny_bind (wpAny_specialOf ty F.slot_tuple_hash.lookup ?_)
  show wpAny _ _ (seqItems? (.ref b) >>= _) _ _ s
  refine wpAny_bind (wpAny_seqItems ho hd (wpAny_bind ?_))
  show wpAny _ _ (forIn its _ _) _ _ s
  rw [← Array.forIn_toList]
  refine wpAny_forIn_list _ (fun l r s1 => s1 = s ∧ r.1 = none ∧ ∀ v, v ∈ l → flatIt v) _ (fun v l r s1 z => ?_) (fun r s1 z => ?_) _ _ ⟨rfl, rfl, fl⟩
  · obtain ⟨rfl, hr, hf⟩ := z
    obtain ⟨y, ey⟩ := flat_hash 7 (hf v (.head _))
    rw [ey]
    refine wpAny_bind (wpAny_pure ?_)
    cases y with
    | true => exact wpAny_pure ⟨rfl, rfl, fun u hu => hf u (.tail _ hu)⟩
    | false => exact wpAny_pure (wpAny_pure (q _))
  · obtain ⟨r1, r2⟩ := r
    obtain ⟨rfl, hr, -⟩ := z
    cases (show r1 = none from hr)
    exact wpAny_pure (q _)
theorem key_unseen {c : List Key} {b : Addr} {Q : Bool → Shared → Prop} (x : IsK P w s.heap c b) {ys : List Value} (hy : ∀ y, y ∈ ys → ∃ a e, y = Value.ref a ∧ IsK P w s.heap e a) (q : Q false s) :
    wpAny (model P w) A (searchCouldBeSeen (.ref b) ys) Q E s := by
  unfold searchCouldBeSeen
  refine wpAny_bind (wpAny_forIn_list _ (fun l r s1 => s1 = s ∧ r.1 = none ∧ ∀ y, y ∈ l → ∃ a e, y = Value.ref a ∧ IsK P w s.heap e a) _ (fun y l r s1 z => ?_) (fun r s1 z => ?_) _ _ ⟨rfl, rfl, hy⟩)
  · obtain ⟨rfl, hr, hf⟩ := z
    obtain ⟨a, e, rfl, xa⟩ := hf y (.head _)
    have fin : ∀ v, v ∈ l → ∃ a e, v = Value.ref a ∧ IsK P w s1.heap e a := fun v hv => hf v (.tail _ hv)
    dsimp only
    split
    · exact wpAny_pure ⟨rfl, rfl, fin⟩
    · refine wpAny_bind (wpAny_eqIsQuiet_tuple x ?_)
      refine wpAny_bind (wpAny_eqIsQuiet_tuple xa ?_)
      refine wpAny_bind (key_cls x ?_)
      refine wpAny_bind (key_cls xa ?_)
      exact wpAny_pure ⟨rfl, rfl, fin⟩
  · obtain ⟨r1, r2⟩ := r
    obtain ⟨rfl, hr, -⟩ := z
    cases (show r1 = none from hr)
    exact wpAny_pure q

/-! ### the set on the heap -/
def kRows (P : Program) (w : World) (L : List (Addr × List Key)) : List (Int × Value) := L.map fun p => (kHash P w p.2, Value.ref p.1)
abbrev kZs (P : Program) (w : World) (L : List (Addr × List Key)) : List Int := L.map fun p => kHash P w p.2
theorem kRows_len (L : List (Addr × List Key)) : (kRows P w L).length = L.length := List.length_map _
theorem kRows_at {L : List (Addr × List Key)} {i : Nat} {p : Addr × List Key} (h : L[i]? = some p) : (kRows P w L)[i]? = some (kHash P w p.2, Value.ref p.1) := by unfold kRows; rw [List.getElem?_map, h]; rfl
structure KSet (P : Program) (w : World) (h : Heap) (a : Addr) (L : List (Addr × List Key)) (es : Array (Int × Value)) (ep : Nat) (t : SetTable) : Prop where
  obj : ∃ o, h.get? a = some o ∧ o.ExactSet ∧ o.data = .set es ep t
  row : es.toList = kRows P w L
  lay : Lay t (kZs P w L)
  nod : (L.map (·.2)).Nodup
  key : ∀ p, p ∈ L → IsK P w h p.2 p.1
  led : w.params.followText "set-order" = true ∨ t.led = true
  gap : L.length * 5 < t.mask * 3
  few : L.length ≤ 300
variable {a : Addr} {L : List (Addr × List Key)} {es : Array (Int × Value)} {ep : Nat} {t : SetTable}
theorem sz_row (h : es.toList = kRows P w L) : es.size = L.length := by rw [← Array.length_toList, h, kRows_len]
theorem fit_row (h : es.toList = kRows P w L) (T : Lay t (kZs P w L)) (l : L.length ≤ t.mask) : t.fits es.size = true := by
  have h1 := T.num
  rw [List.length_map] at h1
  have h2 := T.nod
  have h3 := sz_row h
  simp only [SetTable.fits, SetTable.fill, h2, Bool.and_eq_true, beq_iff_eq, decide_eq_true_eq, Array.size_empty]
  omega
theorem KSet.fits (S : KSet P w s.heap a L es ep t) : t.fits es.size = true := fit_row S.row S.lay (by have := S.gap; omega)
theorem KSet.ent (S : KSet P w s.heap a L es ep t) {i : Nat} {p : Addr × List Key} (h : L[i]? = some p) : es[i]? = some (kHash P w p.2, Value.ref p.1) := by
  rw [← Array.getElem?_toList, S.row]; exact kRows_at h

/-! ### the search -/
/-- the way's c-th step as a probe -/
abbrev stp (m : Nat) (z : Int) (c : Nat) : SetTable.Probe := nth m (runAt m (SetTable.bits z % (m + 1)) (SetTable.bits z)) c
theorem adv_dm {m : Nat} {q : SetTable.Probe} (h : q.dummy = none) : (adv m q).dummy = none := by unfold adv; split <;> exact h
theorem nth_dm {m : Nat} : ∀ (n : Nat) {q : SetTable.Probe}, q.dummy = none → (nth m q n).dummy = none
  | 0, _, h => h
  | n + 1, _, h => nth_dm n (adv_dm h)
theorem seek (S : KSet P w s.heap a L es ep t) {b : Addr} {c : List Key} (x : IsK P w s.heap c b) (hu : A.units < cLine) {N : Nat} (b1 : N < 10 * SetTable.turns t.mask)
    (b2 : way t.mask (kHash P w c) N ∉ t.place.toList) (b3 : ∀ i, i < N → way t.mask (kHash P w c) i ∈ t.place.toList) {Q : SetFound → Shared → Prop}
    (qi : c ∈ L.map (·.2) → Q (.there none) s) (qo : c ∉ L.map (·.2) → Q (.free (way t.mask (kHash P w c) N) false) s) :
    ∀ (f n : Nat) (st : Option SetTable.Probe), st.getD (t.probeStart (kHash P w c)) = stp t.mask (kHash P w c) n → n ≤ N → N < f + n →
      (∀ (i : Nat) (p : Addr × List Key), L[i]? = some p → p.2 = c → ∃ n', n ≤ n' ∧ n' < N ∧ t.place.toList[i]? = some (way t.mask (kHash P w c) n')) →
      wpAny (model P w) A (setSearchFrom a (.ref b) (kHash P w c) true f st) Q E s
  | 0, n, st, _, hn, hf, _ => absurd hf (by omega)
  | f + 1, n, st, hst, hn, hf, left => by
    obtain ⟨o, ho, -, hd⟩ := S.obj
    have hz := S.fits
    rw [setSearchFrom_succ]
    refine wpAny_bind (wpAny_setState_of ho hd hz ?_)
    dsimp only
    refine wp_if_neg (by unfold SetTable.gaveWay; rw [msk_odd S.lay.msk]; decide) ?_
    try refine wpAny_bind (wpAny_pure ?_)
    have sh : ∀ q, nth t.mask (stp t.mask (kHash P w c) n) q = stp t.mask (kHash P w c) (n + q) := fun q => (nth_add t.mask n _ q).symm
    have ha : ∀ (i : Nat) (p : Addr × List Key), L[i]? = some p → (es[i]?.map (·.1)).getD 0 = kHash P w p.2 := fun i p hp => by rw [S.ent hp]; rfl
    have met := go_spec t S.lay.up S.lay.nod (fun i => (es[i]?.map (·.1)).getD 0) (kHash P w c) (10 * SetTable.turns t.mask) (N - n) (stp t.mask (kHash P w c) n) (nth_dm n rfl) (by omega)
      (fun q hq => by rw [sh]; exact b3 _ (by omega)) (by rw [sh, Nat.add_sub_of_le hn]; exact b2)
    simp only [sh] at met
    rw [Nat.add_sub_of_le hn] at met
    rcases met with ⟨q, i, hq, hi, hh, hno, hpr⟩ | ⟨hno, hpr⟩
    · rw [show t.probe (fun i => (es[i]?.map (·.1)).getD 0) (kHash P w c) (st.getD (t.probeStart (kHash P w c))) = _ from (congrArg _ hst).trans hpr]
      dsimp only
      have il : i < L.length := by
        have h1 := (List.getElem?_eq_some_iff.mp hi).1
        rw [Array.length_toList, S.lay.num, List.length_map] at h1
        exact h1
      obtain ⟨p, hp⟩ : ∃ p, L[i]? = some p := ⟨_, List.getElem?_eq_getElem il⟩
      have pm := List.mem_of_getElem? hp
      have rest : wpAny (model P w) A (searchRest a (.ref b) (kHash P w c) true f es t (way t.mask (kHash P w c) (n + q)) i (stp t.mask (kHash P w c) (n + (q + 1)))) Q E s := by
        unfold searchRest
        rw [S.ent hp]
        dsimp only
        refine wpAny_bind (wpAny_holding (wpAny_eqBool_tuple hu (S.key p pm) x (wpAny_bind (wpAny_setState_of ho hd hz ?_))))
        dsimp only
        by_cases e : p.2 = c
        · refine wp_if_pos (by simp [e]) (wpAny_pure (qi ?_))
          exact e ▸ List.mem_map_of_mem (f := (·.2)) pm
        · refine wp_if_neg (by simp [e]) ?_
          try refine wpAny_bind (wpAny_pure ?_)
          have sl := slot_live S.lay.up hi
          rw [sameMem]
          dsimp only
          simp only [if_true, sl, S.ent hp]
          refine wpAny_bind (wpAny_isSame_ref_self (wpAny_bind (wpAny_pure ?_)))
          simp only [if_true]
          refine wp_if_neg (by simp [e]) (seek S x hu b1 b2 b3 qi qo f (n + (q + 1)) (some _) rfl (by omega) (by omega) fun i' p' hp' ep' => ?_)
          obtain ⟨n', l1, l2, l3⟩ := left i' p' hp' ep'
          refine ⟨n', ?_, l2, l3⟩
          have far : ¬ n' < n + q := fun z => hno (n' - n) i' (by omega) (by rw [Nat.add_sub_of_le l1]; exact l3) (by
            show (es[i']?.map (·.1)).getD 0 = _
            rw [ha i' p' hp', ep'])
          have off : n' ≠ n + q := fun z => by
            rw [z] at l3
            have s2 := slot_live S.lay.up l3
            rw [sl] at s2
            cases s2
            rw [hp] at hp'
            cases hp'
            exact e ep'
          omega
      by_cases le : t.led = true
      · refine wp_if_neg (by simp [le]) ?_
        try refine wpAny_bind (wpAny_pure ?_)
        exact rest
      · refine wp_if_pos (by simp [le]) (wpAny_bind (key_unseen x (fun y hy => ?_) ?_))
        · obtain ⟨e, he, ee⟩ := List.mem_map.mp hy
          have me : e ∈ es.toList := by
            have h2 : e ∈ es ∧ e.1 = kHash P w c := by simpa using he
            simpa using h2.1
          rw [S.row] at me
          obtain ⟨p2, hp2, rfl⟩ := List.mem_map.mp me
          exact ⟨p2.1, p2.2, ee.symm, S.key p2 hp2⟩
        · refine wp_if_neg (by decide) ?_
          try refine wpAny_bind (wpAny_pure ?_)
          exact rest
    · rw [show t.probe (fun i => (es[i]?.map (·.1)).getD 0) (kHash P w c) (st.getD (t.probeStart (kHash P w c))) = _ from (congrArg _ hst).trans hpr]
      refine wpAny_pure (qo fun hm => ?_)
      obtain ⟨p, pm, ep'⟩ := List.mem_map.mp hm
      obtain ⟨i, hi, e0⟩ := List.getElem_of_mem pm
      have hp : L[i]? = some p := by rw [List.getElem?_eq_getElem hi, e0]
      obtain ⟨n', l1, l2, l3⟩ := left i p hp ep'
      refine hno (n' - n) i (by omega) (by rw [Nat.add_sub_of_le l1]; exact l3) ?_
      show (es[i]?.map (·.1)).getD 0 = _
      rw [ha i p hp, ep']
theorem seek_all (S : KSet P w s.heap a L es ep t) {b : Addr} {c : List Key} (x : IsK P w s.heap c b) (hu : A.units < cLine) {Q : SetFound → Shared → Prop} (qi : c ∈ L.map (·.2) → Q (.there none) s)
    (qo : ∀ N, c ∉ L.map (·.2) → way t.mask (kHash P w c) N ∉ t.place.toList → (∀ i, i < N → way t.mask (kHash P w c) i ∈ t.place.toList) → Q (.free (way t.mask (kHash P w c) N) false) s) :
    wpAny (model P w) A (setSearch a (.ref b) (kHash P w c) true) Q E s := by
  have gp := S.gap
  obtain ⟨N, b1, b2, b3⟩ := S.lay.room (by rw [List.length_map]; omega) (kHash P w c)
  have top := msk_top S.lay.msk
  refine seek S x hu b1 b2 b3 qi (fun hn => qo N hn b2 b3) 100000 0 none rfl (Nat.zero_le _) (by unfold SetTable.turns at b1; omega) fun i p hp e => ?_
  have hi : (kZs P w L)[i]? = some (kHash P w c) := by rw [List.getElem?_map, hp, ← e]; rfl
  have il : i < t.place.toList.length := by
    have h1 := (List.getElem?_eq_some_iff.mp hp).1
    rw [Array.length_toList, S.lay.num, List.length_map]
    exact h1
  obtain ⟨n, hn, en⟩ := S.lay.ahead b2 hi (List.getElem?_eq_getElem il)
  exact ⟨n, Nat.zero_le _, hn, by rw [List.getElem?_eq_getElem il, en]⟩
end
end Cb

set_option Elab.async false
set_option linter.all false
set_option maxRecDepth 100000
/-! Ss3: adding to such a set; set(xs) -/
namespace Cb
open PySem PySem.Spec L2
open PyProof.Rows hiding St
section
variable {P : Program} {w : World} {A : Around} {E : Value → Shared → Prop} {s : Shared}
theorem isK_keep {h h' : Heap} {c : List Key} {b : Addr} (x : IsK P w h c b) (k : ∀ u o, h.get? u = some o → h'.get? u = some o) : IsK P w h' c b :=
  let ⟨o, its, n, ho, r⟩ := x
  ⟨o, its, n, k b o ho, r⟩
theorem isK_but {h h' : Heap} {c : List Key} {a b : Addr} {o : Obj} {es : Array (Int × Value)} {ep : Nat} {t : SetTable} (x : IsK P w h c b) (ho : h.get? a = some o) (hd : o.data = .set es ep t) (sb : Heap.SameBut a h h') : IsK P w h' c b := by
  obtain ⟨u, its, n, hu, hc, du, hi⟩ := x
  refine ⟨u, its, n, (sb.2 b fun e => ?_).trans hu, hc, du, hi⟩
  rw [e, ho] at hu
  rw [← Option.some.inj hu, hd] at du
  cases du
theorem kRows_ins (L : List (Addr × List Key)) (p : Nat) (x : Addr × List Key) : kRows P w (L.take p ++ x :: L.drop p) = (kRows P w L).take p ++ (kHash P w x.2, Value.ref x.1) :: (kRows P w L).drop p := by
  simp only [kRows, List.map_append, List.map_cons, List.map_take, List.map_drop]
theorem ins_perm {α : Type} (l : List α) (p : Nat) (x : α) : (l.take p ++ x :: l.drop p).Perm (x :: l) := by
  have z : (l.take p ++ x :: l.drop p).Perm (x :: (l.take p ++ l.drop p)) := List.perm_middle
  rwa [List.take_append_drop] at z
/-- rows picked by their numbers -/
theorem pick_rows {L : List (Addr × List Key)} {es : Array (Int × Value)} (hr : es.toList = kRows P w L) : ∀ (l : List Nat), (∀ i, i ∈ l → i < L.length) →
    l.filterMap (fun i => es[i]?) = kRows P w (l.filterMap fun i => L[i]?) ∧ kZs P w (l.filterMap fun i => L[i]?) = l.map fun i => (es.map (·.1)).getD i 0
  | [], _ => ⟨rfl, rfl⟩
  | i :: l, h => by
    obtain ⟨e1, e2⟩ := pick_rows hr l fun j hj => h j (.tail _ hj)
    have il := h i (.head _)
    have hp := List.getElem?_eq_getElem il
    have he : es[i]? = some (kHash P w L[i].2, Value.ref L[i].1) := by rw [← Array.getElem?_toList, hr]; exact kRows_at hp
    have hg : (es.map (·.1)).getD i 0 = kHash P w L[i].2 := by simp [Array.getD_eq_getD_getElem?, Array.getElem?_map, he]
    refine ⟨?_, ?_⟩
    · rw [List.filterMap_cons_some he, List.filterMap_cons_some hp, e1]; rfl
    · rw [List.filterMap_cons_some hp, List.map_cons, hg, ← e2]; rfl
theorem all_picked {α : Type} (L : List α) : (List.range L.length).filterMap (fun i => L[i]?) = L := by
  have key : ∀ n, n ≤ L.length → (List.range n).filterMap (fun i => L[i]?) = L.take n := by
    intro n
    induction n with
    | zero => exact fun _ => rfl
    | succ n ih =>
      intro l
      have hp := List.getElem?_eq_getElem (Nat.lt_of_succ_le l)
      rw [List.range_succ, List.filterMap_append, ih (Nat.le_of_succ_le l), List.take_add_one, hp, List.filterMap_cons_some hp]; rfl
  rw [key _ (Nat.le_refl _), List.take_length]
variable {a : Addr} {L : List (Addr × List Key)} {es : Array (Int × Value)} {ep : Nat} {t : SetTable}
theorem relay (R : es.toList = kRows P w L) (T : Lay t (kZs P w L)) (lt : L.length ≤ t.mask) {o : Obj} (ho : s.heap.get? a = some o) (xo : o.ExactSet) (hd : o.data = .set es ep t) (nd : (L.map (·.2)).Nodup) (ks : ∀ p, p ∈ L → IsK P w s.heap p.2 p.1)
    (ld : w.params.followText "set-order" = true ∨ t.led = true) (few : L.length ≤ 300) {want m : Nat} (hw : SetTable.sizeAbove want = m + 1) (hm : Msk m) (gap : L.length * 5 < m * 3) {Q : Unit → Shared → Prop}
    (q : ∀ h' L' es' ep' t', Heap.SameBut a s.heap h' → KSet P w h' a L' es' ep' t' → L'.Perm L → Q () { s with heap := h' }) : wpAny (model P w) A (setRelay a want) Q E s := by
  have sz := sz_row R
  obtain ⟨u, ord, e, pm, T', um, ul, -⟩ := lay_anew t (zs := es.map (·.1)) hw hm (by rw [Array.size_map, sz]; omega)
  rw [Array.size_map, sz] at pm
  have pick := pick_rows R ord.toList fun i hi => List.mem_range.mp (pm.mem_iff.mp hi)
  have pL : (ord.toList.filterMap fun i => L[i]?).Perm L := by
    have z := pm.filterMap fun i => L[i]?
    rwa [all_picked] at z
  rw [← pick.2] at T'
  have rows' : (ord.filterMap (es[·]?)).toList = kRows P w (ord.toList.filterMap fun i => L[i]?) := (Array.toList_filterMap ..).trans pick.1
  generalize ord.toList.filterMap (fun i => L[i]?) = L' at T' rows' pL
  have sz' : (ord.filterMap (es[·]?)).size = L.length := (sz_row rows').trans pL.length_eq
  rw [setRelay_eq]
  refine wpAny_bind (wpAny_setState_of ho hd (fit_row R T lt) ?_)
  dsimp only
  have top := msk_top hm
  refine wp_if_neg (by rw [hw, sizeLine_eq]; omega) ?_
  try refine wpAny_bind (wpAny_pure ?_)
  rw [e]
  dsimp only
  refine wpAny_bind (wp_if_neg (by rw [sz', sz]; simp) ?_)
  try refine wpAny_bind (wpAny_pure ?_)
  refine wpAny_pure (wpAny_storeSet_of ho hd ?_ (by rw [sz', sizeLine_eq]; omega))
  have sb : Heap.SameBut a s.heap (s.heap.update a (Obj.putSet (ord.filterMap (es[·]?)) u)) := Heap.SameBut.update ..
  refine q _ L' _ (ep + 1) u sb ⟨⟨_, store_at ho hd, ⟨xo.1, xo.2.1, xo.2.2⟩, rfl⟩, rows', T', (pL.map _).nodup_iff.mpr nd, fun p hp => isK_but (ks p (pL.mem_iff.mp hp)) ho hd sb, by rw [ul]; exact ld, ?_, ?_⟩ pL
  · rw [pL.length_eq, um]; exact gap
  · rw [pL.length_eq]; exact few
theorem above_5 : SetTable.sizeAbove (SetTable.grown 5) = 31 + 1 := by decide +kernel
theorem above_19 : SetTable.sizeAbove (SetTable.grown 19) = 127 + 1 := by decide +kernel
theorem above_77 : SetTable.sizeAbove (SetTable.grown 77) = 511 + 1 := by decide +kernel
/-- when a table is too full, and what follows -/
theorem full_next {m n : Nat} (hm : Msk m) (g : n * 5 < m * 3) (few : n + 1 ≤ 300) (f : m * 3 ≤ (n + 1) * 5) : ∃ m', SetTable.sizeAbove (SetTable.grown (n + 1)) = m' + 1 ∧ Msk m' ∧ (n + 1) * 5 < m' * 3 := by
  rcases hm with (rfl | rfl | rfl) | rfl
  · rw [show n + 1 = 5 by omega]; exact ⟨31, above_5, .inl (.inr (.inl rfl)), by decide⟩
  · rw [show n + 1 = 19 by omega]; exact ⟨127, above_19, .inl (.inr (.inr rfl)), by decide⟩
  · rw [show n + 1 = 77 by omega]; exact ⟨511, above_77, .inr rfl, by decide⟩
  · omega
theorem lay_plain {u : SetTable} {zs : List Int} (T : Lay u zs) : Lay { u with plain := false } zs := ⟨T.up, T.nod, T.num, T.msk, T.fnd⟩
theorem kadd (S : KSet P w s.heap a L es ep t) {b : Addr} {c : List Key} (x : IsK P w s.heap c b) (hu : A.units < cLine) (few : L.length + 1 ≤ 300) {Q : Bool → Shared → Prop}
    (q : ∀ y h' L' es' ep' t', Heap.SameBut a s.heap h' → KSet P w h' a L' es' ep' t' → (c ∈ L.map (·.2) → L' = L) → (c ∉ L.map (·.2) → L'.Perm ((b, c) :: L)) → Q y { s with heap := h' }) :
    wpAny (model P w) A (setAddHashed a (.ref b) (kHash P w c)) Q E s := by
  obtain ⟨o, ho, xo, hd⟩ := S.obj
  have gap := S.gap
  have sz := sz_row S.row
  unfold setAddHashed
  refine wpAny_holding ?_
  rw [setAddHashedIn_succ a (.ref b) (kHash P w c) 99999]
  refine wpAny_bind (wpAny_setState_of ho hd S.fits ?_)
  dsimp only
  refine wp_if_neg (by simp [byScan, Value.scannable]) ?_
  try refine wpAny_bind (wpAny_pure ?_)
  refine wpAny_bind (seek_all S x hu (fun hm => ?_) fun N hm hN hb => ?_)
  · exact wpAny_pure (q false _ L es ep t (Heap.SameBut.refl ..) S (fun _ => rfl) (absurd hm))
  · dsimp only
    refine wpAny_bind (wpAny_setState_of ho hd S.fits ?_)
    dsimp only
    obtain ⟨pp, hpp⟩ : ∃ pp, pp = SetTable.below t.place (way t.mask (kHash P w c) N) := ⟨_, rfl⟩
    obtain ⟨T1, pl⟩ := S.lay.ins hN hb hpp
    have T1m : (t.put (way t.mask (kHash P w c) N)).1.mask = t.mask := rfl
    have T1l : (t.put (way t.mask (kHash P w c) N)).1.led = t.led := rfl
    rw [show t.put (way t.mask (kHash P w c) N) = ((t.put (way t.mask (kHash P w c) N)).1, pp) by rw [hpp]; rfl]
    generalize (t.put (way t.mask (kHash P w c) N)).1 = t1 at T1 T1m T1l
    dsimp only
    have row1 : (SetTable.insertAt es pp (kHash P w c, Value.ref b)).toList = kRows P w (L.take pp ++ (b, c) :: L.drop pp) := by rw [SetTable.toList_insertAt, kRows_ins, S.row]
    generalize SetTable.insertAt es pp (kHash P w c, Value.ref b) = es1 at row1
    have pm := ins_perm L pp (b, c)
    have zs1 : kZs P w (L.take pp ++ (b, c) :: L.drop pp) = (kZs P w L).take pp ++ kHash P w c :: (kZs P w L).drop pp := by simp only [kZs, List.map_append, List.map_cons, List.map_take, List.map_drop]
    rw [← zs1] at T1
    generalize L.take pp ++ (b, c) :: L.drop pp = L1 at pm T1 row1
    have len1 : L1.length = L.length + 1 := pm.length_eq
    have nod1 : (L1.map (·.2)).Nodup := (pm.map (·.2)).nodup_iff.mpr (List.nodup_cons.mpr ⟨hm, S.nod⟩)
    have sz1 : es1.size = L.length + 1 := (sz_row row1).trans len1
    -- behind the store
    have go : ∀ t2 : SetTable, Lay t2 (kZs P w L1) → t2.mask = t.mask → t2.led = t.led → wpAny (model P w) A (storeSet a es1 t2) (fun _ s1 => wpAny (model P w) A (if (!false && t2.tooFull) = true then (do setRelay a (SetTable.grown (es.size + 1)); pure true) else pure true) Q E s1) E s := fun t2 T2 m2 l2 => by
      refine wpAny_storeSet_of ho hd ?_ (by rw [sz1, sizeLine_eq]; omega)
      have sb : Heap.SameBut a s.heap (s.heap.update a (Obj.putSet es1 t2)) := Heap.SameBut.update ..
      have ho1 := store_at (es' := es1) (t' := t2) ho hd
      generalize s.heap.update a (Obj.putSet es1 t2) = h1 at sb ho1
      have key1 : ∀ p, p ∈ L1 → IsK P w h1 p.2 p.1 := fun p hp => by
        rcases List.mem_cons.mp (pm.mem_iff.mp hp) with rfl | z
        · exact isK_but x ho hd sb
        · exact isK_but (S.key p z) ho hd sb
      have led1 : w.params.followText "set-order" = true ∨ t2.led = true := l2 ▸ S.led
      have tf : t2.tooFull = decide (t.mask * 3 ≤ (L.length + 1) * 5) := by
        have n2 := T2.num
        rw [List.length_map, len1] at n2
        simp only [SetTable.tooFull, SetTable.fill, T2.nod, n2, m2, Array.size_empty, Nat.add_zero, ge_iff_le]
      rw [tf]
      by_cases f : t.mask * 3 ≤ (L.length + 1) * 5
      · refine wp_if_pos (by simp [f]) (wpAny_bind ?_)
        obtain ⟨m', hw, hm', g'⟩ := full_next S.lay.msk gap few f
        rw [sz]
        refine relay (s := { s with heap := h1 }) row1 T2 (by rw [len1, m2]; omega) ho1 ⟨xo.1, xo.2.1, xo.2.2⟩ rfl nod1 key1 led1 (by rw [len1]; exact few) hw hm' (by rw [len1]; exact g') fun h2 L2 es2 ep2 t3 sb2 S2 pm2 => ?_
        exact wpAny_pure (q true h2 L2 es2 ep2 t3 (sb.trans sb2) S2 (fun z => absurd z hm) fun _ => pm2.trans pm)
      · refine wp_if_neg (by simp [f]) (wpAny_pure (q true h1 L1 es1 (ep + 1) t2 sb ⟨⟨_, ho1, ⟨xo.1, xo.2.1, xo.2.2⟩, rfl⟩, row1, T2, nod1, key1, led1, by rw [len1, m2]; omega, by rw [len1]; exact few⟩ (fun z => absurd z hm) fun _ => pm))
    have tail : ∀ byv : Bool, wpAny (model P w) A (storeSet a es1 (if byv = true then t1 else { t1 with plain := false }) >>= fun _ => if (!false && (if byv = true then t1 else { t1 with plain := false }).tooFull) = true then (do setRelay a (SetTable.grown (es.size + 1)); pure true) else pure true) Q E s := fun byv => by
      cases byv with
      | true => exact wpAny_bind (go t1 T1 T1m T1l)
      | false => exact wpAny_bind (go { t1 with plain := false } (lay_plain T1) T1m T1l)
    by_cases pl1 : t1.plain = true
    · exact wp_if_pos pl1 (wpAny_bind (key_byv x fun y => tail y))
    · exact wp_if_neg pl1 (wpAny_bind (wpAny_pure (tail true)))

/-! ### set(xs) -/
/-- what the set has of the first i items -/
structure Had (ks : List (Addr × List Key)) (i : Nat) (L : List (Addr × List Key)) : Prop where
  of : ∀ p, p ∈ L → p ∈ ks.take i
  to : ∀ p, p ∈ ks.take i → p.2 ∈ L.map (·.2)
  le : L.length ≤ i
theorem Had.nil (ks : List (Addr × List Key)) : Had ks 0 [] := ⟨fun _ h => (nomatch h), fun _ h => (by simp at h), Nat.le_refl _⟩
theorem take_snoc {α : Type} {l : List α} {i : Nat} {x : α} (h : l[i]? = some x) : l.take (i + 1) = l.take i ++ [x] := by rw [List.take_add_one, h]; rfl
theorem Had.next {ks L L' : List (Addr × List Key)} {i : Nat} {x : Addr × List Key} (g : Had ks i L) (h : ks[i]? = some x) (c1 : x.2 ∈ L.map (·.2) → L' = L) (c2 : x.2 ∉ L.map (·.2) → L'.Perm (x :: L)) : Had ks (i + 1) L' := by
  have tk := take_snoc h
  by_cases m : x.2 ∈ L.map (·.2)
  · cases c1 m
    refine ⟨fun p hp => tk ▸ List.mem_append_left _ (g.of p hp), fun p hp => ?_, Nat.le_succ_of_le g.le⟩
    rw [tk] at hp
    rcases List.mem_append.mp hp with z | z
    · exact g.to p z
    · cases List.mem_singleton.mp z; exact m
  · have pm := c2 m
    refine ⟨fun p hp => ?_, fun p hp => ?_, by rw [pm.length_eq]; exact Nat.succ_le_succ g.le⟩
    · rw [tk]
      rcases List.mem_cons.mp (pm.mem_iff.mp hp) with rfl | z
      · exact List.mem_append_right _ (.head _)
      · exact List.mem_append_left _ (g.of p z)
    · rw [tk] at hp
      refine (pm.map _).mem_iff.mpr ?_
      rcases List.mem_append.mp hp with z | z
      · exact .tail _ (g.to p z)
      · cases List.mem_singleton.mp z; exact .head _
theorem KSet.stay {h h' : Heap} {a : Addr} {L : List (Addr × List Key)} {es : Array (Int × Value)} {ep : Nat} {t : SetTable} (S : KSet P w h a L es ep t) (ha : ∀ o, h.get? a = some o → h'.get? a = some o) (hk : ∀ p, p ∈ L → IsK P w h' p.2 p.1) : KSet P w h' a L es ep t :=
  let ⟨o, ho, r⟩ := S.obj
  ⟨⟨o, ha o ho, r⟩, S.row, S.lay, S.nod, hk, S.led, S.gap, S.few⟩
abbrev newSet (w : World) : Obj := { cls := .type "set", dict := none, data := .set #[] 0 (.fresh 0 0 (!w.params.followText "set-order")) }
theorem kset_new {h : Heap} {a : Addr} (ho : h.get? a = some (newSet w)) : KSet P w h a [] #[] 0 (.fresh 0 0 (!w.params.followText "set-order")) where
  obj := ⟨_, ho, ⟨rfl, rfl, rfl⟩, rfl⟩
  row := rfl
  lay := ⟨.nil, rfl, rfl, .inl (.inl rfl), fun i z j h _ => by simp at h⟩
  nod := .nil
  key := fun _ h => nomatch h
  led := by
    show _ ∨ (!w.params.followText "set-order") = true
    cases w.params.followText "set-order" <;> simp
  gap := by show 0 * 5 < 7 * 3; decide
  few := Nat.zero_le _
/-- the loop of an update -/
theorem kloop {I S : Addr} {fp wr : List Addr} {G : Array GenState → Array GenState → Prop} {n : Nat} {Pv : Nat → Value → Prop} {Sn : Nat → Shared → Prop} {R : Result → Shared → Prop} (W : WalksS P w A.in1 I fp wr G n Pv Sn) (nS : S ∉ fp)
    (ks : List (Addr × List Key)) (hn : n = ks.length) (few : ks.length ≤ 300) (hv : ∀ i v, Pv i v → ∃ p, ks[i]? = some p ∧ v = .ref p.1) (h0 : Heap) (hk : ∀ p, p ∈ ks → IsK P w h0 p.2 p.1) (fS : h0.get? S = none) (fw : ∀ b, b ∈ wr → h0.get? b = none) (hu : A.in1.units < cLine) :
    ∀ (m i : Nat) (s : Shared), i + m = n → Sn i s → (∀ b o, h0.get? b = some o → s.heap.get? b = some o) → (∃ L es ep t, KSet P w s.heap S L es ep t ∧ Had ks i L) →
      (∀ s' L es ep t, Moved (S :: wr) G s s' → KSet P w s'.heap S L es ep t → Had ks n L → (∀ b o, h0.get? b = some o → s'.heap.get? b = some o) → R (.ok (.ret .none)) s') →
      codeAny (model P w) A (.builtin "set.update.loop" ⟨[.ref S, .ref I], []⟩) R s := by
  have nw : S ∉ wr := fun z => nS (W.sub _ z)
  have on : ∀ b, b ∈ wr → b ∈ S :: wr := fun b z => .tail _ z
  have mk : ∀ {s s' : Shared}, Moved wr G s s' → (∀ b o, h0.get? b = some o → s.heap.get? b = some o) → ∀ b o, h0.get? b = some o → s'.heap.get? b = some o := fun mv k b o e =>
    mv.heap b o (fun z => absurd e (by rw [fw b z]; exact fun q => nomatch q)) (k b o e)
  intro m
  induction m with
  | zero =>
    intro i s e hs k ⟨L, es, ep, t, hS, g⟩ r
    cases (show i = n from e)
    refine codeAny_builtin F.entry_set_update_loop ?_
    rw [Around.under_plainId F.plain_set_update_loop _]
    show wpAny _ A.in1 (pyNext (.ref I) >>= _) _ _ s
    refine wpAny_bind (W.done s _ _ hs fun s' mv => ?_)
    have k' := mk mv k
    exact wpAny_pure (r s' L es ep t (mv.mono on) (hS.stay (fun o z => mv.heap S o nw z) fun p hp => isK_keep (hk p (List.mem_of_mem_take (g.of p hp))) k') g k')
  | succ m ih =>
    intro i s e hs k ⟨L, es, ep, t, hS, g⟩ r
    have lt : i < n := by omega
    refine codeAny_builtin F.entry_set_update_loop ?_
    rw [Around.under_plainId F.plain_set_update_loop _]
    show wpAny _ A.in1 (pyNext (.ref I) >>= _) _ _ s
    refine wpAny_bind (W.item i s _ _ lt hs fun v s' pv hs' mv => ?_)
    obtain ⟨p, hp, rfl⟩ := hv i v pv
    have k' := mk mv k
    have hS' : KSet P w s'.heap S L es ep t := hS.stay (fun o z => mv.heap S o nw z) fun q hq => isK_keep (hk q (List.mem_of_mem_take (g.of q hq))) k'
    have x : IsK P w s'.heap p.2 p.1 := isK_keep (hk p (List.mem_of_getElem? hp)) k'
    have gl := g.le
    show wpAny _ A.in1 (holding [Value.ref p.1] (setAdd S (.ref p.1)) >>= _) _ _ s'
    refine wpAny_bind (wpAny_holding ?_)
    unfold setAdd
    refine wpAny_holding (wpAny_bind (wpAny_pyHash_tuple hu x ?_))
    refine kadd (s := { s' with toks := s'.toks + (p.2.length + 1) }) hS' x hu (by omega) fun y h' L' es' ep' t' sb S2 c1 c2 => ?_
    have k2 : ∀ b o, h0.get? b = some o → h'.get? b = some o := fun b o z => (sb.2 b fun q => by rw [q, fS] at z; cases z).trans (k' b o z)
    refine wpAny_pure ⟨plainId_quiet F.plain_set_update_loop _, ih (i + 1) _ (by omega) (W.frame _ s' _ _ hs' (Nat.le_add_right _ _) fun b hb o z => (sb.2 b fun q => nS (q ▸ hb)).trans z) k2 ⟨L', es', ep', t', S2, g.next hp c1 c2⟩ fun s3 L3 es3 ep3 t3 mv3 S3 g3 k3 => ?_⟩
    exact r s3 L3 es3 ep3 t3 (Moved.trans W.gtrans ((mv.mono on).then_heap (Nat.le_add_right _ _) fun b o hb z => (sb.2 b fun q => hb (q ▸ .head _)).trans z) mv3) S3 g3 k3
end
end Cb

set_option Elab.async false
set_option linter.all false
set_option maxRecDepth 100000
/-! Ss4: the call set(xs) -/
namespace Cb
open PySem PySem.Spec L2
open PyProof.Rows hiding St
section
variable {P : Program} {w : World} {A : Around} {E : Value → Shared → Prop} {s : Shared}
set_option maxHeartbeats 3200000 in
theorem set_walked {l : Addr} {its : Array Value} (Gd : Heap → Prop) {Q : Value → Shared → Prop} (hl : s.heap.IsList l its)
    (lp : ∀ R : Result → Shared → Prop, (∀ s' : Shared, s'.gens = s.gens → s'.drawn = s.drawn → s'.os = s.os → Gd s'.heap → R (.ok (.ret .none)) s') →
      codeAny (model P w) A.in1.in1 (.builtin "set.update.loop" ⟨[.ref s.heap.objs.size, .ref (s.heap.push (newSet w)).objs.size], []⟩) R { s with heap := (s.heap.push (newSet w)).push { cls := .type "list_iterator", data := .fields #[.ref l, .int 0 0] } })
    (q : ∀ (h' : Heap) (tk : Nat), Gd h' → Q (.ref s.heap.objs.size) { s with heap := h', toks := tk }) :
    wpAny (model P w) A (call (.type "set") [.ref l]) Q E s := by
  obtain ⟨c0, tl0, hm0⟩ := F.called_set.mro
  have hm1 := F.called_set.made
  have hm2 := F.called_set.sub
  have hm3 := F.called_set.notType
  have hm4 := F.called_set.canCreate
  have hm5 := F.typeCall_set_1 (.ref l)
  refine wpAny_call (codeAny_of_tree ?_)
  show wpAny _ _ (callAny (.type "set") _) _ _ _
  refine wpAny_pure ⟨Code.quiet_builtin _ (by decide +kernel), codeAny_builtin F.entry_type_call ?_⟩
  rw [Around.under_plain (weight_type_call_type "set" [.ref l] []) rfl]
  repeat (any_goals (first | assumption | wp_step))
  refine codeAny_mono (code_set_led1 (.ref l) (E := E) (Q₁ := fun u s₁ => u = .ref s.heap.objs.size ∧ s₁ = { s with heap := s.heap.push (newSet w) }) ⟨rfl, rfl⟩) fun r s₁ hr => ?_
  cases r with
  | error e => exact hr
  | ok fl =>
    cases fl with
    | ret u =>
      obtain ⟨rfl, rfl⟩ := hr
      have at0 : (s.heap.push (newSet w)).get? s.heap.objs.size = some (newSet w) := Heap.get?_push_size _ rfl
      have ty : Shared.TypeIs { s with heap := s.heap.push (newSet w) } (.ref s.heap.objs.size) "set" := ⟨_, at0, rfl⟩
      have look := F.called_set.init.lookup
      have bind := F.called_set.init.bind (.ref s.heap.objs.size)
      repeat (any_goals (first | assumption | wp_step))
      refine codeAny_mono (codeAny_call_builtin (R := wants (fun r s₂ => r = .none ∧ ∃ h' tk, s₂ = { s with heap := h', toks := tk } ∧ Gd h') E)
        F.called_set.init.plain F.entry_set_init (check_set_init_1 ty ?_)) fun r₂ s₂ hr₂ => ?_
      · obtain ⟨⟨oc, od, odat, osl⟩, ho, hc, nl, hd⟩ := hl
        cases (show oc = _ from hc)
        cases (show odat = _ from hd)
        have ho' : (s.heap.push (newSet w)).get? l = some { cls := .type "list", dict := od, data := .seq its nl, slots := osl } := Heap.get?_push_of_some _ ho
        have hl1 : (s.heap.push (newSet w)).IsList l its := ⟨_, ho', rfl, nl, rfl⟩
        have sub1 := F.sub_list_set
        have sub2 := F.sub_list_frozenset
        have nd : (Value.type "list" == Value.type "dict") = false := by decide
        unfold Builtin.«set.__init__» noKeywords Builtin.Frozenset.updateFrom
        generalize hP : pyIter = PI
        wp_walk
        subst hP
        refine wpAny_pyIter_list hl1 (wpAny_bind (wpAny_runValue ?_))
        refine lp _ fun s' e1 e2 e3 g => ?_
        obtain ⟨h', gn, dr, tk, os⟩ := s'
        cases (show gn = _ from e1)
        cases (show dr = _ from e2)
        cases (show os = _ from e3)
        exact wpAny_pure (wpAny_pure ⟨rfl, h', tk, rfl, g⟩)
      · cases r₂ with
        | error e => exact hr₂
        | ok fl₂ =>
          cases fl₂ with
          | ret r =>
            obtain ⟨rfl, h', tk, rfl, g⟩ := hr₂
            repeat (any_goals (first | assumption | wp_step))
            exact q _ _ g
          | _ => exact hr₂.elim
    | _ => exact hr.elim
/-- where the walk begins -/
theorem walk_at (A : Around) (hh : A.handled = none) {l : Addr} {its : Array Value} (hl : s.heap.IsList l its) :
    l < s.heap.objs.size ∧ A.in1.in1.in1.handled = none ∧ l ≠ (s.heap.push (newSet w)).objs.size ∧ s.heap.objs.size ∉ [(s.heap.push (newSet w)).objs.size, l] ∧ (s.heap.push (newSet w)).IsList l its := by
  obtain ⟨o, ho, hc, nl, hd⟩ := id hl
  have sz1 : (s.heap.push (newSet w)).objs.size = s.heap.objs.size + 1 := Heap.size_push ..
  have ls : l < s.heap.objs.size := Heap.lt_size ho
  refine ⟨ls, by simp [hh], by rw [sz1]; exact Nat.ne_of_lt (Nat.lt_succ_of_lt ls), fun z => ?_, hl.push _⟩
  rw [sz1] at z
  rcases List.mem_cons.mp z with z | z
  · exact absurd z (Nat.ne_of_lt (Nat.lt_succ_self _))
  · rw [List.mem_singleton.mp z] at ls; exact absurd ls (Nat.lt_irrefl _)
theorem free_up (h : Heap) (b : Addr) (hb : h.objs.size ≤ b) : h.get? b = none := by
  cases e : h.get? b with
  | none => rfl
  | some o => exact absurd (Heap.lt_size e) (Nat.not_lt.mpr hb)
theorem kset_call {l : Addr} {its : Array Value} (ks : List (Addr × List Key)) {Q : Value → Shared → Prop} (hh : A.handled = none) (hl : s.heap.IsList l its) (hi : its.toList = ks.map fun p => Value.ref p.1)
    (hk : ∀ p, p ∈ ks → IsK P w s.heap p.2 p.1) (few : ks.length ≤ 300) (hu : A.units + 3 < cLine)
    (q : ∀ (h' : Heap) (tk : Nat) L es ep t, KSet P w h' s.heap.objs.size L es ep t → Had ks ks.length L → (∀ b o, s.heap.get? b = some o → h'.get? b = some o) → Q (.ref s.heap.objs.size) { s with heap := h', toks := tk }) :
    wpAny (model P w) A (call (.type "set") [.ref l]) Q E s := by
  have size : its.size = ks.length := by rw [← Array.length_toList, hi, List.length_map]
  refine set_walked (fun h' => ∃ L es ep t, KSet P w h' s.heap.objs.size L es ep t ∧ Had ks ks.length L ∧ ∀ b o, s.heap.get? b = some o → h'.get? b = some o) hl (fun R r => ?_) fun h' tk ⟨L, es, ep, t, S', g, k⟩ => q h' tk L es ep t S' g k
  obtain ⟨ls, h3, neI, nS, hl1⟩ := walk_at (w := w) A hh hl
  have at0 : (s.heap.push (newSet w)).get? s.heap.objs.size = some (newSet w) := Heap.get?_push_size _ rfl
  refine kloop (Walks.list h3 _ l neI its).toS nS ks size few (fun i v hv => ?_) s.heap hk (free_up _ _ (Nat.le_refl _)) (fun b hb => free_up _ b ?_) hu its.size 0 _ (Nat.zero_add _)
    ⟨⟨_, Heap.get?_push_size _ rfl, rfl, rfl⟩, hl1.push _⟩ (fun b o e => Heap.get?_push_of_some _ (Heap.get?_push_of_some _ e)) ⟨[], #[], 0, _, kset_new (Heap.get?_push_of_some _ at0), Had.nil ks⟩ fun s' L es ep t mv S' g k => ?_
  · have e : its.toList[i]? = some v := by rw [Array.getElem?_toList]; exact hv
    rw [hi, List.getElem?_map] at e
    obtain ⟨p, hp, e2⟩ := Option.map_eq_some_iff.mp e
    exact ⟨p, hp, e2.symm⟩
  · rw [List.mem_singleton.mp hb, Heap.size_push]; exact Nat.le_succ _
  · rw [size] at g
    exact r s' mv.gens mv.drawn mv.os ⟨L, es, ep, t, S', g, k⟩
theorem iset_call {l : Addr} {its : Array Value} (ns : List Int) {Q : Value → Shared → Prop} (hh : A.handled = none) (hl : s.heap.IsList l its) (hi : IntsAre its.toList ns) (few : ns.length + 1 < scanBound)
    (q : ∀ (h' : Heap) (tk : Nat) c, SetR w h' s.heap.objs.size (fun j => decide (j ∈ ns)) c → (∀ b o, s.heap.get? b = some o → h'.get? b = some o) → Q (.ref s.heap.objs.size) { s with heap := h', toks := tk }) :
    wpAny (model P w) A (call (.type "set") [.ref l]) Q E s := by
  have size : its.size = ns.length := by rw [← Array.length_toList]; exact hi.length
  refine set_walked (fun h' => ∃ c, SetR w h' s.heap.objs.size (fun j => decide (j ∈ ns)) c ∧ ∀ b o, s.heap.get? b = some o → h'.get? b = some o) hl (fun R r => ?_) fun h' tk ⟨c, S', k⟩ => q h' tk c S' k
  obtain ⟨ls, h3, neI, nS, hl1⟩ := walk_at (w := w) A hh hl
  have at0 : (s.heap.push (newSet w)).get? s.heap.objs.size = some (newSet w) := Heap.get?_push_size _ rfl
  have fr : ∀ b o, b ∈ [s.heap.objs.size, (s.heap.push (newSet w)).objs.size] → s.heap.get? b = some o → False := fun b o hb e => by
    have z := Heap.lt_size e
    rw [Heap.size_push] at hb
    rcases List.mem_cons.mp hb with y | y
    · rw [y] at z; exact Nat.lt_irrefl _ z
    · rw [List.mem_singleton.mp y] at z; exact absurd z (Nat.not_lt.mpr (Nat.le_succ _))
  refine set_update_ints (Walks.list h3 _ l neI its).toS _ nS ns size few (fun i v hv => ?_) (its.size - 0) 0 _ rfl (Nat.zero_le _)
    ⟨⟨_, Heap.get?_push_size _ rfl, rfl, rfl⟩, hl1.push _⟩ ⟨0, Nat.le_refl _, setR_new_at (Heap.get?_push_of_some _ at0)⟩ fun s' c mv _ S' => ?_
  · have e : its.toList[i]? = some v := by rw [Array.getElem?_toList]; exact hv
    obtain ⟨t, rfl⟩ := IntsAre.int_at hi i v e
    have il : i < ns.length := by rw [← hi.length]; exact (List.getElem?_eq_some_iff.mp e).1
    exact ⟨_, t, by simp [List.getD, il], rfl⟩
  · refine r s' mv.gens mv.drawn mv.os ⟨c, S', fun b o e => mv.heap b o (fun hb => fr b o hb e) ?_⟩
    exact Heap.get?_push_of_some _ (Heap.get?_push_of_some _ e)
end
end Cb

set_option Elab.async false
set_option linter.all false
set_option maxRecDepth 100000
/-! Fl1: floors as plain data: the program's floods -/
namespace Fl
open PySem L2 Cb

def within (x lo hi : Int) : Bool := decide (lo ≤ x) && decide (x ≤ hi)
def beside (w h p : Int) : List Int :=
  (if 0 < p % w then [p - 1] else []) ++ (if p % w < w - 1 then [p + 1] else []) ++ (if w ≤ p then [p - w] else []) ++ (if p < w * h - w then [p + w] else [])
/-- places come to, one after another -/
def flood (nb : Int → List Int) (some : List Int) : Nat → List Int → List Int → List Int
  | 0, seen, _ => seen
  | n + 1, seen, row => match row.getLast? with
    | none => seen
    | .some p => if p ∈ seen then flood nb some n seen row.dropLast else flood nb some n (seen ++ [p]) (row.dropLast ++ (nb p).filter fun x => decide (x ∈ some))
def floodAll (nb : Int → List Int) (starts some : List Int) : List Int := flood nb some (5 * some.length + starts.length) [] (starts.filter fun x => decide (x ∈ some))
def come (w h : Int) (starts some : List Int) : List Int := floodAll (beside w h) starts some
def isOut (w h p : Int) : Bool := decide (p % w ∈ [0, w - 1]) || decide (p / w ∈ [0, h - 1])
def areF (w h : Int) : Int → List Int → Bool
  | _, [] => true
  | last, p :: r => within p (last + 1) (w * h - 1) && areF w h p r
def bareOf (w h : Int) (fields : List Int) : List Int := (rng 0 (w * h).toNat).filter fun p => !decide (p ∈ fields)
/-- what floor_of lets by -/
structure Ok (w h : Int) (fields : List Int) : Prop where
  w1 : 1 ≤ w
  w6 : w ≤ 6
  h1 : 1 ≤ h
  h6 : h ≤ 6
  ne : fields ≠ []
  are : areF w h (-1) fields = true
  tog : (come w h (fields.take 1) fields).length = fields.length
  full : (come w h ((bareOf w h fields).filter fun p => isOut w h p) (bareOf w h fields)).length = (bareOf w h fields).length

theorem rng_mem {lo x : Int} {n : Nat} : x ∈ rng lo n ↔ lo ≤ x ∧ x < lo + n := by
  unfold rng
  rw [List.mem_map]
  constructor
  · rintro ⟨i, hi, rfl⟩
    rw [List.mem_range] at hi
    omega
  · intro h
    exact ⟨(x - lo).toNat, List.mem_range.mpr (by omega), by omega⟩
theorem areF_mem {w h : Int} : ∀ {fields : List Int} {last : Int}, areF w h last fields = true → ∀ x ∈ fields, last < x ∧ x < w * h
  | [], _, _, x, hx => by cases hx
  | p :: r, last, e, x, hx => by
    unfold areF within at e
    simp only [Bool.and_eq_true, decide_eq_true_eq] at e
    obtain ⟨⟨e1, e2⟩, e3⟩ := e
    rcases List.mem_cons.mp hx with rfl | hx
    · omega
    · have := areF_mem e3 x hx; omega
theorem areF_len {w h : Int} : ∀ {fields : List Int} {last : Int}, areF w h last fields = true → last < w * h → (fields.length : Int) ≤ w * h - 1 - last
  | [], last, _, hl => by simp only [List.length_nil]; omega
  | p :: r, last, e, hl => by
    unfold areF within at e
    simp only [Bool.and_eq_true, decide_eq_true_eq] at e
    obtain ⟨⟨e1, e2⟩, e3⟩ := e
    have := areF_len e3 (by omega)
    simp only [List.length_cons]
    omega
theorem Ok.area {w h : Int} {fields : List Int} (o : Ok w h fields) : 1 ≤ w * h ∧ w * h ≤ 36 := by
  obtain ⟨w1, w6, h1, h6, _, _, _, _⟩ := o
  have e1 : w = 1 ∨ w = 2 ∨ w = 3 ∨ w = 4 ∨ w = 5 ∨ w = 6 := by omega
  rcases e1 with rfl | rfl | rfl | rfl | rfl | rfl <;> omega
theorem Ok.len {w h : Int} {fields : List Int} (o : Ok w h fields) : fields.length ≤ 36 := by
  have := areF_len o.are (by have := o.area; omega)
  have := o.area
  omega
theorem bare_len {w h : Int} {fields : List Int} : (bareOf w h fields).length ≤ (w * h).toNat := by
  unfold bareOf
  exact Nat.le_trans (List.length_filter_le _ _) (Nat.le_of_eq (rng_length _ _))

/-! ### dicts of places -/
theorem dGet_seen (sn : List Int) (c : Int) : (dGet (sn.map fun x => (x, true)) c).isSome = decide (c ∈ sn) := by
  unfold dGet
  induction sn with
  | nil => simp
  | cons a t ih =>
    rw [List.map_cons, List.find?_cons]
    by_cases e : a = c
    · subst e; simp
    · have e' : ¬ c = a := fun z => e z.symm
      simp only [decide_eq_false e]
      rw [ih]
      simp [e']
theorem dPut_seen {sn : List Int} {c : Int} (h : c ∉ sn) : dPut (sn.map fun x => (x, true)) c true = (sn ++ [c]).map fun x => (x, true) := by
  unfold dPut
  have e : ((sn.map fun x => (x, true)).any fun kv => decide (kv.1 = c)) = false := by
    rw [List.any_map, List.any_eq_false]
    intro x hx
    simp only [Function.comp, decide_eq_true_eq]
    intro z; subst z; exact h hx
  rw [e, if_neg Bool.false_ne_true, List.map_append]
  rfl
theorem last_at {α : Type} {l : List α} (h : l ≠ []) : l[l.length - 1]? = some (l.getLast h) := by
  rw [← List.getLast?_eq_getElem?, List.getLast?_eq_some_getLast h]

/-! ### the flood's turns -/
def unseen (some sn : List Int) : Nat := (some.filter fun x => !decide (x ∈ sn)).length
theorem unseen_le (some sn : List Int) : unseen some sn ≤ some.length := List.length_filter_le _ _
theorem unseen_add {some sn : List Int} {p : Int} (h1 : p ∈ some) (h2 : p ∉ sn) : unseen some (sn ++ [p]) + 1 ≤ unseen some sn := by
  unfold unseen
  induction some with
  | nil => cases h1
  | cons a t ih =>
    have le : ∀ t : List Int, (t.filter fun x => !decide (x ∈ sn ++ [p])).length ≤ (t.filter fun x => !decide (x ∈ sn)).length := by
      intro t
      induction t with
      | nil => exact Nat.le_refl _
      | cons b u ih2 =>
        rw [List.filter_cons, List.filter_cons]
        by_cases e1 : b ∈ sn
        · have e2 : b ∈ sn ++ [p] := List.mem_append_left _ e1
          simp only [e1, e2, decide_true, Bool.not_true, Bool.false_eq_true, if_false]
          exact ih2
        · by_cases e2 : b ∈ sn ++ [p]
          · simp only [e1, e2, decide_true, decide_false, Bool.not_true, Bool.not_false, Bool.false_eq_true, if_false, if_true, List.length_cons]
            omega
          · simp only [e1, e2, decide_false, Bool.not_false, if_true, List.length_cons]
            omega
    rw [List.filter_cons, List.filter_cons]
    by_cases e : a = p
    · subst e
      have e2 : a ∈ sn ++ [a] := by simp
      simp only [h2, e2, decide_true, decide_false, Bool.not_true, Bool.not_false, Bool.false_eq_true, if_false, if_true, List.length_cons]
      exact Nat.succ_le_succ (le t)
    · have ht : p ∈ t := by
        rcases List.mem_cons.mp h1 with z | z
        · exact absurd z.symm e
        · exact z
      have := ih ht
      by_cases e1 : a ∈ sn
      · have e2 : a ∈ sn ++ [p] := List.mem_append_left _ e1
        simp only [e1, e2, decide_true, Bool.not_true, Bool.false_eq_true, if_false]
        exact this
      · have e2 : a ∉ sn ++ [p] := by
          intro z
          rcases List.mem_append.mp z with z | z
          · exact e1 z
          · exact e (List.mem_singleton.mp z)
        simp only [e1, e2, decide_false, Bool.not_false, if_true, List.length_cons]
        omega
theorem beside_len (w h p : Int) : (beside w h p).length ≤ 4 := by
  unfold beside
  simp only [List.length_append]
  split <;> split <;> split <;> split <;> simp
/-- what holds between two turns -/
structure FInv (nb : Int → List Int) (some : List Int) (RES : List Int) (n : Nat) (sn rw : List Int) : Prop where
  res : flood nb some n sn rw = RES
  mu : 5 * unseen some sn + rw.length ≤ n
  sub : ∀ x ∈ rw, x ∈ some
  sz : sn.length + unseen some sn ≤ some.length
theorem FInv.start (nb : Int → List Int) (starts some : List Int) : FInv nb some (floodAll nb starts some) (5 * some.length + starts.length) [] (starts.filter fun x => decide (x ∈ some)) := by
  have := unseen_le some []
  have h2 := List.length_filter_le (fun x => decide (x ∈ some)) starts
  refine ⟨rfl, by omega, fun x hx => ?_, by simpa using this⟩
  have := (List.mem_filter.mp hx).2
  exact of_decide_eq_true this
theorem FInv.done {nb : Int → List Int} {some RES sn : List Int} {n : Nat} (i : FInv nb some RES n sn []) : sn = RES := by
  have := i.res
  cases n with
  | zero => exact this
  | succ n => simpa [flood] using this
theorem FInv.old {nb : Int → List Int} {some RES sn rw : List Int} {n : Nat} (i : FInv nb some RES n sn rw) (hne : rw ≠ []) (h : rw.getLast hne ∈ sn) : ∃ m, n = m + 1 ∧ FInv nb some RES m sn rw.dropLast := by
  have hl : 0 < rw.length := List.length_pos_iff.mpr hne
  have hmu := i.mu
  cases n with
  | zero => omega
  | succ m =>
    refine ⟨m, rfl, ?_, by rw [List.length_dropLast]; omega, fun x hx => i.sub x ((List.dropLast_sublist rw).subset hx), i.sz⟩
    have := i.res
    unfold flood at this
    rw [List.getLast?_eq_some_getLast hne] at this
    simpa [h] using this
theorem FInv.new {nb : Int → List Int} {some RES sn rw : List Int} {n : Nat} (i : FInv nb some RES n sn rw) (hne : rw ≠ []) (h : rw.getLast hne ∉ sn) (hnb : ∀ p, (nb p).length ≤ 4) :
    ∃ m, n = m + 1 ∧ FInv nb some RES m (sn ++ [rw.getLast hne]) (rw.dropLast ++ (nb (rw.getLast hne)).filter fun x => decide (x ∈ some)) := by
  have hl : 0 < rw.length := List.length_pos_iff.mpr hne
  have hmu := i.mu
  have hp : rw.getLast hne ∈ some := i.sub _ (List.getLast_mem hne)
  have hu := unseen_add hp h
  have h4 := hnb (rw.getLast hne)
  have hf := List.length_filter_le (fun x => decide (x ∈ some)) (nb (rw.getLast hne))
  cases n with
  | zero => omega
  | succ m =>
    refine ⟨m, rfl, ?_, by rw [List.length_append, List.length_dropLast]; omega, fun x hx => ?_, ?_⟩
    · have := i.res
      unfold flood at this
      rw [List.getLast?_eq_some_getLast hne] at this
      simpa [h] using this
    · rcases List.mem_append.mp hx with z | z
      · exact i.sub x ((List.dropLast_sublist rw).subset z)
      · exact of_decide_eq_true (List.mem_filter.mp z).2
    · have := i.sz
      rw [List.length_append, List.length_singleton]
      omega
end Fl
namespace Fl
open PySem L2 Cb
def P_within (_ _ _ : Int) : Prop := True
def P_beside (w h _p : Int) : Prop := 0 < w ∧ w ≤ 1000 ∧ 0 ≤ h ∧ h ≤ 1000
def P_come (w h : Int) (s t : Sq Int) : Prop := 1 ≤ w ∧ w ≤ 6 ∧ 1 ≤ h ∧ h ≤ 6 ∧ s.items.length ≤ 100 ∧ t.items.length ≤ 100
def M_come (w h : Int) (s t : Sq Int) : Dct Int Bool := Dct.mk ((come w h s.items t.items).map fun x => (x, true))
def P_isOut (w h _p : Int) : Prop := 0 < w ∧ w ≤ 1000 ∧ 0 < h ∧ h ≤ 1000
def P_are (w h : Int) (s : Sq Int) : Prop := 1 ≤ w ∧ w ≤ 1000 ∧ 1 ≤ h ∧ h ≤ 1000 ∧ s.items ≠ []
def M_are (w h : Int) (s : Sq Int) : Bool := areF w h (-1) s.items
def P_floor (w h : Int) (s : Sq Int) : Prop := Ok w h s.items
def M_floor (w h : Int) (s : Sq Int) : T3 Int Int (Tup Int) := ⟨w, h, ⟨s.items⟩⟩
theorem cut_1 {l : List Int} : cut l none (some 1) = l.take 1 := by
  unfold cut HT.sIx
  cases l with
  | nil => rfl
  | cons a t => simp
end Fl

set_option Elab.async false
set_option linter.all false
set_option maxRecDepth 100000
/-! Fl2: the floors that are drawn -/
namespace Fl
open PySem L2 Cb
def itm (l : List Int) (i : Int) : Int := (atI l i).getD 0
theorem itm_at {l : List Int} {i : Int} (h0 : 0 ≤ i) (h1 : i < l.length) : atI l i = some (itm l i) := by
  unfold itm
  have e : i = ((i.toNat : Nat) : Int) := by omega
  rw [e, atI_nat (v := l[i.toNat]'(by omega)) (List.getElem?_eq_getElem (by omega))]
  rfl
theorem itm_get {l : List Int} {i : Int} (h0 : 0 ≤ i) (h1 : i < l.length) : itm l i = l[i.toNat]'(by omega) := by
  unfold itm
  have e : atI l i = atI l ((i.toNat : Nat) : Int) := by congr 1; omega
  rw [e, atI_nat (v := l[i.toNat]'(by omega)) (List.getElem?_eq_getElem (by omega))]
  rfl
theorem itm_mem {l : List Int} {i : Int} (h0 : 0 ≤ i) (h1 : i < l.length) : itm l i ∈ l := by
  rw [itm_get h0 h1]; exact List.getElem_mem _
structure SOk (z : Scr) : Prop where
  n : z.xs.length ≤ 63
  big : ∀ x ∈ z.xs, Builtin.Int.intBits x ≤ 1048576
def cell0 (k : Int) : Int := k * k * 7919 + 104729 * k + 11
def cell (z : Scr) (k : Int) : Int :=
  if k < z.xs.length then itm z.xs k
  else if 0 < (z.xs.length : Int) then (cell0 k + itm z.xs (k % z.xs.length) * (k + 3)) * (cell0 k + itm z.xs (k % z.xs.length) * (k + 3)) % 2147483629
  else cell0 k * cell0 k % 2147483629
def P_cell (z : Scr) (k : Int) : Prop := SOk z ∧ 0 ≤ k ∧ k ≤ 1000
theorem kk_le {k m : Int} (h : 0 ≤ k) (h1 : k ≤ m) : 0 ≤ k * k ∧ k * k ≤ m * m := ⟨Int.mul_nonneg h h, Int.mul_le_mul h1 h1 h (by omega)⟩
theorem big_int {i : Int} (h : -1152921504606846976 < i) (h1 : i < 1152921504606846976) : Big 60 i := by
  unfold Big; omega
theorem big_itm {z : Scr} (s : SOk z) (i : Int) : Big 1048577 (itm z.xs i) := by
  unfold itm
  cases e : atI z.xs i with
  | none => exact Big.small (by decide) (by decide)
  | some v =>
    refine Big.bits (s.big v ?_)
    unfold atI at e
    obtain ⟨j, _, e2⟩ := Option.bind_eq_some_iff.mp e
    exact List.mem_of_getElem? e2
theorem cell_mulB {z : Scr} {k : Int} (s : SOk z) (h : 0 ≤ k ∧ k ≤ 1000) (i : Int) : IntMulOk (k * k * 7919 + 104729 * k + 11 + itm z.xs i * (k + 3)) (k * k * 7919 + 104729 * k + 11 + itm z.xs i * (k + 3)) := by
  have kk := kk_le h.1 h.2
  have b1 : Big 60 (k * k * 7919 + 104729 * k + 11) := big_int (by omega) (by omega)
  have b2 : Big 60 (k + 3) := big_int (by omega) (by omega)
  have b3 := (big_itm s i).mul b2
  have b := (b1.mono (m := 1048577 + 60) (by decide)).add b3
  exact Big.ok b b (by decide) (by decide) (by decide)
theorem cell_nn {z : Scr} {k : Int} (h : ¬ k < z.xs.length) : 0 ≤ cell z k ∧ cell z k < 2147483629 := by
  unfold cell
  rw [if_neg h]
  split <;> exact ⟨Int.emod_nonneg _ (by decide), Int.emod_lt_of_pos _ (by decide)⟩
/-! rows -/
def two (c j : Int) : Int := ((c % 2147483647 * (2 * j + 69621) + j * j * 48271 + 7) % 2147483629) * ((c % 2147483647 * (2 * j + 69621) + j * j * 48271 + 7) % 2147483629) % 2147483587 * 16807 % 2147483647
def rstep (ev : Bool) (base : Int) (s : Int × List Int) (j : Int) : Int × List Int := if ev then (s.1 / base, s.2 ++ [s.1 % base]) else (s.1, s.2 ++ [two s.1 j / 7 % base])
def row (z : Scr) (k count base : Int) : List Int := ((rng 0 count.toNat).foldl (rstep (decide (cell z 0 % 2 = 0)) base) (cell z k, [])).2
def P_row (z : Scr) (k count base : Int) : Prop := SOk z ∧ 0 ≤ k ∧ k ≤ 1000 ∧ 0 ≤ count ∧ count ≤ 1000 ∧ 1 ≤ base ∧ base ≤ 1000
theorem row_fold {ev : Bool} {base : Int} (hb : 0 < base) : ∀ (r : List Int) (c : Int) (fd : List Int), (r.foldl (rstep ev base) (c, fd)).2.length = fd.length + r.length ∧ ((∀ x ∈ fd, 0 ≤ x ∧ x < base) → ∀ x ∈ (r.foldl (rstep ev base) (c, fd)).2, 0 ≤ x ∧ x < base)
  | [], c, fd => ⟨by simp, fun h => h⟩
  | j :: r, c, fd => by
    rw [List.foldl_cons]
    have key : ∀ (c' v : Int), 0 ≤ v → v < base → ((r.foldl (rstep ev base) (c', fd ++ [v])).2.length = fd.length + (j :: r).length ∧ ((∀ x ∈ fd, 0 ≤ x ∧ x < base) → ∀ x ∈ (r.foldl (rstep ev base) (c', fd ++ [v])).2, 0 ≤ x ∧ x < base)) := by
      intro c' v h0 h1
      obtain ⟨a, b⟩ := row_fold hb r c' (fd ++ [v])
      refine ⟨by rw [a]; simp only [List.length_append, List.length_cons, List.length_nil]; omega, fun h => b fun x hx => ?_⟩
      rcases List.mem_append.mp hx with z | z
      · exact h x z
      · rw [List.mem_singleton.mp z]; exact ⟨h0, h1⟩
    have step : rstep ev base (c, fd) j = (c / base, fd ++ [c % base]) ∨ rstep ev base (c, fd) j = (c, fd ++ [two c j / 7 % base]) := by
      unfold rstep
      cases ev
      · exact .inr rfl
      · exact .inl rfl
    rcases step with e | e <;> rw [e]
    · exact key _ _ (Int.emod_nonneg _ (by omega)) (Int.emod_lt_of_pos _ hb)
    · exact key _ _ (Int.emod_nonneg _ (by omega)) (Int.emod_lt_of_pos _ hb)
theorem row_len {z : Scr} {k count base : Int} (hb : 0 < base) : (row z k count base).length = count.toNat := by
  unfold row
  rw [(row_fold hb _ _ _).1, rng_length]; simp
theorem row_mem {z : Scr} {k count base : Int} (hb : 0 < base) : ∀ x ∈ row z k count base, 0 ≤ x ∧ x < base := by
  unfold row
  exact (row_fold hb _ _ _).2 (by intro x hx; cases hx)
/-! places beside, the law's way -/
def lbeside (w h p : Int) : List Int :=
  ([p - 1, p + 1].filter fun o => decide (0 ≤ o) && decide (o / w = p / w)) ++ ([p - w, p + w].filter fun o => decide (0 ≤ o) && decide (o < w * h))
theorem lbeside_len (w h p : Int) : (lbeside w h p).length ≤ 4 := by
  unfold lbeside
  rw [List.length_append]
  have a := List.length_filter_le (fun o => decide (0 ≤ o) && decide (o / w = p / w)) [p - 1, p + 1]
  have b := List.length_filter_le (fun o => decide (0 ≤ o) && decide (o < w * h)) [p - w, p + w]
  simp only [List.length_cons, List.length_nil] at a b
  omega
def P_wh3 (w h _p : Int) : Prop := 1 ≤ w ∧ w ≤ 1000 ∧ 0 ≤ h ∧ h ≤ 1000
def P_lflood (w h : Int) (s t : List Int) : Prop := 1 ≤ w ∧ w ≤ 6 ∧ 1 ≤ h ∧ h ≤ 6 ∧ s.length ≤ 100 ∧ t.length ≤ 100
def lcome (w h : Int) (s t : List Int) : List Int := floodAll (lbeside w h) s t
def M_lflood (w h : Int) (s t : List Int) : Dct Int Bool := Dct.mk ((lcome w h s t).map fun x => (x, true))
def bareD (w h : Int) (d : Dct Int Bool) : List Int := (rng 0 (w * h).toNat).filter fun x => !(dGet d.kvs x).isSome
def P_lout (w h : Int) (_d : Dct Int Bool) : Prop := 1 ≤ w ∧ w ≤ 6 ∧ 1 ≤ h ∧ h ≤ 6
def M_lout (w h : Int) (d : Dct Int Bool) : Dct Int Bool := M_lflood w h ((bareD w h d).filter fun x => isOut w h x) (bareD w h d)
/-! a floor -/
def lw (z : Scr) (k : Int) : Int := 1 + itm (row z k 2 6) 0
def lh (z : Scr) (k : Int) : Int := 1 + itm (row z k 2 6) 1
def digs (z : Scr) (k : Int) : List Int := if cell z 0 % 8 = 3 then (List.replicate (lw z k * lh z k).toNat [1]).flatten else row z (k + 1) (lw z k * lh z k) (2 + 2 * (cell z 0 % 2))
def drawn0 (z : Scr) (k : Int) : List Int := (rng 0 (lw z k * lh z k).toNat).filter fun x => decide (0 < itm (digs z k) x)
def drawn (z : Scr) (k : Int) : List Int := if drawn0 z k = [] then [lw z k * lh z k - 1] else drawn0 z k
def left (z : Scr) (k : Int) : Dct Int Bool := M_lflood (lw z k) (lh z k) ((drawn z k).take 1) (drawn z k)
def outs (z : Scr) (k : Int) : Dct Int Bool := M_lout (lw z k) (lh z k) (left z k)
def lfields (z : Scr) (k : Int) : List Int := (rng 0 (lw z k * lh z k).toNat).filter fun x => !(dGet (outs z k).kvs x).isSome
def M_lfloor (z : Scr) (k : Int) : T3 Int Int (Tup Int) := ⟨lw z k, lh z k, ⟨lfields z k⟩⟩
def P_lfloor (z : Scr) (k : Int) : Prop := SOk z ∧ 0 ≤ k ∧ k ≤ 900
theorem row2 {z : Scr} {k : Int} : ∃ a b, row z k 2 6 = [a, b] ∧ 0 ≤ a ∧ a < 6 ∧ 0 ≤ b ∧ b < 6 := by
  have l := row_len (z := z) (k := k) (count := 2) (base := 6) (by decide)
  have m := row_mem (z := z) (k := k) (count := 2) (base := 6) (by decide)
  match e : row z k 2 6, l with
  | [a, b], _ =>
    rw [e] at m
    have ma := m a (by simp)
    have mb := m b (by simp)
    exact ⟨a, b, rfl, ma.1, ma.2, mb.1, mb.2⟩
theorem lwh {z : Scr} {k : Int} : 1 ≤ lw z k ∧ lw z k ≤ 6 ∧ 1 ≤ lh z k ∧ lh z k ≤ 6 ∧ (row z k 2 6).map (fun x => 1 + x) = [lw z k, lh z k] := by
  obtain ⟨a, b, e, h⟩ := row2 (z := z) (k := k)
  unfold lw lh
  rw [e]
  have e1 : itm [a, b] 0 = a := rfl
  have e2 : itm [a, b] 1 = b := rfl
  rw [e1, e2]
  exact ⟨by omega, by omega, by omega, by omega, rfl⟩
theorem area36 {w h : Int} (w1 : 1 ≤ w) (w6 : w ≤ 6) (h1 : 1 ≤ h) (h6 : h ≤ 6) : 1 ≤ w * h ∧ w * h ≤ 36 := by
  have e1 : w = 1 ∨ w = 2 ∨ w = 3 ∨ w = 4 ∨ w = 5 ∨ w = 6 := by omega
  rcases e1 with rfl | rfl | rfl | rfl | rfl | rfl <;> omega
theorem row_t {ev : Bool} {base c j : Int} {fd r : List Int} (h : ev = true) : ((j :: r).foldl (rstep ev base) (c, fd)) = r.foldl (rstep ev base) (c / base, fd ++ [c % base]) := by
  subst h; rfl
theorem row_f {ev : Bool} {base c j : Int} {fd r : List Int} (h : ev = false) : ((j :: r).foldl (rstep ev base) (c, fd)) = r.foldl (rstep ev base) (c, fd ++ [two c j / 7 % base]) := by
  subst h; rfl
theorem rng_in {lo : Int} {n : Nat} {x : Int} {r : List Int} (h : ∃ d, rng lo n = d ++ x :: r) : lo ≤ x ∧ x < lo + n := by
  obtain ⟨d, e⟩ := h
  exact rng_mem.mp (by rw [e]; simp)
theorem flt_t {α : Type} {f : α → Bool} {o : α} {r fd A : List α} (h : f o = true) (hi : fd ++ (o :: r).filter f = A) : (fd ++ [o]) ++ r.filter f = A := by
  rw [List.append_assoc]
  rw [List.filter_cons, if_pos h] at hi
  exact hi
theorem flt_f {α : Type} {f : α → Bool} {o : α} {r fd A : List α} (h : f o = false) (hi : fd ++ (o :: r).filter f = A) : fd ++ r.filter f = A := by
  rw [List.filter_cons, if_neg (by rw [h]; decide)] at hi
  exact hi
theorem lb2 {w h p : Int} {fd : List Int} (hi : fd ++ [].filter (fun o : Int => decide (0 ≤ o) && decide (o / w = p / w)) = [p - 1, p + 1].filter fun o => decide (0 ≤ o) && decide (o / w = p / w)) :
    fd ++ [p - w, p + w].filter (fun o => decide (0 ≤ o) && decide (o < w * h)) = lbeside w h p := by
  unfold lbeside
  rw [← hi]; simp
theorem rep_len {n : Nat} : ((List.replicate n [(1 : Int)]).flatten).length = n := by
  simp
theorem lwh_eq {z : Scr} {k : Int} : ((row z k 2 6).filter fun _ => true).map (fun x => 1 + x) = [lw z k, lh z k] := by
  rw [List.filter_eq_self.mpr (by intro a _; rfl)]
  exact lwh.2.2.2.2
end Fl

set_option Elab.async false
set_option linter.all false
set_option maxRecDepth 100000
/-! Fl3: a drawn floor hangs together and has no hole -/
namespace Fl
open PySem L2 Cb
def M_true (_z : Scr) : Bool := true
inductive Rch (nb : Int → List Int) (starts some : List Int) : Int → Prop
  | start {s : Int} (h : s ∈ starts) (h2 : s ∈ some) : Rch nb starts some s
  | step {p q : Int} (r : Rch nb starts some p) (h : q ∈ nb p) (h2 : q ∈ some) : Rch nb starts some q
theorem Rch.mem {nb : Int → List Int} {starts some : List Int} {x : Int} (r : Rch nb starts some x) : x ∈ some := by
  cases r <;> assumption
structure FSt (nb : Int → List Int) (starts some sn rw : List Int) : Prop where
  sub : ∀ x ∈ rw, x ∈ some
  s1 : ∀ x ∈ sn, Rch nb starts some x
  s2 : ∀ x ∈ rw, Rch nb starts some x
  c1 : ∀ x ∈ sn, ∀ q ∈ nb x, q ∈ some → q ∈ sn ∨ q ∈ rw
  c2 : ∀ s ∈ starts, s ∈ some → s ∈ sn ∨ s ∈ rw
  nd : sn.Nodup
theorem flood_st {nb : Int → List Int} {starts some : List Int} (hnb : ∀ p, (nb p).length ≤ 4) : ∀ (n : Nat) (sn rw : List Int), 5 * unseen some sn + rw.length ≤ n → FSt nb starts some sn rw → FSt nb starts some (flood nb some n sn rw) []
  | 0, sn, rw, h, f => by
    have : rw = [] := List.length_eq_zero_iff.mp (by omega)
    subst this
    exact f
  | n + 1, sn, rw, h, f => by
    by_cases hne : rw = []
    · subst hne; exact f
    · have hl : 0 < rw.length := List.length_pos_iff.mpr hne
      unfold flood
      rw [List.getLast?_eq_some_getLast hne]
      have hp := f.s2 _ (List.getLast_mem hne)
      have split : ∀ x ∈ rw, x ∈ rw.dropLast ∨ x = rw.getLast hne := fun x hx => by
        have e := List.dropLast_concat_getLast hne
        rw [← e] at hx
        rcases List.mem_append.mp hx with z | z
        · exact .inl z
        · exact .inr (List.mem_singleton.mp z)
      by_cases hs : rw.getLast hne ∈ sn
      · show FSt nb starts some (if rw.getLast hne ∈ sn then _ else _) []
        rw [if_pos hs]
        refine flood_st hnb n sn rw.dropLast (by rw [List.length_dropLast]; omega) ⟨fun x hx => f.sub x ((List.dropLast_sublist rw).subset hx), f.s1, fun x hx => f.s2 x ((List.dropLast_sublist rw).subset hx), fun x hx q hq hq2 => ?_, fun s h1 h2 => ?_, f.nd⟩
        · rcases f.c1 x hx q hq hq2 with z | z
          · exact .inl z
          · rcases split q z with y | y
            · exact .inr y
            · rw [y]; exact .inl hs
        · rcases f.c2 s h1 h2 with z | z
          · exact .inl z
          · rcases split s z with y | y
            · exact .inr y
            · rw [y]; exact .inl hs
      · show FSt nb starts some (if rw.getLast hne ∈ sn then _ else _) []
        rw [if_neg hs]
        have hu := unseen_add hp.mem hs
        have h4 := hnb (rw.getLast hne)
        have hf := List.length_filter_le (fun x => decide (x ∈ some)) (nb (rw.getLast hne))
        refine flood_st hnb n _ _ (by rw [List.length_append, List.length_dropLast]; omega) ⟨fun x hx => ?_, fun x hx => ?_, fun x hx => ?_, fun x hx q hq hq2 => ?_, fun s h1 h2 => ?_, ?_⟩
        · rcases List.mem_append.mp hx with z | z
          · exact f.sub x ((List.dropLast_sublist rw).subset z)
          · exact of_decide_eq_true (List.mem_filter.mp z).2
        · rcases List.mem_append.mp hx with z | z
          · exact f.s1 x z
          · rw [List.mem_singleton.mp z]; exact hp
        · rcases List.mem_append.mp hx with z | z
          · exact f.s2 x ((List.dropLast_sublist rw).subset z)
          · have := List.mem_filter.mp z
            exact .step hp this.1 (of_decide_eq_true this.2)
        · rcases List.mem_append.mp hx with z | z
          · rcases f.c1 x z q hq hq2 with y | y
            · exact .inl (List.mem_append_left _ y)
            · rcases split q y with u | u
              · exact .inr (List.mem_append_left _ u)
              · rw [u]; exact .inl (by simp)
          · rw [List.mem_singleton.mp z] at hq
            exact .inr (List.mem_append_right _ (List.mem_filter.mpr ⟨hq, decide_eq_true hq2⟩))
        · rcases f.c2 s h1 h2 with y | y
          · exact .inl (List.mem_append_left _ y)
          · rcases split s y with u | u
            · exact .inr (List.mem_append_left _ u)
            · rw [u]; exact .inl (by simp)
        · rw [List.nodup_append]
          refine ⟨f.nd, by simp, fun a ha b hb e => ?_⟩
          rw [List.mem_singleton.mp hb] at e
          exact hs (e ▸ ha)
theorem floodAll_st {nb : Int → List Int} (hnb : ∀ p, (nb p).length ≤ 4) (starts some : List Int) : FSt nb starts some (floodAll nb starts some) [] := by
  unfold floodAll
  have := unseen_le some []
  have h2 := List.length_filter_le (fun x => decide (x ∈ some)) starts
  refine flood_st hnb _ _ _ (by omega) ⟨fun x hx => of_decide_eq_true (List.mem_filter.mp hx).2, (by intro x hx; cases hx), fun x hx => ?_, (by intro x hx; cases hx), fun s h1 h2 => .inr (List.mem_filter.mpr ⟨h1, decide_eq_true h2⟩), List.nodup_nil⟩
  have := List.mem_filter.mp hx
  exact .start this.1 (of_decide_eq_true this.2)
theorem flood_mem {nb : Int → List Int} (hnb : ∀ p, (nb p).length ≤ 4) {starts some : List Int} {x : Int} : x ∈ floodAll nb starts some ↔ Rch nb starts some x := by
  have f := floodAll_st hnb starts some
  refine ⟨f.s1 x, fun r => ?_⟩
  induction r with
  | start h h2 =>
    rcases f.c2 _ h h2 with z | z
    · exact z
    · cases z
  | step r h h2 ih =>
    rcases f.c1 _ ih _ h h2 with z | z
    · exact z
    · cases z
theorem nodup_len : ∀ (l m : List Int), l.Nodup → (∀ x ∈ l, x ∈ m) → l.length ≤ m.length
  | [], m, _, _ => Nat.zero_le _
  | a :: t, m, h, s => by
    obtain ⟨h1, h2⟩ := List.nodup_cons.mp h
    have ha := s a List.mem_cons_self
    have := nodup_len t (m.erase a) h2 fun x hx => (List.mem_erase_of_ne (by rintro rfl; exact h1 hx)).mpr (s x (List.mem_cons_of_mem _ hx))
    rw [List.length_erase_of_mem ha] at this
    have : 0 < m.length := List.length_pos_iff.mpr (by rintro rfl; cases ha)
    simp only [List.length_cons]
    omega
theorem rng_lt (lo : Int) (n : Nat) : (rng lo n).Pairwise (· < ·) := by
  unfold rng
  rw [List.pairwise_map]
  exact List.pairwise_lt_range.imp fun h => by omega
theorem rng_nodup (lo : Int) (n : Nat) : (rng lo n).Nodup := (rng_lt lo n).imp fun h => by omega
theorem areF_of {w h : Int} : ∀ (l : List Int) (last : Int), l.Pairwise (· < ·) → (∀ x ∈ l, last < x ∧ x < w * h) → areF w h last l = true
  | [], _, _, _ => rfl
  | a :: t, last, hp, hb => by
    obtain ⟨h1, h2⟩ := List.pairwise_cons.mp hp
    have ha := hb a List.mem_cons_self
    unfold areF within
    rw [decide_eq_true (show last + 1 ≤ a by omega), decide_eq_true (show a ≤ w * h - 1 by omega), areF_of t a h2 fun x hx => ⟨h1 x hx, (hb x (List.mem_cons_of_mem _ hx)).2⟩]
    rfl
def okp (w h p : Int) : Bool :=
  (beside w h p).all (fun q => decide (q ∈ lbeside w h p) && decide (0 ≤ q) && decide (q < w * h)) && (lbeside w h p).all (fun q => decide (q ∈ beside w h p) && decide (p ∈ lbeside w h q)) &&
  (isOut w h p || (decide (p - 1 ∈ lbeside w h p) && decide (0 ≤ p % w - 1) && decide ((p - 1) % w = p % w - 1)))
theorem okall : ((rng 1 6).all fun w => (rng 1 6).all fun h => (rng 0 (w * h).toNat).all fun p => okp w h p) = true := by decide +kernel
theorem okp_of {w h p : Int} (w1 : 1 ≤ w) (w6 : w ≤ 6) (h1 : 1 ≤ h) (h6 : h ≤ 6) (p0 : 0 ≤ p) (p1 : p < w * h) : okp w h p = true := by
  have a := List.all_eq_true.mp okall w (rng_mem.mpr (by omega))
  have b := List.all_eq_true.mp a h (rng_mem.mpr (by omega))
  exact List.all_eq_true.mp b p (rng_mem.mpr (by omega))
structure Adj (w h p : Int) : Prop where
  a : ∀ q ∈ beside w h p, q ∈ lbeside w h p ∧ 0 ≤ q ∧ q < w * h
  b : ∀ q ∈ lbeside w h p, q ∈ beside w h p ∧ p ∈ lbeside w h q
  c : isOut w h p = false → p - 1 ∈ lbeside w h p ∧ 0 ≤ p % w - 1 ∧ (p - 1) % w = p % w - 1
theorem adj_of {w h p : Int} (w1 : 1 ≤ w) (w6 : w ≤ 6) (h1 : 1 ≤ h) (h6 : h ≤ 6) (p0 : 0 ≤ p) (p1 : p < w * h) : Adj w h p := by
  have o := okp_of w1 w6 h1 h6 p0 p1
  unfold okp at o
  simp only [Bool.and_eq_true, Bool.or_eq_true, List.all_eq_true, decide_eq_true_eq] at o
  obtain ⟨⟨o1, o2⟩, o3⟩ := o
  refine ⟨fun q hq => ⟨(o1 q hq).1.1, (o1 q hq).1.2, (o1 q hq).2⟩, fun q hq => o2 q hq, fun e => ?_⟩
  rw [e] at o3
  rcases o3 with z | z
  · cases z
  · exact ⟨z.1.1, z.1.2, z.2⟩
theorem Rch.trans {nb : Int → List Int} {S T : List Int} {b c : Int} (h : Rch nb S T b) (g : Rch nb [b] T c) : Rch nb S T c := by
  induction g with
  | start h1 h2 => rw [List.mem_singleton.mp h1]; exact h
  | step _ h1 h2 ih => exact .step ih h1 h2
theorem Rch.symm {nb : Int → List Int} {T : List Int} {a b : Int} (sy : ∀ p ∈ T, ∀ q ∈ nb p, p ∈ nb q) (h : Rch nb [a] T b) (ha : a ∈ T) : Rch nb [b] T a := by
  induction h with
  | start h1 h2 => rw [List.mem_singleton.mp h1]; exact .start (by simp) ha
  | step r h1 h2 ih => exact (Rch.step (.start (by simp) h2) (sy _ r.mem _ h1) r.mem).trans ih
theorem Rch.to {nb nb2 : Int → List Int} {S T S2 T2 : List Int} {x : Int} (h : Rch nb S T x) (h1 : ∀ s, s ∈ S → Rch nb S T s → s ∈ S2) (h2 : ∀ y, Rch nb S T y → y ∈ T2) (h3 : ∀ p ∈ T, ∀ q ∈ nb p, q ∈ nb2 p) : Rch nb2 S2 T2 x := by
  induction h with
  | start a b => exact .start (h1 _ a (.start a b)) (h2 _ (.start a b))
  | step r a b ih => exact .step ih (h3 _ r.mem _ a) (h2 _ (.step r a b))
/-- the whole of it, over any drawn places -/
theorem ok_of2 {w h d0 : Int} {D : List Int} (w1 : 1 ≤ w) (w6 : w ≤ 6) (h1 : 1 ≤ h) (h6 : h ≤ 6) (hD : ∀ x ∈ d0 :: D, 0 ≤ x ∧ x < w * h) {L B O fields : List Int} (mL : ∀ x, x ∈ L ↔ Rch (lbeside w h) [d0] (d0 :: D) x) (eB : B = (rng 0 (w * h).toNat).filter fun x => !decide (x ∈ L))
    (mO : ∀ x, x ∈ O ↔ Rch (lbeside w h) (B.filter fun x => isOut w h x) B x) (eF : fields = (rng 0 (w * h).toNat).filter fun x => !decide (x ∈ O)) : Ok w h fields := by
  have A := area36 w1 w6 h1 h6
  have adj := fun p (h' : 0 ≤ p ∧ p < w * h) => adj_of w1 w6 h1 h6 h'.1 h'.2
  have mR : ∀ x, x ∈ rng 0 (w * h).toNat ↔ 0 ≤ x ∧ x < w * h := fun x => by rw [rng_mem]; omega
  have mB : ∀ x, x ∈ B ↔ (0 ≤ x ∧ x < w * h) ∧ x ∉ L := fun x => by rw [eB, List.mem_filter, mR]; simp
  have mF : ∀ x, x ∈ fields ↔ (0 ≤ x ∧ x < w * h) ∧ x ∉ O := fun x => by rw [eF, List.mem_filter, mR]; simp
  have LR : ∀ x ∈ L, 0 ≤ x ∧ x < w * h := fun x hx => hD x ((mL x).mp hx).mem
  have LF : ∀ x ∈ L, x ∈ fields := fun x hx => (mF x).mpr ⟨LR x hx, fun ho => ((mB x).mp ((mO x).mp ho).mem).2 hx⟩
  have d0L : d0 ∈ L := (mL d0).mpr (.start (by simp) (by simp))
  have sy : ∀ p ∈ fields, ∀ q ∈ lbeside w h p, p ∈ lbeside w h q := fun p hp q hq => ((adj p ((mF p).mp hp).1).b q hq).2
  have con : ∀ (n : Nat) (f : Int), (f % w).toNat = n → f ∈ fields → Rch (lbeside w h) [d0] fields f := by
    intro n
    induction n with
    | zero =>
      intro f en hf
      have hr := ((mF f).mp hf)
      by_cases hl : f ∈ L
      · exact ((mL f).mp hl).to (fun s a _ => a) (fun y r => LF y ((mL y).mpr r)) (fun _ _ _ hq => hq)
      · have hb : f ∈ B := (mB f).mpr ⟨hr.1, hl⟩
        cases eo : isOut w h f with
        | true => exact absurd ((mO f).mpr (.start (List.mem_filter.mpr ⟨hb, eo⟩) hb)) hr.2
        | false => have := (adj f hr.1).c eo; omega
    | succ n ih =>
      intro f en hf
      have hr := ((mF f).mp hf)
      by_cases hl : f ∈ L
      · exact ((mL f).mp hl).to (fun s a _ => a) (fun y r => LF y ((mL y).mpr r)) (fun _ _ _ hq => hq)
      · have hb : f ∈ B := (mB f).mpr ⟨hr.1, hl⟩
        cases eo : isOut w h f with
        | true => exact absurd ((mO f).mpr (.start (List.mem_filter.mpr ⟨hb, eo⟩) hb)) hr.2
        | false =>
          obtain ⟨c1, c2, c3⟩ := (adj f hr.1).c eo
          have b1 := (adj f hr.1).b _ c1
          have pr := ((adj f hr.1).a _ b1.1).2
          have pf : f - 1 ∈ fields := (mF _).mpr ⟨pr, fun ho => hr.2 ((mO f).mpr (.step ((mO _).mp ho) b1.2 hb))⟩
          exact .step (ih (f - 1) (by omega) pf) b1.2 hf
  have pw : fields.Pairwise (· < ·) := by rw [eF]; exact (rng_lt _ _).filter _
  have nd : fields.Nodup := by rw [eF]; exact (rng_nodup _ _).filter _
  have ne : fields ≠ [] := fun z => by have := LF d0 d0L; rw [z] at this; cases this
  refine ⟨w1, w6, h1, h6, ne, areF_of _ _ pw fun x hx => ⟨by have := ((mF x).mp hx).1; omega, ((mF x).mp hx).1.2⟩, ?_, ?_⟩
  · obtain ⟨a, t, ef⟩ : ∃ a t, fields = a :: t := by
      cases e : fields with
      | nil => exact absurd e ne
      | cons a t => exact ⟨a, t, rfl⟩
    have ha : a ∈ fields := by rw [ef]; simp
    have back := (con _ a rfl ha).symm sy (LF d0 d0L)
    have all : ∀ x ∈ fields, x ∈ come w h (fields.take 1) fields := fun x hx => (flood_mem (beside_len w h)).mpr ((back.trans (con _ x rfl hx)).to (fun s a _ => by rw [ef]; exact a) (fun y r => r.mem) fun p hp q hq => ((adj p ((mF p).mp hp).1).b q hq).1)
    have st := floodAll_st (beside_len w h) (fields.take 1) fields
    exact Nat.le_antisymm (nodup_len _ _ st.nd fun x hx => (st.s1 x hx).mem) (nodup_len _ _ nd all)
  · have mb : ∀ x, x ∈ bareOf w h fields ↔ x ∈ O := fun x => by
      unfold bareOf
      rw [List.mem_filter, mR]
      constructor
      · intro ⟨a, b⟩
        refine Classical.byContradiction fun no => ?_
        have := (mF x).mpr ⟨a, no⟩
        simp [this] at b
      · intro ho
        refine ⟨((mB x).mp ((mO x).mp ho).mem).1, ?_⟩
        have : x ∉ fields := fun z => ((mF x).mp z).2 ho
        simp [this]
    have nb : (bareOf w h fields).Nodup := (rng_nodup _ _).filter _
    have st := floodAll_st (beside_len w h) ((bareOf w h fields).filter fun p => isOut w h p) (bareOf w h fields)
    have all : ∀ x ∈ bareOf w h fields, x ∈ come w h ((bareOf w h fields).filter fun p => isOut w h p) (bareOf w h fields) := fun x hx => (flood_mem (beside_len w h)).mpr (((mO x).mp ((mb x).mp hx)).to
      (fun s a r => List.mem_filter.mpr ⟨(mb s).mpr ((mO s).mpr r), (List.mem_filter.mp a).2⟩) (fun y r => (mb y).mpr ((mO y).mpr r)) fun p hp q hq => ((adj p ((mB p).mp hp).1).b q hq).1)
    exact Nat.le_antisymm (nodup_len _ _ st.nd fun x hx => (st.s1 x hx).mem) (nodup_len _ _ nb all)
theorem ok_of {w h d0 : Int} {D : List Int} (w1 : 1 ≤ w) (w6 : w ≤ 6) (h1 : 1 ≤ h) (h6 : h ≤ 6) (hD : ∀ x ∈ d0 :: D, 0 ≤ x ∧ x < w * h) {L B O fields : List Int} (eL : L = lcome w h [d0] (d0 :: D)) (eB : B = (rng 0 (w * h).toNat).filter fun x => !decide (x ∈ L))
    (eO : O = lcome w h (B.filter fun x => isOut w h x) B) (eF : fields = (rng 0 (w * h).toNat).filter fun x => !decide (x ∈ O)) : Ok w h fields :=
  ok_of2 w1 w6 h1 h6 hD (fun x => by rw [eL]; exact flood_mem (lbeside_len w h)) eB (fun x => by rw [eO]; exact flood_mem (lbeside_len w h)) eF
theorem drawn_mem {z : Scr} {k : Int} : ∀ x ∈ drawn z k, 0 ≤ x ∧ x < lw z k * lh z k := by
  obtain ⟨w1, w6, g1, g6, _⟩ := lwh (z := z) (k := k)
  have ar := area36 w1 w6 g1 g6
  unfold drawn
  split
  · intro x hx
    rw [List.mem_singleton.mp hx]; omega
  · intro x hx
    have := rng_mem.mp (List.mem_filter.mp hx).1
    omega
theorem drawn_ne {z : Scr} {k : Int} : drawn z k ≠ [] := by
  unfold drawn
  split
  · simp
  · assumption
theorem lfloor_ok (z : Scr) (k : Int) : Ok (lw z k) (lh z k) (lfields z k) := by
  obtain ⟨w1, w6, g1, g6, _⟩ := lwh (z := z) (k := k)
  obtain ⟨d0, D, e⟩ : ∃ a t, drawn z k = a :: t := by
    cases e : drawn z k with
    | nil => exact absurd e drawn_ne
    | cons a t => exact ⟨a, t, rfl⟩
  have dm := drawn_mem (z := z) (k := k)
  rw [e] at dm
  refine ok_of w1 w6 g1 g6 dm rfl rfl rfl ?_
  unfold lfields outs left M_lout M_lflood bareD
  rw [e]
  simp only [dGet_seen]
  rfl
end Fl

set_option Elab.async false
set_option linter.all false
set_option maxRecDepth 100000
/-! St1: strips as plain data -/
namespace Fl
open PySem L2 Cb
abbrev Floor := T3 Int Int (Tup Int)
/-- a floor's numbers are in order -/
structure Fst (f : Floor) : Prop where
  w1 : 1 ≤ f.a
  w6 : f.a ≤ 6
  h1 : 1 ≤ f.b
  h6 : f.b ≤ 6
  are : areF f.a f.b (-1) f.c.items = true
theorem Ok.fst {w h : Int} {l : List Int} (o : Ok w h l) : Fst ⟨w, h, ⟨l⟩⟩ := ⟨o.w1, o.w6, o.h1, o.h6, o.are⟩
theorem Fst.area {f : Floor} (o : Fst f) : 1 ≤ f.a * f.b ∧ f.a * f.b ≤ 36 := area36 o.w1 o.w6 o.h1 o.h6
theorem Fst.mem {f : Floor} (o : Fst f) : ∀ x ∈ f.c.items, 0 ≤ x ∧ x < 36 := fun x hx => by
  have a := areF_mem o.are x hx
  have b := o.area
  omega
theorem Fst.memA {f : Floor} (o : Fst f) : ∀ x ∈ f.c.items, 0 ≤ x ∧ x < f.a * f.b := fun x hx => by
  have a := areF_mem o.are x hx
  omega
theorem Fst.len {f : Floor} (o : Fst f) : f.c.items.length ≤ 36 := by
  have a := areF_len o.are (by have := o.area; omega)
  have b := o.area
  omega
theorem areF_lt {w h : Int} : ∀ {l : List Int} {last : Int}, areF w h last l = true → l.Pairwise (· < ·)
  | [], _, _ => .nil
  | p :: r, last, e => by
    unfold areF at e
    rw [Bool.and_eq_true] at e
    exact .cons (fun x hx => (areF_mem e.2 x hx).1) (areF_lt e.2)
theorem Fst.lt {f : Floor} (o : Fst f) : f.c.items.Pairwise (· < ·) := areF_lt o.are
theorem flt_all {α : Type} (l : List α) : l.filter (fun _ => true) = l := List.filter_eq_self.mpr (by intro a _; rfl)
/-! rows -/
def rowStep (w : Int) (fs : List Int) (acc : List (List Int)) (f : Int) : List (List Int) :=
  if 0 < f % w ∧ f - 1 ∈ fs then acc.set (acc.length - 1) ((acc.getD (acc.length - 1) []) ++ [f]) else acc ++ [[f]]
def rowsPre (w : Int) (fs d : List Int) : List (List Int) := d.foldl (rowStep w fs) []
def rowsOf (w : Int) (fs : List Int) : List (List Int) := rowsPre w fs fs
theorem rowsPre_snoc (w : Int) (fs d : List Int) (f : Int) : rowsPre w fs (d ++ [f]) = rowStep w fs (rowsPre w fs d) f := by
  unfold rowsPre; rw [List.foldl_append]; rfl
theorem rowStep_t {w : Int} {fs : List Int} {acc : List (List Int)} {f : Int} (h : 0 < f % w ∧ f - 1 ∈ fs) : rowStep w fs acc f = acc.set (acc.length - 1) ((acc.getD (acc.length - 1) []) ++ [f]) := if_pos h
theorem rowStep_f {w : Int} {fs : List Int} {acc : List (List Int)} {f : Int} (h : ¬ (0 < f % w ∧ f - 1 ∈ fs)) : rowStep w fs acc f = acc ++ [[f]] := if_neg h
theorem rowsPre_len (w : Int) (fs : List Int) : ∀ (d : List Int) (acc : List (List Int)), (d.foldl (rowStep w fs) acc).length ≤ acc.length + d.length
  | [], acc => Nat.le_refl _
  | a :: t, acc => by
    have := rowsPre_len w fs t (rowStep w fs acc a)
    have h2 : (rowStep w fs acc a).length ≤ acc.length + 1 := by
      unfold rowStep
      split
      · rw [List.length_set]; omega
      · simp
    simp only [List.foldl_cons, List.length_cons]
    omega

def seg (h d : Int) (n : Nat) : List Int := (List.range n).map fun i : Nat => h + d * (i : Int)
theorem seg_len (h d : Int) (n : Nat) : (seg h d n).length = n := by unfold seg; simp
theorem seg_get {h d : Int} {n i : Nat} (hi : i < n) : (seg h d n)[i]? = some (h + d * (i : Int)) := by
  unfold seg
  rw [List.getElem?_map, List.getElem?_range hi]; rfl
theorem seg_succ (h d : Int) (n : Nat) : seg h d (n + 1) = seg h d n ++ [h + d * (n : Int)] := by
  unfold seg
  rw [List.range_succ, List.map_append]; rfl
theorem seg_mem {h d x : Int} {n : Nat} : x ∈ seg h d n ↔ ∃ i : Nat, i < n ∧ x = h + d * (i : Int) := by
  unfold seg
  rw [List.mem_map]
  constructor
  · rintro ⟨i, hi, rfl⟩; exact ⟨i, List.mem_range.mp hi, rfl⟩
  · rintro ⟨i, hi, rfl⟩; exact ⟨i, List.mem_range.mpr hi, rfl⟩
theorem w_cases {w : Int} (w1 : 1 ≤ w) (w6 : w ≤ 6) : w = 1 ∨ w = 2 ∨ w = 3 ∨ w = 4 ∨ w = 5 ∨ w = 6 := by omega
/-- a strip within a row -/
structure RSeg (w : Int) (fs : List Int) (s : List Int) (h : Int) (n : Nat) : Prop where
  n1 : 1 ≤ n
  e : s = seg h 1 n
  h0 : 0 ≤ h
  wi : h % w + n ≤ w
  st : h % w = 0 ∨ h - 1 ∉ fs
structure RInv (w : Int) (fs d : List Int) (acc : List (List Int)) : Prop where
  flat : acc.flatten = d
  segs : ∀ s ∈ acc, ∃ h n, RSeg w fs s h n
theorem snoc_cases {α : Type} (l : List α) : l = [] ∨ ∃ a x, l = a ++ [x] := by
  rcases List.eq_nil_or_concat l with h | ⟨a, x, h⟩
  · exact .inl h
  · exact .inr ⟨a, x, by rw [h]; simp⟩
theorem rowStep_last {w : Int} {fs : List Int} {a : List (List Int)} {l : List Int} {f : Int} (h : 0 < f % w ∧ f - 1 ∈ fs) : rowStep w fs (a ++ [l]) f = a ++ [l ++ [f]] := by
  rw [rowStep_t h]
  have e : (a ++ [l]).length - 1 = a.length := by simp
  rw [e]
  have g : (a ++ [l]).getD a.length [] = l := by simp [List.getD]
  rw [g, List.set_append_right _ _ (Nat.le_refl _), Nat.sub_self]
  rfl
theorem sorted_before {fs d r : List Int} {f : Int} (hs : fs.Pairwise (· < ·)) (e : fs = d ++ f :: r) : (∀ x ∈ d, x < f) ∧ (∀ x ∈ r, f < x) ∧ d.Pairwise (· < ·) := by
  rw [e, List.pairwise_append, List.pairwise_cons] at hs
  exact ⟨fun x hx => hs.2.2 x hx f List.mem_cons_self, hs.2.1.1, hs.1⟩
theorem last_max {a : List Int} {x : Int} (h : (a ++ [x]).Pairwise (· < ·)) : ∀ y ∈ a ++ [x], y ≤ x := fun y hy => by
  rcases List.mem_append.mp hy with z | z
  · have := (List.pairwise_append.mp h).2.2 y z x (by simp); omega
  · rw [List.mem_singleton.mp z]; omega
theorem RInv.next {w : Int} {fs d r : List Int} {f : Int} {acc : List (List Int)} (w1 : 1 ≤ w) (w6 : w ≤ 6) (hs : fs.Pairwise (· < ·)) (f0 : 0 ≤ f) (e : fs = d ++ f :: r) (R : RInv w fs d acc) :
    ((0 < f % w ∧ f - 1 ∈ fs) → acc ≠ []) ∧ RInv w fs (d ++ [f]) (rowStep w fs acc f) := by
  obtain ⟨b1, b2, b3⟩ := sorted_before hs e
  by_cases h : 0 < f % w ∧ f - 1 ∈ fs
  · have hd : f - 1 ∈ d := by
      have := h.2
      rw [e] at this
      rcases List.mem_append.mp this with z | z
      · exact z
      · rcases List.mem_cons.mp z with z | z
        · omega
        · have := b2 _ z; omega
    rcases snoc_cases acc with ea | ⟨a, l, ea⟩
    · subst ea
      have := R.flat
      rw [← this] at hd
      cases hd
    · subst ea
      obtain ⟨hh, n, S⟩ := R.segs l (by simp)
      have fl := R.flat
      rw [List.flatten_append] at fl
      have n1 := S.n1
      obtain ⟨m, rfl⟩ : ∃ m, n = m + 1 := ⟨n - 1, by omega⟩
      have sl := S.e
      rw [seg_succ] at sl
      have dl : d = (a.flatten ++ seg hh 1 m) ++ [hh + 1 * (m : Int)] := by
        rw [← fl, sl]; simp
      have mx := last_max (by rw [← dl]; exact b3) (f - 1) (by rw [← dl]; exact hd)
      have lt := b1 (hh + 1 * (m : Int)) (by rw [dl]; simp)
      have ef : f = hh + 1 * ((m + 1 : Nat) : Int) := by omega
      have wi := S.wi
      have h0 := S.h0
      refine ⟨fun _ => by simp, ?_, fun s hs' => ?_⟩
      · rw [rowStep_last h, List.flatten_append, ← fl]; simp
      · rw [rowStep_last h] at hs'
        rcases List.mem_append.mp hs' with z | z
        · exact R.segs s (List.mem_append_left _ z)
        · rw [List.mem_singleton.mp z]
          refine ⟨hh, m + 1 + 1, by omega, by rw [S.e, ef, ← seg_succ], h0, ?_, S.st⟩
          have h1 := h.1
          rw [ef] at h1
          rcases w_cases w1 w6 with rfl | rfl | rfl | rfl | rfl | rfl <;> omega
  · refine ⟨fun z => absurd z h, ?_, fun s hs' => ?_⟩
    · rw [rowStep_f h, List.flatten_append, R.flat]; rfl
    · rw [rowStep_f h] at hs'
      rcases List.mem_append.mp hs' with z | z
      · exact R.segs s z
      · rw [List.mem_singleton.mp z]
        refine ⟨f, 1, by omega, by unfold seg; simp, f0, ?_, ?_⟩
        · rcases w_cases w1 w6 with rfl | rfl | rfl | rfl | rfl | rfl <;> omega
        · by_cases hm : f % w = 0
          · exact .inl hm
          · right
            intro z
            exact h ⟨by rcases w_cases w1 w6 with rfl | rfl | rfl | rfl | rfl | rfl <;> omega, z⟩
theorem rows_inv {f : Floor} (o : Fst f) : ∀ (r d : List Int), f.c.items = d ++ r → RInv f.a f.c.items d (rowsPre f.a f.c.items d) → RInv f.a f.c.items f.c.items (rowsOf f.a f.c.items)
  | [], d, e, R => by
    rw [List.append_nil] at e
    unfold rowsOf
    rw [← e] at R
    exact R
  | x :: r, d, e, R => by
    have n := (R.next o.w1 o.w6 o.lt (o.mem x (by rw [e]; simp)).1 e).2
    rw [← rowsPre_snoc] at n
    exact rows_inv o r (d ++ [x]) (by rw [e]; simp) n
theorem rows_start (w : Int) (fs : List Int) : RInv w fs [] (rowsPre w fs []) := ⟨rfl, fun s hs => by cases hs⟩
theorem rows_ok {f : Floor} (o : Fst f) : RInv f.a f.c.items f.c.items (rowsOf f.a f.c.items) := rows_inv o _ [] rfl (rows_start _ _)
/-! columns -/
def chain (w : Int) (fs : List Int) : Nat → Int → List Int
  | 0, f => [f]
  | n + 1, f => f :: (if f + w ∈ fs then chain w fs n (f + w) else [])
def colsOf (w : Int) (fs : List Int) : List (List Int) := (fs.filter fun f => !decide (f - w ∈ fs)).map (chain w fs 40)
structure CSeg (w : Int) (fs s : List Int) (h : Int) (n : Nat) : Prop where
  n1 : 1 ≤ n
  e : s = seg h w n
  inn : ∀ x ∈ s, x ∈ fs
  en : h + w * (n : Int) ∉ fs
theorem seg_cons (h d : Int) (n : Nat) : seg h d (n + 1) = h :: seg (h + d) d n := by
  unfold seg
  rw [List.range_succ_eq_map, List.map_cons, List.map_map]
  congr 1
  · simp
  · apply List.map_congr_left
    intro i _
    show h + d * ((i + 1 : Nat) : Int) = h + d + d * (i : Int)
    rw [Int.natCast_add, Int.mul_add]
    have : d * ((1 : Nat) : Int) = d := Int.mul_one d
    omega
theorem chain_seg {w A : Int} {fs : List Int} (w1 : 1 ≤ w) (hA : ∀ x ∈ fs, x < A) : ∀ (n : Nat) (f : Int), f ∈ fs → A - f ≤ n → ∃ m, CSeg w fs (chain w fs n f) f m
  | 0, f, hf, hn => by have := hA f hf; omega
  | n + 1, f, hf, hn => by
    unfold chain
    by_cases h : f + w ∈ fs
    · rw [if_pos h]
      obtain ⟨m, C⟩ := chain_seg w1 hA n (f + w) h (by omega)
      refine ⟨m + 1, by omega, ?_, fun x hx => ?_, ?_⟩
      · rw [C.e, seg_cons]
      · rcases List.mem_cons.mp hx with rfl | hx
        · exact hf
        · exact C.inn x hx
      · have := C.en
        have e : f + w * ((m + 1 : Nat) : Int) = f + w + w * (m : Int) := by
          rw [Int.natCast_add, Int.mul_add]
          have : w * ((1 : Nat) : Int) = w := Int.mul_one w
          omega
        rw [e]; exact this
    · rw [if_neg h]
      refine ⟨1, by omega, ?_, fun x hx => ?_, ?_⟩
      · unfold seg; simp
      · rw [List.mem_singleton.mp hx]; exact hf
      · have : f + w * ((1 : Nat) : Int) = f + w := by rw [show w * ((1 : Nat) : Int) = w from Int.mul_one w]
        rw [this]; exact h
theorem chain_one {w : Int} {fs : List Int} (n : Nat) (f : Int) (h : f + w ∉ fs) : chain w fs n f = [f] := by
  cases n with
  | zero => rfl
  | succ n => unfold chain; rw [if_neg h]
theorem chain_on {w : Int} {fs : List Int} {n : Nat} {f : Int} (h : f + w ∈ fs) : chain w fs (n + 1) f = f :: chain w fs n (f + w) := by
  rw [show chain w fs (n + 1) f = f :: (if f + w ∈ fs then chain w fs n (f + w) else []) from rfl, if_pos h]
theorem chain_len {w : Int} {fs : List Int} : ∀ (n : Nat) (f : Int), (chain w fs n f).length ≤ n + 1
  | 0, f => Nat.le_refl _
  | n + 1, f => by
    unfold chain
    split
    · have := chain_len (w := w) (fs := fs) n (f + w)
      simp only [List.length_cons]; omega
    · simp
theorem cols_ok {f : Floor} (o : Fst f) : ∀ s ∈ colsOf f.a f.c.items, ∃ h n, h ∈ f.c.items ∧ h - f.a ∉ f.c.items ∧ s = chain f.a f.c.items 40 h ∧ CSeg f.a f.c.items s h n := fun s hs => by
  obtain ⟨h, hh, rfl⟩ := List.mem_map.mp hs
  obtain ⟨h1, h2⟩ := List.mem_filter.mp hh
  obtain ⟨m, C⟩ := chain_seg o.w1 (A := 36) (fun x hx => (o.mem x hx).2) 40 h h1 (by have := (o.mem h h1).1; omega)
  exact ⟨h, m, h1, by simpa using h2, rfl, C⟩
/-! strips -/
def stripsOf (f : Floor) : List (Str × Tup Int) := (rowsOf f.a f.c.items).map (fun s => (("row" : Str), Tup.mk s)) ++ (colsOf f.a f.c.items).map (fun s => (("column" : Str), Tup.mk s))
def M_rows (f : Floor) : List (List Int) := rowsOf f.a f.c.items
def M_cols (f : Floor) : List (List Int) := colsOf f.a f.c.items
theorem cols_len {f : Floor} (o : Fst f) : (M_cols f).length ≤ 36 := by
  unfold M_cols colsOf
  rw [List.length_map]
  exact Nat.le_trans (List.length_filter_le _ _) o.len
theorem rows_len {f : Floor} (o : Fst f) : (M_rows f).length ≤ 36 := Nat.le_trans (rowsPre_len f.a f.c.items f.c.items []) (by have := o.len; simpa using this)
theorem ixN_last {n : Nat} (h : 0 < n) : ixN n ((n : Int) - 1) = some (n - 1) := by
  unfold ixN
  rw [if_pos (by omega), if_pos (by omega)]
  congr 1; omega
theorem andT {p q : Prop} [Decidable p] [Decidable q] (h : (decide p && decide q) = true) : p ∧ q := by simpa using h
theorem andF {p q : Prop} [Decidable p] [Decidable q] (h : (decide p && decide q) = false) : ¬ (p ∧ q) := fun ⟨a, b⟩ => by simp [a, b] at h
theorem len_last {acc a : List (List Int)} {l d : List Int} (e : acc = a ++ [l]) (f : acc.flatten = d) : l.length ≤ d.length := by
  rw [← f, e, List.flatten_append]; simp
theorem rowsPre_le (w : Int) (fs d : List Int) : (rowsPre w fs d).length ≤ d.length := by
  have := rowsPre_len w fs d []
  unfold rowsPre
  simpa using this
theorem part_len {α : Type} {fs d r : List α} (e : fs = d ++ r) : d.length ≤ fs.length := by rw [e]; simp
theorem atI_last {pre : List Int} {y : Int} : atI (pre ++ [y]) (((pre ++ [y]).length : Int) - 1) = some y := by
  have e : (((pre ++ [y]).length : Int) - 1) = ((pre.length : Nat) : Int) := by simp
  rw [e]
  exact atI_nat (j := pre.length) (by simp)
end Fl

set_option Elab.async false
set_option linter.all false
set_option maxRecDepth 100000
/-! Pe1: rows and columns exchanged -/
namespace Pe
open PySem L2 Cb Fl
def P_take (m : Int) : Prop := 1 ≤ m ∧ m ≤ 1000
def R_take (m r : Int) : Prop := 0 ≤ r ∧ r < m
def P_order (m : Int) : Prop := 0 ≤ m ∧ m ≤ 100
def R_order (m : Int) (l : List Int) : Prop := l.Perm (rng 0 m.toNat)
def penA (z : Scr) (j : Int) : Int := if (z.xs.length : Int) = 0 then 61 * j + 9 else if itm z.xs 0 % 2 = 1 then (itm z.xs ((1 + j) % z.xs.length) + 1069 * j) % 2147483629 else if j + 1 < z.xs.length then itm z.xs (j + 1) else 0
def penB (z : Scr) : Int := if (z.xs.length : Int) = 0 then 1 else if itm z.xs 0 % 2 = 1 then 1 else 0
def M_pen (z : Scr) (j : Int) : List Int := [penA z j, penB z]
def P_pen (_z : Scr) (j : Int) : Prop := 0 ≤ j ∧ j ≤ 10
theorem pen_ok {z : Scr} {j : Int} (h0 : 0 ≤ j) (h1 : j ≤ 10) : PenOk (penA z j) (penB z) := by
  unfold penA penB
  split
  · exact .inr ⟨rfl, by omega, by omega⟩
  · split
    · exact .inr ⟨rfl, Int.emod_nonneg _ (by decide), Int.lt_trans (Int.emod_lt_of_pos _ (by decide)) (by decide)⟩
    · exact .inl rfl
def M_right (f d : List Int) : Bool := decide (f = isort d)
def P_right (_f _d : List Int) : Prop := _f.length ≤ 1000
def gsw (w : Int) (cs rs : List Int) (f : Int) : Int := itm rs (f / w) * w + itm cs (f % w)
structure P_sw (w h : Int) (cs rs fs : List Int) : Prop where
  w1 : 1 ≤ w
  w6 : w ≤ 6
  h1 : 1 ≤ h
  h6 : h ≤ 6
  cl : (cs.length : Int) = w
  rl : (rs.length : Int) = h
  cb : ∀ x ∈ cs, 0 ≤ x ∧ x < w
  rb : ∀ x ∈ rs, 0 ≤ x ∧ x < h
  fb : ∀ x ∈ fs, 0 ≤ x ∧ x < w * h
  fl : fs.length ≤ 100
def M_sw (w _h : Int) (cs rs fs : List Int) : List Int := isort (fs.map (gsw w cs rs))
theorem div_h {w h f : Int} (w1 : 1 ≤ w) (h0 : 0 ≤ f) (h1 : f < w * h) : 0 ≤ f / w ∧ f / w < h ∧ 0 ≤ f % w ∧ f % w < w :=
  ⟨Int.ediv_nonneg h0 (by omega), Int.ediv_lt_of_lt_mul (by omega) (by rw [Int.mul_comm]; exact h1), Int.emod_nonneg _ (by omega), Int.emod_lt_of_pos _ (by omega)⟩
/-! orders -/
theorem perm_len {m : Int} {l : List Int} (h : R_order m l) (h0 : 0 ≤ m) : (l.length : Int) = m := by
  have := h.length_eq
  rw [rng_length] at this
  omega
theorem perm_mem {m : Int} {l : List Int} (h : R_order m l) (h0 : 0 ≤ m) : ∀ x ∈ l, 0 ≤ x ∧ x < m := fun x hx => by
  have := rng_mem.mp (h.mem_iff.mp hx)
  omega
theorem perm_nodup {m : Int} {l : List Int} (h : R_order m l) : l.Nodup := h.nodup_iff.mpr (rng_nodup _ _)
def idxN (l : List Int) (x : Int) : Nat := l.findIdx (fun y => decide (y = x))
theorem idx_at {l : List Int} {x : Int} (h : x ∈ l) : l[idxN l x]? = some x := by
  unfold idxN
  have hl : l.findIdx (fun y => decide (y = x)) < l.length := List.findIdx_lt_length_of_exists ⟨x, h, by simp⟩
  rw [List.getElem?_eq_getElem hl]
  have := List.findIdx_getElem (w := hl)
  simpa using this
theorem idx_no {l : List Int} {x : Int} : ∀ m, m < idxN l x → l[m]? ≠ some x := fun m hm e => by
  unfold idxN at hm
  have := List.not_of_lt_findIdx hm
  obtain ⟨hl, e2⟩ := List.getElem?_eq_some_iff.mp e
  simp [e2] at this
theorem idx_lt {l : List Int} {x : Int} (h : x ∈ l) : idxN l x < l.length := by
  unfold idxN
  exact List.findIdx_lt_length_of_exists ⟨x, h, by simp⟩
theorem nodup_ix : ∀ (l : List Int), l.Nodup → ∀ (i j : Nat) (x : Int), l[i]? = some x → l[j]? = some x → i = j
  | [], _, i, _, _, h, _ => by simp at h
  | a :: t, nd, 0, 0, _, _, _ => rfl
  | a :: t, nd, 0, j + 1, x, h, h2 => by
    have e := Option.some.inj h
    subst e
    exact absurd (List.mem_of_getElem? (show t[j]? = some a by simpa using h2)) (List.nodup_cons.mp nd).1
  | a :: t, nd, i + 1, 0, x, h, h2 => by
    have e := Option.some.inj h2
    subst e
    exact absurd (List.mem_of_getElem? (show t[i]? = some a by simpa using h)) (List.nodup_cons.mp nd).1
  | a :: t, nd, i + 1, j + 1, x, h, h2 => congrArg (· + 1) (nodup_ix t (List.nodup_cons.mp nd).2 i j x (by simpa using h) (by simpa using h2))
def inv (m : Int) (l : List Int) : List Int := (rng 0 m.toNat).map fun x => (idxN l x : Int)
theorem inv_len {m : Int} {l : List Int} (h0 : 0 ≤ m) : ((inv m l).length : Int) = m := by
  unfold inv; rw [List.length_map, rng_length]; omega
theorem inv_itm {m : Int} {l : List Int} {x : Int} (h0 : 0 ≤ x) (h1 : x < m) : itm (inv m l) x = (idxN l x : Int) := by
  rw [itm_get h0 (by rw [inv_len (by omega)]; exact h1)]
  unfold inv
  rw [List.getElem_map]
  congr 2
  unfold rng
  rw [List.getElem_map, List.getElem_range]
  omega
theorem inv_bd {m : Int} {l : List Int} (h : R_order m l) (h0 : 0 ≤ m) : ∀ x ∈ inv m l, 0 ≤ x ∧ x < m := fun x hx => by
  obtain ⟨y, hy, rfl⟩ := List.mem_map.mp hx
  have a := idx_lt (h.mem_iff.mpr hy)
  have b := perm_len h h0
  omega
theorem inv_back {m : Int} {l : List Int} (h : R_order m l) (h0 : 0 ≤ m) {i : Int} (i0 : 0 ≤ i) (i1 : i < m) : itm (inv m l) (itm l i) = i := by
  have hl := perm_len h h0
  have mem := itm_mem i0 (by rw [hl]; exact i1)
  obtain ⟨b0, b1⟩ := perm_mem h h0 _ mem
  rw [inv_itm b0 b1]
  have e1 := idx_at mem
  have e2 : l[i.toNat]? = some (itm l i) := by
    rw [itm_get i0 (by rw [hl]; exact i1)]
    exact List.getElem?_eq_getElem _
  have := nodup_ix l (perm_nodup h) _ _ _ e1 e2
  omega
theorem gsw_bd {w h : Int} {cs rs : List Int} (w1 : 1 ≤ w) (w6 : w ≤ 6) (h1 : 1 ≤ h) (h6 : h ≤ 6) (hc : R_order w cs) (hr : R_order h rs) {f : Int} (f0 : 0 ≤ f) (f1 : f < w * h) :
    0 ≤ gsw w cs rs f ∧ gsw w cs rs f < w * h ∧ gsw w (inv w cs) (inv h rs) (gsw w cs rs f) = f := by
  obtain ⟨a, b, c, d⟩ := div_h w1 f0 f1
  have rl := perm_len hr (by omega)
  have cl := perm_len hc (by omega)
  obtain ⟨r0, r1⟩ := perm_mem hr (by omega) _ (itm_mem a (by rw [rl]; exact b))
  obtain ⟨c0, c1⟩ := perm_mem hc (by omega) _ (itm_mem c (by rw [cl]; exact d))
  have e1 : gsw w cs rs f / w = itm rs (f / w) := by
    unfold gsw
    rcases w_cases w1 w6 with rfl | rfl | rfl | rfl | rfl | rfl <;> omega
  have e2 : gsw w cs rs f % w = itm cs (f % w) := by
    unfold gsw
    rcases w_cases w1 w6 with rfl | rfl | rfl | rfl | rfl | rfl <;> omega
  refine ⟨?_, ?_, ?_⟩
  · unfold gsw
    rcases w_cases w1 w6 with rfl | rfl | rfl | rfl | rfl | rfl <;> omega
  · unfold gsw
    rcases w_cases w1 w6 with rfl | rfl | rfl | rfl | rfl | rfl <;> omega
  · show itm (inv h rs) (gsw w cs rs f / w) * w + itm (inv w cs) (gsw w cs rs f % w) = f
    rw [e1, e2, inv_back hr (by omega) a b, inv_back hc (by omega) c d]
    rcases w_cases w1 w6 with rfl | rfl | rfl | rfl | rfl | rfl <;> omega
theorem isort_perm (l : List Int) : (isort l).Perm l := List.mergeSort_perm _ _
theorem back_eq {w h : Int} {cs rs ys : List Int} (w1 : 1 ≤ w) (w6 : w ≤ 6) (h1 : 1 ≤ h) (h6 : h ≤ 6) (hc : R_order w cs) (hr : R_order h rs) (hy : ys.Sublist (rng 0 (w * h).toNat)) :
    M_sw w h (inv w cs) (inv h rs) (M_sw w h cs rs ys) = ys := by
  have yb : ∀ y ∈ ys, 0 ≤ y ∧ y < w * h := fun y hm => by
    have := rng_mem.mp (hy.subset hm)
    have := area36 w1 w6 h1 h6
    omega
  have p1 : (M_sw w h cs rs ys).Perm (ys.map (gsw w cs rs)) := isort_perm _
  have p2 := p1.map (gsw w (inv w cs) (inv h rs))
  rw [List.map_map] at p2
  have e : ys.map (gsw w (inv w cs) (inv h rs) ∘ gsw w cs rs) = ys := by
    have : ys.map (gsw w (inv w cs) (inv h rs) ∘ gsw w cs rs) = ys.map id := List.map_congr_left fun y hm => (gsw_bd w1 w6 h1 h6 hc hr (yb y hm).1 (yb y hm).2).2.2
    rw [this, List.map_id]
  rw [e] at p2
  exact (PySem.W.os_sorted_mergeSort p2.symm (((rng_lt 0 _).sublist hy).imp fun h => by omega)).symm
theorem sw_ok {w h : Int} {cs rs ys : List Int} (w1 : 1 ≤ w) (w6 : w ≤ 6) (h1 : 1 ≤ h) (h6 : h ≤ 6) (hc : R_order w cs) (hr : R_order h rs) (hy : ys.Sublist (rng 0 (w * h).toNat)) : P_sw w h cs rs ys := by
  have ar := area36 w1 w6 h1 h6
  refine ⟨w1, w6, h1, h6, perm_len hc (by omega), perm_len hr (by omega), perm_mem hc (by omega), perm_mem hr (by omega), fun y hm => ?_, ?_⟩
  · have := rng_mem.mp (hy.subset hm); omega
  · have := hy.length_le; rw [rng_length] at this; omega
theorem sw_ok2 {w h : Int} {cs rs ys : List Int} (w1 : 1 ≤ w) (w6 : w ≤ 6) (h1 : 1 ≤ h) (h6 : h ≤ 6) (hc : R_order w cs) (hr : R_order h rs) (hy : ys.Sublist (rng 0 (w * h).toNat)) : P_sw w h (inv w cs) (inv h rs) (M_sw w h cs rs ys) := by
  have ar := area36 w1 w6 h1 h6
  have p1 : (M_sw w h cs rs ys).Perm (ys.map (gsw w cs rs)) := isort_perm _
  refine ⟨w1, w6, h1, h6, inv_len (by omega), inv_len (by omega), inv_bd hc (by omega), inv_bd hr (by omega), fun y hm => ?_, ?_⟩
  · obtain ⟨f, hf, rfl⟩ := List.mem_map.mp (p1.mem_iff.mp hm)
    have := rng_mem.mp (hy.subset hf)
    have g := gsw_bd w1 w6 h1 h6 hc hr (f := f) (by omega) (by omega)
    exact ⟨g.1, g.2.1⟩
  · rw [p1.length_eq, List.length_map]
    have := hy.length_le; rw [rng_length] at this; omega
theorem erase_perm : ∀ {l : List Int} {m : Nat} (hm : m < l.length), ([l[m]] ++ l.eraseIdx m).Perm l
  | a :: t, 0, _ => List.Perm.refl _
  | a :: t, m + 1, h => (List.Perm.swap a (t[m]'(Nat.lt_of_succ_lt_succ h)) (t.eraseIdx m)).trans ((erase_perm (l := t) (m := m) (Nat.lt_of_succ_lt_succ h)).cons a)
  | [], _, h => absurd h (Nat.not_lt_zero _)
end Pe

set_option Elab.async false
set_option linter.all false
set_option maxRecDepth 100000
/-! Pe2: floors drawn by a pen; floors turned -/
namespace Pe
open PySem L2 Cb Fl
def near (w h p : Int) : List Int := (([(p % w - 1, p / w), (p % w + 1, p / w), (p % w, p / w - 1), (p % w, p / w + 1)] : List (Int × Int)).filter fun q => (decide (0 ≤ q.1) && decide (q.1 < w)) && (decide (0 ≤ q.2) && decide (q.2 < h))).map fun q => q.2 * w + q.1
theorem near_len (w h p : Int) : (near w h p).length ≤ 4 := by
  unfold near
  rw [List.length_map]
  exact Nat.le_trans (List.length_filter_le _ _) (Nat.le_refl 4)
/-- a flood by a list that grows -/
def reach (nb : Int → List Int) (t : List Int) : Nat → Nat → List Int → List Int
  | 0, _, there => there
  | n + 1, a, there => match there[a]? with
    | none => there
    | some p => reach nb t n (a + 1) (there ++ (nb p).filter fun x => decide (x ∈ t) && !decide (x ∈ there))
def reached (nb : Int → List Int) (s t : List Int) : List Int := reach nb t t.length 0 (s.filter fun x => decide (x ∈ t))
structure RS (nb : Int → List Int) (s t : List Int) (a : Nat) (there : List Int) : Prop where
  nd : there.Nodup
  s1 : ∀ x ∈ there, Rch nb s t x
  c1 : ∀ i, i < a → ∀ p, there[i]? = some p → ∀ q ∈ nb p, q ∈ t → q ∈ there
  c2 : ∀ x ∈ s, x ∈ t → x ∈ there
theorem RS.len {nb : Int → List Int} {s t : List Int} {a : Nat} {there : List Int} (r : RS nb s t a there) : there.length ≤ t.length := nodup_len _ _ r.nd fun x hx => (r.s1 x hx).mem
theorem RS.next {nb : Int → List Int} {s t : List Int} {a : Nat} {there : List Int} {p : Int} (hn : ∀ p ∈ t, (nb p).Nodup) (r : RS nb s t a there) (hp : there[a]? = some p) : RS nb s t (a + 1) (there ++ (nb p).filter fun x => decide (x ∈ t) && !decide (x ∈ there)) := by
  have pm : p ∈ there := List.mem_of_getElem? hp
  have al : a < there.length := (List.getElem?_eq_some_iff.mp hp).1
  have mf : ∀ x, x ∈ (nb p).filter (fun x => decide (x ∈ t) && !decide (x ∈ there)) ↔ x ∈ nb p ∧ x ∈ t ∧ x ∉ there := fun x => by
    rw [List.mem_filter]; simp
  refine ⟨?_, fun x hx => ?_, fun i hi q hq y hy hy2 => ?_, fun x h1 h2 => List.mem_append_left _ (r.c2 x h1 h2)⟩
  · rw [List.nodup_append]
    refine ⟨r.nd, (hn p (r.s1 p pm).mem).filter _, fun x hx y hy e => ?_⟩
    subst e
    exact ((mf x).mp hy).2.2 hx
  · rcases List.mem_append.mp hx with z | z
    · exact r.s1 x z
    · obtain ⟨z1, z2, _⟩ := (mf x).mp z
      exact .step (r.s1 p pm) z1 z2
  · by_cases hia : i < a
    · rw [List.getElem?_append_left (by omega)] at hq
      exact List.mem_append_left _ (r.c1 i hia q hq y hy hy2)
    · have : i = a := by omega
      subst this
      rw [List.getElem?_append_left al, hp] at hq
      cases hq
      by_cases hm : y ∈ there
      · exact List.mem_append_left _ hm
      · exact List.mem_append_right _ ((mf y).mpr ⟨hy, hy2, hm⟩)
theorem reach_rs {nb : Int → List Int} {s t : List Int} (hn : ∀ p ∈ t, (nb p).Nodup) : ∀ (n a : Nat) (there : List Int), t.length ≤ a + n → RS nb s t a there → ∃ a', (reach nb t n a there).length ≤ a' ∧ RS nb s t a' (reach nb t n a there)
  | 0, a, there, h, r => ⟨a, by have := r.len; show there.length ≤ a; omega, r⟩
  | n + 1, a, there, h, r => by
    unfold reach
    cases e : there[a]? with
    | none => exact ⟨a, List.getElem?_eq_none_iff.mp e, r⟩
    | some p => exact reach_rs hn n (a + 1) _ (by omega) (r.next hn e)
theorem reached_mem {nb : Int → List Int} {s t : List Int} (hn : ∀ p ∈ t, (nb p).Nodup) (hs : s.Nodup) {x : Int} : x ∈ reached nb s t ↔ Rch nb s t x := by
  have r0 : RS nb s t 0 (s.filter fun x => decide (x ∈ t)) := ⟨hs.filter _, fun x hx => by
    have := List.mem_filter.mp hx
    exact .start this.1 (of_decide_eq_true this.2), fun i hi => absurd hi (Nat.not_lt_zero _), fun x h1 h2 => List.mem_filter.mpr ⟨h1, decide_eq_true h2⟩⟩
  obtain ⟨a', hl, r⟩ := reach_rs hn t.length 0 _ (by omega) r0
  refine ⟨r.s1 x, fun h => ?_⟩
  induction h with
  | start h1 h2 => exact r.c2 _ h1 h2
  | step _ h1 h2 ih =>
    obtain ⟨i, hi⟩ := List.mem_iff_getElem?.mp ih
    have : i < (reach nb t t.length 0 (s.filter fun x => decide (x ∈ t))).length := (List.getElem?_eq_some_iff.mp hi).1
    exact r.c1 i (by omega) _ hi _ h1 h2
/-! near and beside are one -/
def okn (w h p : Int) : Bool := (near w h p).all (fun q => decide (q ∈ lbeside w h p)) && (lbeside w h p).all (fun q => decide (q ∈ near w h p)) && decide ((near w h p).Nodup)
theorem oknall : ((rng 1 6).all fun w => (rng 1 6).all fun h => (rng 0 (w * h).toNat).all fun p => okn w h p) = true := by decide +kernel
theorem near_iff {w h p : Int} (w1 : 1 ≤ w) (w6 : w ≤ 6) (h1 : 1 ≤ h) (h6 : h ≤ 6) (p0 : 0 ≤ p) (p1 : p < w * h) : (∀ q, q ∈ near w h p ↔ q ∈ lbeside w h p) ∧ (near w h p).Nodup := by
  have a := List.all_eq_true.mp oknall w (rng_mem.mpr (by omega))
  have b := List.all_eq_true.mp a h (rng_mem.mpr (by omega))
  have c := List.all_eq_true.mp b p (rng_mem.mpr (by omega))
  unfold okn at c
  simp only [Bool.and_eq_true, List.all_eq_true, decide_eq_true_eq] at c
  exact ⟨fun q => ⟨c.1.1 q, c.1.2 q⟩, c.2⟩
theorem rch_near {w h : Int} {s t : List Int} (w1 : 1 ≤ w) (w6 : w ≤ 6) (h1 : 1 ≤ h) (h6 : h ≤ 6) (ht : ∀ x ∈ t, 0 ≤ x ∧ x < w * h) {x : Int} : Rch (near w h) s t x ↔ Rch (lbeside w h) s t x :=
  ⟨fun r => r.to (fun _ a _ => a) (fun _ r => r.mem) fun p hp q hq => ((near_iff w1 w6 h1 h6 (ht p hp).1 (ht p hp).2).1 q).mp hq,
   fun r => r.to (fun _ a _ => a) (fun _ r => r.mem) fun p hp q hq => ((near_iff w1 w6 h1 h6 (ht p hp).1 (ht p hp).2).1 q).mpr hq⟩
/-! the floor that a pen draws -/
def everyOf (w h : Int) : List Int := rng 0 (w * h).toNat
def pfields (w h : Int) (D : List Int) : List Int :=
  let L := reached (near w h) (D.take 1) D
  let B := (everyOf w h).filter fun x => !decide (x ∈ L)
  let O := reached (near w h) (B.filter fun x => isOut w h x) B
  (everyOf w h).filter fun x => !decide (x ∈ O)
theorem pfields_ok {w h : Int} {D : List Int} (w1 : 1 ≤ w) (w6 : w ≤ 6) (h1 : 1 ≤ h) (h6 : h ≤ 6) (hne : D ≠ []) (hD : ∀ x ∈ D, 0 ≤ x ∧ x < w * h) (nd : D.Nodup) : Ok w h (pfields w h D) := by
  obtain ⟨d0, E, rfl⟩ : ∃ a t, D = a :: t := by
    cases D with
    | nil => exact absurd rfl hne
    | cons a t => exact ⟨a, t, rfl⟩
  have hn : ∀ t : List Int, (∀ x ∈ t, 0 ≤ x ∧ x < w * h) → ∀ p ∈ t, (near w h p).Nodup := fun t ht p hp => (near_iff w1 w6 h1 h6 (ht p hp).1 (ht p hp).2).2
  have ar := area36 w1 w6 h1 h6
  have bB : ∀ x ∈ (everyOf w h).filter (fun x => !decide (x ∈ reached (near w h) [d0] (d0 :: E))), 0 ≤ x ∧ x < w * h := fun x hx => by
    have := rng_mem.mp (List.mem_filter.mp hx).1; omega
  refine ok_of2 w1 w6 h1 h6 (d0 := d0) (D := E) hD (L := reached (near w h) [d0] (d0 :: E)) (fun x => (reached_mem (hn _ hD) (by simp)).trans (rch_near w1 w6 h1 h6 hD)) rfl (fun x => (reached_mem (hn _ bB) (((rng_nodup _ _).filter _).filter _)).trans (rch_near w1 w6 h1 h6 bB)) rfl
end Pe

set_option Elab.async false
set_option linter.all false
set_option maxRecDepth 100000
/-! Pe3: floors turned and mirrored are floors -/
namespace Pe
open PySem L2 Cb Fl
def qp (w h p : Int) : Int := p % w * h + h - 1 - p / w
def mp (w p : Int) : Int := p / w * w + w - 1 - p % w
structure Iso (w h w' h' : Int) (f g : Int → Int) : Prop where
  im : ∀ p, 0 ≤ p → p < w * h → 0 ≤ f p ∧ f p < w' * h'
  out : ∀ p, 0 ≤ p → p < w * h → isOut w' h' (f p) = isOut w h p
  adj : ∀ p, 0 ≤ p → p < w * h → ∀ q ∈ beside w h p, f q ∈ beside w' h' (f p)
  bim : ∀ p, 0 ≤ p → p < w' * h' → 0 ≤ g p ∧ g p < w * h ∧ f (g p) = p
  back : ∀ p, 0 ≤ p → p < w * h → g (f p) = p
theorem nodup_all {l m : List Int} (h1 : l.Nodup) (h2 : ∀ x ∈ l, x ∈ m) (h3 : m.length ≤ l.length) : ∀ x ∈ m, x ∈ l := fun x hx => by
  refine Classical.byContradiction fun no => ?_
  have := nodup_len (x :: l) m (List.nodup_cons.mpr ⟨no, h1⟩) fun y hy => by
    rcases List.mem_cons.mp hy with rfl | hy
    · exact hx
    · exact h2 y hy
  simp only [List.length_cons] at this
  omega
theorem isort_mem {l : List Int} {x : Int} : x ∈ isort l ↔ x ∈ l := (isort_perm l).mem_iff
theorem isort_le (l : List Int) : (isort l).Pairwise (· ≤ ·) := by
  have hs := List.pairwise_mergeSort (le := fun x y : Int => decide (x ≤ y)) (by intro x y z hxy hyz; simp only [decide_eq_true_eq] at *; omega) (by intro x y; simp only [Bool.or_eq_true, decide_eq_true_eq]; omega) l
  simpa [isort] using hs
theorem isort_lt {l : List Int} (h : l.Nodup) : (isort l).Pairwise (· < ·) := by
  have nd : (isort l).Nodup := (isort_perm l).nodup_iff.mpr h
  have both : (isort l).Pairwise (fun a b => a ≤ b ∧ a ≠ b) := (isort_le l).and nd
  exact both.imp fun ⟨a, b⟩ => by omega
theorem ok_iso {w h w' h' : Int} {F : List Int} {f g : Int → Int} (o : Ok w h F) (w1 : 1 ≤ w') (w6 : w' ≤ 6) (h1 : 1 ≤ h') (h6 : h' ≤ 6) (I : Iso w h w' h' f g) : Ok w' h' (isort (F.map f)) := by
  have Fb : ∀ x ∈ F, 0 ≤ x ∧ x < w * h := fun x hx => by have := areF_mem o.are x hx; omega
  have Fn : F.Nodup := (areF_lt o.are).imp fun h => by omega
  have adj := fun p (q : 0 ≤ p ∧ p < w * h) => adj_of o.w1 o.w6 o.h1 o.h6 q.1 q.2
  have mF : ∀ y, y ∈ isort (F.map f) ↔ ∃ x ∈ F, f x = y := fun y => by rw [isort_mem, List.mem_map]
  have nd : (F.map f).Nodup := by
    show List.Pairwise (· ≠ ·) _
    rw [List.pairwise_map]
    refine List.Pairwise.imp_of_mem (fun {a b} ha hb ne e => ne ?_) Fn
    have := congrArg g e
    rw [I.back a (Fb a ha).1 (Fb a ha).2, I.back b (Fb b hb).1 (Fb b hb).2] at this
    exact this
  have ne : isort (F.map f) ≠ [] := fun z => by
    obtain ⟨a, t, e⟩ : ∃ a t, F = a :: t := by
      cases e : F with
      | nil => exact absurd e o.ne
      | cons a t => exact ⟨a, t, rfl⟩
    have : f a ∈ isort (F.map f) := (mF _).mpr ⟨a, by rw [e]; simp, rfl⟩
    rw [z] at this; cases this
  have lt := isort_lt nd
  have fb' : ∀ y ∈ isort (F.map f), 0 ≤ y ∧ y < w' * h' := fun y hy => by
    obtain ⟨x, hx, rfl⟩ := (mF y).mp hy
    exact I.im x (Fb x hx).1 (Fb x hx).2
  have nd' : (isort (F.map f)).Nodup := lt.imp fun h => by omega
  -- together
  have st := floodAll_st (beside_len w h) (F.take 1) F
  have all : ∀ x ∈ F, Rch (beside w h) (F.take 1) F x := fun x hx => st.s1 x (nodup_all st.nd (fun y hy => (st.s1 y hy).mem) (Nat.le_of_eq o.tog.symm) x hx)
  have sy : ∀ p ∈ F, ∀ q ∈ beside w h p, p ∈ beside w h q := fun p hp q hq => by
    have a := (adj p (Fb p hp)).a q hq
    have b := (adj p (Fb p hp)).b q a.1
    exact ((adj q a.2).b p b.2).1
  have con : ∀ x ∈ F, ∀ y ∈ F, Rch (beside w h) [x] F y := fun x hx y hy => by
    obtain ⟨a, t, e⟩ : ∃ a t, F = a :: t := by
      cases e : F with
      | nil => exact absurd e o.ne
      | cons a t => exact ⟨a, t, rfl⟩
    have ha : a ∈ F := by rw [e]; simp
    have e1 : F.take 1 = [a] := by rw [e]; rfl
    rw [e1] at all
    exact ((all x hx).symm sy ha).trans (all y hy)
  have tr : ∀ {S T S' T' : List Int} {x : Int}, Rch (beside w h) S T x → (∀ s ∈ S, s ∈ T → f s ∈ S') → (∀ y ∈ T, f y ∈ T') → (∀ y ∈ T, 0 ≤ y ∧ y < w * h) → Rch (beside w' h') S' T' (f x) := fun {S T S' T' x} r hS hT hb => by
    induction r with
    | start a b => exact .start (hS _ a b) (hT _ b)
    | step r a b ih => exact .step ih (I.adj _ (hb _ r.mem).1 (hb _ r.mem).2 _ a) (hT _ b)
  refine ⟨w1, w6, h1, h6, ne, areF_of _ _ lt fun x hx => ⟨by have := fb' x hx; omega, (fb' x hx).2⟩, ?_, ?_⟩
  · obtain ⟨a', t', e'⟩ : ∃ a t, isort (F.map f) = a :: t := by
      cases e : isort (F.map f) with
      | nil => exact absurd e ne
      | cons a t => exact ⟨a, t, rfl⟩
    obtain ⟨a0, ha0, ea0⟩ := (mF a').mp (by rw [e']; simp)
    have e1 : (isort (F.map f)).take 1 = [a'] := by rw [e']; rfl
    have st' := floodAll_st (beside_len w' h') ((isort (F.map f)).take 1) (isort (F.map f))
    have cov : ∀ y ∈ isort (F.map f), y ∈ come w' h' ((isort (F.map f)).take 1) (isort (F.map f)) := fun y hy => by
      obtain ⟨x, hx, rfl⟩ := (mF y).mp hy
      refine (flood_mem (beside_len w' h')).mpr (tr (con a0 ha0 x hx) (fun s hs _ => ?_) (fun y hy => (mF _).mpr ⟨y, hy, rfl⟩) Fb)
      rw [e1, List.mem_singleton.mp hs, ea0]; simp
    exact Nat.le_antisymm (nodup_len _ _ st'.nd fun x hx => (st'.s1 x hx).mem) (nodup_len _ _ nd' cov)
  · have mb : ∀ {w h : Int} {F : List Int} {x : Int}, x ∈ bareOf w h F ↔ (0 ≤ x ∧ x < ((w * h).toNat : Int)) ∧ x ∉ F := fun {w h F x} => by
      unfold bareOf
      rw [List.mem_filter, rng_mem]; simp
    have A := o.area
    have A' := area36 w1 w6 h1 h6
    have stb := floodAll_st (beside_len w h) ((bareOf w h F).filter fun p => isOut w h p) (bareOf w h F)
    have bn : (bareOf w h F).Nodup := (rng_nodup _ _).filter _
    have bn' : (bareOf w' h' (isort (F.map f))).Nodup := (rng_nodup _ _).filter _
    have bb : ∀ y ∈ bareOf w h F, 0 ≤ y ∧ y < w * h := fun y hy => by have := (mb.mp hy).1; omega
    have bt : ∀ y ∈ bareOf w h F, f y ∈ bareOf w' h' (isort (F.map f)) := fun y hy => by
      have b := bb y hy
      have i := I.im y b.1 b.2
      refine mb.mpr ⟨by omega, fun z => ?_⟩
      obtain ⟨x, hx, e⟩ := (mF _).mp z
      have := congrArg g e
      rw [I.back x (Fb x hx).1 (Fb x hx).2, I.back y b.1 b.2] at this
      subst this
      exact (mb.mp hy).2 hx
    have st' := floodAll_st (beside_len w' h') ((bareOf w' h' (isort (F.map f))).filter fun p => isOut w' h' p) (bareOf w' h' (isort (F.map f)))
    have cov : ∀ y ∈ bareOf w' h' (isort (F.map f)), y ∈ come w' h' ((bareOf w' h' (isort (F.map f))).filter fun p => isOut w' h' p) (bareOf w' h' (isort (F.map f))) := fun y hy => by
      have hy' := mb.mp hy
      obtain ⟨g0, g1, ge⟩ := I.bim y hy'.1.1 (by omega)
      have gb : g y ∈ bareOf w h F := mb.mpr ⟨by omega, fun z => hy'.2 ((mF _).mpr ⟨g y, z, ge⟩)⟩
      have r := stb.s1 (g y) (nodup_all stb.nd (fun y hy => (stb.s1 y hy).mem) (Nat.le_of_eq o.full.symm) _ gb)
      have r2 := tr r (fun s hs hb => ?_) bt bb (S' := (bareOf w' h' (isort (F.map f))).filter fun p => isOut w' h' p)
      · rw [ge] at r2
        exact (flood_mem (beside_len w' h')).mpr r2
      · have b := bb s hb
        exact List.mem_filter.mpr ⟨bt s hb, by rw [I.out s b.1 b.2]; exact (List.mem_filter.mp hs).2⟩
    exact Nat.le_antisymm (nodup_len _ _ st'.nd fun x hx => (st'.s1 x hx).mem) (nodup_len _ _ bn' cov)
def okq (w h p : Int) : Bool :=
  (decide (0 ≤ qp w h p) && decide (qp w h p < h * w)) && decide (isOut h w (qp w h p) = isOut w h p) && (beside w h p).all (fun y => decide (qp w h y ∈ beside h w (qp w h p))) && decide (qp h w (qp w h (qp h w (qp w h p))) = p) &&
  ((decide (0 ≤ mp w p) && decide (mp w p < w * h)) && decide (isOut w h (mp w p) = isOut w h p) && (beside w h p).all (fun y => decide (mp w y ∈ beside w h (mp w p))) && decide (mp w (mp w p) = p)) &&
  decide (qp w h (mp w p) = mp h (qp w h (qp h w (qp w h p))))
theorem okqall : ((rng 1 6).all fun w => (rng 1 6).all fun h => (rng 0 (w * h).toNat).all fun p => okq w h p) = true := by decide +kernel
structure Qf (w h p : Int) : Prop where
  q0 : 0 ≤ qp w h p
  q1 : qp w h p < h * w
  qo : isOut h w (qp w h p) = isOut w h p
  qa : ∀ y ∈ beside w h p, qp w h y ∈ beside h w (qp w h p)
  q4 : qp h w (qp w h (qp h w (qp w h p))) = p
  m0 : 0 ≤ mp w p
  m1 : mp w p < w * h
  mo : isOut w h (mp w p) = isOut w h p
  ma : ∀ y ∈ beside w h p, mp w y ∈ beside w h (mp w p)
  m2 : mp w (mp w p) = p
  qm : qp w h (mp w p) = mp h (qp w h (qp h w (qp w h p)))
theorem qf {w h p : Int} (w1 : 1 ≤ w) (w6 : w ≤ 6) (h1 : 1 ≤ h) (h6 : h ≤ 6) (p0 : 0 ≤ p) (p1 : p < w * h) : Qf w h p := by
  have a := List.all_eq_true.mp okqall w (rng_mem.mpr (by omega))
  have b := List.all_eq_true.mp a h (rng_mem.mpr (by omega))
  have c := List.all_eq_true.mp b p (rng_mem.mpr (by omega))
  unfold okq at c
  simp only [Bool.and_eq_true, List.all_eq_true, decide_eq_true_eq] at c
  obtain ⟨⟨⟨⟨⟨⟨c1, c2⟩, c3⟩, c4⟩, c5⟩, ⟨⟨⟨c6, c7⟩, c8⟩, c9⟩, c10⟩, c11⟩ := c
  exact ⟨c1, c2, c3, c4, c5, c6, c7, c8, c9, c10, c11⟩
theorem q_iso {w h : Int} (w1 : 1 ≤ w) (w6 : w ≤ 6) (h1 : 1 ≤ h) (h6 : h ≤ 6) : Iso w h h w (qp w h) (fun p => qp h w (qp w h (qp h w p))) := by
  have e : h * w = w * h := Int.mul_comm _ _
  refine ⟨fun p a b => ⟨(qf w1 w6 h1 h6 a b).q0, (qf w1 w6 h1 h6 a b).q1⟩, fun p a b => (qf w1 w6 h1 h6 a b).qo, fun p a b => (qf w1 w6 h1 h6 a b).qa, fun p a b => ?_, fun p a b => (qf w1 w6 h1 h6 a b).q4⟩
  have f1 := qf h1 h6 w1 w6 a b
  have f2 := qf w1 w6 h1 h6 f1.q0 f1.q1
  have f3 := qf h1 h6 w1 w6 f2.q0 f2.q1
  exact ⟨f3.q0, f3.q1, f1.q4⟩
theorem m_iso {w h : Int} (w1 : 1 ≤ w) (w6 : w ≤ 6) (h1 : 1 ≤ h) (h6 : h ≤ 6) : Iso w h w h (mp w) (mp w) :=
  ⟨fun p a b => ⟨(qf w1 w6 h1 h6 a b).m0, (qf w1 w6 h1 h6 a b).m1⟩, fun p a b => (qf w1 w6 h1 h6 a b).mo, fun p a b => (qf w1 w6 h1 h6 a b).ma, fun p a b => ⟨(qf w1 w6 h1 h6 a b).m0, (qf w1 w6 h1 h6 a b).m1, (qf w1 w6 h1 h6 a b).m2⟩, fun p a b => (qf w1 w6 h1 h6 a b).m2⟩
end Pe

set_option Elab.async false
set_option linter.all false
set_option maxRecDepth 100000
/-! Pe4: what k44's defs tell -/
namespace Pe
open PySem L2 Cb Fl
def penAC (a b c : Int) (z : Scr) (j : Int) : Int := if (z.xs.length : Int) = 0 then a * j + b else if itm z.xs 0 % 2 = 1 then (itm z.xs ((1 + j) % z.xs.length) + c * j) % 2147483629 else if j + 1 < z.xs.length then itm z.xs (j + 1) else 0
def M_penC (a b c : Int) (z : Scr) (j : Int) : List Int := [penAC a b c z j, penB z]
theorem penC_ok {a b c : Int} {z : Scr} {j : Int} (h0 : 0 ≤ a * j + b) (h1 : a * j + b < 2147483648) : PenOk (penAC a b c z j) (penB z) := by
  unfold penAC penB
  split
  · exact .inr ⟨rfl, h0, h1⟩
  · split
    · exact .inr ⟨rfl, Int.emod_nonneg _ (by decide), Int.lt_trans (Int.emod_lt_of_pos _ (by decide)) (by decide)⟩
    · exact .inl rfl
def P_qp (w h _p : Int) : Prop := 1 ≤ w ∧ w ≤ 6 ∧ 1 ≤ h ∧ h ≤ 6
def P_mp (w _p : Int) : Prop := 1 ≤ w ∧ w ≤ 6
def P_qf (f : Floor) (_p : Int) : Prop := Fst f
def M_qf (f : Floor) (p : Int) : Int := qp f.a f.b p
def M_mf (f : Floor) (p : Int) : Int := mp f.a p
def FOk (f : Floor) : Prop := Ok f.a f.b f.c.items
def M_quarter (f : Floor) : Floor := ⟨f.b, f.a, ⟨isort (f.c.items.map (qp f.a f.b))⟩⟩
def M_mirr (f : Floor) : Floor := ⟨f.a, f.b, ⟨isort (f.c.items.map (mp f.a))⟩⟩
theorem FOk.q {f : Floor} (o : FOk f) : FOk (M_quarter f) := ok_iso o o.h1 o.h6 o.w1 o.w6 (q_iso o.w1 o.w6 o.h1 o.h6)
theorem FOk.m {f : Floor} (o : FOk f) : FOk (M_mirr f) := ok_iso o o.w1 o.w6 o.h1 o.h6 (m_iso o.w1 o.w6 o.h1 o.h6)
theorem isort_congr {l m : List Int} (h : l.Perm m) : isort l = isort m := PySem.W.os_sorted_mergeSort ((isort_perm l).trans h) (isort_le l)
theorem isort_same {l : List Int} (h : l.Pairwise (· < ·)) : isort l = l := (PySem.W.os_sorted_mergeSort (List.Perm.refl l) (h.imp fun h => by omega)).symm
theorem isort_map (f g : Int → Int) (l : List Int) : isort ((isort (l.map g)).map f) = isort (l.map fun x => f (g x)) := by
  refine isort_congr (((isort_perm _).map f).trans ?_)
  rw [List.map_map]
  exact List.Perm.refl _
theorem map_same {l : List Int} {f : Int → Int} (h : ∀ x ∈ l, f x = x) : l.map f = l := by
  rw [show l.map f = l.map id from List.map_congr_left h, List.map_id]
theorem FOk.memA {f : Floor} (o : FOk f) : ∀ x ∈ f.c.items, 0 ≤ x ∧ x < f.a * f.b := (Ok.fst o).memA
theorem q4 {f : Floor} (o : FOk f) : M_quarter (M_quarter (M_quarter (M_quarter f))) = f := by
  have e : isort ((isort ((isort ((isort (f.c.items.map (qp f.a f.b))).map (qp f.b f.a))).map (qp f.a f.b))).map (qp f.b f.a)) = f.c.items := by
    rw [isort_map, isort_map, isort_map, map_same (fun x hx => (qf o.w1 o.w6 o.h1 o.h6 (o.memA x hx).1 (o.memA x hx).2).q4)]
    exact isort_same (Ok.fst o).lt
  unfold M_quarter
  rw [e]
theorem m2 {f : Floor} (o : FOk f) : M_mirr (M_mirr f) = f := by
  have e : isort ((isort (f.c.items.map (mp f.a))).map (mp f.a)) = f.c.items := by
    rw [isort_map, map_same (fun x hx => (qf o.w1 o.w6 o.h1 o.h6 (o.memA x hx).1 (o.memA x hx).2).m2)]
    exact isort_same (Ok.fst o).lt
  unfold M_mirr
  rw [e]
theorem qm {f : Floor} (o : FOk f) : M_quarter (M_mirr f) = M_mirr (M_quarter (M_quarter (M_quarter f))) := by
  have e : isort ((isort (f.c.items.map (mp f.a))).map (qp f.a f.b)) = isort ((isort ((isort ((isort (f.c.items.map (qp f.a f.b))).map (qp f.b f.a))).map (qp f.a f.b))).map (mp f.b)) := by
    rw [isort_map, isort_map, isort_map, isort_map]
    exact congrArg isort (List.map_congr_left fun x hx => (qf o.w1 o.w6 o.h1 o.h6 (o.memA x hx).1 (o.memA x hx).2).qm)
  unfold M_quarter M_mirr
  rw [e]
def R_floor (f : Floor) : Prop := Ok f.a f.b f.c.items
def P_near (w h _p : Int) : Prop := 1 ≤ w ∧ w ≤ 6 ∧ 1 ≤ h ∧ h ≤ 6
structure P_reached (w h : Int) (s t : List Int) : Prop where
  w1 : 1 ≤ w
  w6 : w ≤ 6
  h1 : 1 ≤ h
  h6 : h ≤ 6
  sn : s.Nodup
  tb : ∀ x ∈ t, 0 ≤ x ∧ x < w * h
  tl : t.length ≤ 100
  sl : s.length ≤ 100
def M_reached (w h : Int) (s t : List Int) : List Int := reached (near w h) s t
theorem P_reached.nn {w h : Int} {s t : List Int} (p : P_reached w h s t) : ∀ x ∈ t, (near w h x).Nodup := fun x hx => (near_iff p.w1 p.w6 p.h1 p.h6 (p.tb x hx).1 (p.tb x hx).2).2
theorem rs_start {nb : Int → List Int} {s t : List Int} (hs : s.Nodup) : RS nb s t 0 (s.filter fun x => decide (x ∈ t)) := ⟨hs.filter _, fun x hx => by
    have := List.mem_filter.mp hx
    exact .start this.1 (of_decide_eq_true this.2), fun i hi => absurd hi (Nat.not_lt_zero _), fun x h1 h2 => List.mem_filter.mpr ⟨h1, decide_eq_true h2⟩⟩
theorem reach_on {nb : Int → List Int} {t th : List Int} {n a : Nat} {p : Int} (h : th[a]? = some p) : reach nb t (n + 1) a th = reach nb t n (a + 1) (th ++ (nb p).filter fun x => decide (x ∈ t) && !decide (x ∈ th)) := by
  rw [reach, h]
theorem reach_end {nb : Int → List Int} {t th : List Int} {n a : Nat} (h : th.length ≤ a) : reach nb t n a th = th := by
  cases n with
  | zero => rfl
  | succ n => rw [reach, List.getElem?_eq_none h]
theorem itm_some {l : List Int} {a : Int} (h0 : 0 ≤ a) (h1 : a < l.length) : l[a.toNat]? = some (itm l a) := by
  rw [itm_get h0 h1]; exact List.getElem?_eq_getElem _
def M_spots (f : Floor) : List (Int × Int) := f.c.items.map fun x => (x % f.a, x / f.a)
def P_spots (f : Floor) : Prop := Fst f
def M_same (f d : Floor) : Bool := decide (f = d)
def P_same (f _d : Floor) : Prop := f.c.items.length ≤ 100
theorem map_at {l : List Int} {f : Int → Int} {i : Int} (h0 : 0 ≤ i) (h1 : i < l.length) : atI (l.map f) i = some (f (itm l i)) := by
  have e := itm_some h0 h1
  have ei : i = ((i.toNat : Nat) : Int) := by omega
  rw [ei]
  refine atI_nat (j := i.toNat) ?_
  rw [List.getElem?_map, e, ← ei]; rfl
theorem same_q {wd hg : Int} {fs : Tup Int} : M_same (M_quarter ⟨wd, hg, fs⟩) ⟨hg, wd, ⟨isort (((M_spots ⟨wd, hg, fs⟩).filter fun _ => true).map fun x => x.1 * hg + hg - 1 - x.2)⟩⟩ = true := decide_eq_true (by
  rw [flt_all]; unfold M_spots; rw [List.map_map]; rfl)
theorem same_m {wd hg : Int} {fs : Tup Int} : M_same (M_mirr ⟨wd, hg, fs⟩) ⟨wd, hg, ⟨isort (((M_spots ⟨wd, hg, fs⟩).filter fun _ => true).map fun x => x.2 * wd + wd - 1 - x.1)⟩⟩ = true := decide_eq_true (by
  rw [flt_all]; unfold M_spots; rw [List.map_map]; rfl)
end Pe

set_option Elab.async false
set_option linter.all false
set_option maxRecDepth 100000
/-! Pe5: ropes turned (k45): words, orders -/
namespace Pe
open PySem L2 Cb Fl
abbrev Rope := Int × Str
def isWord (s : Str) : Prop := s = ("rising" : Str) ∨ s = ("falling" : Str)
def otherW (s : Str) : Str := if s = ("rising" : Str) then ("falling" : Str) else ("rising" : Str)
theorem other_word {s : Str} (h : isWord s) : isWord (otherW s) ∧ otherW (otherW s) = s := by
  rcases h with rfl | rfl
  · exact ⟨.inr rfl, by decide⟩
  · exact ⟨.inl (by decide), by decide⟩
def turnR (f : Int → Int) (r : Rope) : Rope := (f r.1, otherW r.2)
theorem perm_unique {α : Type} {r : α → α → Prop} : ∀ {l m : List α}, l.Perm m → l.Pairwise r → m.Pairwise r → (∀ a ∈ l, ∀ b ∈ l, r a b → r b a → a = b) → l = m
  | [], m, h, _, _, _ => by rw [List.nil_perm.mp h]
  | a :: t, [], h, _, _, _ => absurd h.symm (by simp)
  | a :: t, b :: u, h, h1, h2, as => by
    obtain ⟨a1, a2⟩ := List.pairwise_cons.mp h1
    obtain ⟨b1, b2⟩ := List.pairwise_cons.mp h2
    have e : a = b := by
      rcases List.mem_cons.mp (h.mem_iff.mp List.mem_cons_self) with z | z
      · exact z
      · rcases List.mem_cons.mp (h.mem_iff.mpr (List.mem_cons_self (a := b) (l := u))) with y | y
        · exact y.symm
        · exact as a List.mem_cons_self b (List.mem_cons_of_mem _ y) (a1 b y) (b1 a z)
    subst e
    have := perm_unique (h.cons_inv) a2 b2 fun x hx y hy => as x (List.mem_cons_of_mem _ hx) y (List.mem_cons_of_mem _ hy)
    rw [this]
theorem lt_words : PySem.W.dataLt (.str ("falling" : Str)) (.str ("rising" : Str)) = true := by decide +kernel
theorem alike_w (s t : Str) : PySem.W.alike (.str s) (.str t) = true := rfl
theorem alike_i (s t : Int) : PySem.W.alike (.int s) (.int t) = true := rfl
theorem dat_rope (a : Rope) : (Dat.dat a : PyData) = .tuple [.int a.1, .str a.2] := rfl
theorem le_rope (a b : Rope) : PySem.W.dataLe false (Dat.dat : Rope → PyData) a b = !PySem.W.dataLt (.tuple [.int b.1, .str b.2]) (.tuple [.int a.1, .str a.2]) := rfl
theorem lt_rope (a b : Rope) : PySem.W.dataLt (.tuple [.int a.1, .str a.2]) (.tuple [.int b.1, .str b.2]) = if a.1 = b.1 then (if a.2 = b.2 then false else PySem.W.dataLt (.str a.2) (.str b.2)) else decide (a.1 < b.1) := by
  rw [PySem.W.dataLt_pair (alike_i _ _) (alike_w _ _)]
  have e1 : PyData.eqv (.int a.1) (.int b.1) = decide (a.1 = b.1) := Dat.eqv (α := Int) a.1 b.1
  have e2 : PyData.eqv (.str a.2) (.str b.2) = decide (a.2 = b.2) := Dat.eqv (α := Str) a.2 b.2
  rw [e1, e2, PySem.W.dataLt_int]
  by_cases h1 : a.1 = b.1 <;> by_cases h2 : a.2 = b.2 <;> simp [h1, h2]
theorem le_anti {a b : Rope} (ha : isWord a.2) (hb : isWord b.2) (h1 : PySem.W.dataLe false (Dat.dat : Rope → PyData) a b = true) (h2 : PySem.W.dataLe false (Dat.dat : Rope → PyData) b a = true) : a = b := by
  rw [le_rope, lt_rope] at h1 h2
  obtain ⟨i, s⟩ := a
  obtain ⟨j, t⟩ := b
  dsimp only at *
  by_cases e : i = j
  · subst e
    rw [if_pos rfl] at h1 h2
    have lw := lt_words
    rcases ha with rfl | rfl <;> rcases hb with rfl | rfl
    · rfl
    · rw [if_neg (by decide), lw] at h1
      cases h1
    · rw [if_neg (by decide), lw] at h2
      cases h2
    · rfl
  · have e' : ¬ j = i := fun z => e z.symm
    rw [if_neg e'] at h1
    rw [if_neg e] at h2
    simp only [Bool.not_eq_true', decide_eq_false_iff_not] at h1 h2
    exact absurd (show i = j by omega) e
def RWord (l : List Rope) : Prop := ∀ r ∈ l, isWord r.2
theorem dsort_perm (l : List Rope) : (dsort l).Perm l := List.mergeSort_perm _ _
theorem dsort_le (l : List Rope) : (dsort l).Pairwise (fun a b => PySem.W.dataLe false (Dat.dat : Rope → PyData) a b = true) := PySem.W.sort_pairwise (PySem.W.sortLe_total _ false _) l
theorem dsort_congr {l m : List Rope} (h : l.Perm m) (w : RWord l) : dsort l = dsort m :=
  perm_unique ((dsort_perm l).trans (h.trans (dsort_perm m).symm)) (dsort_le l) (dsort_le m) fun a ha b hb h1 h2 => le_anti (w a ((dsort_perm l).mem_iff.mp ha)) (w b ((dsort_perm l).mem_iff.mp hb)) h1 h2
theorem dsort_word {l : List Rope} (w : RWord l) : RWord (dsort l) := fun r hr => w r ((dsort_perm l).mem_iff.mp hr)
theorem dsort_idem {l : List Rope} (w : RWord l) : dsort (dsort l) = dsort l := dsort_congr (dsort_perm l) (dsort_word w)
theorem dsort_map {l : List Rope} (f g : Rope → Rope) (w : RWord (l.map fun x => f (g x))) : dsort ((dsort (l.map g)).map f) = dsort (l.map fun x => f (g x)) := by
  have p : ((dsort (l.map g)).map f).Perm (l.map fun x => f (g x)) := by
    refine ((dsort_perm _).map f).trans ?_
    rw [List.map_map]
    exact List.Perm.refl _
  refine dsort_congr p fun r hr => w r (p.mem_iff.mp hr)
end Pe

set_option Elab.async false
set_option linter.all false
set_option maxRecDepth 100000
/-! Cb34: sorted(set(xs)), xs numbers or pairs of a text and a number -/
namespace Cb
open PySem PySem.Spec L2
open PyProof.Rows hiding St
/-! ### each once -/
section
variable {α : Type} [DecidableEq α]
def ustep (acc : List α) (x : α) : List α := if x ∈ acc then acc else acc ++ [x]
def uniq (xs : List α) : List α := xs.foldl ustep []
theorem uniq_fold (l acc : List α) (h : acc.Nodup) : (l.foldl ustep acc).Nodup ∧ ∀ x, x ∈ l.foldl ustep acc ↔ x ∈ acc ∨ x ∈ l := by
  induction l generalizing acc with
  | nil => exact ⟨h, fun x => by simp⟩
  | cons a l ih =>
    rw [List.foldl_cons]
    have hk : (ustep acc a).Nodup ∧ ∀ x, x ∈ ustep acc a ↔ x ∈ acc ∨ x = a := by
      unfold ustep
      split
      · next m => exact ⟨h, fun x => ⟨.inl, fun z => z.elim id fun e => e ▸ m⟩⟩
      · next m => exact ⟨List.nodup_append.mpr ⟨h, by simp, fun b hb c hc e => m (by rw [List.mem_singleton.mp hc] at e; exact e ▸ hb)⟩, fun x => by simp⟩
    obtain ⟨h1, h2⟩ := ih _ hk.1
    refine ⟨h1, fun x => ?_⟩
    rw [h2, hk.2, List.mem_cons, or_assoc]
theorem uniq_nodup (xs : List α) : (uniq xs).Nodup := (uniq_fold xs [] .nil).1
theorem mem_uniq {xs : List α} {x : α} : x ∈ uniq xs ↔ x ∈ xs := ((uniq_fold xs [] .nil).2 x).trans (by simp)
theorem uniq_perm {xs ys : List α} (hn : ys.Nodup) (h : ∀ x, x ∈ ys ↔ x ∈ xs) : ys.Perm (uniq xs) :=
  (List.perm_ext_iff_of_nodup hn (uniq_nodup xs)).mpr fun x => (h x).trans mem_uniq.symm
end
theorem perm_map_inv {α β : Type} (f : α → β) : ∀ {l m : List β}, l.Perm m → ∀ {L : List α}, m = L.map f → ∃ L' : List α, L'.Perm L ∧ l = L'.map f := by
  intro l m h
  induction h with
  | nil => intro L e; exact ⟨[], by rw [List.map_eq_nil_iff.mp e.symm], rfl⟩
  | cons x _ ih =>
    intro L e
    cases L with
    | nil => cases e
    | cons y L =>
      obtain ⟨e1, e2⟩ := List.cons.inj e
      obtain ⟨L', p, q⟩ := ih e2
      exact ⟨y :: L', p.cons y, by rw [e1, q]; rfl⟩
  | swap x y l =>
    intro L e
    cases L with
    | nil => cases e
    | cons a L =>
      cases L with
      | nil => cases e
      | cons b L =>
        obtain ⟨e1, e2⟩ := List.cons.inj e
        obtain ⟨e3, e4⟩ := List.cons.inj e2
        exact ⟨b :: a :: L, List.Perm.swap a b L, by rw [e1, e3, e4]; rfl⟩
  | trans _ _ ih1 ih2 =>
    intro L e
    obtain ⟨L1, p1, q1⟩ := ih2 e
    obtain ⟨L2, p2, q2⟩ := ih1 q1
    exact ⟨L2, p2.trans p1, q2⟩

/-! ### numbers -/
def isset (ns : List Int) : List Int := isort (uniq ns)
theorem isset_lt (ns : List Int) : (isset ns).Pairwise (· < ·) := by
  have p : (isset ns).Perm (uniq ns) := List.mergeSort_perm _ _
  have w : (isset ns).Pairwise (· ≤ ·) := by
    have z := List.pairwise_mergeSort (le := fun x y : Int => decide (x ≤ y)) (fun a b c h1 h2 => by simp only [decide_eq_true_eq] at *; omega) (fun a b => by simp only [Bool.or_eq_true, decide_eq_true_eq]; omega) (uniq ns)
    exact z.imp fun h => of_decide_eq_true h
  have n : (isset ns).Nodup := p.nodup_iff.mpr (uniq_nodup ns)
  exact (List.Pairwise.and w n).imp fun h => by omega
theorem mem_isset {ns : List Int} {x : Int} : x ∈ isset ns ↔ x ∈ ns := (List.mergeSort_perm (uniq ns) _).mem_iff.trans mem_uniq
theorem rising_ext {xs ys : List Int} (h1 : xs.Pairwise (· < ·)) (h2 : ys.Pairwise (· < ·)) (h : ∀ x, x ∈ xs ↔ x ∈ ys) : xs = ys :=
  Pe.perm_unique ((List.perm_ext_iff_of_nodup (h1.imp fun z => by omega) (h2.imp fun z => by omega)).mpr h) h1 h2 fun a _ b _ z1 z2 => by omega
theorem isset_of {xs ns : List Int} (h1 : xs.Pairwise (· < ·)) (h : ∀ x, x ∈ xs ↔ x ∈ ns) : isset ns = xs := rising_ext (isset_lt ns) h1 fun x => mem_isset.trans (h x).symm
section
variable {X : Cx}
def rISet (w : World) (K : Kf) : List V → Hp → VK → Prop := fun xs H Q => ∃ (l : Addr) (ns : List Int), xs = [V.ref l] ∧ SqL K H l (ns.map V.int) ∧ ns.length ≤ 4000 ∧
  ∀ a, H a = none → Q (.ref a) (upd H a (SetO w a (fun j => decide (j ∈ ns)) (uniq ns).length))
theorem setr_num {w : World} {h : Heap} {a : Addr} {ns : List Int} {c : Nat} (R : SetR w h a (fun j => decide (j ∈ ns)) c) : c = (uniq ns).length := by
  obtain ⟨o, es, ep, t, ho, hex, hd, g, nd, hm, hb, hf, hn, hr, hl⟩ := R
  have p := uniq_perm (xs := ns) nd fun x => by rw [← hm x]; simp
  rw [← p.length_eq, List.length_map, Array.length_toList, hn]
theorem cr_iset (hc : X.calm = true) : CallR X (.type "set") (rISet X.w X.K) := by
  intro pins s σ H xs us Q I r h
  obtain ⟨l, ns, rfl, hl, hz, q⟩ := h
  rw [Vals.ref1 r]
  obtain ⟨its, rv, pl, hz2⟩ := I.list hl
  have hn : H s.heap.objs.size = none := I.hok.fresh (Nat.le_refl _)
  refine iset_call ns (I.ok.hd hc) pl.isList (by simpa using RZ.intsAre_vals rv) (by unfold scanBound; omega) fun h' tk c R k => ?_
  cases setr_num R
  exact ⟨.ref s.heap.objs.size, _, I.laid (t' := tk) k (Nat.le_refl _) (setO_new R), rfl, q _ hn⟩
end
section
variable {X : Cx} {B F0 : Hp} {Γ : Ev} {k : Bool} {a : Expr} {p1 p2 p3 p4 : Pos}
theorem xsortSetI {as : List Int} (hc : X.calm = true) (ms : X.mg "sorted" = none) (mset : X.mg "set" = none) (ha : XV X B F0 Γ a as) (hl : as.length ≤ 4000) (hb : (uniq as).length < 64) (hg : Gl X "sorted" := by rfl) (hg2 : Gl X "set" := by rfl)
    (hs1 : starEach [.Call (.Name "set" p2) [a] [] p3] X.env = (false, eval (.Call (.Name "set" p2) [a] [] p3) X.env) :: starEach [] X.env := by rfl) (hs2 : starEach [a] X.env = (false, eval a X.env) :: starEach [] X.env := by rfl) :
    XO X B F0 Γ (.Call (.Name "sorted" p1) [.Call (.Name "set" p2) [a] [] p3] [] p4) k (isset as) := fun F σ H Q A q =>
  x_cb (cr_sortedSet hc) hg ms (by decide +kernel) (x_ty (cr_iset hc) hg2 mset (by decide +kernel) (ha F σ H _ A fun F' H' v g ⟨l, vs, e, hl', r⟩ => by
    have ev := reps_ints r
    subst ev
    refine ⟨l, as, by rw [e], SqL.of hl', hl, fun s ns => ?_⟩
    have g2 := Grow.newH (o := SetO X.w s (fun j => decide (j ∈ as)) (uniq as).length) g.fh ns
    refine ⟨s, _, _, rfl, upd_same, hb, fun zs p pw mem _ np => ?_⟩
    have ez : isset as = zs := isset_of pw fun x => (mem x).trans decide_eq_true_iff
    subst ez
    exact x_new (g.trans g2) np (ints_reps _) q) (hs := hs2)) (hs := hs1)
end

/-! ### pairs of a text and a number -/
/-- the set at a, without its tuples -/
def KSetD (P : Program) (w : World) (h : Heap) (a : Addr) (L : List (Addr × List Key)) : Prop := ∃ es ep t, (∃ o, h.get? a = some o ∧ o.ExactSet ∧ o.data = .set es ep t) ∧ es.toList = kRows P w L ∧ Lay t (kZs P w L) ∧
  (w.params.followText "set-order" = true ∨ t.led = true) ∧ L.length * 5 < t.mask * 3 ∧ L.length ≤ 300
def KSO (P : Program) (w : World) (a : Addr) (L : List (Addr × List Key)) : HO := .ext fun h => KSetD P w h a L
theorem kso_new {P : Program} {w : World} {H : Hp} {h : Heap} {a : Addr} {L : List (Addr × List Key)} (R : KSetD P w h a L) : ObjOk P w H h a (KSO P w a L) := by
  have ⟨es, ep, t, ⟨o, ho, r⟩, q⟩ := id R
  exact ⟨R, ⟨o, ho⟩, fun h1 h2 ⟨es', ep', t', ⟨o', ho', r'⟩, q'⟩ k => ⟨es', ep', t', ⟨o', k o' ho', r'⟩, q'⟩⟩
abbrev SK := Str × Int
def skKey (x : SK) : List Key := pairKey x
theorem reps_sk {K : Kf} {H : Hp} : ∀ {vs : List V} {as : List SK}, Reps K H vs as → ∃ ks : List (Addr × SK), vs = ks.map (fun c => V.ref c.1) ∧ ks.map (·.2) = as ∧ ∀ c, c ∈ ks → H c.1 = some (.tup ((skKey c.2).map kV))
  | _, _, .nil => ⟨[], rfl, rfl, fun c hc => nomatch hc⟩
  | _, _, .cons (b := a) r t => by
    obtain ⟨ks, e1, e2, e3⟩ := reps_sk t
    obtain ⟨p, v1, v2, rfl, hp, r1, r2⟩ := r
    have f1 := FK.rep r1
    have f2 := FK.rep r2
    subst f1 f2
    refine ⟨(p, a) :: ks, by rw [e1]; rfl, by rw [List.map_cons, e2], fun c hc => ?_⟩
    rcases List.mem_cons.mp hc with rfl | hc
    · exact hp
    · exact e3 c hc
theorem rep_sk {K : Kf} {H : Hp} {p : Addr} {x : SK} (h : H p = some (.tup ((skKey x).map kV))) : R.rep K H (.ref p) x := ⟨p, _, _, rfl, h, rfl, rfl⟩
section
variable {X : Cx}
def rKSet (P : Program) (w : World) (K : Kf) : List V → Hp → VK → Prop := fun xs H Q => ∃ (l : Addr) (ks : List (Addr × SK)), xs = [V.ref l] ∧ SqL K H l (ks.map fun c => V.ref c.1) ∧ (∀ c, c ∈ ks → H c.1 = some (.tup ((skKey c.2).map kV))) ∧ ks.length ≤ 300 ∧
  ∀ (a : Addr) (L : List (Addr × SK)), H a = none → (∀ p, p ∈ L → p ∈ ks) → (∀ x, x ∈ ks.map (·.2) → x ∈ L.map (·.2)) → (L.map (·.2)).Nodup → Q (.ref a) (upd H a (KSO P w a (L.map fun p => (p.1, skKey p.2))))
theorem sk_refs : ∀ {ks : List (Addr × SK)} {us : List Value}, Vals (ks.map fun c => V.ref c.1) us → us = (ks.map fun c => (c.1, skKey c.2)).map fun p => Value.ref p.1
  | [], _, .nil => rfl
  | c :: ks, _, .cons r t => by cases r; rw [sk_refs t]; rfl
theorem cr_kset (hc : X.calm = true) (hu : X.A.units + 64 < cLine) : CallR X (.type "set") (rKSet X.prog X.w X.K) := by
  intro pins s σ H xs us Q I r h
  obtain ⟨l, ks, rfl, hl, hk, hz, q⟩ := h
  rw [Vals.ref1 r]
  obtain ⟨its, rv, pl, hz2⟩ := I.list hl
  have hn : H s.heap.objs.size = none := I.hok.fresh (Nat.le_refl _)
  refine kset_call (P := X.prog) (w := X.w) (ks.map fun c => (c.1, skKey c.2)) (I.ok.hd hc) pl.isList (by simpa using sk_refs rv) (fun p hp => ?_) (by rw [List.length_map]; exact hz) (by omega) fun h' tk L es ep t S g k => ?_
  · obtain ⟨c, mc, rfl⟩ := List.mem_map.mp hp
    exact key_of I.hok (hk c mc)
  · have sub : ∀ p, p ∈ L → p ∈ ks.map fun c => (c.1, skKey c.2) := fun p hp => List.mem_of_mem_take (g.of p hp)
    obtain ⟨L2, e2, m2⟩ : ∃ L2 : List (Addr × SK), L = L2.map (fun c => (c.1, skKey c.2)) ∧ ∀ c, c ∈ L2 → c ∈ ks := by
      clear g S
      induction L with
      | nil => exact ⟨[], rfl, fun c hc => nomatch hc⟩
      | cons p L ih =>
        obtain ⟨L2, e2, m2⟩ := ih fun p hp => sub p (.tail _ hp)
        obtain ⟨c, mc, ec⟩ := List.mem_map.mp (sub p (.head _))
        exact ⟨c :: L2, by rw [e2, ← ec]; rfl, fun d hd => (List.mem_cons.mp hd).elim (fun e => e ▸ mc) (m2 d)⟩
    subst e2
    refine ⟨.ref s.heap.objs.size, _, I.laid (t' := tk) k (Nat.le_refl _) (kso_new ⟨es, ep, t, S.obj, S.row, S.lay, S.led, S.gap, S.few⟩), rfl, q _ L2 hn m2 (fun x hx => ?_) ?_⟩
    · obtain ⟨c, mc, rfl⟩ := List.mem_map.mp hx
      have z := g.to (c.1, skKey c.2) (by rw [List.take_length]; exact List.mem_map_of_mem mc)
      rw [List.map_map] at z
      obtain ⟨d, md, ed⟩ := List.mem_map.mp z
      exact List.mem_map.mpr ⟨d, md, pairKey_inj _ _ ed⟩
    · have z := S.nod
      rw [List.map_map] at z
      unfold List.Nodup at z ⊢
      rw [List.pairwise_map] at z ⊢
      exact z.imp fun n e => n (by show skKey _ = skKey _; rw [e])
theorem sk_reads {h : Heap} {v : Value} {x : SK} {as : List Addr} (r : Reads h v (Dat.dat x) as) : as = [] := by
  cases r with
  | @tuple _ _ us _ _ _ h1 h2 h3 h4 =>
    generalize us.toList = zs at h4
    cases h4 with
    | cons a b =>
      cases a
      cases b with
      | cons a b => cases a; cases b; rfl
theorem sk_alike (l : List SK) : PySem.W.AllAlike (l.map Dat.dat) := PySem.W.AllAlike.of fun b b' => rfl
theorem sk_sortable (l : List SK) : PySem.W.Sortable (l.map (Dat.dat : SK → PyData)) := PySem.W.Sortable.tuples fun b => ⟨_, _, rfl⟩
def rKSorted (P : Program) (w : World) (K : Kf) : List V → Hp → VK → Prop := fun vs H Q => ∃ (a : Addr) (L : List (Addr × SK)), vs = [V.ref a] ∧ H a = some (KSO P w a (L.map fun c => (c.1, skKey c.2))) ∧ (∀ c, c ∈ L → H c.1 = some (.tup ((skKey c.2).map kV))) ∧
  ∀ (L' : List (Addr × SK)) (ys : List V) (p : Addr), L'.Perm L → Reps K H ys (dsort (L'.map (·.2))) → H p = none → Q (.ref p) (upd H p (.lst ys))
theorem each_refs {P : Value → SK → Prop} : ∀ {L : List (Addr × SK)}, (∀ c, c ∈ L → P (.ref c.1) c.2) → PySem.W.EachIs P (L.map fun c => Value.ref c.1) (L.map (·.2))
  | [], _ => .nil
  | _ :: _, h => .cons (h _ (.head _)) (each_refs fun c hc => h c (.tail _ hc))
theorem cr_ksorted (hc : X.calm = true) (hu : X.A.units + 64 < cLine) : CallR X (.builtin "sorted") (rKSorted X.prog X.w X.K) := by
  intro pins s σ H vs us Q I r h
  obtain ⟨a, L, rfl, ha, hk, q⟩ := h
  obtain ⟨es, ep, t, ⟨o, ho, hex, hd⟩, row, lay, led, gap, few⟩ : KSetD X.prog X.w s.heap a _ := (I.hok a _ ha).1
  rw [Vals.ref1 r]
  have size := sz_row row
  rw [List.length_map] at size gap few
  refine Calls.call_function_entry kind_sorted plain_sorted entry_sorted (args_sorted1 _) ?_
  unfold Builtin.«sorted»
  refine wpAny_bind (m := checkCount "sorted" 1 1 _) (wpAny_pure ?_)
  refine wpAny_bind (collect_set (A := X.A.in1) (I.ok.hd hc) ⟨o, ho, hex.1, hd⟩ (fit_row row lay (by rw [List.length_map]; omega)) (by unfold scanBound; omega) lay.up led fun s1 vs k1 hz g1 o1 pm => ?_)
  rw [row] at pm
  obtain ⟨L', pL, rfl⟩ := perm_map_inv (fun c : Addr × SK => Value.ref c.1) pm (L := L) (by simp [kRows])
  have ln : L'.length = L.length := pL.length_eq
  refine wpAny_bind (wpAny_newList ?_ (by rw [List.length_map, sizeLine_eq]; omega))
  have hoL : (s1.heap.push { cls := .type "list", data := .seq (L'.map fun c => Value.ref c.1).toArray }).get? s1.heap.objs.size = some (seqObj "list" (L'.map fun c => Value.ref c.1).toArray 0) := Heap.get?_push_size _ rfl
  have tup : ∀ c, c ∈ L' → R.rep X.K H (.ref c.1) c.2 := fun c m => rep_sk (hk c (pL.mem_iff.mp m))
  have e1 : PySem.W.EachIs (fun (u : Value) (b : SK) => ∃ x, RelV x u ∧ R.rep X.K H x b) (L'.map fun c => Value.ref c.1) (L'.map (·.2)) := each_refs fun c m => ⟨.ref c.1, rfl, tup c m⟩
  refine wpAny_bind (wpAny_holding (PySem.W.list_sort_data (s := { s1 with heap := _ }) (enc := (Dat.dat : SK → PyData)) hoL e1 (each_refs fun c m => ?_) (sk_alike _) (sk_sortable _) (by rw [List.length_map, sizeLine_eq]; omega) (fun b hb => ?_) fun out lo eo => ?_))
  · obtain ⟨as, rd⟩ := Dp.reads I (Dat.dat c.2) (.ref c.1) (.ref c.1) (Dat.dp (tup c m)) rfl
    cases sk_reads rd
    exact ⟨[], PyProof.Rows.Reads.keeps (fun b u e => Heap.get?_push_of_some _ (k1 b u e)) rd, fun z => nomatch z⟩
  · have := Dat.depth b
    have : Dat.dep SK = 1 := rfl
    have e : X.A.in1.units ≤ X.A.units + 1 := Nat.le_of_eq rfl
    omega
  · obtain ⟨ys, h1, h2⟩ := of_each eo
    obtain ⟨c, hc2⟩ := sortedHeap_at (vs := L'.map fun c => Value.ref c.1) (out := out.toArray) hoL
    have hn : H s1.heap.objs.size = none := I.hok.fresh hz
    have old : ∀ b u, s.heap.get? b = some u → (sortedHeap (s1.heap.push { cls := .type "list", data := .seq (L'.map fun c => Value.ref c.1).toArray }) s1.heap.objs.size (L'.map fun c => Value.ref c.1) out.toArray).get? b = some u := fun b u e => by
      have e2 := k1 b u e
      have lt := Heap.lt_size e2
      rw [sortedHeap_old (Nat.ne_of_lt lt) (by rw [Heap.size_push]; exact Nat.lt_succ_of_lt lt)]
      exact Heap.get?_push_of_some _ e2
    have len : ys.length ≤ sizeLine := by rw [h1.length, lo, List.length_map, sizeLine_eq]; omega
    refine wpAny_pure ⟨_, rfl, ?_⟩
    have J : Inv X pins σ (upd H s1.heap.objs.size (.lst ys)) { s with heap := sortedHeap (s1.heap.push { cls := .type "list", data := .seq (L'.map fun c => Value.ref c.1).toArray }) s1.heap.objs.size (L'.map fun c => Value.ref c.1) out.toArray, gens := s1.gens, drawn := s1.drawn, toks := s1.toks } :=
      I.call (ch := []) (Un.laid old hz hn) (I.hok.laid old hz ⟨len, out, c, h1, hc2⟩) (by rw [g1]; exact I.bare) (fun _ z => nomatch z)
    have es1 : ({ s1 with heap := sortedHeap (s1.heap.push { cls := .type "list", data := .seq (L'.map fun c => Value.ref c.1).toArray }) s1.heap.objs.size (L'.map fun c => Value.ref c.1) out.toArray } : Shared) = { s with heap := sortedHeap (s1.heap.push { cls := .type "list", data := .seq (L'.map fun c => Value.ref c.1).toArray }) s1.heap.objs.size (L'.map fun c => Value.ref c.1) out.toArray, gens := s1.gens, drawn := s1.drawn, toks := s1.toks } := by
      cases s1
      cases s
      cases o1
      rfl
    refine ⟨.ref s1.heap.objs.size, _, es1 ▸ J, rfl, q L' ys _ pL h2 hn⟩
end
section
variable {X : Cx} {B F0 : Hp} {Γ : Ev} {k : Bool} {a : Expr} {p1 p2 p3 p4 : Pos}
/-- the order of such pairs tells them apart -/
def SKo (as : List SK) : Prop := ∀ x, x ∈ as → ∀ y, y ∈ as → PySem.W.dataLe false (Dat.dat : SK → PyData) x y = true → PySem.W.dataLe false (Dat.dat : SK → PyData) y x = true → x = y
def ksset (as : List SK) : List SK := dsort (uniq as)
theorem dsort_perm' {α : Type} [R α] [DecidableEq α] [Dat α] (l : List α) : (dsort l).Perm l := List.mergeSort_perm _ _
theorem dsort_pw {α : Type} [R α] [DecidableEq α] [Dat α] (l : List α) : (dsort l).Pairwise (fun a b => PySem.W.dataLe false (Dat.dat : α → PyData) a b = true) := PySem.W.sort_pairwise (PySem.W.sortLe_total _ false _) l
theorem ksset_of {as bs : List SK} (o : SKo as) (n : bs.Nodup) (h : ∀ x, x ∈ bs ↔ x ∈ as) : dsort bs = ksset as := by
  have p := uniq_perm (xs := as) n h
  exact Pe.perm_unique ((dsort_perm' bs).trans (p.trans (dsort_perm' _).symm)) (dsort_pw _) (dsort_pw _) fun x hx y hy => o x ((h x).mp ((dsort_perm' bs).mem_iff.mp hx)) y ((h y).mp ((dsort_perm' bs).mem_iff.mp hy))
theorem xsortSetK {as : List SK} (hc : X.calm = true) (hu : X.A.units + 64 < cLine) (ms : X.mg "sorted" = none) (mset : X.mg "set" = none) (ha : XV X B F0 Γ a as) (hl : as.length ≤ 300) (o : SKo as) (hg : Gl X "sorted" := by rfl) (hg2 : Gl X "set" := by rfl)
    (hs1 : starEach [.Call (.Name "set" p2) [a] [] p3] X.env = (false, eval (.Call (.Name "set" p2) [a] [] p3) X.env) :: starEach [] X.env := by rfl) (hs2 : starEach [a] X.env = (false, eval a X.env) :: starEach [] X.env := by rfl) :
    XO X B F0 Γ (.Call (.Name "sorted" p1) [.Call (.Name "set" p2) [a] [] p3] [] p4) k (ksset as) := fun F σ H Q A q =>
  x_cb (cr_ksorted hc hu) hg ms (by decide +kernel) (x_ty (cr_kset hc hu) hg2 mset (by decide +kernel) (ha F σ H _ A fun F' H' v g ⟨l, vs, e, hl', r⟩ => by
    obtain ⟨ks, e1, e2, e3⟩ := reps_sk r
    have kl : ks.length = as.length := by rw [← e2, List.length_map]
    refine ⟨l, ks, by rw [e], SqL.of (by rw [← e1]; exact hl'), e3, by omega, fun s L ns h1 h2 nd => ?_⟩
    have g2 := Grow.newH (o := KSO X.prog X.w s (L.map fun p => (p.1, skKey p.2))) g.fh ns
    refine ⟨s, L, rfl, upd_same, fun c m => g2.hh _ _ (e3 c (h1 c m)), fun L' ys p pm rp np => ?_⟩
    have pm2 := pm.map (fun c : Addr × SK => c.2)
    have ez : dsort (L'.map (·.2)) = ksset as := ksset_of o (pm2.nodup_iff.mpr nd) fun x => by
      rw [pm2.mem_iff]
      refine ⟨fun z => ?_, fun z => h2 x (e2 ▸ z)⟩
      obtain ⟨c, m, rfl⟩ := List.mem_map.mp z
      exact e2 ▸ List.mem_map_of_mem (f := (·.2)) (h1 c m)
    rw [ez] at rp
    exact x_new ((g.trans g2).trans (Grow.tups (g.trans g2).fh)) np (reps_lift (g.trans g2).fh rp) q) (hs := hs2)) (hs := hs1)
end
end Cb

set_option Elab.async false
set_option linter.all false
set_option maxRecDepth 100000
/-! Cb36: for k, v in d.items(), d new, its keys tuples -/
namespace Cb
open PySem PySem.Spec L2
open PyProof.Rows hiding St
section
variable {X : Cx} {pins : List (Addr × Obj)} {σ : St} {H : Hp} {s : Shared} {d : Addr} {o : Obj}
theorem locked_dt {kvs : List (List Key × V)} (I : Inv X pins σ H s) (h : H d = some (.frz o (.dT kvs))) :
    (d == sysModules) = false ∧ s.heap.get? d = some o ∧ o.ExactDict ∧ ∃ (es : Array DictEntry) (ep : Nat), o.data = .dict es ep ∧ es.size = kvs.length ∧
      ∀ (i : Nat) (c : List Key) (v : V), kvs[i]? = some (c, v) → ∃ (en : DictEntry) (b : Addr), es[i]? = some en ∧ en.key = .ref b ∧ RelV v en.val ∧ H b = some (.tup (c.map kV)) := by
  obtain ⟨hd, z, hs, xs, pr, o', es, ep, ho, hx, hdt, he, -⟩ := I.hok d _ h
  rw [hd] at ho
  cases ho
  have l1 : es.size = xs.length := size_of_entries he
  have l2 : kvs.length = xs.length := Paired.length pr
  refine ⟨hs, hd, hx, es, ep, hdt, by omega, fun i c v e => ?_⟩
  obtain ⟨b, hb, e1, e2, e3⟩ := L2.paired_get pr e
  have q := entry_at he i
  rw [hb] at q
  exact ⟨_, b.2.1, q, rfl, e3, e2⟩
end
def ItsT (d : Addr) (o : Obj) (kvs : List (List Key × V)) : It :=
  ⟨fun i H => H d = some (.frz o (.dT kvs)) ∧ i < kvs.length, fun i H x H' => ∃ T c v b, kvs[i]? = some (c, v) ∧ x = .ref T ∧ H T = none ∧ H b = some (.tup (c.map kV)) ∧ H' = upd H T (.tup [.ref b, v]), fun i H => H d = some (.frz o (.dT kvs)) ∧ kvs.length ≤ i⟩
theorem turn_itemsT {P : Program} {w : World} {K : PySem.W.Frag} {d : Addr} {o : Obj} {es0 : Array DictEntry} {ep : Nat} {kvs : List (List Key × V)} {elts : List Expr} {kk : Nat} {tpos : Pos} (it : Addr) (hod : o.data = .dict es0 ep) :
    Turn P w K (.Tuple elts kk tpos) (ItsT d o kvs) [it] it (fun i h => ∃ ok ov, IsItemIter h it d i kvs.length ep ok ov) where
  mem := by simp
  obj := fun i h ⟨ok, ov, e⟩ b hb => by
    cases List.mem_singleton.mp hb
    exact ⟨_, e, fun v z => (nomatch z)⟩
  keep := fun i h h' ⟨ok, ov, e⟩ k => ⟨ok, ov, k it (by simp) _ e⟩
  item := by
    intro X hP hw hK hc i pins s σ H E I hf st hg
    subst hP hw hK
    obtain ⟨hd, hi⟩ := hg
    obtain ⟨hs, hgd, hx, es, ep', hdt, hsz, ent⟩ := locked_dt I hd
    obtain ⟨rfl, rfl⟩ := dict_ep hod hdt
    obtain ⟨⟨c, v⟩, hkv⟩ : ∃ p, kvs[i]? = some p := ⟨kvs[i], List.getElem?_eq_getElem hi⟩
    obtain ⟨en, b, hen, hk, hv, hb⟩ := ent i c v hkv
    obtain ⟨ok, ov, he⟩ := st
    rw [← hsz] at he
    have il : i < es.size := by rw [hsz]; exact hi
    have e1 : es[i] = en := by rw [Array.getElem?_eq_getElem il] at hen; exact Option.some.inj hen
    have lt : it < s.heap.objs.size := Heap.lt_size he
    refine wpAny_pyNext_items_item_raw he ⟨o, hgd, hx, hdt⟩ il fun h' ho hT hz kp => ⟨_, rfl, wpAny_letOwnedTupleGo_items (s := { s with heap := h' }) ho fun h'' he' sb => ?_⟩
    rw [e1, hk] at hT
    have hT2 := (sb.2 _ (Nat.ne_of_gt lt)).trans hT
    have new : ObjOk X.prog X.w (upd H s.heap.objs.size (.tup [.ref b, v])) h'' s.heap.objs.size (.tup [.ref b, v]) := ⟨by show 2 ≤ sizeLine; decide, [.ref b, en.val], .cons rfl (.cons hv .nil), ⟨_, hT2, rfl, _, rfl⟩⟩
    have I1 : Inv X pins σ (upd H s.heap.objs.size (.tup [.ref b, v])) { s with heap := h'' } :=
      I.turnedNew (t' := s.toks) (ch := [it]) (fun c ob hcb e => (sb.2 c (by simpa using hcb)).trans (kp c ob (by simpa using hcb) e)) hf (Nat.le_refl _) new
    refine ⟨.ref s.heap.objs.size, _, I1, rfl, ⟨_, c, v, b, hkv, rfl, I.hok.fresh (Nat.le_refl _), hb, rfl⟩, ⟨_, _, by rw [← hsz]; exact he'⟩, fun c hcm => ?_⟩
    cases List.mem_singleton.mp hcm
    rw [upd_ne (Nat.ne_of_lt lt)]
    exact (hf it (by simp)).1
  done := by
    intro X hP hw hK hc i pins s σ H E I hf st hg
    subst hP hw hK
    obtain ⟨hd, hi⟩ := hg
    obtain ⟨f0, f1, f2, f3, f4, f5⟩ := hf it (by simp)
    obtain ⟨hs, hgd, hx, es, ep', hdt, hsz, ent⟩ := locked_dt I hd
    obtain ⟨rfl, rfl⟩ := dict_ep hod hdt
    obtain ⟨ok, ov, he⟩ := st
    rw [← hsz] at he
    exact wpAny_pyNext_items_end_raw (I.ok.hd hc) he ⟨o, hgd, hx, hdt⟩ (by omega) fun h' eb => ⟨rfl, I.turned (t' := s.toks) (fun b ob hb e => eb b ob hb e) f0 f1 f3 f4 f5⟩
  self := fun A i s Q E ⟨_, _, e⟩ h => wpAny_pyIter_itemiter e h
/-- .. the dict is locked from here on -/
def iItemsL (td : TE) : TI := fun σ H R => td σ H fun x H1 => ∃ d kvs, x = .ref d ∧ H1 d = some (.dT kvs) ∧ ∀ od, R (ItsT d od kvs) (upd H1 d (.frz od (.dT kvs)))
section
variable {X : Cx} {e : Expr} {td : TE} {apos cpos tpos : Pos} {elts : List Expr} {kk : Nat}
theorem pi_itemsL (he : PE X e td) (hbase : attributeBase e "items" X.env (eval e X.env) = eval e X.env := by rfl) (hline : (apos.endLine == cpos.line) = true := by rfl) :
    PI X (.Tuple elts kk tpos) (.Call (.Attribute e "items" apos) [] [] cpos) (iItemsL td) := by
  refine ⟨fun pins s σ H R I h => ?_⟩
  refine wpAny_Call_method (T := "dict") (id := "dict.items") hbase rfl hline F.plainAttrs_dict F.slot_dict_items F.type_dict_items (thn (he.run pins s σ H _ I h) fun u s1 ⟨x, H1, I1, rx, d, kvs, ex, hd, q⟩ => ?_)
  subst ex
  obtain rfl : u = Value.ref d := rx
  obtain ⟨o, J⟩ := I1.lock hd trivial
  obtain ⟨hs, hgd, hx, es, ep, hdt, hsz, ent⟩ := locked_dt J (upd_same (H := H1) (a := d))
  have raw : s1.heap.DictRaw d es ep := ⟨o, hgd, hx, hdt⟩
  refine ⟨raw.typeIs, fun b eb => ⟨o, by cases eb; exact hgd, hx.2.1⟩, ?_⟩
  have I2 : Inv X pins σ (upd H1 d (.frz o (.dT kvs))) { s1 with heap := s1.heap.push { cls := .type "dict_items", data := .fields #[.ref d] } } := J.kept (t' := s1.toks) fun b ob q => Heap.get?_push_of_some _ q
  have fin : wpAny (model X.prog X.w) X.A (pyIter (.ref s1.heap.objs.size)) (PIE X pins σ (.Tuple elts kk tpos) R) X.xe { s1 with heap := s1.heap.push { cls := .type "dict_items", data := .fields #[.ref d] } } := by
    refine wpAny_pyIter_items_raw (d := d) (es := es) (ep := ep) ⟨_, Heap.get?_push_size _ rfl, rfl, rfl⟩ ⟨o, Heap.get?_push_of_some _ hgd, hx, hdt⟩ (pi_one (tk := s1.toks) I2 _ (turn_itemsT _ hdt) ⟨.none, .none, ?_⟩ (q o))
    rw [← hsz]
    exact Heap.get?_push_size _ rfl
  show wpAny _ _ (callWith cpos (.builtin "dict.items") [.ref d] [] []) _ X.xe s1
  exact method_meetsIn F.slot_dict_items F.entry_dict_items rfl (PySem.evalArgs_none ⟨rfl, raw.typeIs, F.args_dict_items_1 _, _, DT.meetsItems (es := es) (ep := ep) hs, ⟨raw, fin⟩⟩)
end
/-! ### typed -/
section
variable {X : Cx} {B F0 : Hp} {Γ : Ev} {k : Bool} {e : Expr} {β : Type} [R β] {d : Dct SK β} {apos cpos tpos : Pos} {elts : List Expr} {kk : Nat}
theorem xi_itemsO (he : XO X B F0 Γ e k d) (hbase : attributeBase e "items" X.env (eval e X.env) = eval e X.env := by rfl) (hline : (apos.endLine == cpos.line) = true := by rfl) :
    XI X B F0 Γ (.Tuple elts kk tpos) (.Call (.Attribute e "items" apos) [] [] cpos) k d.kvs := fun F σ H _ A q =>
  WI.of (pi_itemsL can_e hbase hline) (he F σ H _ A fun F' H' v O g so n ⟨p, ws, ev, hO, pd⟩ => by
    have hp : H' p = some (.dT (ws.map fun kv => (pairKey kv.1, kv.2))) := so _ _ hO
    obtain ⟨n1, n2, -⟩ := n _ _ hO
    refine ⟨p, _, ev, hp, fun od => ?_⟩
    have sF : Same F' (upd F' p (.frz od (.dT (ws.map fun kv => (pairKey kv.1, kv.2))))) := sub_upd n2
    have g2 : Grow F H (upd F' p (.frz od (.dT (ws.map fun kv => (pairKey kv.1, kv.2))))) (upd H' p (.frz od (.dT (ws.map fun kv => (pairKey kv.1, kv.2))))) := by
      refine ⟨fun b u hb => ?_, g.ff.trans sF, fun b u hb => ?_, fun b u hb => ?_⟩
      · rw [upd_ne (ne_of_none hb n1)]; exact g.hh _ _ hb
      · by_cases eb : b = p
        · subst eb; rw [upd_same] at hb ⊢; exact hb
        · rw [upd_ne eb] at hb ⊢; exact g.fh _ _ hb
      · by_cases eb : b = p
        · subst eb; exact .inr (.inl n1)
        · rw [upd_ne eb] at hb; exact g.nw _ _ hb
    have ln : ws.length = d.kvs.length := Paired.length pd
    refine q _ _ _ g2 ⟨fun i hi F1 H1 s1 s2 => ⟨⟨s2 _ _ (s1 _ _ upd_same), by rw [List.length_map, ln]; exact hi⟩, fun u H2 hy => ?_⟩, fun i hi F1 H1 s1 s2 => ⟨s2 _ _ (s1 _ _ upd_same), by rw [List.length_map, ln]; exact Nat.le_of_eq hi.symm⟩⟩
    obtain ⟨T, c, w, b, hkv, rfl, nT, hb, rfl⟩ := hy
    rw [List.getElem?_map] at hkv
    obtain ⟨⟨c0, w0⟩, hw, hc⟩ := Option.map_eq_some_iff.mp hkv
    cases hc
    obtain ⟨⟨c1, y⟩, hy2, e1, ry⟩ := L2.paired_get pd hw
    have ex : d.kvs[i] = (c1, y) := by rw [List.getElem?_eq_getElem hi] at hy2; exact Option.some.inj hy2
    have e1' : c0 = c1 := e1
    subst e1'
    rw [ex]
    -- all tuples there are frozen with it
    have gt := Grow.tups (F := F1) (H := H1) s2
    have kb : R.rep X.K (rf k B (join F1 (tups H1))) (.ref b) c0 := by
      refine ⟨b, _, _, rfl, ?_, rfl, rfl⟩
      exact rf_tup _ _ (tups_at (join_right s2 (tups_sub H1) _ _ (tups_at hb rfl)) rfl)
    have vb : R.rep X.K (rf k B (join F1 (tups H1))) w0 y := R.mono (rf_mono ((sF.trans s1).trans gt.ff)) ry
    obtain ⟨F2, g3, r3⟩ := pair_new gt.fh nT kb vb
    exact ⟨F2, gt.trans g3, r3⟩)
end
end Cb

set_option Elab.async false
set_option linter.all false
set_option maxRecDepth 100000
/-! Cb37: == and != of two equal dicts by ints whose values are plain data -/
namespace Cb
open PySem PySem.Spec L2
open PyProof.Rows hiding St
/-- x and y are dicts with the same keys and equal data -/
def SameDK (K : PySem.W.Frag) (H : Hp) (x y : V) : Prop := ∃ a b ks ls, x = .ref a ∧ y = .ref b ∧ H a = some (.dK ks) ∧ H b = some (.dK ls) ∧ ks.length = ls.length ∧
  ∀ p ∈ ks, ∃ u d, valV ls p.1 = some u ∧ Dp K H p.2 d ∧ Dp K H u d ∧ SeqAt.shaped d = true ∧ PyData.eqv d d = true
def rEqDK (K : PySem.W.Frag) : R2 := fun x y H Q => SameDK K H x y ∧ Q (.bl true) H
def rNeDK (K : PySem.W.Frag) : R2 := fun x y H Q => SameDK K H x y ∧ Q (.bl false) H
section
variable {X : Cx} {pins : List (Addr × Obj)} {σ : St} {H : Hp} {s : Shared}
theorem hits_dk (I : Inv X pins σ H s) {A : Around} (hu : A.in1.units + 64 < cLine) {ls : List (Key × V)} {vb : List (Key × Value)} (rb : KV ls vb) {ks : List (Key × V)} {va : List (Key × Value)} (ra : KV ks va) :
    (∀ p ∈ ks, ∃ u d, valV ls p.1 = some u ∧ Dp X.K H p.2 d ∧ Dp X.K H u d ∧ SeqAt.shaped d = true ∧ PyData.eqv d d = true) → PySem.W.KeqHits A.in1 s vb va true := by
  unfold KV at ra
  induction ra with
  | nil => intro _; exact .nil
  | @cons p q ps qs h t k =>
    intro hp
    obtain ⟨h1, h2⟩ := h
    obtain ⟨u, d, e, d1, d2, sd, eq⟩ := hp p List.mem_cons_self
    have rr : RelO (some u) (valueAt vb p.1) := by rw [← e]; exact rb.val p.1
    obtain ⟨y, hy, ry⟩ := rr.some_of
    obtain ⟨key, v⟩ := q
    have h1' : p.1 = key := h1
    rw [h1'] at hy
    obtain ⟨as, r1⟩ := Dp.reads I d _ _ d1 h2
    obtain ⟨bs, r2⟩ := Dp.reads I d _ _ d2 ry
    have z := PySem.W.keq_at (A := A) r1 r2 sd sd hu
    rw [eq] at z
    show PySem.W.KeqHits A.in1 s vb ((key, v) :: qs) (true && true)
    exact .hit hy z (k fun p' hm => hp p' (List.mem_cons_of_mem _ hm))
theorem dk_two (I : Inv X pins σ H s) {x y : V} {v u : Value} (h : SameDK X.K H x y) (hu : X.A.units + 65 < cLine) (rx : RelV x v) (ry : RelV y u) : ∃ a b va vb, v = .ref a ∧ u = .ref b ∧ (a == sysModules) = false ∧ (b == sysModules) = false ∧ s.heap.DictOf (mixKind X.prog X.w) a va ∧ s.heap.DictOf (mixKind X.prog X.w) b vb ∧ va.length = vb.length ∧ PySem.W.KeqHits X.A.in1 s vb va true := by
  obtain ⟨a, b, ks, ls, rfl, rfl, ha, hb, hl, hp⟩ := h
  cases (show v = Value.ref a from rx)
  cases (show u = Value.ref b from ry)
  obtain ⟨_, ya, va, ra, da⟩ := (show ObjOk X.prog X.w H s.heap a (.dK ks) from I.hok a _ ha)
  obtain ⟨_, yb, vb, rb, db⟩ := (show ObjOk X.prog X.w H s.heap b (.dK ls) from I.hok b _ hb)
  exact ⟨a, b, va, vb, rfl, rfl, ya, yb, da, db, by rw [← ra.length, ← rb.length]; exact hl, hits_dk I (by show X.A.units + 1 + 64 < cLine; omega) rb ra hp⟩
end
section
variable {X : Cx}
theorem op_eqDK (hu : X.A.units + 65 < cLine) : OpR X (compareOp .Eq) (rEqDK X.K) := by
  intro pins s σ H x y v u Q I rx ry ⟨h, q⟩
  obtain ⟨a, b, va, vb, rfl, rfl, ya, yb, da, db, hl, hits⟩ := dk_two I h hu rx ry
  refine PySem.W.keq_eq ya yb da db (by omega) (fun _ => hits) ?_
  rw [show (va.length == vb.length && true) = true from by rw [hl]; simp]
  exact ⟨.bl true, H, I, rfl, q⟩
theorem op_neDK (hu : X.A.units + 65 < cLine) : OpR X (compareOp .NotEq) (rNeDK X.K) := by
  intro pins s σ H x y v u Q I rx ry ⟨h, q⟩
  obtain ⟨a, b, va, vb, rfl, rfl, ya, yb, da, db, hl, hits⟩ := dk_two I h hu rx ry
  refine PySem.W.keq_ne ya yb da db (by omega) (fun _ => hits) ?_
  rw [show (!(va.length == vb.length && true)) = false from by rw [hl]; simp]
  exact ⟨.bl false, H, I, rfl, q⟩
theorem dGet_own {κ β : Type} [DecidableEq κ] : ∀ {l : List (κ × β)}, (l.map (·.1)).Nodup → ∀ p ∈ l, dGet l p.1 = some p.2
  | [], _, _, h => nomatch h
  | q :: l, n, p, h => by
    rw [List.map_cons, List.nodup_cons] at n
    rcases List.mem_cons.mp h with rfl | h
    · unfold dGet; rw [List.find?_cons, decide_eq_true rfl]; rfl
    · have e : ¬ q.1 = p.1 := fun e => n.1 (e ▸ List.mem_map_of_mem h)
      have z := dGet_own n.2 p h
      unfold dGet at z ⊢
      rw [List.find?_cons, decide_eq_false e]
      exact z
section
variable {β : Type} [R β] [DecidableEq β] [Dat β] {d : Dct Int β}
theorem pdK {K : Kf} {F : Hp} {ws : List (Int × V)} {kvs : List (Int × β)} (r : PD K F ws kvs) : ∀ p ∈ ws, ∃ b, (p.1, b) ∈ kvs ∧ R.rep K F p.2 b := by
  induction r with
  | nil => intro p h; exact nomatch h
  | @cons q z qs zs h t k =>
    intro p hp
    rcases List.mem_cons.mp hp with rfl | hp
    · exact ⟨z.2, by rw [h.1]; exact .head _, h.2⟩
    · obtain ⟨b, h1, h2⟩ := k p hp
      exact ⟨b, .tail _ h1, h2⟩
theorem same_dk {K : Kf} {H : Hp} {v w : V} (nd : (d.kvs.map (·.1)).Nodup) (ok : ∀ p ∈ d.kvs, Dat.ok p.2) (hd : Dat.dep β ≤ 64) (r1 : R.rep K H v d) (r2 : R.rep K H w d) : SameDK K H v w := by
  obtain ⟨a, ks, rfl, ha, pa⟩ := r1
  obtain ⟨b, ls, rfl, hb, pb⟩ := r2
  refine ⟨a, b, _, _, rfl, rfl, ha, hb, by rw [List.length_map, List.length_map, Paired.length pa, Paired.length pb], fun p hp => ?_⟩
  obtain ⟨q, hq, rfl⟩ := List.mem_map.mp hp
  obtain ⟨x, hx, rx⟩ := pdK pa q hq
  have g := dGet_own nd _ hx
  rcases pb.get (c := q.1) with ⟨h1, _⟩ | ⟨y, u, h1, h2, h3⟩
  · rw [h1] at g; cases g
  · rw [h1] at g
    cases g
    refine ⟨u, Dat.dat x, ?_, Dat.dp rx, Dat.dp h3, shaped (ok _ hx) hd, by rw [Dat.eqv]; simp⟩
    show valV (ls.map fun kv => ((Sum.inl kv.1 : Key), kv.2)) (Sum.inl q.1) = some u
    rw [valV_eq, dGet_map (fun c => (Sum.inl c : Key)) (fun a b q => Sum.inl.inj q)]
    exact h2
theorem cx_eqDK (hu : X.A.units + 65 < cLine) (nd : (d.kvs.map (·.1)).Nodup) (ok : ∀ p ∈ d.kvs, Dat.ok p.2) (hd : Dat.dep β ≤ 64 := by decide) : CmpX X .Eq (some d) (some d) true := ⟨_, op_eqDK hu, fun H v w Q r1 r2 q => ⟨same_dk nd ok hd r1 r2, q⟩⟩
theorem cx_neDK (hu : X.A.units + 65 < cLine) (nd : (d.kvs.map (·.1)).Nodup) (ok : ∀ p ∈ d.kvs, Dat.ok p.2) (hd : Dat.dep β ≤ 64 := by decide) : CmpX X .NotEq (some d) (some d) false := ⟨_, op_neDK hu, fun H v w Q r1 r2 q => ⟨same_dk nd ok hd r1 r2, q⟩⟩
end
end
section
variable {X : Cx} {B F0 : Hp} {Γ : Ev} {k : Bool} {D : Ends} {ss : List Stmt}
variable {κ β : Type} [R κ] [DecidableEq κ] [DK κ] [R β]
/-- an owned dict is frozen -/
theorem AS.freezeD {as : Dct κ β} {K : Kf} {F : Hp} {σ : St} {H : Hp} {i : Nat} (A : AS K B F0 Γ F σ H) (e : Γ[i]? = some (ownd k as)) : ∃ F', AS K B F0 (Γ.set i (vl k as)) F' σ H := by
  obtain ⟨⟨O, s, so, d, nt⟩, sF, sB, s0, bf⟩ := A
  obtain ⟨o, O1, Or, e1, h1, h2, h3, ⟨v, rfl, p, vs, rfl, ep, r⟩, h5⟩ := s.focus e
  have pO : O p = some (DK.ho vs) := h1 _ _ ep
  have pH : H p = some (DK.ho vs) := so _ _ pO
  have dp := d p (by rw [pO]; simp)
  have f1 : Same F (upd F p (DK.ho vs)) := sub_upd dp.1
  have hOr : Or p = none := (h3 p).resolve_left (by rw [ep]; simp)
  have hσ : σ.set i (some (.ref p)) = σ := by
    apply List.ext_getElem?
    intro j
    by_cases hj : i = j
    · subst hj
      have hl : i < σ.length := by
        rcases Nat.lt_or_ge i σ.length with z | z
        · exact z
        · rw [List.getElem?_eq_none z] at e1; cases e1
      rw [List.getElem?_set_self hl]; exact e1.symm
    · rw [List.getElem?_set_ne hj]
  have key := h5 (upd F p (DK.ho vs)) (vl k as) (some (.ref p)) (fun _ => none) Or f1 ⟨.ref p, rfl, p, vs, rfl, rf_new upd_same dp.2, r.mono (rf_mono f1)⟩ (fun _ _ z => nomatch z) (Same.refl _) fun x => .inl rfl
  rw [hσ] at key
  refine ⟨upd F p (DK.ho vs), ⟨Or, key, h2.trans so, fun x hx => ?_, fun x o q => nt _ _ (h2 _ _ q)⟩, fun b u q => ?_, sB, s0.trans f1, bf.trans f1⟩
  · have hO : O x ≠ none := fun z => hx (by
      cases w : Or x with
      | none => rfl
      | some u => rw [h2 _ _ w] at z; cases z)
    refine ⟨?_, (d x hO).2⟩
    rw [upd_ne (fun z => by subst z; exact hx hOr)]
    exact (d x hO).1
  · by_cases z : b = p
    · subst z; rw [upd_same] at q; cases q; exact pH
    · rw [upd_ne z] at q; exact sF _ _ q
theorem ts_freezeD {as : Dct κ β} (i : Nat) (hΓ : Γ[i]? = some (ownd k as)) (ht : TSs X B F0 (Γ.set i (vl k as)) ss D) : TSs X B F0 Γ ss D := fun F σ H A =>
  let ⟨F', A'⟩ := A.freezeD hΓ
  ht F' σ H A'
end
end Cb

set_option Elab.async false
set_option linter.all false
set_option maxRecDepth 100000
/-! Cb38: a written dict of the module, by ints, whose values are written pairs of ints -/
namespace Cb
open PySem PySem.Spec L2
open PyProof.Rows hiding St
def KTup (K : PySem.W.Frag) (p : Addr) (x y : Int) : Prop := ∃ (d : Option Addr) (n : Nat) (sl : Array (Option Value)) (t u : Tok), K.lookup p = some ⟨.type "tuple", d, .seq #[.int x t, .int y u] n, sl⟩
def PairsK (K : PySem.W.Frag) (a : Addr) (t : List (Int × Int × Int)) : Prop := ∃ (es : Array DictEntry) (n : Nat), K.lookup a = some ⟨.type "dict", none, .dict es n, #[]⟩ ∧ (∀ e ∈ es.toList, ∃ i u, e.key = .int i u ∧ e.hash = hashInt i) ∧
  ∀ q ∈ t, ∃ p, findBy Value.isInt es q.1 = some (.ref p) ∧ KTup K p q.2.1 q.2.2
structure KP where
  x : Int
  y : Int
instance : R KP := ⟨fun K _ v a => ∃ p, v = .ref p ∧ KTup K p a.x a.y, fun _ h => h⟩
def rIxKI (K : PySem.W.Frag) : R2 := fun x y H Q => ∃ (a : Addr) (i : Int) (p : Addr) (es : Array DictEntry) (n : Nat), x = .ref a ∧ y = .int i ∧ K.lookup a = some ⟨.type "dict", none, .dict es n, #[]⟩ ∧ (∀ e ∈ es.toList, ∃ i u, e.key = .int i u ∧ e.hash = hashInt i) ∧
  findBy Value.isInt es i = some (.ref p) ∧ Q (.ref p) H
section
variable {X : Cx}
theorem ix_kint : IxR X (rIxKI X.K) := by
  intro value slice pins s σ H x y v u Q I rx ry h hs
  obtain ⟨a, i, p, es, n, rfl, rfl, hl, hk, hf, q⟩ := h
  obtain rfl : v = Value.ref a := rx
  obtain ⟨t, rfl⟩ := (show ∃ t, u = Value.int i t from ry)
  have hm : s.heap.MapOf (intKind X.prog X.w) a (fun k => findBy Value.isInt es k) := ⟨_, es, n, I.kIn _ _ hl, ⟨rfl, rfl, rfl⟩, rfl, fun e he => by
    obtain ⟨j, u, e1, e2⟩ := hk e (Array.mem_toList_iff.mpr he)
    exact ⟨j, by rw [e1]; exact intKind_is X.prog X.w j u, e2⟩, fun _ => rfl⟩
  exact tail_any hm.typeIs F.slot_dict_getitem.lookup (wpAny_getItem_of (intKind_is X.prog X.w i t) hm hf ⟨.ref p, H, I.tok _, rfl, q⟩) hs
variable {B F0 : Hp} {Γ : Ev} {k : Bool} {i : Expr} {pos np : Pos} {n : Str} {t : List (Int × Int × Int)} {c x y : Int}
theorem x_tab (hT : ∃ a, X.mg n = some (.ref a) ∧ PairsK X.K a t) (hi : XV X B F0 Γ i c) (h : (c, x, y) ∈ t) (hg : Gl X n := by rfl) (hd : (n == ("__debug__" : Str)) = false := by decide) (hs : PlainIx i := by exact fun _ _ => rfl) :
    XE X B F0 Γ (.Subscript (.Name n np) i pos) k (KP.mk x y) := fun F σ H Q A q => by
  obtain ⟨a, hm, es, m, hl, hk, ht⟩ := hT
  obtain ⟨p, hf, kt⟩ := ht _ h
  exact WE.of (pe_ix ix_kint (pe_glob hg hm (v := .ref a) rfl hd) can_e hs) (hi F σ H _ A fun F' H' w g r => ⟨a, c, p, es, m, rfl, r, hl, hk, hf, q F' H' (.ref p) g ⟨p, rfl, kt⟩⟩)
theorem tg_kp {t1 t2 : Expr} {kk : Nat} {p : Pos} {is1 is2 : List Nat} {U1 U2 : Ev → Ev} (hc : X.calm = true) (h1 : TGt X B t1 k x is1 U1) (h2 : TGt X B t2 k y is2 U2)
    (hs : (assignEach [t1, t2] X.env).map (·.2) = assign t1 X.env :: (assignEach [t2] X.env).map (·.2) := by rfl) (hs2 : (assignEach [t2] X.env).map (·.2) = assign t2 X.env :: (assignEach [] X.env).map (·.2) := by rfl)
    (hn : (assignEach [t1, t2] X.env).length = 2 := by rfl) (hst : (assignEach [t1, t2] X.env).findIdx? (·.1) = none := by rfl) :
    TGt X B (.Tuple [t1, t2] kk p) k (KP.mk x y) (is1 ++ is2) (fun Γ => U2 (U1 Γ)) := fun F0 Γ F σ H v Q A r q => by
  obtain ⟨pa, ev, d, n, sl, t, u, hl⟩ := r
  refine WG.of (pg_tup hc (pgs_cons can_g (pgs_cons can_g pgs_nil hs2) hs) hn hst) ⟨pa, [.int x, .int y], ev, .inr ⟨_, _, n, hl, rfl, rfl, by show 2 ≤ sizeLine; decide, .cons ⟨t, rfl⟩ (.cons ⟨u, rfl⟩ .nil)⟩, rfl, .int x, [.int y], rfl, ?_⟩
  refine h1 F0 Γ F σ H (.int x) _ A rfl fun σ1 g1 l1 A1 => ⟨.int y, [], rfl, h2 F0 _ F σ1 H (.int y) _ A1 rfl fun σ2 g2 l2 A2 => ⟨rfl, q σ2 (fun j hj => ?_) (l2.trans l1) A2⟩⟩
  rw [g2 j (fun z => hj (by simp [z])), g1 j (fun z => hj (by simp [z]))]
end
end Cb

set_option Elab.async false
set_option linter.all false
set_option maxRecDepth 100000
/-! Cb39: t[::-1], t a tuple -/
namespace Cb
open PySem PySem.Spec L2
open PyProof.Rows hiding St
section
variable {prog : Program} {w : World} {A : Around} {E : Value → Shared → Prop} {s : Shared}
theorem places_rev (n : Nat) : Builtin.Slice.slicePlaces ((n : Int) - 1) (-1) (-1) = n := by
  unfold Builtin.Slice.slicePlaces
  rw [if_neg (by decide), show (-(-1 : Int)) = 1 by decide, Int.ediv_one]
  split <;> omega
theorem adjust_rev (n : Nat) : Builtin.Slice.sliceAdjust none none (-1) (n : Int) = ((n : Int) - 1, -1) := by
  unfold Builtin.Slice.sliceAdjust
  simp
theorem pick_rev (xs : Array Value) : ((List.range xs.size).filterMap fun (m : Nat) => xs[((xs.size : Int) - 1 + (m : Int) * (-1)).toNat]?).toArray = xs.toList.reverse.toArray := by
  have e := PySem.W.krv_pick xs
  unfold slicePick at e
  rw [PySem.W.krv_bounds] at e
  have e2 : ((sliceRange ((xs.size : Int) - 1) (-1) (-1)).filterMap (xs[·]?)).toArray = xs.toList.reverse.toArray := e
  rw [PySem.W.krv_sliceRange, List.filterMap_map] at e2
  rw [← e2]
  congr 1
  have key : ∀ l : List Nat, (∀ m ∈ l, m < xs.size) → l.filterMap (fun (m : Nat) => xs[((xs.size : Int) - 1 + (m : Int) * (-1)).toNat]?) = l.filterMap ((fun x => xs[x]?) ∘ fun k => xs.size - 1 - k) := by
    intro l
    induction l with
    | nil => intro _; rfl
    | cons m t ih =>
      intro h
      have hm := h m List.mem_cons_self
      have e3 : ((xs.size : Int) - 1 + (m : Int) * (-1)).toNat = xs.size - 1 - m := by omega
      rw [List.filterMap_cons, List.filterMap_cons, ih fun k hk => h k (List.mem_cons_of_mem _ hk)]
      rw [show ((fun x => xs[x]?) ∘ fun k => xs.size - 1 - k) m = xs[xs.size - 1 - m]? from rfl, e3]
  exact key _ fun m hm => List.mem_range.mp hm
theorem sliceApplied_rev {sl : Addr} {vl vu vs : Value} {n : Nat} {Q : Int × Int × Nat → Shared → Prop} (hs : s.heap.IsSliceOf sl vl vu vs) (pl : IsPart vl none) (pu : IsPart vu none) (ps : IsPart vs (some (-1)))
    (h : Q ((n : Int) - 1, -1, n) s) : wpAny (model prog w) A (Builtin.Slice.sliceApplied (.ref sl) (pure (n : Int))) Q E s := by
  obtain ⟨os, hos, hcs, hds⟩ := id hs
  unfold Builtin.Slice.sliceApplied Builtin.Slice.sliceFields
  refine wpAny_bind (wpAny_bind (wpAny_field hos hds (x := vl) rfl (wpAny_bind (wpAny_field hos hds (x := vu) rfl (wpAny_bind (wpAny_field hos hds (x := vs) rfl (wpAny_pure ?_)))))))
  refine wpAny_bind (HT.slicePart_ ps ?_)
  show wpAny _ _ (if ((-1 : Int) == 0) = true then _ else _) _ _ s
  rw [if_neg (by decide)]
  refine wpAny_bind (HT.slicePart_ pl (wpAny_bind (HT.slicePart_ pu (wpAny_bind (wpAny_pure ?_)))))
  show wpAny _ _ (match Builtin.Slice.sliceAdjust none none (-1) (n : Int) with | (lo, hi) => pure (lo, (-1 : Int), Builtin.Slice.slicePlaces lo hi (-1))) _ _ s
  rw [adjust_rev n]
  show wpAny _ _ (pure ((n : Int) - 1, (-1 : Int), Builtin.Slice.slicePlaces ((n : Int) - 1) (-1) (-1))) _ _ s
  rw [places_rev]
  exact wpAny_pure h
theorem getItem_tuple_rev {t sl : Addr} {items : Array Value} {vl vu vs : Value} {Q : Value → Shared → Prop} (ht : IsTup s.heap t items) (hs : s.heap.IsSliceOf sl vl vu vs) (pl : IsPart vl none) (pu : IsPart vu none) (ps : IsPart vs (some (-1)))
    (h : Q (.ref s.heap.objs.size) { s with heap := s.heap.push { cls := .type "tuple", data := .seq items.toList.reverse.toArray } })
    (hsz : items.size ≤ sizeLine) : wpAny (model prog w) A (getItem (.ref t) (.ref sl)) Q E s := by
  have htake : sizeOk (.seq items.toList.reverse.toArray) := by
    show items.toList.reverse.toArray.size ≤ sizeLine
    rw [List.size_toArray, List.length_reverse, Array.length_toList]
    omega
  obtain ⟨os, hos, hcs, hds⟩ := id hs
  have hTs : s.TypeIs (.ref sl) "slice" := ⟨os, hos, hcs⟩
  unfold getItem
  try with_reducible refine wpAny_holding ?_
  first | refine wpAny_bind (wpAny_pure ?_) | skip
  refine wpAny_bind (wpAny_sequenceKey ht.typeIs (by decide) ?_)
  refine wpAny_bind (wpAny_callSpecial?_slot (name := Str.ofString "__getitem__") ht.typeIs PyProof.Rows.slot_tuple_getitem
    (wpAny_call_entry PyProof.Rows.slot_tuple_getitem ht.typeIs entry_tuple_getitem ?_ (args_tuple_getitem _ _)))
  show wpAny _ _ (Builtin.Tuple.tupleItemsOf (.ref t) >>= _) _ _ s
  refine wpAny_bind (tupleItemsOf_ ht ?_)
  refine wpAny_bind (wpAny_typeOf hTs ?_)
  rw [if_pos (by decide)]
  refine wpAny_bind (sliceApplied_rev hs pl pu ps ?_)
  have hno : ¬ (((items.size : Int) - 1 == 0 && (-1 : Int) == 1 && items.size == items.size) = true) := by simp
  show wpAny _ _ (if ((items.size : Int) - 1 == 0 && (-1 : Int) == 1 && items.size == items.size) = true then _ else _) _ _ s
  rw [if_neg hno, pick_rev]
  first
    | exact wpAny_bind (m := Builtin.Tuple.tupleExact _) (wpAny_newObj_type (wpAny_pure ⟨_, rfl, wpAny_pure h⟩) htake)
    | exact wpAny_bind (m := Builtin.Tuple.tupleExact _) (wpAny_newObj_type (wpAny_bind (wpAny_pure (wpAny_pure ⟨_, rfl, wpAny_pure h⟩))) htake)
    | exact wpAny_bind (wpAny_bind (m := Builtin.Tuple.tupleExact _) (wpAny_newObj_type (wpAny_pure (wpAny_pure ⟨_, rfl, wpAny_pure h⟩)) htake))
    | exact wpAny_bind (wpAny_bind (m := Builtin.Tuple.tupleExact _) (wpAny_newObj_type (wpAny_pure ⟨_, rfl, wpAny_pure h⟩) htake))
end
section
variable {X : Cx}
def tRevT (K : PySem.W.Frag) (te : TE) : TE := fun σ H Q => te σ H fun x H1 => ∃ a xs, x = .ref a ∧ SqT K H1 a xs ∧ ∀ p, H1 p = none → Q (.ref p) (upd H1 p (.tup xs.reverse))
theorem pe_revT {e : Expr} {te : TE} {k : Nat} {p1 p2 p3 pos : Pos} (he : PE X e te) : PE X (.Subscript e (.Slice none none (some (.UnaryOp .USub (.Constant (.int 1) k p1) p2)) p3) pos) (tRevT X.K te) := by
  refine ⟨fun pins s σ H Q I h => ?_⟩
  refine Subscript_ (thn (he.run pins s σ H _ I h) fun v s1 ⟨x, H1, I1, r1, q1⟩ => ?_)
  obtain ⟨a, xs, ex, hx, q⟩ := q1
  subst ex
  cases r1
  have hst : PO X (some (.UnaryOp .USub (.Constant (.int 1) k p1) p2)) (tPart (tUn (rU fun i => .int (-i)) (tC (.int 1)))) := po_some (pe_un un_neg pe_int)
  refine wpAny_Slice (thn (po_none.run pins s1 σ H1 (fun o H2 => o = none ∧ H2 = H1) I1 ⟨rfl, rfl⟩) fun vl s2 ⟨l, H2, I2, pl, el, e2⟩ => ?_)
  subst el e2
  refine thn (po_none.run pins s2 σ H2 (fun o H3 => o = none ∧ H3 = H2) I2 ⟨rfl, rfl⟩) fun vu s3 ⟨u, H3, I3, pu, eu, e3⟩ => ?_
  subst eu e3
  refine thn (hst.run pins s3 σ H3 (fun o H4 => o = some (-1) ∧ H4 = H3) I3 ⟨1, rfl, -1, rfl, rfl, rfl⟩) fun vs s4 ⟨o, H4, I4, ps, eo, e4⟩ => ?_
  subst eo e4
  have I5 : Inv X pins σ H4 { s4 with heap := s4.heap.push { cls := .type "slice", data := .fields #[vl, vu, vs] } } := I4.kept (t' := s4.toks) fun b ob q => Heap.get?_push_of_some _ q
  obtain ⟨its, r, ht, hz⟩ := I5.tuple hx
  have hlen := r.length
  show wpAny (model X.prog X.w) X.A (subscriptTail e (.Slice none none (some (.UnaryOp .USub (.Constant (.int 1) k p1) p2)) p3) (.ref a) (.ref s4.heap.objs.size)) (EP X pins σ Q) X.xe { s4 with heap := s4.heap.push { cls := .type "slice", data := .fields #[vl, vu, vs] } }
  refine tail_any (ops := [.ref a, .ref s4.heap.objs.size]) ht.typeIs (PyProof.Rows.slot_tuple_getitem.lookup) ?_ (by with_unfolding_all rfl)
  refine getItem_tuple_rev ht (Heap.IsSliceOf.new _ vl vu vs) pl pu ps ?_ (by rw [List.size_toArray, ← hlen]; exact hz)
  refine ⟨.ref _, _, I5.laid (t' := s4.toks) (o := .tup xs.reverse) (fun b ob q => Heap.get?_push_of_some _ q) (Nat.le_refl _) ?_, rfl, q _ (I5.hok.fresh (Nat.le_refl _))⟩
  exact ⟨by rw [List.length_reverse]; exact hz, _, r.reverse, IsTup.new _ _⟩
variable {B F0 : Hp} {Γ : Ev} {k : Bool} {a : Expr} {pos p1 p2 p3 : Pos} {j : Nat} {α : Type} [R α] {as : Tup α}
theorem xrevT (ha : XE X B F0 Γ a k as) : XE X B F0 Γ (.Subscript a (.Slice none none (some (.UnaryOp .USub (.Constant (.int 1) j p1) p2)) p3) pos) k (⟨as.items.reverse⟩ : Tup α) := fun F σ H Q A q =>
  WE.of (pe_revT can_e) (ha F σ H _ A fun F' H' v g ⟨p, vs, e, hp, r⟩ => ⟨p, vs, e, SqT.of (g.fh _ _ (rf_sub _ _ hp)), fun l nl => q _ _ _ (g.trans (Grow.new g.fh nl)) ⟨l, _, rfl, tup_in, r.reverse.mono (rf_mono (sub_upd (g.fh.free nl)))⟩⟩)
end
end Cb

set_option Elab.async false
set_option linter.all false
set_option maxRecDepth 100000
/-! Cb40: calls without arguments; a tuple of three as a row -/
namespace Cb
open PySem PySem.Spec L2
open PyProof.Rows hiding St
def sv0 {Z : Type} [R Z] (K : Kf) (pre : Prop) (m : Z) : Sp := spV K (fun _ : Unit => pre) (fun _ : Unit => m)
section
variable {X : Cx} {B F0 : Hp} {Γ : Ev} {k : Bool} {e : Expr} {pos p : Pos} {f : Str} {Z : Type} [R Z] {pre : Prop} {m : Z}
theorem xcv0 (c : CalX X f (sv0 X.K pre m)) (hp : pre) (hg : Gl X f := by rfl) (hdb : (f == ("__debug__" : Str)) = false := by decide) : XE X B F0 Γ (.Call (.Name f p) [] [] pos) true m := fun F σ H Q AA q => by
  obtain ⟨j, f', fd, ps, G, hr, hm, kp, bd⟩ := c.ex
  refine WE.of (pe_call0 G hr hg hm kp bd .nil pass0 hdb) ?_
  exact ⟨(), rfl, hp, fun v H2 G h1 h2 n rr => q (join F G) H2 v (Grow.ret AA.sF h1 h2 n) (R.mono (ret_res AA.sF AA.sB h1 h2 n) rr)⟩
variable {α : Type} [R α] {x y z : α}
theorem XE.t3T (h : XE X B F0 Γ e k (T3.mk x y z)) : XE X B F0 Γ e k (Tup.mk [x, y, z]) := fun F σ H Q A q =>
  h F σ H Q A fun F' H' v g ⟨p, v1, v2, v3, e, hp, r1, r2, r3⟩ => q F' H' v g ⟨p, _, e, hp, .cons r1 (.cons r2 (.cons r3 .nil))⟩
end
end Cb

set_option Elab.async false
set_option linter.all false
set_option maxRecDepth 100000
/-! Cb41: a slot that holds some thing holds the thing -/
namespace Cb
open PySem PySem.Spec L2
open PyProof.Rows hiding St
theorem slots_at {K : Kf} {B F : Hp} {s s' : Slot} (h : ∀ o O, s.ok K B F o O → s'.ok K B F o O) : ∀ {Γ : Ev} {i : Nat} {σ : St} {O : Hp}, Γ[i]? = some s → Slots K B F Γ σ O → Slots K B F (Γ.set i s') σ O
  | [], _, _, _, e, _ => nomatch e
  | _ :: _, _, [], _, _, q => q.elim
  | a :: Γ, 0, o :: σ, O, e, ⟨O1, O2, q1, q2, q3, q4, q5⟩ => by
    cases e
    exact ⟨O1, O2, q1, q2, q3, h _ _ q4, q5⟩
  | a :: Γ, i + 1, o :: σ, O, e, ⟨O1, O2, q1, q2, q3, q4, q5⟩ => ⟨O1, O2, q1, q2, q3, q4, slots_at h (by simpa using e) q5⟩
section
variable {X : Cx} {B F0 : Hp} {Γ : Ev} {k : Bool} {D : Ends} {ss : List Stmt} {α : Type} [R α]
theorem ts_outo {o : Option α} {a : α} (i : Nat) (hΓ : Γ[i]? = some (vl k o)) (e : o = some a) (ht : TSs X B F0 (Γ.set i (vl k a)) ss D) : TSs X B F0 Γ ss D := fun F σ H A => by
  subst e
  obtain ⟨⟨O, s, so⟩, sF, sB, s0, bf⟩ := A
  exact ht F σ H ⟨⟨O, slots_at (fun o O q => q) hΓ s, so⟩, sF, sB, s0, bf⟩
theorem XV.some {e : Expr} {x : α} (h : XV X B F0 Γ e x) : XV X B F0 Γ e (Option.some x) := h
end
end Cb

set_option Elab.async false
set_option linter.all false
set_option maxRecDepth 100000
/-! Cb42: a def that changes the list it is handed and gives it back -/
namespace Cb
open PySem PySem.Spec L2
open PyProof.Rows hiding St
def spM {A : Type} [Args A] (K : Kf) (pre : List Int → A → Prop) (m : List Int → A → List Int) : Sp := fun vs H Q _ => ∃ (p : Addr) (xs : List Int) (r : List V) (a : A), vs = .ref p :: r ∧ H p = some (.lst (xs.map V.int)) ∧ Args.args K (del p H) r a ∧ pre xs a ∧
  ∀ H', Same (del p H) H' → H' p = some (.lst ((m xs a).map V.int)) → Q (.ref p) H'
def RDM (B : Hp) (p : Addr) (D : Ends) (ys : List Int) : Prop := ∀ H', Same B H' → H' p = some (.lst (ys.map V.int)) → D.rt (.ref p) H'
theorem RDM.cast {B : Hp} {p : Addr} {D : Ends} {a b : List Int} (h : RDM B p D a) (e : a = b) : RDM B p D b := e ▸ h
section
variable {P : Program} {w : World} {K : Kf} {mg : Str → Option Value} {base : Heap} {x qual : Str} {st : Stmt} {f : Addr} {fd : FuncData} {N ps : List Str} {k : Nat} {A : Type} [Args A]
theorem as_startM {a : A} {H : Hp} {N : List Str} {vs : List V} {p : Addr} {xs : List Int} (hp : H p = some (.lst (xs.map V.int))) (h : Args.args K (del p H) vs a) :
    AS K (del p H) (del p H) ((ownd true (AtL.mk p xs) :: Args.env a) ++ List.replicate (N.length - (Args.len A + 1)) junk) (del p H) (L2.start N (.ref p :: vs)) H := by
  have s := Args.slots h (slots_junk (K := K) (B := del p H) (F := del p H) (N.length - (Args.len A + 1)) (fun _ => none))
  have e : L2.start N (.ref p :: vs) = some (.ref p) :: (vs.map some ++ List.replicate (N.length - (Args.len A + 1)) none) := by
    unfold L2.start
    rw [List.length_cons, Args.length h]
    rfl
  rw [e]
  refine ⟨⟨one p (.lst (xs.map V.int)), ⟨one p (.lst (xs.map V.int)), fun _ => none, Same.refl _, (fun _ _ z => nomatch z), fun _ => .inr rfl, ⟨.ref p, rfl, rfl, one_at⟩, s⟩, one_sub hp, fun b hb => ?_, fun b o z => ?_⟩, del_sub, del_sub, Same.refl _, Same.refl _⟩
  · cases w : one p (.lst (xs.map V.int)) b with
    | none => exact absurd w hb
    | some o => obtain ⟨rfl, _⟩ := one_is w; exact ⟨del_self, del_self⟩
  · obtain ⟨rfl, rfl⟩ := one_is z; rfl
theorem cal_m {pre : List Int → A → Prop} {m : List Int → A → List Int} (U : FnAt K mg x st ps) (S : FnScope N ps (defScope st)) (hl : Args.len A + 1 = ps.length)
    (h : ∀ f cdv Ar outer s H E, Room k (Ar.deeper (envOfC x (defScope st) s.heap.objs.size f cdv)) → ∀ (p : Addr) (xs : List Int) (a : A) (B : Hp) (D : Ends), pre xs a → RDM B p D (m xs a) → TSs (Xc P w K mg base N x st f cdv Ar outer s H E) B B ((ownd true (AtL.mk p xs) :: Args.env a) ++ List.replicate (N.length - (Args.len A + 1)) junk) (defBody st) D) :
    CalL P w K mg base (k + 1) x (spM K pre m) := by
  obtain ⟨f, fd, F, hm, hb⟩ := U.ex
  refine ⟨f, fd, ps, F.ok S (fun vs H Q E h => ?_) (fun cdv Ar outer s H vs Q E hr hq => ?_), hm, F.kp, hb⟩
  · obtain ⟨p, xs, r, a, rfl, _, ha, _⟩ := h
    rw [List.length_cons, Args.length ha]; exact hl
  · obtain ⟨p, xs, r, a, rfl, hp, ha, hpre, q⟩ := hq
    exact ⟨_, can_ss, h f cdv Ar outer s H E hr p xs a (del p H) _ hpre (fun H' h1 h2 => q H' h1 h2) (del p H) _ H (as_startM hp ha)⟩
end
section
variable {X : Cx} {B F0 : Hp} {Γ : Ev} {k k' : Bool} {e : Expr} {es : List Expr} {pos : Pos} {D : Ends} {ss : List Stmt} {p : Addr}
/-- return of the list that was handed in -/
theorem ts_retM {ys : List Int} {n : Str} {pn : Pos} (i : Nat) (hΓ : Γ[i]? = some (ownd k (AtL.mk p ys))) (hr : RDM B p D ys) (hN : X.N[i]? = some n := by rfl) (hv : Vis X.env.scope n := by first | exact Or.inl rfl | exact Or.inr (Or.inl rfl) | exact Or.inr (Or.inr rfl)) (hd : (n == ("__debug__" : Str)) = false := by decide) (hcd : (n == ("__classdict__" : Str)) = false := by decide) :
    TSs X B F0 Γ (.Return (some (.Name n pn)) pos :: ss) D :=
  ts_cons fun F σ H A => WS.of (ps_ret can_e) (WE.of (pe_var hN hv hd hcd) (by
    obtain ⟨v1, O1, e1, ⟨rfl, ep⟩, so, fr⟩ := own_free A hΓ
    exact ⟨.ref p, e1, hr H A.sB (so _ _ ep)⟩))
/-! frozen arguments -/
theorem yf0 : XAF X B F0 Γ [] (fun K B F vs => Args.args K F vs ()) := fun F σ H Q A q => WA.of pa_nil (q F H [] (Grow.refl A.sF) rfl)
theorem yf {α A : Type} [R α] [Args A] {x : α} {r : A} (h : XE X B F0 Γ e k x) (ht : XAF X B F0 Γ es (fun K B F vs => Args.args K F vs r)) (hs : starEach (e :: es) X.env = (false, eval e X.env) :: starEach es X.env := by rfl) :
    XAF X B F0 Γ (e :: es) (fun K B F vs => Args.args K F vs (x, r)) := fun F σ H Q A q =>
  WA.of (pa_cons can_e can_a hs) (h F σ H _ A fun F1 H1 v g r1 => ht F1 σ H1 _ (A.grow g) fun F2 H2 vs g2 p => q F2 H2 (v :: vs) (g.trans g2) ⟨v, vs, rfl, R.mono (fun b u e => rf_sub _ _ e) (R.mono (rf_mono g2.ff) r1), p⟩)
/-- return f(xs, ..), xs an owned list -/
theorem ts_retC {A : Type} [Args A] {pre : List Int → A → Prop} {m : List Int → A → List Int} {f n : Str} {ag : A} {pf pn pp : Pos} {xs : List Int} (i : Nat) (hΓ : Γ[i]? = some (ownd k xs)) (c : CalX X f (spM X.K pre m)) (h : XAF X B F0 Γ es (fun K B F vs => Args.args K F vs ag)) (hp : pre xs ag) (hr : RDO X.K B D (m xs ag))
    (hg : Gl X f := by rfl) (hN : X.N[i]? = some n := by rfl) (hv : Vis X.env.scope n := by first | exact Or.inl rfl | exact Or.inr (Or.inl rfl) | exact Or.inr (Or.inr rfl)) (hd : (n == ("__debug__" : Str)) = false := by decide) (hcd : (n == ("__classdict__" : Str)) = false := by decide)
    (hdb : (f == ("__debug__" : Str)) = false := by decide) (hs : starEach (.Name n pn :: es) X.env = (false, eval (.Name n pn) X.env) :: starEach es X.env := by rfl) (hpl : (backTo pos (starEach es X.env)).any (·.1) = false := by rfl) :
    TSs X B F0 Γ (.Return (some (.Call (.Name f pf) (.Name n pn :: es) [] pos)) pp :: ss) D :=
  ts_cons fun F σ H A => WS.of (ps_ret can_e) (by
    obtain ⟨v1, O1, e1, ⟨p, vs, rfl, ep, r⟩, so, fr⟩ := own_free A hΓ
    have ev := reps_ints r
    subst ev
    obtain ⟨kk, fa, fd, ps, G0, hrm, hm, kp, bd⟩ := c.ex
    refine WE.of (pe_call G0 hrm hg hm kp bd .nil pass0 (pa_cons (pe_var hN hv hd hcd) can_a hs) hdb hs hpl) ⟨.ref p, e1, h F σ H _ A fun F' H' us g ra => ?_⟩
    obtain ⟨v2, O2, e2, ⟨p2, vs2, e3, ep2, r2⟩, so2, fr2⟩ := own_free (A.grow g) hΓ
    rw [e1] at e2
    cases e2
    cases e3
    have ev2 := reps_ints r2
    subst ev2
    have hpH : H' p = some (.lst (xs.map V.int)) := so2 _ _ ep2
    have fp := fr2 _ _ ep2
    have sB' : Same B H' := A.sB.trans g.hh
    show spM X.K pre m (.ref p :: (us ++ [])) H' _ _
    rw [List.append_nil]
    have sFd : Same F' (del p H') := fun b u z => by
      rw [del_ne (fun zb => by subst zb; rw [fp.1] at z; cases z)]; exact g.fh _ _ z
    refine ⟨p, xs, us, ag, rfl, hpH, Args.mono sFd ra, hp, fun H2 h1 h2 => ?_⟩
    have sB2 : Same B H2 := fun b u z => h1 _ _ (by rw [del_ne (fun zb => by subst zb; rw [fp.2] at z; cases z)]; exact sB' _ _ z)
    refine hr F' H2 (.ref p) (one p (.lst ((m xs ag).map V.int))) sB2 (sFd.trans h1) (one_sub h2) (fun x o e => ?_) ⟨p, _, rfl, one_at, int_reps _⟩
    obtain ⟨rfl, rfl⟩ := one_is e
    exact ⟨fp.2, fp.1, rfl⟩)
end
/-! by the number of arguments -/
def sM4 {T1 T2 T3 : Type} [R T1] [R T2] [R T3] (K : Kf) (pre : List Int → T1 → T2 → T3 → Prop) (m : List Int → T1 → T2 → T3 → List Int) : Sp := spM K (fun xs (a : T1 × T2 × T3 × Unit) => pre xs a.1 a.2.1 a.2.2.1) (fun xs a => m xs a.1 a.2.1 a.2.2.1)
section
variable {X : Cx} {B F0 : Hp} {Γ : Ev} {k : Bool} {es : List Expr} {pos : Pos} {D : Ends} {ss : List Stmt}
theorem ts_retC4 {T1 T2 T3 : Type} [R T1] [R T2] [R T3] {pre : List Int → T1 → T2 → T3 → Prop} {m : List Int → T1 → T2 → T3 → List Int} {f n : Str} {x1 : T1} {x2 : T2} {x3 : T3} {pf pn pp : Pos} {xs : List Int} (i : Nat) (hΓ : Γ[i]? = some (ownd k xs)) (c : CalX X f (sM4 X.K pre m)) (h : XAF X B F0 Γ es (fun K B F vs => Args.args (A := T1 × T2 × T3 × Unit) K F vs (x1, x2, x3, ()))) (hp : pre xs x1 x2 x3) (hr : RDO X.K B D (m xs x1 x2 x3))
    (hg : Gl X f := by rfl) (hN : X.N[i]? = some n := by rfl) (hv : Vis X.env.scope n := by first | exact Or.inl rfl | exact Or.inr (Or.inl rfl) | exact Or.inr (Or.inr rfl)) (hd : (n == ("__debug__" : Str)) = false := by decide) (hcd : (n == ("__classdict__" : Str)) = false := by decide)
    (hdb : (f == ("__debug__" : Str)) = false := by decide) (hs : starEach (.Name n pn :: es) X.env = (false, eval (.Name n pn) X.env) :: starEach es X.env := by rfl) (hpl : (backTo pos (starEach es X.env)).any (·.1) = false := by rfl) :
    TSs X B F0 Γ (.Return (some (.Call (.Name f pf) (.Name n pn :: es) [] pos)) pp :: ss) D :=
  ts_retC (A := T1 × T2 × T3 × Unit) (pre := fun xs a => pre xs a.1 a.2.1 a.2.2.1) (m := fun xs a => m xs a.1 a.2.1 a.2.2.1) (ag := (x1, x2, x3, ())) i hΓ c h hp hr hg hN hv hd hcd hdb hs hpl
end
end Cb

set_option Elab.async false
set_option linter.all false
set_option maxRecDepth 100000
/-! Cb43: the head of a pair or of a triple -/
namespace Cb
open PySem PySem.Spec L2
open PyProof.Rows hiding St
def sfst {α β γ δ : Type} : Sum (α × β) (T3 α γ δ) → α
  | .inl a => a.1
  | .inr a => a.a
section
variable {X : Cx} {B F0 : Hp} {Γ : Ev} {k : Bool} {a : Expr} {pos p' : Pos} {j : Nat} {α β γ δ : Type} [R α] [R β] [R γ] [R δ]
theorem xsum0 {s : Sum (α × β) (T3 α γ δ)} (h : XE X B F0 Γ a k s) : XE X B F0 Γ (.Subscript a (.Constant (.int 0) j p') pos) k (sfst s) := by
  cases s with
  | inl u => exact xt2_0 (XE.outl h rfl)
  | inr u => exact xt3_0 (XE.outr h rfl)
end
end Cb

set_option Elab.async false
set_option linter.all false
set_option maxRecDepth 100000
/-! Cb44: sorted(set(xs)), xs tuples of texts and numbers of any kind -/
namespace Cb
open PySem PySem.Spec L2
open PyProof.Rows hiding St
/-- tuples that a set tells apart by flat keys -/
class TK (α : Type) [R α] [DecidableEq α] [Dat α] where
  key : α → List Key
  of : ∀ {K : Kf} {H : Hp} {v : V} {a : α}, R.rep K H v a → ∃ p, v = .ref p ∧ H p = some (.tup ((key a).map kV))
  to : ∀ {K : Kf} {H : Hp} {p : Addr} {a : α}, H p = some (.tup ((key a).map kV)) → R.rep K H (.ref p) a
  inj : ∀ a b : α, key a = key b → a = b
  nil : ∀ {h : Heap} {v : Value} {x : α} {as : List Addr}, Reads h v (Dat.dat x) as → as = []
  alike : ∀ l : List α, PySem.W.AllAlike (l.map Dat.dat)
  sortable : ∀ l : List α, PySem.W.Sortable (l.map (Dat.dat : α → PyData))
  dep : Dat.dep α = 1
section
variable {α : Type} [R α] [DecidableEq α] [Dat α] [Pure α] [TK α]
theorem reps_tk {K : Kf} {H : Hp} : ∀ {vs : List V} {as : List α}, Reps K H vs as → ∃ ks : List (Addr × α), vs = ks.map (fun c => V.ref c.1) ∧ ks.map (·.2) = as ∧ ∀ c, c ∈ ks → H c.1 = some (.tup ((TK.key c.2).map kV))
  | _, _, .nil => ⟨[], rfl, rfl, fun c hc => nomatch hc⟩
  | _, _, .cons (b := a) r t => by
    obtain ⟨ks, e1, e2, e3⟩ := reps_tk t
    obtain ⟨p, rfl, hp⟩ := TK.of r
    refine ⟨(p, a) :: ks, by rw [e1]; rfl, by rw [List.map_cons, e2], fun c hc => ?_⟩
    rcases List.mem_cons.mp hc with rfl | hc
    · exact hp
    · exact e3 c hc
end
section
variable {X : Cx} {α : Type} [R α] [DecidableEq α] [Dat α] [Pure α] [TK α]
def rTSet (α : Type) [R α] [DecidableEq α] [Dat α] [TK α] (P : Program) (w : World) (K : Kf) : List V → Hp → VK → Prop := fun xs H Q => ∃ (l : Addr) (ks : List (Addr × α)), xs = [V.ref l] ∧ SqL K H l (ks.map fun c => V.ref c.1) ∧ (∀ c, c ∈ ks → H c.1 = some (.tup ((TK.key c.2).map kV))) ∧ ks.length ≤ 300 ∧
  ∀ (a : Addr) (L : List (Addr × α)), H a = none → (∀ p, p ∈ L → p ∈ ks) → (∀ x, x ∈ ks.map (·.2) → x ∈ L.map (·.2)) → (L.map (·.2)).Nodup → Q (.ref a) (upd H a (KSO P w a (L.map fun p => (p.1, TK.key p.2))))
theorem tk_refs : ∀ {ks : List (Addr × α)} {us : List Value}, Vals (ks.map fun c => V.ref c.1) us → us = (ks.map fun c => (c.1, TK.key c.2)).map fun p => Value.ref p.1
  | [], _, .nil => rfl
  | c :: ks, _, .cons r t => by cases r; rw [tk_refs t]; rfl
theorem cr_tset (hc : X.calm = true) (hu : X.A.units + 64 < cLine) : CallR X (.type "set") (rTSet α X.prog X.w X.K) := by
  intro pins s σ H xs us Q I r h
  obtain ⟨l, ks, rfl, hl, hk, hz, q⟩ := h
  rw [Vals.ref1 r]
  obtain ⟨its, rv, pl, hz2⟩ := I.list hl
  have hn : H s.heap.objs.size = none := I.hok.fresh (Nat.le_refl _)
  refine kset_call (P := X.prog) (w := X.w) (ks.map fun c => (c.1, TK.key c.2)) (I.ok.hd hc) pl.isList (by simpa using tk_refs rv) (fun p hp => ?_) (by rw [List.length_map]; exact hz) (by omega) fun h' tk L es ep t S g k => ?_
  · obtain ⟨c, mc, rfl⟩ := List.mem_map.mp hp
    exact key_of I.hok (hk c mc)
  · have sub : ∀ p, p ∈ L → p ∈ ks.map fun c => (c.1, TK.key c.2) := fun p hp => List.mem_of_mem_take (g.of p hp)
    obtain ⟨L2, e2, m2⟩ : ∃ L2 : List (Addr × α), L = L2.map (fun c => (c.1, TK.key c.2)) ∧ ∀ c, c ∈ L2 → c ∈ ks := by
      clear g S
      induction L with
      | nil => exact ⟨[], rfl, fun c hc => nomatch hc⟩
      | cons p L ih =>
        obtain ⟨L2, e2, m2⟩ := ih fun p hp => sub p (.tail _ hp)
        obtain ⟨c, mc, ec⟩ := List.mem_map.mp (sub p (.head _))
        exact ⟨c :: L2, by rw [e2, ← ec]; rfl, fun d hd => (List.mem_cons.mp hd).elim (fun e => e ▸ mc) (m2 d)⟩
    subst e2
    refine ⟨.ref s.heap.objs.size, _, I.laid (t' := tk) k (Nat.le_refl _) (kso_new ⟨es, ep, t, S.obj, S.row, S.lay, S.led, S.gap, S.few⟩), rfl, q _ L2 hn m2 (fun x hx => ?_) ?_⟩
    · obtain ⟨c, mc, rfl⟩ := List.mem_map.mp hx
      have z := g.to (c.1, TK.key c.2) (by rw [List.take_length]; exact List.mem_map_of_mem mc)
      rw [List.map_map] at z
      obtain ⟨d, md, ed⟩ := List.mem_map.mp z
      exact List.mem_map.mpr ⟨d, md, TK.inj _ _ ed⟩
    · have z := S.nod
      rw [List.map_map] at z
      unfold List.Nodup at z ⊢
      rw [List.pairwise_map] at z ⊢
      exact z.imp fun n e => n (by show TK.key _ = TK.key _; rw [e])
def rTSorted (α : Type) [R α] [DecidableEq α] [Dat α] [TK α] (P : Program) (w : World) (K : Kf) : List V → Hp → VK → Prop := fun vs H Q => ∃ (a : Addr) (L : List (Addr × α)), vs = [V.ref a] ∧ H a = some (KSO P w a (L.map fun c => (c.1, TK.key c.2))) ∧ (∀ c, c ∈ L → H c.1 = some (.tup ((TK.key c.2).map kV))) ∧
  ∀ (L' : List (Addr × α)) (ys : List V) (p : Addr), L'.Perm L → Reps K H ys (dsort (L'.map (·.2))) → H p = none → Q (.ref p) (upd H p (.lst ys))
theorem each_refsT {P : Value → α → Prop} : ∀ {L : List (Addr × α)}, (∀ c, c ∈ L → P (.ref c.1) c.2) → PySem.W.EachIs P (L.map fun c => Value.ref c.1) (L.map (·.2))
  | [], _ => .nil
  | _ :: _, h => .cons (h _ (.head _)) (each_refsT fun c hc => h c (.tail _ hc))
theorem cr_tsorted (hc : X.calm = true) (hu : X.A.units + 64 < cLine) : CallR X (.builtin "sorted") (rTSorted α X.prog X.w X.K) := by
  intro pins s σ H vs us Q I r h
  obtain ⟨a, L, rfl, ha, hk, q⟩ := h
  obtain ⟨es, ep, t, ⟨o, ho, hex, hd⟩, row, lay, led, gap, few⟩ : KSetD X.prog X.w s.heap a _ := (I.hok a _ ha).1
  rw [Vals.ref1 r]
  have size := sz_row row
  rw [List.length_map] at size gap few
  refine Calls.call_function_entry kind_sorted plain_sorted entry_sorted (args_sorted1 _) ?_
  unfold Builtin.«sorted»
  refine wpAny_bind (m := checkCount "sorted" 1 1 _) (wpAny_pure ?_)
  refine wpAny_bind (collect_set (A := X.A.in1) (I.ok.hd hc) ⟨o, ho, hex.1, hd⟩ (fit_row row lay (by rw [List.length_map]; omega)) (by unfold scanBound; omega) lay.up led fun s1 vs k1 hz g1 o1 pm => ?_)
  rw [row] at pm
  obtain ⟨L', pL, rfl⟩ := perm_map_inv (fun c : Addr × α => Value.ref c.1) pm (L := L) (by simp [kRows])
  have ln : L'.length = L.length := pL.length_eq
  refine wpAny_bind (wpAny_newList ?_ (by rw [List.length_map, sizeLine_eq]; omega))
  have hoL : (s1.heap.push { cls := .type "list", data := .seq (L'.map fun c => Value.ref c.1).toArray }).get? s1.heap.objs.size = some (seqObj "list" (L'.map fun c => Value.ref c.1).toArray 0) := Heap.get?_push_size _ rfl
  have tup : ∀ c, c ∈ L' → R.rep X.K H (.ref c.1) c.2 := fun c m => TK.to (hk c (pL.mem_iff.mp m))
  have e1 : PySem.W.EachIs (fun (u : Value) (b : α) => ∃ x, RelV x u ∧ R.rep X.K H x b) (L'.map fun c => Value.ref c.1) (L'.map (·.2)) := each_refsT fun c m => ⟨.ref c.1, rfl, tup c m⟩
  refine wpAny_bind (wpAny_holding (PySem.W.list_sort_data (s := { s1 with heap := _ }) (enc := (Dat.dat : α → PyData)) hoL e1 (each_refsT fun c m => ?_) (TK.alike _) (TK.sortable _) (by rw [List.length_map, sizeLine_eq]; omega) (fun b hb => ?_) fun out lo eo => ?_))
  · obtain ⟨as, rd⟩ := Dp.reads I (Dat.dat c.2) (.ref c.1) (.ref c.1) (Dat.dp (tup c m)) rfl
    cases TK.nil rd
    exact ⟨[], PyProof.Rows.Reads.keeps (fun b u e => Heap.get?_push_of_some _ (k1 b u e)) rd, fun z => nomatch z⟩
  · have := Dat.depth b
    have : Dat.dep α = 1 := TK.dep
    have e : X.A.in1.units ≤ X.A.units + 1 := Nat.le_of_eq rfl
    omega
  · obtain ⟨ys, h1, h2⟩ := of_each eo
    obtain ⟨c, hc2⟩ := sortedHeap_at (vs := L'.map fun c => Value.ref c.1) (out := out.toArray) hoL
    have hn : H s1.heap.objs.size = none := I.hok.fresh hz
    have old : ∀ b u, s.heap.get? b = some u → (sortedHeap (s1.heap.push { cls := .type "list", data := .seq (L'.map fun c => Value.ref c.1).toArray }) s1.heap.objs.size (L'.map fun c => Value.ref c.1) out.toArray).get? b = some u := fun b u e => by
      have e2 := k1 b u e
      have lt := Heap.lt_size e2
      rw [sortedHeap_old (Nat.ne_of_lt lt) (by rw [Heap.size_push]; exact Nat.lt_succ_of_lt lt)]
      exact Heap.get?_push_of_some _ e2
    have len : ys.length ≤ sizeLine := by rw [h1.length, lo, List.length_map, sizeLine_eq]; omega
    refine wpAny_pure ⟨_, rfl, ?_⟩
    have J : Inv X pins σ (upd H s1.heap.objs.size (.lst ys)) { s with heap := sortedHeap (s1.heap.push { cls := .type "list", data := .seq (L'.map fun c => Value.ref c.1).toArray }) s1.heap.objs.size (L'.map fun c => Value.ref c.1) out.toArray, gens := s1.gens, drawn := s1.drawn, toks := s1.toks } :=
      I.call (ch := []) (Un.laid old hz hn) (I.hok.laid old hz ⟨len, out, c, h1, hc2⟩) (by rw [g1]; exact I.bare) (fun _ z => nomatch z)
    have es1 : ({ s1 with heap := sortedHeap (s1.heap.push { cls := .type "list", data := .seq (L'.map fun c => Value.ref c.1).toArray }) s1.heap.objs.size (L'.map fun c => Value.ref c.1) out.toArray } : Shared) = { s with heap := sortedHeap (s1.heap.push { cls := .type "list", data := .seq (L'.map fun c => Value.ref c.1).toArray }) s1.heap.objs.size (L'.map fun c => Value.ref c.1) out.toArray, gens := s1.gens, drawn := s1.drawn, toks := s1.toks } := by
      cases s1
      cases s
      cases o1
      rfl
    refine ⟨.ref s1.heap.objs.size, _, es1 ▸ J, rfl, q L' ys _ pL h2 hn⟩
end
section
variable {X : Cx} {α : Type} [R α] [DecidableEq α] [Dat α] [Pure α] [TK α] {B F0 : Hp} {Γ : Ev} {k : Bool} {a : Expr} {p1 p2 p3 p4 : Pos}
/-- the order of such pairs tells them apart -/
def TKo (as : List α) : Prop := ∀ x, x ∈ as → ∀ y, y ∈ as → PySem.W.dataLe false (Dat.dat : α → PyData) x y = true → PySem.W.dataLe false (Dat.dat : α → PyData) y x = true → x = y
def tset (as : List α) : List α := dsort (uniq as)
theorem tset_of {as bs : List α} (o : TKo as) (n : bs.Nodup) (h : ∀ x, x ∈ bs ↔ x ∈ as) : dsort bs = tset as := by
  have p := uniq_perm (xs := as) n h
  exact Pe.perm_unique ((dsort_perm' bs).trans (p.trans (dsort_perm' _).symm)) (dsort_pw _) (dsort_pw _) fun x hx y hy => o x ((h x).mp ((dsort_perm' bs).mem_iff.mp hx)) y ((h y).mp ((dsort_perm' bs).mem_iff.mp hy))
theorem xsortSetT {as : List α} (hc : X.calm = true) (hu : X.A.units + 64 < cLine) (ms : X.mg "sorted" = none) (mset : X.mg "set" = none) (ha : XV X B F0 Γ a as) (hl : as.length ≤ 300) (o : TKo as) (hg : Gl X "sorted" := by rfl) (hg2 : Gl X "set" := by rfl)
    (hs1 : starEach [.Call (.Name "set" p2) [a] [] p3] X.env = (false, eval (.Call (.Name "set" p2) [a] [] p3) X.env) :: starEach [] X.env := by rfl) (hs2 : starEach [a] X.env = (false, eval a X.env) :: starEach [] X.env := by rfl) :
    XO X B F0 Γ (.Call (.Name "sorted" p1) [.Call (.Name "set" p2) [a] [] p3] [] p4) k (tset as) := fun F σ H Q A q =>
  x_cb (cr_tsorted (α := α) hc hu) hg ms (by decide +kernel) (x_ty (cr_tset (α := α) hc hu) hg2 mset (by decide +kernel) (ha F σ H _ A fun F' H' v g ⟨l, vs, e, hl', r⟩ => by
    obtain ⟨ks, e1, e2, e3⟩ := reps_tk r
    have kl : ks.length = as.length := by rw [← e2, List.length_map]
    refine ⟨l, ks, by rw [e], SqL.of (by rw [← e1]; exact hl'), e3, by omega, fun s L ns h1 h2 nd => ?_⟩
    have g2 := Grow.newH (o := KSO X.prog X.w s (L.map fun p => (p.1, TK.key p.2))) g.fh ns
    refine ⟨s, L, rfl, upd_same, fun c m => g2.hh _ _ (e3 c (h1 c m)), fun L' ys p pm rp np => ?_⟩
    have pm2 := pm.map (fun c : Addr × α => c.2)
    have ez : dsort (L'.map (·.2)) = tset as := tset_of o (pm2.nodup_iff.mpr nd) fun x => by
      rw [pm2.mem_iff]
      refine ⟨fun z => ?_, fun z => h2 x (e2 ▸ z)⟩
      obtain ⟨c, m, rfl⟩ := List.mem_map.mp z
      exact e2 ▸ List.mem_map_of_mem (f := (·.2)) (h1 c m)
    rw [ez] at rp
    exact x_new ((g.trans g2).trans (Grow.tups (g.trans g2).fh)) np (reps_lift (g.trans g2).fh rp) q) (hs := hs2)) (hs := hs1)
end
end Cb
namespace Cb
open PySem PySem.Spec L2
open PyProof.Rows hiding St
/-- the order of data of this type tells them apart -/
class DAnti (α : Type) [R α] [DecidableEq α] [Dat α] : Prop where
  anti : ∀ x y : α, PySem.W.dataLe false (Dat.dat : α → PyData) x y = true → PySem.W.dataLe false (Dat.dat : α → PyData) y x = true → x = y
theorem dsort_same {α : Type} [R α] [DecidableEq α] [Dat α] [DAnti α] {l m : List α} (h : l.Perm m) : dsort l = dsort m :=
  Pe.perm_unique ((dsort_perm' l).trans (h.trans (dsort_perm' m).symm)) (dsort_pw l) (dsort_pw m) fun a _ b _ h1 h2 => DAnti.anti a b h1 h2
theorem dsort_fix {α : Type} [R α] [DecidableEq α] [Dat α] [DAnti α] (l : List α) : dsort (dsort l) = dsort l := dsort_same (dsort_perm' l)
theorem uniq_id {α : Type} [DecidableEq α] {l : List α} (h : l.Nodup) : (uniq l).Perm l := (uniq_perm (xs := l) h fun _ => Iff.rfl).symm
theorem tset_dsort {α : Type} [R α] [DecidableEq α] [Dat α] [Pure α] [TK α] [DAnti α] {l : List α} (h : l.Nodup) : tset (dsort l) = dsort l := by
  unfold tset
  exact (dsort_same (uniq_id ((dsort_perm' l).nodup_iff.mpr h))).trans (dsort_fix l)
theorem str_anti {s t : Str} (h1 : PySem.W.dataLt (.str s) (.str t) = false) (h2 : PySem.W.dataLt (.str t) (.str s) = false) : s = t := by
  rw [PySem.W.dataLt_str] at h1 h2
  have a := of_decide_eq_false h1
  have b := of_decide_eq_false h2
  have e : s.cps.toList = t.cps.toList := List.le_antisymm (show s.cps.toList ≤ t.cps.toList from b) (show t.cps.toList ≤ s.cps.toList from a)
  cases s; cases t
  simp only [Str.mk.injEq]
  exact Array.ext' e
theorem le_is {α : Type} [R α] [DecidableEq α] [Dat α] (a b : α) : PySem.W.dataLe false (Dat.dat : α → PyData) a b = !PySem.W.dataLt (Dat.dat b) (Dat.dat a) := rfl
theorem dat_is (a b : Int) : PyData.eqv (.int a) (.int b) = decide (a = b) := Dat.eqv (α := Int) a b
theorem dat_ss (a b : Str) : PyData.eqv (.str a) (.str b) = decide (a = b) := Dat.eqv (α := Str) a b
instance : DAnti (Int × Str) := ⟨fun a b h1 h2 => by
  rw [Pe.le_rope, Pe.lt_rope] at h1 h2
  obtain ⟨i, s⟩ := a
  obtain ⟨j, t⟩ := b
  dsimp only at *
  by_cases e : i = j
  · subst e
    rw [if_pos rfl] at h1 h2
    by_cases q : s = t
    · rw [q]
    · rw [if_neg (fun z => q z.symm)] at h1
      rw [if_neg q] at h2
      rw [Bool.not_eq_true'] at h1 h2
      exact absurd (str_anti h2 h1) q
  · rw [if_neg (fun z => e z.symm)] at h1
    rw [if_neg e] at h2
    simp only [Bool.not_eq_true', decide_eq_false_iff_not] at h1 h2
    exact absurd (show i = j by omega) e⟩
theorem lt_t3 (a b : T3 Int Str Int) : PySem.W.dataLt (Dat.dat a) (Dat.dat b) = if a.a = b.a then (if a.b = b.b then decide (a.c < b.c) else PySem.W.dataLt (.str a.b) (.str b.b)) else decide (a.a < b.a) := by
  show PySem.W.dataLt (.tuple [.int a.a, .str a.b, .int a.c]) (.tuple [.int b.a, .str b.b, .int b.c]) = _
  rw [PySem.W.dataLt_tuple, PySem.W.dataLt_cons rfl, PySem.W.dataLt_cons rfl, PySem.W.dataLt_cons rfl, dat_is, dat_ss, dat_is, PySem.W.dataLt_int, PySem.W.dataLt_int]
  have e : PyProof.Rows.lexLt itemOrd (PySem.W.keyToksAll []) (PySem.W.keyToksAll []) = false := PyProof.Rows.lex_irrefl _
  rw [e]
  by_cases h1 : a.a = b.a <;> by_cases h2 : a.b = b.b <;> by_cases h3 : a.c = b.c <;> simp [h1, h2, h3]
instance : DAnti (T3 Int Str Int) := ⟨fun a b h1 h2 => by
  rw [le_is, lt_t3] at h1 h2
  obtain ⟨i, s, m⟩ := a
  obtain ⟨j, t, n⟩ := b
  dsimp only at *
  by_cases e : i = j
  · subst e
    rw [if_pos rfl] at h1 h2
    by_cases q : s = t
    · subst q
      rw [if_pos rfl] at h1 h2
      simp only [Bool.not_eq_true', decide_eq_false_iff_not] at h1 h2
      rw [show m = n by omega]
    · rw [if_neg (fun z => q z.symm)] at h1
      rw [if_neg q] at h2
      rw [Bool.not_eq_true'] at h1 h2
      exact absurd (str_anti h2 h1) q
  · rw [if_neg (fun z => e z.symm)] at h1
    rw [if_neg e] at h2
    simp only [Bool.not_eq_true', decide_eq_false_iff_not] at h1 h2
    exact absurd (show i = j by omega) e⟩
theorem pk_is (x : Int × Str) : pairKey x = [Sum.inl x.1, Sum.inr x.2] := rfl
instance : TK (Int × Str) where
  key := pairKey
  of := fun ⟨p, v1, v2, e, hp, r1, r2⟩ => ⟨p, e, by
    have f1 := FK.rep r1
    have f2 := FK.rep r2
    subst f1 f2
    exact hp⟩
  to := fun h => ⟨_, _, _, rfl, h, rfl, rfl⟩
  inj := pairKey_inj
  nil := fun {h v x as} r => by
    cases r with
    | @tuple _ _ us _ _ _ h1 h2 h3 h4 =>
      generalize us.toList = zs at h4
      cases h4 with
      | cons a b =>
        cases a
        cases b with
        | cons a b => cases a; cases b; rfl
  alike := fun l => PySem.W.AllAlike.of fun b b' => rfl
  sortable := fun l => PySem.W.Sortable.tuples fun b => ⟨_, _, rfl⟩
  dep := rfl
def k3 (x : T3 Int Str Int) : List Key := [FK.key x.a, FK.key x.b, FK.key x.c]
instance : TK (T3 Int Str Int) where
  key := k3
  of := fun ⟨p, v1, v2, v3, e, hp, r1, r2, r3⟩ => ⟨p, e, by
    have f1 := FK.rep r1
    have f2 := FK.rep r2
    have f3 := FK.rep r3
    subst f1 f2 f3
    exact hp⟩
  to := fun h => ⟨_, _, _, _, rfl, h, rfl, rfl, rfl⟩
  inj := fun a b q => by
    unfold k3 at q
    injection q with q1 q2
    injection q2 with q2 q3
    injection q3 with q3 _
    obtain ⟨a1, a2, a3⟩ := a
    obtain ⟨b1, b2, b3⟩ := b
    have e1 := FK.inj _ _ q1
    have e2 := FK.inj _ _ q2
    have e3 := FK.inj _ _ q3
    dsimp only at *
    rw [e1, e2, e3]
  nil := fun {h v x as} r => by
    cases r with
    | @tuple _ _ us _ _ _ h1 h2 h3 h4 =>
      generalize us.toList = zs at h4
      cases h4 with
      | cons a b =>
        cases a
        cases b with
        | cons a b =>
          cases a
          cases b with
          | cons a b => cases a; cases b; rfl
  alike := fun l => PySem.W.AllAlike.of fun b b' => rfl
  sortable := fun l => PySem.W.Sortable.tuples fun b => ⟨_, _, rfl⟩
  dep := rfl
end Cb

set_option Elab.async false
set_option linter.all false
set_option maxRecDepth 100000
/-! Cb45: None or an owned thing -/
namespace Cb
open PySem PySem.Spec L2
open PyProof.Rows hiding St
instance {β : Type} [Ow β] : Ow (Option β) where
  own := fun K F v x O => match x with | none => v = .non | some b => Ow.own K F v b O
  omono := fun {K F F' v x O} h r => match x, r with | none, r => r | some _, r => Ow.omono (K := K) h r
  oread := fun {K F H v x O} r hF hO => match x, r with | none, r => r | some _, r => Ow.oread (K := K) r hF hO
section
variable {X : Cx} {B F0 : Hp} {Γ : Ev} {k : Bool} {e : Expr} {pos p : Pos} {D : Ends} {ss : List Stmt} {β : Type} [Ow β]
theorem xoNone {j : Nat} : XO X B F0 Γ (.Constant .none j pos) k (none : Option β) := fun F σ H Q A q =>
  WE.of pe_non (q F H .non (fun _ => none) (Grow.refl A.sF) (fun _ _ z => nomatch z) (fun _ _ z => nomatch z) rfl)
theorem XO.some {b : β} (h : XO X B F0 Γ e k b) : XO X B F0 Γ e k (Option.some b) := fun F σ H Q A q =>
  h F σ H Q A fun F' H' v O g so n r => q F' H' v O g so n r
theorem XO.vw {b : β} (h : XO X B F0 Γ e k b) : XV X B F0 Γ e b := fun F σ H Q A q =>
  h F σ H Q A fun F' H' v O g so n r => q F' H' v g (Ow.oread r (rf_sub.trans g.fh) so)
theorem ts_outoO {o : Option β} {b : β} (i : Nat) (hΓ : Γ[i]? = some (ownd k o)) (e : o = Option.some b) (ht : TSs X B F0 (Γ.set i (ownd k b)) ss D) : TSs X B F0 Γ ss D := fun F σ H A => by
  subst e
  obtain ⟨⟨O, s, so⟩, sF, sB, s0, bf⟩ := A
  exact ht F σ H ⟨⟨O, slots_at (fun o O q => q) hΓ s, so⟩, sF, sB, s0, bf⟩
end
end Cb

set_option Elab.async false
set_option linter.all false
set_option maxRecDepth 100000
/-! Cb46: tuples of five, dict(pairs), range by steps, powers -/
namespace Cb
open PySem PySem.Spec L2
open PyProof.Rows hiding St
structure T5 (α β γ δ ε : Type) where
  a : α
  b : β
  c : γ
  d : δ
  e : ε
  deriving DecidableEq
instance {α β γ δ ε : Type} [R α] [R β] [R γ] [R δ] [R ε] : R (T5 α β γ δ ε) := ⟨fun K F v x => ∃ p v1 v2 v3 v4 v5, v = .ref p ∧ F p = some (.tup [v1, v2, v3, v4, v5]) ∧ R.rep K F v1 x.a ∧ R.rep K F v2 x.b ∧ R.rep K F v3 x.c ∧ R.rep K F v4 x.d ∧ R.rep K F v5 x.e,
  fun h ⟨p, v1, v2, v3, v4, v5, e, q, r1, r2, r3, r4, r5⟩ => ⟨p, v1, v2, v3, v4, v5, e, h _ _ q, R.mono h r1, R.mono h r2, R.mono h r3, R.mono h r4, R.mono h r5⟩⟩
instance {α β γ δ ε : Type} [R α] [R β] [R γ] [R δ] [R ε] [Pure α] [Pure β] [Pure γ] [Pure δ] [Pure ε] : Pure (T5 α β γ δ ε) := ⟨fun ⟨p, v1, v2, v3, v4, v5, e, q, r1, r2, r3, r4, r5⟩ => ⟨p, v1, v2, v3, v4, v5, e, tups_at q rfl, Pure.tup r1, Pure.tup r2, Pure.tup r3, Pure.tup r4, Pure.tup r5⟩⟩
section
variable {X : Cx} {B F0 : Hp} {Γ : Ev} {k : Bool} {es : List Expr} {pos : Pos} {α β γ δ ε : Type} [R α] [R β] [R γ] [R δ] [R ε] {x : α} {y : β} {z : γ} {w : δ} {u : ε}
theorem xt5 {x1} (h : XAF X B F0 Γ es (fun K B F vs => ∃ v r, vs = v :: r ∧ R.rep K (rf k B F) v x ∧ ∃ v' r', r = v' :: r' ∧ R.rep K (rf k B F) v' y ∧ ∃ v2 r2, r' = v2 :: r2 ∧ R.rep K (rf k B F) v2 z ∧ ∃ v3 r3, r2 = v3 :: r3 ∧ R.rep K (rf k B F) v3 w ∧ ∃ v4 r4, r3 = v4 :: r4 ∧ R.rep K (rf k B F) v4 u ∧ r4 = [])) : XE X B F0 Γ (.Tuple es x1 pos) k (T5.mk x y z w u) :=
  x_tup h (fun _ _ _ _ ⟨_, _, e1, _, _, _, e2, _, _, _, e3, _, _, _, e4, _, _, _, e5, _, e6⟩ => by subst e1 e2 e3 e4 e5 e6; exact small (by simp)) fun K B F vs p ⟨v, r, e1, r1, v', r', e2, r2, v3, r3, e3, q3, v4, r4, e4, q4, v5, r5, e5, q5, e6⟩ n => by
    subst e1 e2 e3 e4 e5 e6
    exact ⟨p, v, v', v3, v4, v5, rfl, tup_in, R.mono (rf_mono (sub_upd n)) r1, R.mono (rf_mono (sub_upd n)) r2, R.mono (rf_mono (sub_upd n)) q3, R.mono (rf_mono (sub_upd n)) q4, R.mono (rf_mono (sub_upd n)) q5⟩
theorem tg_t5 {t1 t2 t3 t4 t5 : Expr} {kk : Nat} {p : Pos} {is1 is2 is3 is4 is5 : List Nat} {U1 U2 U3 U4 U5 : Ev → Ev} (hc : X.calm = true) (h1 : TGt X B t1 k x is1 U1) (h2 : TGt X B t2 k y is2 U2) (h3 : TGt X B t3 k z is3 U3) (h4 : TGt X B t4 k w is4 U4) (h5 : TGt X B t5 k u is5 U5)
    (hs1 : (assignEach [t1, t2, t3, t4, t5] X.env).map (·.2) = assign t1 X.env :: (assignEach [t2, t3, t4, t5] X.env).map (·.2) := by rfl) (hs2 : (assignEach [t2, t3, t4, t5] X.env).map (·.2) = assign t2 X.env :: (assignEach [t3, t4, t5] X.env).map (·.2) := by rfl) (hs3 : (assignEach [t3, t4, t5] X.env).map (·.2) = assign t3 X.env :: (assignEach [t4, t5] X.env).map (·.2) := by rfl) (hs4 : (assignEach [t4, t5] X.env).map (·.2) = assign t4 X.env :: (assignEach [t5] X.env).map (·.2) := by rfl) (hs5 : (assignEach [t5] X.env).map (·.2) = assign t5 X.env :: (assignEach [] X.env).map (·.2) := by rfl)
    (hn : (assignEach [t1, t2, t3, t4, t5] X.env).length = 5 := by rfl) (hst : (assignEach [t1, t2, t3, t4, t5] X.env).findIdx? (·.1) = none := by rfl) :
    TGt X B (.Tuple [t1, t2, t3, t4, t5] kk p) k (T5.mk x y z w u) (is1 ++ is2 ++ is3 ++ is4 ++ is5) (fun Γ => U5 (U4 (U3 (U2 (U1 Γ))))) := fun F0 Γ F σ H v Q A r q => by
  obtain ⟨pa, v1, v2, v3, v4, v5, ev, ep, r1, r2, r3, r4, r5⟩ := r
  refine WG.of (pg_tup hc (pgs_cons can_g (pgs_cons can_g (pgs_cons can_g (pgs_cons can_g (pgs_cons can_g pgs_nil hs5) hs4) hs3) hs2) hs1) hn hst) ⟨pa, _, ev, SqT.of (A.sF _ _ (rf_sub _ _ ep)), rfl, v1, _, rfl, ?_⟩
  refine h1 F0 Γ F σ H v1 _ A r1 fun σ1 g1 l1 A1 => ⟨v2, _, rfl, h2 F0 _ F σ1 H v2 _ A1 r2 fun σ2 g2 l2 A2 => ⟨v3, _, rfl, h3 F0 _ F σ2 H v3 _ A2 r3 fun σ3 g3 l3 A3 => ⟨v4, _, rfl, h4 F0 _ F σ3 H v4 _ A3 r4 fun σ4 g4 l4 A4 => ⟨v5, [], rfl, h5 F0 _ F σ4 H v5 _ A4 r5 fun σ5 g5 l5 A5 => ⟨rfl, q σ5 (fun j hj => ?_) (l5.trans (l4.trans (l3.trans (l2.trans l1)))) A5⟩⟩⟩⟩⟩
  rw [g5 j (fun z => hj (by simp [z])), g4 j (fun z => hj (by simp [z])), g3 j (fun z => hj (by simp [z])), g2 j (fun z => hj (by simp [z])), g1 j (fun z => hj (by simp [z]))]
end
/-! ### dict of a list of pairs -/
theorem mergeK_new : ∀ (more kvs : List (Key × V)), ((kvs ++ more).map (·.1)).Nodup → mergeK kvs more = kvs ++ more
  | [], kvs, _ => by unfold mergeK; simp
  | kv :: r, kvs, h => by
    have hn : kv.1 ∉ kvs.map (·.1) := by
      rw [List.map_append, List.nodup_append] at h
      intro z
      exact h.2.2 _ z kv.1 (by simp) rfl
    have e : putK kvs kv.1 kv.2 = kvs ++ [kv] := by
      rw [putK_eq]
      unfold dPut
      have : (kvs.any fun x => decide (x.1 = kv.1)) = false := by
        rw [List.any_eq_false]
        intro p hp
        simp only [decide_eq_true_eq]
        intro e
        exact hn (e ▸ List.mem_map_of_mem hp)
      rw [this]; rfl
    have ih := mergeK_new r (kvs ++ [kv]) (by simpa using h)
    unfold mergeK at ih ⊢
    rw [List.foldl_cons, e, ih]; simp
section
variable {X : Cx} {B F0 : Hp} {Γ : Ev} {k : Bool} {a b c : Expr} {pos : Pos} {β : Type} [R β]
theorem reps_prs {K : Kf} {F : Hp} : ∀ {vs : List V} {l : List (Int × β)}, Reps K F vs l → ∃ (ps : List Addr) (ws : List (Int × V)), vs = ps.map V.ref ∧ Paired (fun p kv => F p = some (.tup [V.int kv.1, kv.2])) ps ws ∧ PD K F ws l
  | _, _, .nil => ⟨[], [], rfl, .nil, .nil⟩
  | _, _, .cons r t => by
    obtain ⟨ps, ws, e1, e2, e3⟩ := reps_prs t
    obtain ⟨p, v1, v2, rfl, hp, r1, r2⟩ := r
    have r1' : v1 = .int _ := r1
    subst r1'
    exact ⟨p :: ps, (_, v2) :: ws, by rw [e1]; rfl, .cons hp e2, .cons ⟨rfl, r2⟩ e3⟩
theorem pd_keysI {K : Kf} {F : Hp} : ∀ {ws : List (Int × V)} {l : List (Int × β)}, PD K F ws l → ws.map (·.1) = l.map (·.1)
  | _, _, .nil => rfl
  | _, _, .cons h t => by rw [List.map_cons, List.map_cons, pd_keysI t, h.1]
theorem xdictP {l : List (Int × β)} {p : Pos} (hc : X.calm = true) (mm : X.mg "dict" = none) (ha : XE X B F0 Γ a k l) (nd : (l.map (·.1)).Nodup) (hg : Gl X "dict" := by rfl) (hs : starEach [a] X.env = (false, eval a X.env) :: starEach [] X.env := by rfl) :
    XO X B F0 Γ (.Call (.Name "dict" p) [a] [] pos) k (Dct.mk l : Dct Int β) := fun F σ H Q A q =>
  x_ty (call_dictP hc) hg mm (by decide +kernel) (ha F σ H _ A fun F' H' v g ⟨lp, vs, ev, hp, r⟩ => by
    obtain ⟨ps, ws, e1, e2, e3⟩ := reps_prs r
    have sH : Same (rf k B F') H' := rf_sub.trans g.fh
    refine ⟨lp, ps, ws.map (fun kv => (Sum.inl kv.1, kv.2)), by rw [ev], SqL.of (by rw [← e1]; exact sH _ _ hp), ?_, fun p np => ?_⟩
    · have : ∀ {ps : List Addr} {ws : List (Int × V)}, Paired (fun p kv => (rf k B F') p = some (.tup [V.int kv.1, kv.2])) ps ws → Paired (fun p (kv : Key × V) => SqT X.K H' p [kV kv.1, kv.2]) ps (ws.map (fun kv => (Sum.inl kv.1, kv.2))) := by
        intro ps ws h
        induction h with
        | nil => exact .nil
        | cons h _ ih => exact .cons (SqT.of (sH _ _ h)) ih
      exact this e2
    · have em : mergeK [] (ws.map (fun kv => ((Sum.inl kv.1 : Key), kv.2))) = ws.map (fun kv => (Sum.inl kv.1, kv.2)) := by
        rw [mergeK_new _ [] ?_]
        · rfl
        · rw [List.nil_append, List.map_map]
          have := pd_keysI e3
          rw [← this] at nd
          unfold List.Nodup at nd ⊢
          rw [List.pairwise_map] at nd ⊢
          exact nd.imp fun h e => h (Sum.inl.inj e)
      rw [em]
      refine q F' _ (.ref p) (one p (DK.ho (κ := Int) ws)) (g.trans (Grow.newH g.fh np)) (one_sub upd_same) (fun x o e => ?_) ⟨p, ws, rfl, one_at, e3⟩
      obtain ⟨rfl, rfl⟩ := one_is e
      exact ⟨g.hh.free np, g.fh.free np, DK.notTup _⟩) (hs := hs)
/-! ### ranges by steps, powers -/
def rngC (lo st : Int) (n : Nat) : List Int := (List.range n).map fun i : Nat => lo + (i : Int) * st
theorem itc_ok {K : Kf} {F : Hp} {lo st : Int} {n : Nat} : ItOk (Itc lo st n) K B F k (rngC lo st n) where
  go := fun i hi F1 H1 s1 s2 => by
    have hl : (rngC lo st n).length = n := by unfold rngC; simp
    refine ⟨by rw [hl] at hi; exact hi, fun u H2 ⟨e, y⟩ => ?_⟩
    subst e y
    refine ⟨F1, Grow.refl s2, ?_⟩
    refine congrArg V.int ?_
    simp [rngC]
  stop := fun i hi F1 H1 s1 s2 => by
    have hl : (rngC lo st n).length = n := by unfold rngC; simp
    rw [hl] at hi; exact Nat.le_of_eq hi.symm
theorem xi_range3 {tg : Expr} {p : Pos} {i j s : Int} {n : Nat} (mr : X.mg "range" = none) (h : XV X B F0 Γ a i) (h2 : XV X B F0 Γ b j) (h3 : XV X B F0 Γ c s) (hn : RgC i j s n) (hg : Gl X "range" := by rfl)
    (hs : starEach [a, b, c] X.env = (false, eval a X.env) :: starEach [b, c] X.env := by rfl) (hs2 : starEach [b, c] X.env = (false, eval b X.env) :: starEach [c] X.env := by rfl) (hs3 : starEach [c] X.env = (false, eval c X.env) :: starEach [] X.env := by rfl) (hpl : (backTo pos (starEach [b, c] X.env)).any (·.1) = false := by rfl) :
    XI X B F0 Γ tg (.Call (.Name "range" p) [a, b, c] [] pos) k (rngC i s n) := fun F σ H R A q =>
  WI.of (pi_range3 hg mr (pa_cons can_e (pa_cons can_e (pa_cons can_e pa_nil hs3) hs2) hs) hs hpl) (h F σ H _ A fun F1 H1 v g r => h2 F1 σ H1 _ (A.grow g) fun F2 H2 v2 g2 r2 => h3 F2 σ H2 _ ((A.grow g).grow g2) fun F3 H3 v3 g3 r3 => ⟨i, j, s, n, by rw [show v = V.int i from r, show v2 = V.int j from r2, show v3 = V.int s from r3], hn, q F3 H3 _ (g.trans (g2.trans g3)) itc_ok⟩)
theorem xpow {i j : Int} (ha : XV X B F0 Γ a i) (hb : XV X B F0 Γ b j) (c : CPow i j) : XE X B F0 Γ (.BinOp a .Pow b pos) k (i ^ j.toNat) := x_op op_pow ha hb fun H v w Q r1 r2 q => ⟨i, j, r1, r2, c, q _ fun _ => rfl⟩
end
end Cb

set_option Elab.async false
set_option linter.all false
set_option maxRecDepth 100000
/-! Cb47: a, b = x, y and a, b, c = x, y, z, the names locals -/
namespace Cb
open PySem PySem.Spec L2
open PyProof.Rows hiding St
section
variable {X : Cx} {B F0 : Hp} {Γ : Ev} {k1 k2 k3 : Bool} {a b c : Expr} {D : Ends} {ss : List Stmt} {α β γ : Type} [R α] [R β] [R γ] {u : α} {v : β} {w : γ}
theorem ts_par2 {x y : Str} {px py pt pos pt2 : Pos} {kt kk : Nat} (i j : Nat) (hc : X.calm = true) (hN : X.N.Nodup) (h1 : XE X B F0 Γ a k1 u) (h2 : XE X B F0 Γ b k2 v) (ht : TSs X B F0 ((Γ.set i (vl k1 u)).set j (vl k2 v)) ss D)
    (hi : X.N[i]? = some x := by rfl) (hj : X.N[j]? = some y := by rfl) (hij : i ≠ j := by decide)
    (hx : X.env.scope.names.lookup x = some .local := by rfl) (hy : X.env.scope.names.lookup y = some .local := by rfl)
    (hs1 : starEach [a, b] X.env = (false, eval a X.env) :: starEach [b] X.env := by rfl) (hs2 : starEach [b] X.env = (false, eval b X.env) :: starEach [] X.env := by rfl)
    (hw : swappedStores [.Tuple [.Name x px, .Name y py] kt pt] (.Tuple [a, b] kk pt2) X.env = pure (some [x, y]) := by rfl)
    (hs : swapsWithSole [.Tuple [.Name x px, .Name y py] kt pt] (.Tuple [a, b] kk pt2) pos.line X.env = pure false := by rfl) :
    TSs X B F0 Γ (.Assign [.Tuple [.Name x px, .Name y py] kt pt] (.Tuple [a, b] kk pt2) pos :: ss) D :=
  ts_cons fun F σ H A => WS.of (ps_par hc hN hi hj hij hx hy (pa_cons can_e (pa_cons can_e pa_nil hs2) hs1) hw hs)
    (h1 F σ H _ A fun F1 H1 v1 g1 r1 => h2 F1 σ H1 _ (A.grow g1) fun F2 H2 v2 g2 r2 =>
      ⟨v1, v2, rfl, ht F2 _ H2 ((((A.grow g1).grow g2).set i (R.mono (rf_mono g2.ff) r1)).set j r2)⟩)
theorem ts_par3 {x y z : Str} {px py pz pt pos pt2 : Pos} {kt kk : Nat} (i j l : Nat) (hc : X.calm = true) (hN : X.N.Nodup) (h1 : XE X B F0 Γ a k1 u) (h2 : XE X B F0 Γ b k2 v) (h3 : XE X B F0 Γ c k3 w) (ht : TSs X B F0 (((Γ.set i (vl k1 u)).set j (vl k2 v)).set l (vl k3 w)) ss D)
    (hi : X.N[i]? = some x := by rfl) (hj : X.N[j]? = some y := by rfl) (hl : X.N[l]? = some z := by rfl) (hij : i ≠ j := by decide) (hil : i ≠ l := by decide) (hjl : j ≠ l := by decide)
    (hx : X.env.scope.names.lookup x = some .local := by rfl) (hy : X.env.scope.names.lookup y = some .local := by rfl) (hz : X.env.scope.names.lookup z = some .local := by rfl)
    (hs1 : starEach [a, b, c] X.env = (false, eval a X.env) :: starEach [b, c] X.env := by rfl) (hs2 : starEach [b, c] X.env = (false, eval b X.env) :: starEach [c] X.env := by rfl) (hs3 : starEach [c] X.env = (false, eval c X.env) :: starEach [] X.env := by rfl)
    (hw : swappedStores [.Tuple [.Name x px, .Name y py, .Name z pz] kt pt] (.Tuple [a, b, c] kk pt2) X.env = pure (some [x, y, z]) := by rfl)
    (hs : swapsWithSole [.Tuple [.Name x px, .Name y py, .Name z pz] kt pt] (.Tuple [a, b, c] kk pt2) pos.line X.env = pure false := by rfl) :
    TSs X B F0 Γ (.Assign [.Tuple [.Name x px, .Name y py, .Name z pz] kt pt] (.Tuple [a, b, c] kk pt2) pos :: ss) D :=
  ts_cons fun F σ H A => WS.of (ps_par3 hc hN hi hj hl hij hil hjl hx hy hz (pa_cons can_e (pa_cons can_e (pa_cons can_e pa_nil hs3) hs2) hs1) hw hs)
    (h1 F σ H _ A fun F1 H1 v1 g1 r1 => h2 F1 σ H1 _ (A.grow g1) fun F2 H2 v2 g2 r2 => h3 F2 σ H2 _ ((A.grow g1).grow g2) fun F3 H3 v3 g3 r3 =>
      ⟨v1, v2, v3, rfl, ht F3 _ H3 ((((((A.grow g1).grow g2).grow g3).set i (R.mono (rf_mono (g2.trans g3).ff) r1)).set j (R.mono (rf_mono g3.ff) r2)).set l r3)⟩)
end
end Cb

set_option Elab.async false
set_option linter.all false
set_option maxRecDepth 100000
/-! Cb48: a slot of one of two kinds holds the thing -/
namespace Cb
open PySem PySem.Spec L2
open PyProof.Rows hiding St
section
variable {X : Cx} {B F0 : Hp} {Γ : Ev} {k : Bool} {D : Ends} {ss : List Stmt} {α β : Type} [R α] [R β]
theorem ts_outl {s : Sum α β} {a : α} (i : Nat) (hΓ : Γ[i]? = some (vl k s)) (e : s = .inl a) (ht : TSs X B F0 (Γ.set i (vl k a)) ss D) : TSs X B F0 Γ ss D := fun F σ H A => by
  subst e
  obtain ⟨⟨O, s, so⟩, sF, sB, s0, bf⟩ := A
  exact ht F σ H ⟨⟨O, slots_at (fun o O q => q) hΓ s, so⟩, sF, sB, s0, bf⟩
theorem ts_outr {s : Sum α β} {b : β} (i : Nat) (hΓ : Γ[i]? = some (vl k s)) (e : s = .inr b) (ht : TSs X B F0 (Γ.set i (vl k b)) ss D) : TSs X B F0 Γ ss D := fun F σ H A => by
  subst e
  obtain ⟨⟨O, s, so⟩, sF, sB, s0, bf⟩ := A
  exact ht F σ H ⟨⟨O, slots_at (fun o O q => q) hΓ s, so⟩, sF, sB, s0, bf⟩
end
end Cb

set_option Elab.async false
set_option linter.all false
set_option maxRecDepth 100000
/-! Cb49: slots read otherwise; told lists changed whose length is known -/
namespace Cb
open PySem PySem.Spec L2
open PyProof.Rows hiding St
section
variable {X : Cx} {B F0 : Hp} {Γ : Ev} {k : Bool} {e : Expr} {D : Ends} {ss : List Stmt} {α β : Type} [R α] [R β] {a : α} {b : β}
theorem ts_conv (i : Nat) (hΓ : Γ[i]? = some (vl k a)) (h : ∀ {K : Kf} {F : Hp} {v : V}, R.rep K F v a → R.rep K F v b) (ht : TSs X B F0 (Γ.set i (vl k b)) ss D) : TSs X B F0 Γ ss D := fun F σ H A => by
  obtain ⟨⟨O, s, so⟩, sF, sB, s0, bf⟩ := A
  exact ht F σ H ⟨⟨O, slots_at (s := vl k a) (s' := vl k b) (fun o O ⟨v, e, r⟩ => ⟨v, e, h r⟩) hΓ s, so⟩, sF, sB, s0, bf⟩
theorem XV.conv (q : XV X B F0 Γ e a) (h : ∀ {K : Kf} {F : Hp} {v : V}, R.rep K F v a → R.rep K F v b) : XV X B F0 Γ e b := fun F σ H Q A z =>
  q F σ H Q A fun F' H' v g r => z F' H' v g (h r)
theorem XE.conv (q : XE X B F0 Γ e k a) (h : ∀ {K : Kf} {F : Hp} {v : V}, R.rep K F v a → R.rep K F v b) : XE X B F0 Γ e k b := fun F σ H Q A z =>
  q F σ H Q A fun F' H' v g r => z F' H' v g (h r)
end
/-- a tuple or list of len things whose t-th is a list, of at most cap things, that may be changed -/
structure MutY where
  len : Nat
  t : Nat
  cap : Nat
instance : R MutY := ⟨fun K F v m => ∃ p us q vs, v = .ref p ∧ sqO F p us ∧ us.length = m.len ∧ us[m.t]? = some (.ref q) ∧ F q = some (.lst vs) ∧ vs.length = m.cap,
  fun h ⟨p, us, q, vs, e, s, l, z, w, c⟩ => ⟨p, us, q, vs, e, s.mono h, l, z, h _ _ w, c⟩⟩
instance : Ow MutY where
  own := fun K F v m O => ∃ p us q vs, v = .ref p ∧ sqO F p us ∧ us.length = m.len ∧ us[m.t]? = some (.ref q) ∧ O q = some (.lst vs) ∧ vs.length = m.cap
  omono := fun h ⟨p, us, q, vs, e, s, l, z, w, c⟩ => ⟨p, us, q, vs, e, s.mono h, l, z, w, c⟩
  oread := fun ⟨p, us, q, vs, e, s, l, z, w, c⟩ hF hO => ⟨p, us, q, vs, e, s.mono hF, l, z, hO _ _ w, c⟩
section
variable {X : Cx} {B F0 : Hp} {Γ : Ev} {k : Bool} {e ix : Expr} {D : Ends} {ss : List Stmt} {α : Type} [R α]
/-- what is told is taken apart: its t-th list may be changed from here on -/
theorem ts_muty {x : α} (i : Nat) (m : MutY) (hΓ : Γ[i]? = some (vl true x)) (hF : F0 = B) (hI : ∀ s ∈ Γ.set i junk, s.Indep)
    (hx : ∀ K F v, R.rep K F v x → ∃ p us q vs, v = .ref p ∧ sqO F p us ∧ us.length = m.len ∧ us[m.t]? = some (.ref q) ∧ F q = some (.lst vs) ∧ vs.length = m.cap ∧ q ≠ p)
    (ht : TSs X B F0 (Γ.set i (ownd true m)) ss D) : TSs X B F0 Γ ss D := fun F σ H A => by
  obtain ⟨⟨O, s, so, d, nt⟩, sF, sB, s0, bf⟩ := A
  obtain ⟨o, O1, Or, e1, h1, h2, h3, ⟨v, rfl, rv⟩, h5⟩ := s.focus hΓ
  obtain ⟨p, us, q, vs, rfl, hp, hl, hz, hq, hc, qp⟩ := hx _ _ _ rv
  obtain ⟨fq, tq⟩ := res_is (show res B F q = some (.lst vs) from hq)
  have nB : B q = none := tq.resolve_left (by intro z; cases z)
  have hOq : O q = none := by
    cases w : O q with
    | none => rfl
    | some u => have := (d q (by rw [w]; simp)).1; rw [fq] at this; cases this
  have hσ : σ.set i (some (.ref p)) = σ := set_self e1
  let F' : Hp := del q F
  have hF' : Same F' F := del_sub
  have tF : Same (tups F) F' := fun b u w => by
    obtain ⟨w1, t⟩ := tups_is w
    have : b ≠ q := fun z => by subst z; rw [fq] at w1; cases w1; cases t
    show del q F b = _
    rw [del_ne this]; exact w1
  have sJ : Slots X.K B F (Γ.set i junk) (σ.set i none) O := h5 F junk none (fun _ => none) O (Same.refl _) trivial (fun _ _ z => nomatch z) h2 fun x => .inl rfl
  have sT : Slots X.K B F' (Γ.set i junk) (σ.set i none) O := (Slots.tups' hI sJ).mono tF
  have iL : i < Γ.length := by
    rcases Nat.lt_or_ge i Γ.length with z | z
    · exact z
    · rw [List.getElem?_eq_none z] at hΓ; cases hΓ
  obtain ⟨o', P1, Pr, e2, q1, q2, q3, _, q5⟩ := sT.focus (i := i) (s := junk) (by rw [List.getElem?_set_self iL])
  have pH : H q = some (.lst vs) := sF _ _ fq
  have s1 : Same (one q (.lst vs)) H := one_sub pH
  have sP : Same Pr H := q2.trans so
  have nPr : Pr q = none := by
    cases w : Pr q with
    | none => rfl
    | some u => rw [q2 _ _ w] at hOq; cases hOq
  have hp' : sqO (rf true B F') p us := by
    rcases hp with w | w
    · obtain ⟨w1, _⟩ := res_is (show res B F p = some (.tup us) from w)
      exact .inl (res_at (show del q F p = _ by rw [del_ne qp.symm]; exact w1) (.inl rfl))
    · obtain ⟨w1, w2⟩ := res_is (show res B F p = some (.lst us) from w)
      exact .inr (res_at (show del q F p = _ by rw [del_ne qp.symm]; exact w1) (.inr (w2.resolve_left (by intro z; cases z))))
  have key := q5 F' (ownd true m) (some (.ref p)) (one q (.lst vs)) (join (one q (.lst vs)) Pr) (Same.refl _) ⟨_, rfl, p, us, q, vs, rfl, hp', hl, hz, one_at, hc⟩ (join_left _ _) (join_right s1 sP) fun x => by
    by_cases z : x = q
    · subst z; exact .inr nPr
    · left; unfold one; rw [if_neg z]
  rw [List.set_set, List.set_set, hσ] at key
  refine ht F' σ H ⟨⟨_, key, join_sub s1 sP, fun x hx => ?_, fun x u w => ?_⟩, hF'.trans sF, sB, ?_, ?_⟩
  · by_cases z : x = q
    · subst z; exact ⟨del_self, nB⟩
    · cases w : join (one q (.lst vs)) Pr x with
      | none => exact absurd w hx
      | some u =>
        rcases join_is w with y | y
        · exact absurd (one_is y).1 z
        · have hO : O x ≠ none := by rw [q2 _ _ y]; simp
          exact ⟨(del_ne z).trans (d x hO).1, (d x hO).2⟩
  · rcases join_is w with y | y
    · obtain ⟨rfl, rfl⟩ := one_is y; rfl
    · exact nt _ _ (q2 _ _ y)
  · subst hF
    intro b u w
    have : b ≠ q := fun z => by subst z; rw [nB] at w; cases w
    show del q F b = _
    rw [del_ne this]; exact s0 _ _ w
  · intro b u w
    have : b ≠ q := fun z => by subst z; rw [nB] at w; cases w
    show del q F b = _
    rw [del_ne this]; exact bf _ _ w
/-- x[i].append(e) -/
theorem ts_mutyA {β : Type} [R β] {y : β} {m : MutY} {j : Int} {n : Str} {p pa cp ep sp : Pos} (i : Nat) (hΓ : Γ[i]? = some (ownd k m)) (hix : XV X B F0 Γ ix j) (hj : ixN m.len j = some m.t) (he : XV X B F0 Γ e y) (hcap : m.cap < sizeLine)
    (ht : TSs X B F0 (Γ.set i (ownd k (MutY.mk m.len m.t (m.cap + 1)))) ss D) (hpi : PlainIx ix := by exact fun _ _ => rfl)
    (hN : X.N[i]? = some n := by rfl) (hv : Vis X.env.scope n := by first | exact Or.inl rfl | exact Or.inr (Or.inl rfl) | exact Or.inr (Or.inr rfl)) (hd : (n == ("__debug__" : Str)) = false := by decide) (hcd : (n == ("__classdict__" : Str)) = false := by decide)
    (hbase : attributeBase (.Subscript (.Name n p) ix sp) "append" X.env (eval (.Subscript (.Name n p) ix sp) X.env) = eval (.Subscript (.Name n p) ix sp) X.env := by rfl)
    (hfew : ((backTo cp (starEach [e] X.env)).all (fun x => !x.1) && (backToKw cp (keywordEach [] X.env)).all (fun x => x.1.isSome) && decide ([e].length + ([] : List Keyword).length + (if ([] : List Keyword).isEmpty then 0 else 1) < 30)) = true := by rfl)
    (hline : (pa.endLine == cp.line) = true := by rfl) (hst : starEach [e] X.env = (false, eval e X.env) :: starEach [] X.env := by rfl) (hpl : (backTo cp (starEach [] X.env)).any (·.1) = false := by rfl) (hs : swapsWith (.Call (.Attribute (.Subscript (.Name n p) ix sp) "append" pa) [e] [] cp) none ep.line X.env = pure false := by rfl) :
    TSs X B F0 Γ (.Expr (.Call (.Attribute (.Subscript (.Name n p) ix sp) "append" pa) [e] [] cp) ep :: ss) D :=
  ts_cons fun F σ H A => WS.of (ps_expr (pe_bm PySem.F.plainAttrs_list PySem.F.slot_list_append PySem.F.type_list_append mt_append (pe_ix ix_seq (pe_var hN hv hd hcd) can_e hpi) (pa_cons can_e pa_nil hst) hbase hfew hline hst hpl) hs) (by
    obtain ⟨v, O1, e1, sO, ⟨b, us, q, vs, rfl, hb, hl, hz, hq, hc⟩, w⟩ := A.poke (β' := MutY) hΓ
    refine ⟨.ref b, e1, hix F σ H _ A fun F1 H1 v1 g1 r1 => ?_⟩
    have r1' : v1 = .int j := r1
    subst r1'
    have hat : atI us j = some (.ref q) := by unfold atI; rw [hl, hj]; exact hz
    have hqH := g1.hh _ _ (sO _ _ hq)
    have tyq : tyV X.K "list" (.ref q) H1 := .inl ⟨rfl, _, SqL.of hqH⟩
    have fin := he F1 σ H1 (fun u H2 => rAppend (.ref q) [u] H2 fun _ H3 => WSs X ss D σ H3) (A.grow g1) fun F' H' v g2 rv => by
      have g := g1.trans g2
      exact ⟨q, vs, v, rfl, rfl, g.hh _ _ (sO _ _ hq), by omega, ht F' σ _ (w F' H' (fun _ => none) q vs (vs ++ [v]) _ g hq (fun _ _ z => nomatch z) (fun _ _ z => nomatch z) ⟨b, us, q, vs ++ [v], rfl, hb.mono (rf_mono g.ff), hl, hz, upd_same, by rw [List.length_append, hc]; rfl⟩)⟩
    rcases hb with z | z
    · exact .inr (.inl ⟨b, us, j, .ref q, rfl, rfl, SqT.of (g1.fh _ _ (g1.ff _ _ (rf_sub _ _ z))), hat, tyq, fin⟩)
    · exact .inl ⟨b, us, j, .ref q, rfl, rfl, SqL.of (g1.fh _ _ (g1.ff _ _ (rf_sub _ _ z))), hat, tyq, fin⟩)
/-- x[i][j] = e -/
theorem ts_mutyS {β : Type} [R β] {y : β} {m : MutY} {j jx : Int} {jm : Nat} {i2 : Expr} {n : Str} {p p' sp pos : Pos} (i : Nat) (hΓ : Γ[i]? = some (ownd k m)) (hix : XV X B F0 Γ ix j) (hj : ixN m.len j = some m.t) (he : XV X B F0 Γ e y) (hi : XV X B F0 Γ i2 jx) (hm : ixN m.cap jx = some jm)
    (ht : TSs X B F0 (Γ.set i (ownd k m)) ss D) (hpi : PlainIx ix := by exact fun _ _ => rfl)
    (hN : X.N[i]? = some n := by rfl) (hv : Vis X.env.scope n := by first | exact Or.inl rfl | exact Or.inr (Or.inl rfl) | exact Or.inr (Or.inr rfl)) (hd : (n == ("__debug__" : Str)) = false := by decide) (hcd : (n == ("__classdict__" : Str)) = false := by decide)
    (ha : ∀ v, assign (.Subscript (.Subscript (.Name n p) ix sp) i2 p') X.env v = (do
      let ov ← holding [v] (eval (.Subscript (.Name n p) ix sp) X.env)
      let iv ← holding [v, ov] (eval i2 X.env)
      standAt p'
      holding [v, ov, iv] (setItem ov iv v)
      release [v, ov, iv] []) := by intro _; rfl)
    (hs : swapsWithSole [.Subscript (.Subscript (.Name n p) ix sp) i2 p'] e pos.line X.env = pure false := by rfl) (hw : swappedStores [.Subscript (.Subscript (.Name n p) ix sp) i2 p'] e X.env = pure none := by rfl)
    (h1 : (assignEach [.Subscript (.Subscript (.Name n p) ix sp) i2 p'] X.env).map (·.2) = [assign (.Subscript (.Subscript (.Name n p) ix sp) i2 p') X.env] := by rfl) : TSs X B F0 Γ (.Assign [.Subscript (.Subscript (.Name n p) ix sp) i2 p'] e pos :: ss) D :=
  ts_cons fun F σ H A => WS.of (ps_asg can_e (pg_sub (pe_ix ix_seq (pe_var hN hv hd hcd) can_e hpi) can_e set_list ha) hs hw h1) (he F σ H _ A fun F0' H0 v0 g0 r0 => by
    obtain ⟨v, O1, e1, sO, ⟨b, us, q, vs, rfl, hb, hl, hz, hq, hc⟩, w⟩ := (A.grow g0).poke (β' := MutY) hΓ
    refine ⟨.ref b, e1, hix F0' σ H0 _ (A.grow g0) fun F1 H1 v1 g1 r1 => ?_⟩
    have r1' : v1 = .int j := r1
    subst r1'
    have hat : atI us j = some (.ref q) := by unfold atI; rw [hl, hj]; exact hz
    have fin := hi F1 σ H1 (fun u H2 => rSetL (.ref q) u v0 H2 fun H3 => WSs X ss D σ H3) ((A.grow g0).grow g1) fun F' H' u g2 r2 => by
      have g := g1.trans g2
      exact ⟨q, vs, jx, jm, rfl, r2, g.hh _ _ (sO _ _ hq), by rw [hc]; exact hm, ht F' σ _ (w F' H' (fun _ => none) q vs (vs.set jm v0) _ g hq (fun _ _ z => nomatch z) (fun _ _ z => nomatch z) ⟨b, us, q, vs.set jm v0, rfl, hb.mono (rf_mono g.ff), hl, hz, upd_same, by rw [List.length_set]; exact hc⟩)⟩
    rcases hb with z | z
    · exact .inr (.inl ⟨b, us, j, .ref q, rfl, rfl, SqT.of (g1.fh _ _ (g1.ff _ _ (rf_sub _ _ z))), hat, fin⟩)
    · exact .inl ⟨b, us, j, .ref q, rfl, rfl, SqL.of (g1.fh _ _ (g1.ff _ _ (rf_sub _ _ z))), hat, fin⟩)
end
theorem my_pair {α β : Type} [R α] [R β] {a : α} {bs : List β} {c : Nat} (h : bs.length = c) : ∀ K F v, R.rep K F v ((a, bs) : α × List β) → ∃ p us q vs, v = V.ref p ∧ sqO F p us ∧ us.length = (MutY.mk 2 1 c).len ∧ us[(MutY.mk 2 1 c).t]? = some (.ref q) ∧ F q = some (.lst vs) ∧ vs.length = (MutY.mk 2 1 c).cap ∧ q ≠ p :=
  fun K F v ⟨p, v1, v2, e, hp, _, q, vs, e2, hq, r⟩ => ⟨p, [v1, v2], q, vs, e, .inl hp, rfl, by rw [e2]; rfl, hq, by rw [Reps.length r]; exact h, fun z => by subst z; rw [hp] at hq; cases hq⟩
section
variable {X : Cx} {B F0 : Hp} {Γ : Ev} {k : Bool} {a b : Expr} {pos : Pos} {α : Type} [R α] [DecidableEq α] [Dat α] {x y : α}
theorem xcvE (ha : XV X B F0 Γ a x) (hb : XV X B F0 Γ b y) (hu : X.A.units + 64 < cLine) (h1 : Dat.ok x) (h2 : Dat.ok y) (hd : Dat.dep α ≤ 64 := by decide) (hm : behindInMarks .Eq b = false := by first | exact nomark _ | rfl) : XE X B F0 Γ (.Compare a [.Eq] [b] pos) k (decide (x = y)) := xcv (cx_eqD hu h1 h2 hd) ha hb hm
theorem xctE (ha : XV X B F0 Γ a x) (hb : XV X B F0 Γ b y) (hu : X.A.units + 64 < cLine) (h1 : Dat.ok x) (h2 : Dat.ok y) (hd : Dat.dep α ≤ 64 := by decide) (hm : behindInMarks .Eq b = false := by first | exact nomark _ | rfl) : XT X B F0 Γ (.Compare a [.Eq] [b] pos) (decide (x = y)) := xct (cx_eqD hu h1 h2 hd) ha hb hm
theorem xcvN (ha : XV X B F0 Γ a x) (hb : XV X B F0 Γ b y) (hu : X.A.units + 64 < cLine) (h1 : Dat.ok x) (h2 : Dat.ok y) (hd : Dat.dep α ≤ 64 := by decide) (hm : behindInMarks .NotEq b = false := by first | exact nomark _ | rfl) : XE X B F0 Γ (.Compare a [.NotEq] [b] pos) k (!decide (x = y)) := xcv (cx_neD hu h1 h2 hd) ha hb hm
theorem xctN (ha : XV X B F0 Γ a x) (hb : XV X B F0 Γ b y) (hu : X.A.units + 64 < cLine) (h1 : Dat.ok x) (h2 : Dat.ok y) (hd : Dat.dep α ≤ 64 := by decide) (hm : behindInMarks .NotEq b = false := by first | exact nomark _ | rfl) : XT X B F0 Γ (.Compare a [.NotEq] [b] pos) (!decide (x = y)) := xct (cx_neD hu h1 h2 hd) ha hb hm
end
end Cb

set_option Elab.async false
set_option linter.all false
set_option maxRecDepth 100000
/-! Cb50: None or a new list, frozen -/
namespace Cb
open PySem PySem.Spec L2
open PyProof.Rows hiding St
theorem XO.fzo {X : Cx} {B F0 : Hp} {Γ : Ev} {k : Bool} {e : Expr} {α : Type} [R α] {o : Option (List α)} (h : XO X B F0 Γ e k o) : XE X B F0 Γ e k o := by
  cases o with
  | none => exact fun F σ H Q A q => h F σ H Q A fun F' H' v O g so n r => q F' H' v g r
  | some b =>
    have h' : XO X B F0 Γ e k b := fun F σ H Q A q => h F σ H Q A fun F' H' v O g so n r => q F' H' v O g so n r
    exact XE.some (XO.fz h')
end Cb

set_option Elab.async false
set_option linter.all false
set_option maxRecDepth 100000
/-! Cb51: x = xs.pop(0); [[] for x in xs]; lists of two things of two kinds -/
namespace Cb
open PySem PySem.Spec L2
open PyProof.Rows hiding St
section
variable {X : Cx} {B F0 : Hp} {Γ : Ev} {k : Bool} {D : Ends} {ss : List Stmt} {α : Type} [R α] {x : α} {as : List α}
theorem ts_setpop0 {n t : Str} {p pt pa cp ep p0 : Pos} {j0 : Nat} (i j : Nat) (hN0 : X.N.Nodup) (hΓ : Γ[j]? = some (ownd k (x :: as))) (ht : TSs X B F0 ((Γ.set j (ownd k as)).set i (vl k x)) ss D)
    (hi : X.N[i]? = some t := by rfl) (hx : Loc X.env.scope t := by first | exact Or.inl rfl | exact Or.inr rfl) (hf : X.fn t = true ∨ X.env.scope.names.lookup t = some .local := by first | exact .inl rfl | exact .inr rfl)
    (hN : X.N[j]? = some n := by rfl) (hv : Vis X.env.scope n := by first | exact Or.inl rfl | exact Or.inr (Or.inl rfl) | exact Or.inr (Or.inr rfl)) (hd : (n == ("__debug__" : Str)) = false := by decide) (hcd : (n == ("__classdict__" : Str)) = false := by decide)
    (hbase : attributeBase (.Name n p) "pop" X.env (eval (.Name n p) X.env) = eval (.Name n p) X.env := by rfl)
    (hfew : ((backTo cp (starEach [(.Constant (.int 0) j0 p0 : Expr)] X.env)).all (fun x => !x.1) && (backToKw cp (keywordEach [] X.env)).all (fun x => x.1.isSome) && decide ([(.Constant (.int 0) j0 p0 : Expr)].length + ([] : List Keyword).length + (if ([] : List Keyword).isEmpty then 0 else 1) < 30)) = true := by rfl)
    (hline : (pa.endLine == cp.line) = true := by rfl) (hst : starEach [(.Constant (.int 0) j0 p0 : Expr)] X.env = (false, eval (.Constant (.int 0) j0 p0) X.env) :: starEach [] X.env := by rfl) (hpl : (backTo cp (starEach [] X.env)).any (·.1) = false := by rfl)
    (hs : swapsWith (.Call (.Attribute (.Name n p) "pop" pa) [.Constant (.int 0) j0 p0] [] cp) (some (.Name t pt)) ep.line X.env = pure false := by rfl) :
    TSs X B F0 Γ (.Assign [.Name t pt] (.Call (.Attribute (.Name n p) "pop" pa) [.Constant (.int 0) j0 p0] [] cp) ep :: ss) D :=
  ts_cons fun F σ H A => WS.of (ps_set hN0 hi hx (pe_bm PySem.F.plainAttrs_list PySem.F.slot_list_pop PySem.F.type_list_pop mt_popAt (pe_var hN hv hd hcd) (pa_cons can_e pa_nil hst) hbase hfew hline hst hpl) hs hf) (by
    obtain ⟨q, vs, e1, hp, rr, w⟩ := A.writeL hΓ
    cases rr with
    | cons r0 rt =>
      rename_i v0 vt
      have hz : XE X B F0 Γ (.Constant (.int 0) j0 p0) true (0 : Int) := xi
      refine ⟨.ref q, e1, .inl ⟨rfl, _, SqL.of hp⟩, hz F σ H _ A fun F' H' u g ru => ?_⟩
      have ru' : u = .int 0 := ru
      subst ru'
      refine ⟨q, v0 :: vt, 0, 0, v0, rfl, rfl, g.hh _ _ hp, by decide, by decide, ?_, rfl, ?_⟩
      · unfold seqIndex?
        simp
      · exact ht F' _ _ ((w g (Reps.mono (rf_mono g.ff) rt)).set i (R.mono (rf_mono g.ff) r0)))
end
section
variable {X : Cx} {B F0 : Hp} {Γ : Ev} {k : Bool} {D : Ends} {ss : List Stmt} {pos : Pos} {α β : Type} [R α] [R β]
structure LcN (X : Cx) (B F0 : Hp) (Γ : Ev) (scope : Scope) (tg it : Expr) (own : List (Str × Nat)) {α : Type} [R α] (xs : List α) : Prop where
  ex : ∃ (k0 : Bool) (is : List Nat) (U : α → Ev → Ev), XI X B F0 Γ tg it k0 xs ∧ (∀ x, ∀ s H0 C cl fp, TGt (Blk X scope s H0 C cl fp) B tg k0 x is (U x)) ∧ (∀ j ∈ is, j ∈ own.map (·.2)) ∧ Wiped Γ (own.map (·.2))
theorem lc_readN {scope : Scope} {tg it : Expr} {pl : Pos} {own : List (Str × Nat)} {xs : List α} (L : LcN X B F0 Γ scope tg it own xs) (hz : xs.length ≤ sizeLine) {F σ H} {Q : VK} (A : AS X.K B F0 Γ F σ H)
    (q : ∀ F' H' v O, Grow F H F' H' → Same O H' → (∀ x o, O x = some o → H x = none ∧ F' x = none ∧ isTup o = false) → Ow.own X.K (rf k B F') v (Nest.mk (xs.map fun _ => ([] : List β))) O → Q v H') :
    tLc (WI X tg it) (WGb X scope tg) tYes (WEb X scope (.List [] pl)) (own.map (·.2)) σ H Q := by
  obtain ⟨k0, is, U, hi, hg, his, hw⟩ := L.ex
  refine hi F σ H _ A fun F' H1 J g ok => fun Dd nD => ?_
  have A1 := A.grow g
  refine ⟨fun i m H2 => m = xs.length - i ∧ i ≤ xs.length ∧ ∃ (cs : List Addr) (F2 : Hp), H2 Dd = some (.lst (cs.map V.ref)) ∧ F2 Dd = none ∧ Grow F' H1 F2 H2 ∧ cs.length = i ∧ cs.Nodup ∧ Dd ∉ cs ∧ ∀ c ∈ cs, H2 c = some (.lst []) ∧ F2 c = none ∧ H1 c = none,
    ⟨xs.length, by simp, Nat.zero_le _, [], F', upd_same, A1.sF.free nD, Grow.newH A1.sF nD, rfl, .nil, (by simp), (by simp)⟩, ?_⟩
  rintro i m H2 ⟨rfl, hile, cs, F2, hD, fD, g2, cl, cn, dn, ci⟩
  have stay : ∀ {Fa Ha Fb Hb : Hp} {c : Addr} {o : HO}, Grow Fa Ha Fb Hb → Ha c = some o → isTup o = false → Fa c = none → Fb c = none := fun {Fa Ha Fb Hb c o} gg h1 t h2 => by
    cases w : Fb c with
    | none => rfl
    | some u =>
      rcases gg.nw _ _ w with z | z | z
      · rw [h2] at z; cases z
      · rw [h1] at z; cases z
      · have e1 := gg.fh _ _ w
        rw [gg.hh _ _ h1] at e1; cases e1; rw [t] at z; cases z
  by_cases hlt : i < xs.length
  · refine .inr ⟨(ok.go i hlt F2 H2 g2.ff g2.fh).1, fun H3 => i + 1 ≤ xs.length ∧ ∃ (cs : List Addr) (F3 : Hp), H3 Dd = some (.lst (cs.map V.ref)) ∧ F3 Dd = none ∧ Grow F' H1 F3 H3 ∧ cs.length = i + 1 ∧ cs.Nodup ∧ Dd ∉ cs ∧ ∀ c ∈ cs, H3 c = some (.lst []) ∧ F3 c = none ∧ H1 c = none,
      fun H3 ⟨h1, h2⟩ => ⟨xs.length - (i + 1), by omega, rfl, h1, h2⟩, fun v H3 y => ?_⟩
    obtain ⟨F3, g3, rv⟩ := (ok.go i hlt F2 H2 g2.ff g2.fh).2 v H3 y
    have A3 : AS X.K B F0 Γ F3 σ H3 := (A1.grow g2).grow g3
    intro s H0 C cl' fp
    refine hg xs[i] s H0 C cl' fp F0 Γ F3 (L2.wipe σ _) H3 v _ (A3.wipe _ hw) rv fun σ4 s4 l4 A4 => ⟨wipe_same s4 l4 his, ?_⟩
    unfold tYes
    dsimp only
    rw [if_pos rfl]
    intro s' H0' C' cl2 fp'
    have hl : XO (Blk X scope s' H0' C' cl2 fp') B F0 (U xs[i] Γ) (.List [] pl) k ([] : List β) := xlist xl0
    refine hl F3 σ4 H3 _ A4 fun F6 H6 u O g6 so nn ⟨q, vs, ev, eq, r⟩ => ?_
    have evs : vs = [] := by cases r; rfl
    subst evs ev
    obtain ⟨nq, fq, _⟩ := nn q _ eq
    have hq6 : H6 q = some (.lst []) := so _ _ eq
    have g36 : Grow F2 H2 F6 H6 := g3.trans g6
    have hD3 : H3 Dd = some (.lst (cs.map V.ref)) := g3.hh _ _ hD
    have qD : q ≠ Dd := fun z => by subst z; rw [hD3] at nq; cases nq
    have qc : q ∉ cs := fun z => by rw [g3.hh _ _ (ci q z).1] at nq; cases nq
    have f6 : F6 Dd = none := stay g36 hD rfl fD
    have h6 : H6 Dd = some (.lst (cs.map V.ref)) := g36.hh _ _ hD
    have gA := g2.trans g36
    refine ⟨cs.map V.ref, h6, by rw [List.length_map, cl]; omega, hlt, cs ++ [q], F6, by rw [upd_same, List.map_append]; rfl, f6, ⟨fun b o eb => ?_, gA.ff, fun b o eb => ?_, gA.nw⟩, by rw [List.length_append, cl]; rfl, ?_, ?_, fun c hc => ?_⟩
    · rw [upd_ne (ne_of_none eb nD)]; exact gA.hh _ _ eb
    · rw [upd_ne (ne_of_none eb f6)]; exact gA.fh _ _ eb
    · rw [List.nodup_append]
      exact ⟨cn, by simp, fun a ha b hb e => by rw [List.mem_singleton.mp hb] at e; exact qc (e ▸ ha)⟩
    · rw [List.mem_append]
      rintro (z | z)
      · exact dn z
      · exact qD (List.mem_singleton.mp z).symm
    · rcases List.mem_append.mp hc with z | z
      · obtain ⟨a1, a2, a3⟩ := ci c z
        have cD : c ≠ Dd := fun e => dn (by rw [← e]; exact z)
        exact ⟨by rw [upd_ne cD]; exact g36.hh _ _ a1, stay g36 a1 rfl a2, a3⟩
      · rw [List.mem_singleton.mp z]
        refine ⟨by rw [upd_ne qD]; exact hq6, fq, ?_⟩
        cases w : H1 q with
        | none => rfl
        | some o => rw [g3.hh _ _ (g2.hh _ _ w)] at nq; cases nq
  · have ei : i = xs.length := by omega
    subst ei
    refine .inl ⟨ok.stop _ rfl F2 H2 g2.ff g2.fh, ?_⟩
    refine q F2 H2 (.ref Dd) (fun x => if x = Dd ∨ x ∈ cs then H2 x else none) (g.trans g2) (fun b o e => ?_) (fun b o e => ?_) ⟨Dd, cs.map fun c => (c, []), rfl, ?_, ?_, ?_, ?_, ?_⟩
    · have e' : (if b = Dd ∨ b ∈ cs then H2 b else none) = some o := e
      split at e'
      · exact e'
      · cases e'
    · have e' : (if b = Dd ∨ b ∈ cs then H2 b else none) = some o := e
      split at e'
      · next h =>
        rcases h with rfl | h
        · rw [hD] at e'; cases e'
          exact ⟨g.hh.free nD, fD, rfl⟩
        · obtain ⟨a1, a2, a3⟩ := ci b h
          rw [a1] at e'; cases e'
          exact ⟨g.hh.free a3, a2, rfl⟩
      · cases e'
    · show (if Dd = Dd ∨ Dd ∈ cs then H2 Dd else none) = _
      rw [if_pos (.inl rfl), hD, List.map_map]; rfl
    · rw [List.map_map]
      have : cs.map (Prod.fst ∘ fun c => (c, ([] : List V))) = cs := List.map_id' _
      rw [this]; exact cn
    · rw [List.map_map]
      have : cs.map (Prod.fst ∘ fun c => (c, ([] : List V))) = cs := List.map_id' _
      rw [this]; exact dn
    · intro c hc
      obtain ⟨a, ha, rfl⟩ := List.mem_map.mp hc
      show (if a = Dd ∨ a ∈ cs then H2 a else none) = _
      rw [if_pos (.inr ha)]
      exact (ci a ha).1
    · have : ∀ (cs : List Addr) (xs : List α), cs.length = xs.length → Paired (fun (c : Addr × List V) (l : List β) => Reps X.K (rf k B F2) c.2 l) (cs.map fun c => (c, [])) (xs.map fun _ => []) := by
        intro cs
        induction cs with
        | nil => intro xs h; cases xs with
          | nil => exact .nil
          | cons a t => simp at h
        | cons c cs ih => intro xs h; cases xs with
          | nil => simp at h
          | cons a t => exact .cons .nil (ih t (by simpa using h))
      exact this cs xs cl
/-- name = [[] for x in xs], the name a local -/
theorem ts_setLcN {scope : Scope} {tg it : Expr} {n : Str} {py spos pl : Pos} (i : Nat) (own : List (Str × Nat)) {xs : List α} (hc : X.calm = true) (hN : X.N.Nodup) (ok : BlkOk X.N X.env.scope scope own) (L : LcN X B F0 Γ scope tg it own xs) (hz : xs.length ≤ sizeLine)
    (ht : TSs X B F0 (Γ.set i (ownd k (Nest.mk (xs.map fun _ => ([] : List β))))) ss D) (hsw : swapsWith (.ListComp (.List [] pl) [⟨tg, it, [], 0⟩] scope pos) (some (.Name n py)) spos.line X.env = pure true) (hy : X.N[i]? = some n := by rfl) (hyl : X.env.scope.names.lookup n = some .local := by rfl)
    (hs : ∀ x, foldedSetIterable it X.env x = pure x := by intro _; rfl) : TSs X B F0 Γ (.Assign [.Name n py] (.ListComp (.List [] pl) [⟨tg, it, [], 0⟩] scope pos) spos :: ss) D := ts_cons fun F σ H A => by
  exact WS.of (ps_setLc hc hN hy hyl hsw can_i ok (fun s H C cl fp => ⟨fun pins s' σ H' v u Q I r hh => hh s H C cl fp pins s' u I r⟩) (fun s H C cl fp => pts_nil) (fun s H C cl fp => ⟨fun pins s' σ H' Q I hh => hh s H C cl fp pins s' I⟩) hs)
    (lc_readN L hz A fun F' H' v O g so n r => ht F' _ H' (A.seto g i so n r))
end
end Cb

set_option Elab.async false
set_option linter.all false
set_option maxRecDepth 100000
/-! Cb30: enumerate of a tuple -/
namespace Cb
open PySem PySem.Spec L2
open PyProof.Rows hiding St
section
open Sem (wp)
/-- the cell that enumerate makes over the iterator at n -/
abbrev ecell (n : Nat) : Obj := { cls := .type "enumerate", data := .fields #[.none, .bool false, .ref n, rawInt 0, .none, .none] }
set_option maxHeartbeats 1000000 in
theorem enumNew1 {u : Value} {ob : Obj} {G : Heap → Prop} (bg : Begins u ob G) :
    Meets (Builtin.«enumerate.__new__» ⟨[.type "enumerate", u], []⟩) (fun _ R s => G s.heap ∧ R (.ok (.ret (.ref (s.heap.push ob).objs.size))) { s with heap := (s.heap.push ob).push (ecell s.heap.objs.size) }) :=
  .of_wp fun pr ww Ar R s h => by
    obtain ⟨h0, g0, d0, t0, o0⟩ := s; obtain ⟨b1, h⟩ := h
    have isb := sub_enumerate
    have it1 : ∀ {A1 : Around} {E1 Q1 : Value → Shared → Prop}, Q1 (.ref h0.objs.size) ⟨h0.push ob, g0, d0, t0, o0⟩ → wpAny (model pr ww) A1 (pyIter u) Q1 E1 ⟨h0, g0, d0, t0, o0⟩ := fun q => bg.iter pr ww _ _ ⟨h0, g0, d0, t0, o0⟩ _ b1 q
    wp_walk using it1
    refine wpAny_stack_any fun _ => wpAny_pure ?_
    split
    · rename_i c _ _ _ _ _
      cases (c == Value.type "enumerate") <;> (wp_walk using it1; exact ⟨_, rfl, h⟩)
    · wp_walk using it1
      exact ⟨_, rfl, h⟩
variable {pr : Program} {ww : World} {Ar : Around} {E : Value → Shared → Prop} {s : Shared}
theorem enum_starts {u : Value} {ob : Obj} {G : Heap → Prop} {Q : Value → Shared → Prop} (bg : Begins u ob G) (b1 : G s.heap)
    (h : ∀ h2, IsEnum h2 (s.heap.objs.size + 1) s.heap.objs.size 0 .none → h2.get? s.heap.objs.size = some ob → h2.objs.size = s.heap.objs.size + 2 → (∀ b o, s.heap.get? b = some o → h2.get? b = some o) → Q (.ref (s.heap.objs.size + 1)) { s with heap := h2 }) :
    wpAny (model pr ww) Ar (call (.type "enumerate") [u]) Q E s := by
  refine callType_new F.called_enumerate (by decide) (F.typeCall_enumerate_1 _) (F.newCall_enumerate_1 _) (fun o => F.args_object_init_2 o _) F.entry_enumerate_new (enumNew1 bg) ⟨b1, ?_⟩
  have sz : (s.heap.push ob).objs.size = s.heap.objs.size + 1 := Heap.size_push ..
  have g := Heap.get?_push_size (s.heap.push ob) (o := ecell s.heap.objs.size) rfl
  show _ ∧ _
  rw [sz] at g ⊢
  exact ⟨⟨_, g, rfl⟩, h _ g (Heap.get?_push_of_some _ (Heap.get?_push_size _ bg.free)) (by rw [Heap.size_push, sz]) fun b o q => Heap.get?_push_of_some _ (Heap.get?_push_of_some _ q)⟩
end
/-- the tuple at a, each item with its number in a new pair -/
def IteT (K : Kf) (a : Addr) : It where
  go := fun i H => ∃ xs x, SqT K H a xs ∧ xs[i]? = some x
  yld := fun i H v H' => ∃ T x, v = .ref T ∧ H T = none ∧ H' = upd H T (.tup [.int (i : Nat), x]) ∧ ∀ xs, SqT K H a xs → xs[i]? = some x
  stop := fun i H => ∃ xs, SqT K H a xs ∧ i = xs.length
section
def ESt (e it a : Addr) (i : Nat) (h : Heap) : Prop := (∃ old, IsEnum h e it ((i : Nat) : Int) old) ∧ h.IsTupleIter it a i
theorem turn_enumT {P : Program} {w : World} {K : Kf} {elts : List Expr} {kk : Nat} {tpos : Pos} {a e it : Addr} (ne : e ≠ it) (na : a ≠ it) (nae : a ≠ e) : Turn P w K (.Tuple elts kk tpos) (IteT K a) [e, it] e (ESt e it a) := by
  have two : ∀ {c : Addr} {p : Addr → Prop}, c ∈ [e, it] → p e → p it → p c := fun h h1 h2 => by
    rcases List.mem_cons.mp h with q | q
    · rw [q]; exact h1
    · rw [List.mem_singleton.mp q]; exact h2
  refine ⟨by simp, fun i h st c hc => ?_, fun i h h2 st k => ?_, ?_, ?_, fun A i s Q E st h => by obtain ⟨⟨_, u⟩, _⟩ := st; exact wpAny_pyIter_enum u h⟩
  · obtain ⟨⟨old, u⟩, ⟨o1, e1, _, d1⟩⟩ := st
    exact two (p := fun c => ∃ o, h.get? c = some o ∧ ∀ v, o.data ≠ .cell v) hc ⟨_, u, fun v q => nomatch q⟩ ⟨o1, e1, fun v q => by rw [d1] at q; cases q⟩
  · obtain ⟨⟨old, u⟩, u2⟩ := st
    exact ⟨⟨old, k e (by simp) _ u⟩, u2.at fun o q => k it (by simp) o q⟩
  · intro X hP hw hK hc i pins s σ H E I hf st hg
    subst hP hw hK
    obtain ⟨⟨old, u1⟩, u2⟩ := st
    obtain ⟨xs, x, qx, hx⟩ := hg
    obtain ⟨its, rv, p, _⟩ := I.tuple qx
    obtain ⟨u, hu, ru⟩ := rv.get hx
    have hh : X.A.in1.handled = none := I.ok.hd hc
    have lt1 : i < its.toArray.size := by
      have := (List.getElem?_eq_some_iff.mp hu).1
      simpa using this
    have hel : e < s.heap.objs.size := Heap.lt_size u1
    have hil : it < s.heap.objs.size := by obtain ⟨_, q, _⟩ := u2; exact Heap.lt_size q
    refine wpAny_pyNext_enum_itemD (Draws.tuple hh it a na its.toArray) u1 ⟨u2, p⟩ lt1 ne (by simp [ne, Ne.symm nae]) fun x1 h2 tk e1 out st2 hT hsz hk => ?_
    have e1' : u = x1 := by
      have : its[i]? = some x1 := by simpa using e1
      rw [hu] at this; exact Option.some.inj this
    subst e1'
    refine ⟨_, rfl, wpAny_letOwnedTupleGo_enum (s := { s with heap := h2, toks := tk + 1 }) out fun h3 he' sb => ?_⟩
    have hT2 : h3.get? s.heap.objs.size = some { cls := .type "tuple", data := .seq #[.int i tk, u] } := (sb.2 _ (Nat.ne_of_gt hel)).trans hT
    have nw : ObjOk X.prog X.w (upd H s.heap.objs.size (.tup [.int (i : Nat), x])) h3 s.heap.objs.size (.tup [.int (i : Nat), x]) := ⟨by show 2 ≤ sizeLine; decide, [.int i tk, u], .cons ⟨_, rfl⟩ (.cons ru .nil), ⟨_, hT2, rfl, _, rfl⟩⟩
    have I1 : Inv X pins σ (upd H s.heap.objs.size (.tup [.int (i : Nat), x])) { s with heap := h3, toks := tk + 1 } := I.turnedNew (t' := tk + 1) (ch := [e, it])
      (fun b ob hb q => (sb.2 b (fun y => hb (by simp [y]))).trans (hk b ob (fun y => hb (by simp [y])) (fun y => hb (by simp [y])) q)) hf (Nat.le_refl _) nw
    refine ⟨.ref s.heap.objs.size, _, I1, rfl, ⟨_, x, rfl, I.hok.fresh (Nat.le_refl _), rfl, fun ys hy => by rw [I.tuple_inj hy qx]; exact hx⟩, ⟨⟨u, ?_⟩, st2.1.at fun o q => (sb.2 it (Ne.symm ne)).trans q⟩, fun b hb => ?_⟩
    · have e2 : ((i + 1 : Nat) : Int) = (i : Int) + 1 := by omega
      rw [e2]; exact he'
    · have hb' : b < s.heap.objs.size := two (p := fun b => b < s.heap.objs.size) hb hel hil
      rw [upd_ne (Nat.ne_of_lt hb')]
      exact (hf b hb).1
  · intro X hP hw hK hc i pins s σ H E I hf st hg
    subst hP hw hK
    obtain ⟨⟨old, u1⟩, u2⟩ := st
    obtain ⟨xs, qx, le⟩ := hg
    obtain ⟨its, rv, p, _⟩ := I.tuple qx
    have hh : X.A.in1.handled = none := I.ok.hd hc
    obtain ⟨f0, f1, f2, f3, f4, f5⟩ := hf it (by simp)
    have n1 := rv.length
    have z1 : its.toArray.size = i := by rw [List.size_toArray]; omega
    exact wpAny_pyNext_enum_endD (Draws.tuple hh it a na its.toArray) u1 (by rw [z1]; exact ⟨u2, p⟩) fun h2 eb => ⟨rfl, I.turned (t' := s.toks) (fun b o hb q => eb b o hb q) f0 f1 f3 f4 f5⟩
end
def iEnumT (K : Kf) (ta : TA) : TI := fun σ H R => ta σ H fun vs H1 => ∃ a xs, vs = [V.ref a] ∧ SqT K H1 a xs ∧ R (IteT K a) H1
theorem pi_enumT {X : Cx} {e : Expr} {ta : TA} {p pos tpos : Pos} {elts : List Expr} {kk : Nat} (hg : Gl X "enumerate") (hm : X.mg "enumerate" = none) (ha : PA X [e] ta) (hs : starEach [e] X.env = [(false, eval e X.env)] := by rfl) :
    PI X (.Tuple elts kk tpos) (.Call (.Name "enumerate" p) [e] [] pos) (iEnumT X.K ta) := by
  constructor
  intro pins s σ H R I h
  refine Call_ (ld_blt I hg hm boot_enumerate (PyProof.Rows.callWith_type1 (thn (ha.run pos pins s σ H _ I h) fun us s1 ⟨vs, H1, I1, r1, a, xs, ex, qx, q⟩ => ?_) hs rfl))
  subst ex
  rcases r1 with _ | ⟨r, rr⟩
  cases rr
  cases r
  obtain ⟨its, rv, p1, _⟩ := I1.tuple qx
  obtain ⟨o1, ho1, _⟩ := id p1
  have la : a < s1.heap.objs.size := Heap.lt_size ho1
  refine enum_starts (begins_tuple a its.toArray) p1 fun h2 he g1 hsz hk => wpAny_pyIter_enum he ?_
  have I2 : Inv X pins σ H1 { s1 with heap := h2 } := I1.kept (t' := s1.toks) hk
  refine ⟨s1.heap.objs.size + 1, [s1.heap.objs.size + 1, s1.heap.objs.size], _, _, H1, rfl, I2, turn_enumT (Nat.succ_ne_self _) (Nat.ne_of_lt la) (Nat.ne_of_lt (Nat.lt_succ_of_lt la)), ⟨⟨.none, he⟩, ⟨_, g1, rfl, rfl⟩⟩, fun c hcm => ?_, q⟩
  have fr : ∀ c, s1.heap.objs.size ≤ c → FpOk X pins H1 c := fun c hle => I1.fpOk hle (I1.hok.fresh hle)
  rcases List.mem_cons.mp hcm with y | y
  · rw [y]; exact fr _ (Nat.le_add_right _ _)
  · rw [List.mem_singleton.mp y]; exact fr _ (Nat.le_refl _)
section
variable {X : Cx} {B F0 : Hp} {Γ : Ev} {k : Bool} {e : Expr} {pos p : Pos} {α : Type} [R α]
theorem xi_enumT {elts : List Expr} {kk : Nat} {tpos : Pos} {t : Tup α} (me : X.mg "enumerate" = none) (h : XE X B F0 Γ e k t) (hg : Gl X "enumerate" := by rfl) (hs : starEach [e] X.env = [(false, eval e X.env)] := by rfl) :
    XI X B F0 Γ (.Tuple elts kk tpos) (.Call (.Name "enumerate" p) [e] [] pos) k (enum t.items) := fun F σ H _ A q =>
  WI.of (pi_enumT hg me (pa_cons can_e pa_nil (by rw [hs]; rfl)) hs) (h F σ H _ A fun F' H' v g ⟨l, vs, ev, hl, r⟩ => ⟨l, vs, by rw [ev], SqT.of (g.fh _ _ (rf_sub _ _ hl)), q F' H' _ g (by
    have at1 : ∀ F1 H1, Same F' F1 → Same F1 H1 → SqT X.K H1 l vs := fun F1 H1 s1 s2 => SqT.of (s2 _ _ (s1 _ _ (rf_sub _ _ hl)))
    refine ⟨fun i hi F1 H1 s1 s2 => ?_, fun i hi F1 H1 s1 s2 => ⟨vs, at1 F1 H1 s1 s2, by rw [hi, enum_length, Reps.length r]⟩⟩
    have hi' : i < t.items.length := by rw [enum_length] at hi; exact hi
    obtain ⟨u, hu, ru⟩ := Reps.get r (List.getElem?_eq_getElem hi')
    refine ⟨⟨vs, u, at1 F1 H1 s1 s2, hu⟩, fun w H2 ⟨T, x, ew, nT, eH, y1⟩ => ?_⟩
    have q1 := y1 vs (at1 F1 H1 s1 s2)
    rw [hu] at q1; cases q1
    subst ew eH
    rw [enum_at]
    exact pair_new s2 nT rfl (R.mono (rf_mono s1) ru))⟩)
end
end Cb

set_option Elab.async false
set_option linter.all false
set_option maxRecDepth 100000
/-! Cb31: a list of three things of three kinds, frozen -/
namespace Cb
open PySem PySem.Spec L2
open PyProof.Rows hiding St
section
variable {X : Cx} {B F0 : Hp} {Γ : Ev} {k : Bool} {a c : Expr} {es : List Expr} {pos : Pos} {α β γ δ : Type} [R α] [R β] [R γ] [R δ] {x : α} {y : β} {z : γ}
theorem xl3 (h : XAF X B F0 Γ es (fun K B F vs => ∃ v r, vs = v :: r ∧ R.rep K (rf k B F) v x ∧ ∃ v' r', r = v' :: r' ∧ R.rep K (rf k B F) v' y ∧ ∃ v2 r2, r' = v2 :: r2 ∧ R.rep K (rf k B F) v2 z ∧ r2 = [])) : XE X B F0 Γ (.List es pos) k (L3.mk x y z) := fun F σ H Q A q =>
  WE.of (pe_lst can_a) (h F σ H _ A fun F' H' vs g ⟨v, r, e1, r1, v', r', e2, r2, v3, r3, e3, q3, e4⟩ => ⟨by subst e1 e2 e3 e4; exact small (by simp), fun p np => by
    subst e1 e2 e3 e4
    have nf : F' p = none := g.fh.free np
    have nH : H p = none := g.hh.free np
    have nB : B p = none := A.sB.free nH
    have up : ∀ {G : Hp} {o : HO}, G p = none → Same G (upd G p o) := fun n b u e => by rw [upd_ne (ne_of_none e n)]; exact e
    have sF : Same F' (upd F' p (.lst [v, v', v3])) := up nf
    refine q (upd F' p (.lst [v, v', v3])) _ (.ref p) ⟨g.hh.trans (up np), g.ff.trans sF, fun b u e => ?_, fun b o e => ?_⟩ ⟨p, v, v', v3, rfl, rf_new upd_same nB, R.mono (rf_mono sF) r1, R.mono (rf_mono sF) r2, R.mono (rf_mono sF) q3⟩
    · by_cases w : b = p
      · subst w; rw [upd_same] at e ⊢; exact e
      · rw [upd_ne w] at e ⊢; exact g.fh _ _ e
    · by_cases w : b = p
      · subst w; exact .inr (.inl nH)
      · rw [upd_ne w] at e; exact g.nw _ _ e⟩)
theorem x_itmL {s : δ} {n : Nat} (ha : XE X B F0 Γ a k s) (hc : XV X B F0 Γ c (n : Int)) (h : ∀ K F v, R.rep K F v s → ∃ p vs u, v = .ref p ∧ F p = some (.lst vs) ∧ vs[n]? = some u ∧ R.rep K F u x) (hs : PlainIx c) : XE X B F0 Γ (.Subscript a c pos) k x := fun F σ H Q A q =>
  WE.of (pe_ix ix_list can_e can_e hs) (ha F σ H _ A fun F1 H1 v g r => hc F1 σ H1 _ (A.grow g) fun F2 H2 w g2 r2 => by
    obtain ⟨p, vs, u, e, hp, hu, ru⟩ := h _ _ _ (R.mono (rf_mono g2.ff) r)
    exact ⟨p, vs, n, u, e, r2, SqL.of (g2.fh _ _ (rf_sub _ _ hp)), atI_nat hu, q F2 H2 u (g.trans g2) ru⟩)
variable {j : Nat} {p' : Pos} {u : L3 α β γ}
theorem xl3_0 (ha : XE X B F0 Γ a k u) : XE X B F0 Γ (.Subscript a (.Constant (.int 0) j p') pos) k u.a := x_itmL (n := 0) ha (xi (k := false)).v (fun _ _ _ ⟨p, v1, v2, v3, e, hp, r1, r2, r3⟩ => ⟨p, _, v1, e, hp, rfl, r1⟩) fun _ _ => rfl
theorem xl3_1 (ha : XE X B F0 Γ a k u) : XE X B F0 Γ (.Subscript a (.Constant (.int 1) j p') pos) k u.b := x_itmL (n := 1) ha (xi (k := false)).v (fun _ _ _ ⟨p, v1, v2, v3, e, hp, r1, r2, r3⟩ => ⟨p, _, v2, e, hp, rfl, r2⟩) fun _ _ => rfl
theorem xl3_2 (ha : XE X B F0 Γ a k u) : XE X B F0 Γ (.Subscript a (.Constant (.int 2) j p') pos) k u.c := x_itmL (n := 2) ha (xi (k := false)).v (fun _ _ _ ⟨p, v1, v2, v3, e, hp, r1, r2, r3⟩ => ⟨p, _, v3, e, hp, rfl, r3⟩) fun _ _ => rfl
end
end Cb

set_option Elab.async false
set_option linter.all false
set_option maxRecDepth 100000
/-! Cb52: a list of two things of two kinds, frozen; len of one of two tuples -/
namespace Cb
open PySem PySem.Spec L2
open PyProof.Rows hiding St
structure Duo (α β : Type) where
  a : α
  b : β
  deriving DecidableEq
section
variable {α β γ δ : Type} [R α] [R β] [R γ] [R δ]
instance : R (Duo α β) := ⟨fun K F v t => ∃ p v1 v2, v = .ref p ∧ F p = some (.lst [v1, v2]) ∧ R.rep K F v1 t.a ∧ R.rep K F v2 t.b, fun h ⟨p, v1, v2, e, q, r1, r2⟩ => ⟨p, v1, v2, e, h _ _ q, R.mono h r1, R.mono h r2⟩⟩
instance : NN (Duo α β) := ⟨fun ⟨_, _, _, e, _⟩ => nomatch e⟩
instance [DecidableEq α] [Dat α] [DecidableEq β] [Dat β] : Dat (Duo α β) := ⟨fun a => .list [Dat.dat a.a, Dat.dat a.b], fun a => Dat.ok a.a ∧ Dat.ok a.b, max (Dat.dep α) (Dat.dep β) + 1, fun ⟨p, v1, v2, e, hp, r1, r2⟩ => by subst e; exact .lst (SqL.of hp) (.cons (Dat.dp r1) (.cons (Dat.dp r2) .nil)), fun a h => by
  show ((Dat.dat a.a).canLay0 && ((Dat.dat a.b).canLay0 && true)) = true
  rw [Dat.lay _ h.1, Dat.lay _ h.2]; rfl, fun a => by
  show max (Dat.dat a.a).depth (max (Dat.dat a.b).depth 0) + 1 ≤ _
  have := Dat.depth a.a
  have := Dat.depth a.b
  omega, fun a b => by
  show (PyData.eqv (Dat.dat a.a) (Dat.dat b.a) && (PyData.eqv (Dat.dat a.b) (Dat.dat b.b) && true)) = _
  rw [Dat.eqv, Dat.eqv]
  obtain ⟨a1, a2⟩ := a
  obtain ⟨b1, b2⟩ := b
  by_cases h1 : a1 = b1 <;> by_cases h2 : a2 = b2 <;> simp [h1, h2]⟩
variable {X : Cx} {B F0 : Hp} {Γ : Ev} {k : Bool} {a c : Expr} {es : List Expr} {pos : Pos} {x : α} {y : β}
theorem xduo (h : XAF X B F0 Γ es (fun K B F vs => ∃ v r, vs = v :: r ∧ R.rep K (rf k B F) v x ∧ ∃ v' r', r = v' :: r' ∧ R.rep K (rf k B F) v' y ∧ r' = [])) : XE X B F0 Γ (.List es pos) k (Duo.mk x y) := fun F σ H Q A q =>
  WE.of (pe_lst can_a) (h F σ H _ A fun F' H' vs g ⟨v, r, e1, r1, v', r', e2, r2, e4⟩ => ⟨by subst e1 e2 e4; exact small (by simp), fun p np => by
    subst e1 e2 e4
    have nf : F' p = none := g.fh.free np
    have nH : H p = none := g.hh.free np
    have nB : B p = none := A.sB.free nH
    have up : ∀ {G : Hp} {o : HO}, G p = none → Same G (upd G p o) := fun n b u e => by rw [upd_ne (ne_of_none e n)]; exact e
    have sF : Same F' (upd F' p (.lst [v, v'])) := up nf
    refine q (upd F' p (.lst [v, v'])) _ (.ref p) ⟨g.hh.trans (up np), g.ff.trans sF, fun b u e => ?_, fun b o e => ?_⟩ ⟨p, v, v', rfl, rf_new upd_same nB, R.mono (rf_mono sF) r1, R.mono (rf_mono sF) r2⟩
    · by_cases w : b = p
      · subst w; rw [upd_same] at e ⊢; exact e
      · rw [upd_ne w] at e ⊢; exact g.fh _ _ e
    · by_cases w : b = p
      · subst w; exact .inr (.inl nH)
      · rw [upd_ne w] at e; exact g.nw _ _ e⟩)
variable {j : Nat} {p' : Pos} {u : Duo α β}
theorem xduo_0 (ha : XE X B F0 Γ a k u) : XE X B F0 Γ (.Subscript a (.Constant (.int 0) j p') pos) k u.a := x_itmL (n := 0) ha (xi (k := false)).v (fun _ _ _ ⟨p, v1, v2, e, hp, r1, r2⟩ => ⟨p, _, v1, e, hp, rfl, r1⟩) fun _ _ => rfl
theorem xduo_1 (ha : XE X B F0 Γ a k u) : XE X B F0 Γ (.Subscript a (.Constant (.int 1) j p') pos) k u.b := x_itmL (n := 1) ha (xi (k := false)).v (fun _ _ _ ⟨p, v1, v2, e, hp, r1, r2⟩ => ⟨p, _, v2, e, hp, rfl, r2⟩) fun _ _ => rfl
theorem tg_duo {t1 t2 : Expr} {kk : Nat} {p : Pos} {is1 is2 : List Nat} {U1 U2 : Ev → Ev} (hc : X.calm = true) (h1 : TGt X B t1 k x is1 U1) (h2 : TGt X B t2 k y is2 U2)
    (hs : (assignEach [t1, t2] X.env).map (·.2) = assign t1 X.env :: (assignEach [t2] X.env).map (·.2) := by rfl) (hs2 : (assignEach [t2] X.env).map (·.2) = assign t2 X.env :: (assignEach [] X.env).map (·.2) := by rfl)
    (hn : (assignEach [t1, t2] X.env).length = 2 := by rfl) (hst : (assignEach [t1, t2] X.env).findIdx? (·.1) = none := by rfl) :
    TGt X B (.Tuple [t1, t2] kk p) k (Duo.mk x y) (is1 ++ is2) (fun Γ => U2 (U1 Γ)) := fun F0 Γ F σ H v Q A r q => by
  obtain ⟨pa, v1, v2, ev, ep, r1, r2⟩ := r
  refine WG.of (pg_unl hc (pgs_cons can_g (pgs_cons can_g pgs_nil hs2) hs) hn hst) ⟨pa, _, ev, SqL.of (A.sF _ _ (rf_sub _ _ ep)), rfl, _, _, rfl, ?_⟩
  refine h1 F0 Γ F σ H _ _ A r1 fun σ1 g1 l1 A1 => ⟨_, [], rfl, h2 F0 _ F σ1 H _ _ A1 r2 fun σ2 g2 l2 A2 => ⟨rfl, q σ2 (fun j hj => ?_) (l2.trans l1) A2⟩⟩
  rw [g2 j (fun z => hj (by simp [z])), g1 j (fun z => hj (by simp [z]))]
/-- a pair or a triple: its length -/
def sumLen (s : Sum (α × β) (T3 α γ δ)) : Int := match s with
  | .inl _ => 2
  | .inr _ => 3
theorem xlenSum {p : Pos} {s : Sum (α × β) (T3 α γ δ)} (ml : X.mg "len" = none) (ha : XV X B F0 Γ a s) (hg : Gl X "len" := by rfl) (hs : starEach [a] X.env = (false, eval a X.env) :: starEach [] X.env := by rfl) : XE X B F0 Γ (.Call (.Name "len" p) [a] [] pos) k (sumLen s) := by
  cases s with
  | inl s => exact xlen2 ml (XV.outl ha rfl) hg hs
  | inr s => exact xlen3 ml (XV.outr ha rfl) hg hs
theorem mx_sum {s : Sum (α × List β) (T3 α (List γ) (List δ))} {c : Nat} (h1 : ∀ l, s = .inl l → l.2.length ≤ c) (h2 : ∀ l, s = .inr l → l.b.length ≤ c) : ∀ K F v, R.rep K F v s → ∃ p us q vs, v = V.ref p ∧ sqO F p us ∧ us.length = (sumLen s).toNat ∧ us[1]? = some (.ref q) ∧ F q = some (.lst vs) ∧ vs.length ≤ c ∧ q ≠ p := by
  intro K F v r
  cases s with
  | inl s =>
    obtain ⟨p, v1, v2, e, hp, r1, q, vs, e2, hq, rr⟩ := r
    subst e2
    exact ⟨p, _, q, vs, e, .inl hp, rfl, rfl, hq, by rw [Reps.length rr]; exact h1 _ rfl, fun z => by subst z; rw [hp] at hq; cases hq⟩
  | inr s =>
    obtain ⟨p, v1, v2, v3, e, hp, r1, ⟨q, vs, e2, hq, rr⟩, r3⟩ := r
    subst e2
    exact ⟨p, _, q, vs, e, .inl hp, rfl, rfl, hq, by rw [Reps.length rr]; exact h2 _ rfl, fun z => by subst z; rw [hp] at hq; cases hq⟩
end
end Cb

set_option Elab.async false
set_option linter.all false
set_option maxRecDepth 100000
/-! Cb53: a told tuple (a pair or a triple) whose second thing is a new, owned list -/
namespace Cb
open PySem PySem.Spec L2
open PyProof.Rows hiding St
section
variable {α β γ δ : Type} [R α] [R β] [R γ] [R δ]
instance : Ow (Sum (α × List β) (T3 α (List γ) (List δ))) where
  own := fun K F v s O => match s with
    | .inl s => ∃ p v1 q vs, v = .ref p ∧ F p = some (.tup [v1, .ref q]) ∧ R.rep K F v1 s.1 ∧ O q = some (.lst vs) ∧ Reps K F vs s.2
    | .inr t => ∃ p v1 q vs v3, v = .ref p ∧ F p = some (.tup [v1, .ref q, v3]) ∧ R.rep K F v1 t.a ∧ O q = some (.lst vs) ∧ Reps K F vs t.b ∧ R.rep K F v3 t.c
  omono := fun {K F F' v s O} h r => match s, r with
    | .inl s, ⟨p, v1, q, vs, e, hp, r1, hq, rr⟩ => ⟨p, v1, q, vs, e, h _ _ hp, R.mono h r1, hq, rr.mono h⟩
    | .inr t, ⟨p, v1, q, vs, v3, e, hp, r1, hq, rr, r3⟩ => ⟨p, v1, q, vs, v3, e, h _ _ hp, R.mono h r1, hq, rr.mono h, R.mono h r3⟩
  oread := fun {K F H v s O} r hF hO => match s, r with
    | .inl s, ⟨p, v1, q, vs, e, hp, r1, hq, rr⟩ => ⟨p, v1, .ref q, e, hF _ _ hp, R.mono hF r1, q, vs, rfl, hO _ _ hq, rr.mono hF⟩
    | .inr t, ⟨p, v1, q, vs, v3, e, hp, r1, hq, rr, r3⟩ => ⟨p, v1, .ref q, v3, e, hF _ _ hp, R.mono hF r1, ⟨q, vs, rfl, hO _ _ hq, rr.mono hF⟩, R.mono hF r3⟩
variable {X : Cx} {B F0 : Hp} {Γ : Ev} {k : Bool} {e1 e2 e3 : Expr} {pos : Pos} {D : Ends} {ss : List Stmt} {a : α} {l : List β} {b : List γ} {c : List δ}
theorem xo_new {F H O : Hp} {p : Addr} {o : HO} (so : Same O H) (np : H p = none) : Same O (upd H p o) := fun b u e => by
  rw [upd_ne (ne_of_none (so _ _ e) np)]; exact so _ _ e
theorem xO2 {x1} (h1 : XE X B F0 Γ e1 k a) (h2 : XO X B F0 Γ e2 k l) (hs : starEach [e1, e2] X.env = (false, eval e1 X.env) :: starEach [e2] X.env := by rfl) (hs2 : starEach [e2] X.env = (false, eval e2 X.env) :: starEach [] X.env := by rfl) :
    XO X B F0 Γ (.Tuple [e1, e2] x1 pos) k (Sum.inl (a, l) : Sum (α × List β) (T3 α (List γ) (List δ))) := fun F σ H Q A q =>
  WE.of (pe_tup can_a) (WA.of (pa_cons can_e can_a hs) (h1 F σ H _ A fun F1 H1 v1 g1 r1 => WA.of (pa_cons can_e can_a hs2) (h2 F1 σ H1 _ (A.grow g1) fun F2 H2 v2 O g2 so nn ow => WA.of pa_nil ⟨small (by simp), fun p np => by
    obtain ⟨y, vs, rfl, hy, rr⟩ := ow
    have fp : F2 p = none := g2.fh.free np
    refine q (upd F2 p (.tup [v1, .ref y])) _ (.ref p) O ((g1.trans g2).trans (Grow.new g2.fh np)) (xo_new (F := F) so np) (fun x o ex => ?_) ⟨p, v1, y, vs, rfl, tup_in, R.mono (rf_mono (g2.ff.trans (sub_upd fp))) r1, hy, rr.mono (rf_mono (sub_upd fp))⟩
    obtain ⟨n1, n2, n3⟩ := nn x o ex
    exact ⟨g1.hh.free n1, by rw [upd_ne (ne_of_none (so _ _ ex) np)]; exact n2, n3⟩⟩)))
theorem xO3 {x1} (h1 : XE X B F0 Γ e1 k a) (h2 : XO X B F0 Γ e2 k b) (h3 : XE X B F0 Γ e3 k c) (hs : starEach [e1, e2, e3] X.env = (false, eval e1 X.env) :: starEach [e2, e3] X.env := by rfl) (hs2 : starEach [e2, e3] X.env = (false, eval e2 X.env) :: starEach [e3] X.env := by rfl) (hs3 : starEach [e3] X.env = (false, eval e3 X.env) :: starEach [] X.env := by rfl) :
    XO X B F0 Γ (.Tuple [e1, e2, e3] x1 pos) k (Sum.inr ⟨a, b, c⟩ : Sum (α × List β) (T3 α (List γ) (List δ))) := fun F σ H Q A q =>
  WE.of (pe_tup can_a) (WA.of (pa_cons can_e can_a hs) (h1 F σ H _ A fun F1 H1 v1 g1 r1 => WA.of (pa_cons can_e can_a hs2) (h2 F1 σ H1 _ (A.grow g1) fun F2 H2 v2 O g2 so nn ow => WA.of (pa_cons can_e can_a hs3) (h3 F2 σ H2 _ ((A.grow g1).grow g2) fun F3 H3 v3 g3 r3 => WA.of pa_nil ⟨small (by simp), fun p np => by
    obtain ⟨y, vs, rfl, hy, rr⟩ := ow
    have fp : F3 p = none := g3.fh.free np
    have s3 : Same O H3 := so.trans g3.hh
    refine q (upd F3 p (.tup [v1, .ref y, v3])) _ (.ref p) O (((g1.trans g2).trans g3).trans (Grow.new g3.fh np)) (xo_new (F := F) s3 np) (fun x o ex => ?_) ⟨p, v1, y, vs, v3, rfl, tup_in, R.mono (rf_mono ((g2.ff.trans g3.ff).trans (sub_upd fp))) r1, hy, rr.mono (rf_mono (g3.ff.trans (sub_upd fp))), R.mono (rf_mono (sub_upd fp)) r3⟩
    obtain ⟨n1, n2, n3⟩ := nn x o ex
    refine ⟨g1.hh.free n1, ?_, n3⟩
    rw [upd_ne (ne_of_none (s3 _ _ ex) np)]
    cases w : F3 x with
    | none => rfl
    | some u =>
      rcases g3.nw _ _ w with z | z | z
      · rw [n2] at z; cases z
      · rw [so _ _ ex] at z; cases z
      · have := g3.fh _ _ w
        rw [s3 _ _ ex] at this; cases this; rw [n3] at z; cases z⟩))))
theorem ts_convO {ξ η : Type} [Ow ξ] [Ow η] {s : ξ} {m : η} (i : Nat) (hΓ : Γ[i]? = some (ownd k s)) (h : ∀ K F v O, Ow.own K F v s O → Ow.own K F v m O) (ht : TSs X B F0 (Γ.set i (ownd k m)) ss D) : TSs X B F0 Γ ss D := fun F σ H A => by
  obtain ⟨⟨O, sl, so⟩, sF, sB, s0, bf⟩ := A
  exact ht F σ H ⟨⟨O, slots_at (s := ownd k s) (s' := ownd k m) (fun o O q => by obtain ⟨v, e, r⟩ := q; exact ⟨v, e, h _ _ _ _ r⟩) hΓ sl, so⟩, sF, sB, s0, bf⟩
theorem mo_sum {s : Sum (α × List β) (T3 α (List γ) (List δ))} {n : Nat} (h1 : ∀ l, s = .inl l → l.2.length ≤ n) (h2 : ∀ l, s = .inr l → l.b.length ≤ n) : ∀ K F v O, Ow.own K F v s O → Ow.own K F v (MutX.mk (sumLen s).toNat 1 n) O := by
  intro K F v O r
  cases s with
  | inl s =>
    obtain ⟨p, v1, q, vs, e, hp, r1, hq, rr⟩ := r
    exact ⟨p, _, q, vs, e, .inl hp, rfl, rfl, hq, by rw [Reps.length rr]; exact h1 _ rfl⟩
  | inr s =>
    obtain ⟨p, v1, q, vs, v3, e, hp, r1, hq, rr, r3⟩ := r
    exact ⟨p, _, q, vs, e, .inl hp, rfl, rfl, hq, by rw [Reps.length rr]; exact h2 _ rfl⟩
end
end Cb

set_option Elab.async false
set_option linter.all false
set_option maxRecDepth 100000
/-! Cb54: a def that changes the dict (of intD) it is handed and gives nothing back -/
namespace Cb
open PySem PySem.Spec L2
open PyProof.Rows hiding St
section
variable {κ : Type} [R κ] [DecidableEq κ] [DK κ]
def intD (kvs : List (κ × Int)) : List (κ × V) := kvs.map fun kv => (kv.1, V.int kv.2)
def hoN (kvs : List (κ × Int)) : HO := DK.ho (intD kvs)
omit [DecidableEq κ] [DK κ] in
theorem pd_intD {K : Kf} {F : Hp} : ∀ (kvs : List (κ × Int)), PD K F (intD kvs) kvs
  | [] => .nil
  | _ :: t => .cons ⟨rfl, rfl⟩ (pd_intD t)
omit [DecidableEq κ] [DK κ] in
theorem pd_inv {K : Kf} {F : Hp} : ∀ {ws : List (κ × V)} {kvs : List (κ × Int)}, PD K F ws kvs → ws = intD kvs
  | _, _, .nil => rfl
  | (a, b) :: _, (c, d) :: _, .cons ⟨e1, e2⟩ t => by
    have e1' : a = c := e1
    have e2' : b = V.int d := e2
    rw [pd_inv t, e1', e2']; rfl
omit [R κ] [DK κ] in
theorem put_ints (kvs : List (κ × Int)) (c : κ) (x : Int) : dPut (intD kvs) c (V.int x) = intD (dPut kvs c x) := by
  unfold dPut intD
  have e1 : ((kvs.map fun kv => (kv.1, V.int kv.2)).any fun kv => decide (kv.1 = c)) = kvs.any fun kv => decide (kv.1 = c) := by rw [List.any_map]; rfl
  rw [e1]
  split
  · rw [List.map_map, List.map_map]
    apply List.map_congr_left
    intro kv _
    show (if kv.1 = c then (kv.1, V.int x) else (kv.1, V.int kv.2)) = _
    by_cases e : kv.1 = c
    · simp [e]
    · simp [e]
  · rw [List.map_append]; rfl
end
structure AtD (κ : Type) where
  p : Addr
  kvs : List (κ × Int)
section
variable {κ : Type} [R κ] [DecidableEq κ] [DK κ]
instance : R (AtD κ) := ⟨fun K F v a => R.rep K F v (Dct.mk a.kvs : Dct κ Int), fun h r => R.mono (α := Dct κ Int) h r⟩
instance : Ow (AtD κ) where
  own := fun K F v a O => v = .ref a.p ∧ O a.p = some (hoN a.kvs)
  omono := fun _ h => h
  oread := fun ⟨e, q⟩ hF hO => ⟨_, _, e, hO _ _ q, pd_intD _⟩
/-- what a def promises that changes the dict it is handed -/
def spU {A : Type} [Args A] (K : Kf) (pre : List (κ × Int) → A → Prop) (m : List (κ × Int) → A → List (κ × Int)) : Sp := fun vs H Q _ => ∃ (p : Addr) (xs : List (κ × Int)) (r : List V) (a : A), vs = .ref p :: r ∧ H p = some (hoN xs) ∧ Args.args K (del p H) r a ∧ pre xs a ∧
  ∀ H', Same (del p H) H' → H' p = some (hoN (m xs a)) → Q .non H'
def RDU (B : Hp) (p : Addr) (D : Ends) (ys : List (κ × Int)) : Prop := ∀ σ H', Same B H' → H' p = some (hoN ys) → D.nx σ H'
end
section
variable {P : Program} {w : World} {K : Kf} {mg : Str → Option Value} {base : Heap} {x qual : Str} {st : Stmt} {f : Addr} {fd : FuncData} {N ps : List Str} {k : Nat} {A : Type} [Args A] {κ : Type} [R κ] [DecidableEq κ] [DK κ]
theorem as_startU {a : A} {H : Hp} {N : List Str} {vs : List V} {p : Addr} {xs : List (κ × Int)} (hp : H p = some (hoN xs)) (h : Args.args K (del p H) vs a) :
    AS K (del p H) (del p H) ((ownd true (AtD.mk p xs) :: Args.env a) ++ List.replicate (N.length - (Args.len A + 1)) junk) (del p H) (L2.start N (.ref p :: vs)) H := by
  have s := Args.slots h (slots_junk (K := K) (B := del p H) (F := del p H) (N.length - (Args.len A + 1)) (fun _ => none))
  have e : L2.start N (.ref p :: vs) = some (.ref p) :: (vs.map some ++ List.replicate (N.length - (Args.len A + 1)) none) := by
    unfold L2.start
    rw [List.length_cons, Args.length h]
    rfl
  rw [e]
  refine ⟨⟨one p (hoN xs), ⟨one p (hoN xs), fun _ => none, Same.refl _, (fun _ _ z => nomatch z), fun _ => .inr rfl, ⟨.ref p, rfl, rfl, one_at⟩, s⟩, one_sub hp, fun b hb => ?_, fun b o z => ?_⟩, del_sub, del_sub, Same.refl _, Same.refl _⟩
  · cases w : one p (hoN xs) b with
    | none => exact absurd w hb
    | some o => obtain ⟨rfl, _⟩ := one_is w; exact ⟨del_self, del_self⟩
  · obtain ⟨rfl, rfl⟩ := one_is z; exact DK.notTup (intD xs)
theorem cal_u {pre : List (κ × Int) → A → Prop} {m : List (κ × Int) → A → List (κ × Int)} (U : FnAt K mg x st ps) (S : FnScope N ps (defScope st)) (hl : Args.len A + 1 = ps.length)
    (h : ∀ f cdv Ar outer s H E, Room k (Ar.deeper (envOfC x (defScope st) s.heap.objs.size f cdv)) → ∀ (p : Addr) (xs : List (κ × Int)) (a : A) (B : Hp) (D : Ends), pre xs a → RDU B p D (m xs a) → TSs (Xc P w K mg base N x st f cdv Ar outer s H E) B B ((ownd true (AtD.mk p xs) :: Args.env a) ++ List.replicate (N.length - (Args.len A + 1)) junk) (defBody st) D) :
    CalL P w K mg base (k + 1) x (spU K pre m) := by
  obtain ⟨f, fd, F, hm, hb⟩ := U.ex
  refine ⟨f, fd, ps, F.ok S (fun vs H Q E h => ?_) (fun cdv Ar outer s H vs Q E hr hq => ?_), hm, F.kp, hb⟩
  · obtain ⟨p, xs, r, a, rfl, _, ha, _⟩ := h
    rw [List.length_cons, Args.length ha]; exact hl
  · obtain ⟨p, xs, r, a, rfl, hp, ha, hpre, q⟩ := hq
    exact ⟨_, can_ss, h f cdv Ar outer s H E hr p xs a (del p H) _ hpre (fun σ H' h1 h2 => q H' h1 h2) (del p H) _ H (as_startU hp ha)⟩
end
section
variable {X : Cx} {B F0 : Hp} {Γ : Ev} {k k' : Bool} {e i : Expr} {es : List Expr} {pos : Pos} {D : Ends} {ss : List Stmt} {p : Addr} {κ : Type} [R κ] [DecidableEq κ] [DK κ] {c : κ} {x : Int}
/-- the end of such a def -/
theorem ts_endU {ys : List (κ × Int)} (j : Nat) (hΓ : Γ[j]? = some (ownd k (AtD.mk p ys))) (hr : RDU B p D ys) : TSs X B F0 Γ [] D :=
  ts_nil fun F σ H A => by
    obtain ⟨v1, O1, e1, ⟨rfl, ep⟩, so, fr⟩ := own_free A hΓ
    exact hr σ H A.sB (so _ _ ep)
theorem xdgetDA {apos pp : Pos} {e2 : Expr} {n : Str} {d : List (κ × Int)} (j : Nat) (hu : X.A.units + 1 < cLine) (hΓ : Γ[j]? = some (ownd k (AtD.mk p d))) (hi : XV X B F0 Γ i c) (hx : XE X B F0 Γ e2 k' x) (hN : X.N[j]? = some n := by rfl) (hv : Vis X.env.scope n := by first | exact Or.inl rfl | exact Or.inr (Or.inl rfl) | exact Or.inr (Or.inr rfl)) (hd : (n == ("__debug__" : Str)) = false := by decide) (hcd : (n == ("__classdict__" : Str)) = false := by decide)
    (m : M2 X (.Name n pp) "get" apos i e2 pos := by exact ⟨rfl, rfl, rfl, rfl⟩) : XE X B F0 Γ (.Call (.Attribute (.Name n pp) "get" apos) [i, e2] [] pos) k' ((dGet d c).getD x) := fun F σ H Q A q =>
  WE.of (pe_dget2 hu (pe_var hN hv hd hcd) can_e can_e m) (by
    obtain ⟨v1, O1, e1, ⟨rfl, ep⟩, so, fr⟩ := own_free A hΓ
    have hp : H p = some (DK.ho (intD d)) := so _ _ ep
    refine ⟨.ref p, e1, p, rfl, DK.isD hp, hi F σ H _ A fun F2 H2 w g2 r2 => hx F2 σ H2 _ (A.grow g2) fun F3 H3 u g3 r3 => ?_⟩
    refine ⟨_, DK.get ((g2.trans g3).hh _ _ hp) (R.mono g3.hh r2), q F3 H3 _ (g2.trans g3) ?_⟩
    rcases (pd_intD (K := X.K) (F := rf k' B F3) d).get (c := c) with ⟨h1, h2⟩ | ⟨b, v, h1, h2, rv⟩
    · rw [h1, h2]; exact r3
    · rw [h1, h2]; exact rv)
theorem ts_dputA {n : Str} {pp p' : Pos} {d : List (κ × Int)} (j : Nat) (hu : X.A.units + 1 < cLine) (hΓ : Γ[j]? = some (ownd k (AtD.mk p d))) (he : XE X B F0 Γ e k' x) (hi : XV X B F0 Γ i c) (hz : d.length < sizeLine) (ht : TSs X B F0 (Γ.set j (ownd k (AtD.mk p (dPut d c x)))) ss D)
    (hN : X.N[j]? = some n := by rfl) (hv : Vis X.env.scope n := by first | exact Or.inl rfl | exact Or.inr (Or.inl rfl) | exact Or.inr (Or.inr rfl)) (hd : (n == ("__debug__" : Str)) = false := by decide) (hcd : (n == ("__classdict__" : Str)) = false := by decide)
    (hs : swapsWith e (some (.Subscript (.Name n pp) i p')) pos.line X.env = pure false := by rfl) : TSs X B F0 Γ (.Assign [.Subscript (.Name n pp) i p'] e pos :: ss) D :=
  ts_cons fun F σ H A => WS.of (ps_dput hu (pe_var hN hv hd hcd) can_e can_e hs) (he F σ H _ A fun F1 H1 v g r => by
    obtain ⟨q, ho, e1, hp, ⟨rfl, rfl⟩, w⟩ := (A.grow g).put (P := fun q o => q = p ∧ o = hoN d) hΓ (fun v O ⟨e', q'⟩ => ⟨p, _, e', q', rfl, rfl⟩)
    refine ⟨.ref q, e1, hi F1 σ H1 _ (A.grow g) fun F2 H2 u g2 r2 => ?_⟩
    have hv : v = V.int x := r
    subst hv
    have hl : (intD d).length = d.length := List.length_map ..
    refine ⟨q, _, rfl, DK.put (g2.hh _ _ hp) r2 (by rw [hl]; exact hz), ht F2 σ _ (w g2 (DK.notTup _) ⟨rfl, ?_⟩)⟩
    rw [put_ints]
    exact one_at)
/-- f(d, ..), d an owned dict -/
theorem ts_callU {A : Type} [Args A] {pre : List (κ × Int) → A → Prop} {m : List (κ × Int) → A → List (κ × Int)} {f n : Str} {ag : A} {pf pn pp : Pos} {d : Dct κ Int} (i : Nat) (hΓ : Γ[i]? = some (ownd k d)) (c : CalX X f (spU X.K pre m)) (h : XAF X B F0 Γ es (fun K B F vs => Args.args K F vs ag)) (hp : pre d.kvs ag)
    (ht : TSs X B F0 (Γ.set i (ownd k (Dct.mk (m d.kvs ag)))) ss D)
    (hg : Gl X f := by rfl) (hN : X.N[i]? = some n := by rfl) (hv : Vis X.env.scope n := by first | exact Or.inl rfl | exact Or.inr (Or.inl rfl) | exact Or.inr (Or.inr rfl)) (hd : (n == ("__debug__" : Str)) = false := by decide) (hcd : (n == ("__classdict__" : Str)) = false := by decide)
    (hdb : (f == ("__debug__" : Str)) = false := by decide) (hs : starEach (.Name n pn :: es) X.env = (false, eval (.Name n pn) X.env) :: starEach es X.env := by rfl) (hpl : (backTo pos (starEach es X.env)).any (·.1) = false := by rfl)
    (hsw : swapsWith (.Call (.Name f pf) (.Name n pn :: es) [] pos) none pp.line X.env = pure false := by rfl) :
    TSs X B F0 Γ (.Expr (.Call (.Name f pf) (.Name n pn :: es) [] pos) pp :: ss) D :=
  ts_cons fun F σ H A => by
    obtain ⟨kk, fa, fd, ps, G0, hrm, hm, kp, bd⟩ := c.ex
    obtain ⟨v1, O1, e1, ⟨p, ws, rfl, ep, rr⟩, so, fr⟩ := own_free A hΓ
    have ew := pd_inv rr
    subst ew
    refine WS.of (ps_expr (pe_call G0 hrm hg hm kp bd .nil pass0 (pa_cons (pe_var hN hv hd hcd) can_a hs) hdb hs hpl) hsw) ⟨.ref p, e1, h F σ H _ A fun F' H' us g ra => ?_⟩
    have A1 : AS X.K B F0 (Γ.set i (ownd k (AtD.mk p d.kvs))) F' σ H' := (A.grow g).own_as hΓ fun v O1 ev ow => by
      obtain ⟨q', ws', rfl, hq', r'⟩ := ow
      have ew := pd_inv r'
      subst ew
      rw [e1] at ev
      cases ev
      exact ⟨rfl, hq'⟩
    have iL : i < Γ.length := by
      rcases Nat.lt_or_ge i Γ.length with z | z
      · exact z
      · rw [List.getElem?_eq_none z] at hΓ; cases hΓ
    have hΓ1 : (Γ.set i (ownd k (AtD.mk p d.kvs)))[i]? = some (ownd k (AtD.mk p d.kvs)) := List.getElem?_set_self iL
    obtain ⟨q, ho, e2, hq, ⟨rfl, rfl⟩, w⟩ := A1.put (P := fun q o => q = p ∧ o = hoN d.kvs) hΓ1 (fun v O ⟨e', q'⟩ => ⟨p, _, e', q', rfl, rfl⟩)
    obtain ⟨v2, O2, e3, ⟨e4, ep2⟩, so2, fr2⟩ := own_free A1 hΓ1
    have fp := fr2 _ _ ep2
    show spU X.K pre m (.ref q :: (us ++ [])) H' _ _
    rw [List.append_nil]
    have sFd : Same F' (del q H') := fun b u z => by
      rw [del_ne (fun zb => by subst zb; rw [fp.1] at z; cases z)]; exact g.fh _ _ z
    refine ⟨q, d.kvs, us, ag, rfl, hq, Args.mono sFd ra, hp, fun H2 h1 h2 => ?_⟩
    have A2 := w (F' := F') (H' := H') (o' := hoN (m d.kvs ag)) (c' := (Dct.mk (m d.kvs ag) : Dct κ Int)) (k' := k) (Grow.refl g.fh) (DK.notTup (intD (m d.kvs ag))) ⟨q, intD (m d.kvs ag), rfl, one_at, pd_intD _⟩
    rw [List.set_set] at A2
    have s2 : Same (upd H' q (hoN (m d.kvs ag))) H2 := fun b u z => by
      by_cases e : b = q
      · subst e; rw [upd_same] at z; rw [← z]; exact h2
      · rw [upd_ne e] at z; exact h1 _ _ (by rw [del_ne e]; exact z)
    exact ht F' σ H2 (A2.grow ⟨s2, Same.refl _, sFd.trans h1, fun x o z => .inl z⟩)
end
end Cb

set_option Elab.async false
set_option linter.all false
set_option maxRecDepth 100000
/-! Cb55: a told pair whose second thing is a new, owned list of one of two kinds; callers of Cb54 by number -/
namespace Cb
open PySem PySem.Spec L2
open PyProof.Rows hiding St
section
variable {α β γ : Type} [R α] [R β] [R γ]
instance : Ow (α × Sum (List β) (List γ)) where
  own := fun K F v s O => ∃ p v1 q vs, v = .ref p ∧ F p = some (.tup [v1, .ref q]) ∧ R.rep K F v1 s.1 ∧ O q = some (.lst vs) ∧ (match s.2 with | .inl l => Reps K F vs l | .inr l => Reps K F vs l)
  omono := fun {K F F' v s O} h r => match s, r with
    | (a, .inl l), ⟨p, v1, q, vs, e, hp, r1, hq, rr⟩ => ⟨p, v1, q, vs, e, h _ _ hp, R.mono h r1, hq, Paired.mono (fun _ _ x => R.mono h x) rr⟩
    | (a, .inr l), ⟨p, v1, q, vs, e, hp, r1, hq, rr⟩ => ⟨p, v1, q, vs, e, h _ _ hp, R.mono h r1, hq, Paired.mono (fun _ _ x => R.mono h x) rr⟩
  oread := fun {K F H v s O} r hF hO => match s, r with
    | (a, .inl l), ⟨p, v1, q, vs, e, hp, r1, hq, rr⟩ => ⟨p, v1, .ref q, e, hF _ _ hp, R.mono hF r1, q, vs, rfl, hO _ _ hq, Paired.mono (fun _ _ x => R.mono hF x) rr⟩
    | (a, .inr l), ⟨p, v1, q, vs, e, hp, r1, hq, rr⟩ => ⟨p, v1, .ref q, e, hF _ _ hp, R.mono hF r1, q, vs, rfl, hO _ _ hq, Paired.mono (fun _ _ x => R.mono hF x) rr⟩
variable {X : Cx} {B F0 : Hp} {Γ : Ev} {k : Bool} {e1 e2 : Expr} {pos : Pos} {a : α} {l : List β} {b : List γ}
theorem xP2l {x1} (h1 : XE X B F0 Γ e1 k a) (h2 : XO X B F0 Γ e2 k l) (hs : starEach [e1, e2] X.env = (false, eval e1 X.env) :: starEach [e2] X.env := by rfl) (hs2 : starEach [e2] X.env = (false, eval e2 X.env) :: starEach [] X.env := by rfl) :
    XO X B F0 Γ (.Tuple [e1, e2] x1 pos) k ((a, Sum.inl l) : α × Sum (List β) (List γ)) := fun F σ H Q A q =>
  WE.of (pe_tup can_a) (WA.of (pa_cons can_e can_a hs) (h1 F σ H _ A fun F1 H1 v1 g1 r1 => WA.of (pa_cons can_e can_a hs2) (h2 F1 σ H1 _ (A.grow g1) fun F2 H2 v2 O g2 so nn ow => WA.of pa_nil ⟨small (by simp), fun p np => by
    obtain ⟨y, vs, rfl, hy, rr⟩ := ow
    have fp : F2 p = none := g2.fh.free np
    refine q (upd F2 p (.tup [v1, .ref y])) _ (.ref p) O ((g1.trans g2).trans (Grow.new g2.fh np)) (xo_new (F := F) so np) (fun x o ex => ?_) ⟨p, v1, y, vs, rfl, tup_in, R.mono (rf_mono (g2.ff.trans (sub_upd fp))) r1, hy, rr.mono (rf_mono (sub_upd fp))⟩
    obtain ⟨n1, n2, n3⟩ := nn x o ex
    exact ⟨g1.hh.free n1, by rw [upd_ne (ne_of_none (so _ _ ex) np)]; exact n2, n3⟩⟩)))
theorem xP2r {x1} (h1 : XE X B F0 Γ e1 k a) (h2 : XO X B F0 Γ e2 k b) (hs : starEach [e1, e2] X.env = (false, eval e1 X.env) :: starEach [e2] X.env := by rfl) (hs2 : starEach [e2] X.env = (false, eval e2 X.env) :: starEach [] X.env := by rfl) :
    XO X B F0 Γ (.Tuple [e1, e2] x1 pos) k ((a, Sum.inr b) : α × Sum (List β) (List γ)) := fun F σ H Q A q =>
  WE.of (pe_tup can_a) (WA.of (pa_cons can_e can_a hs) (h1 F σ H _ A fun F1 H1 v1 g1 r1 => WA.of (pa_cons can_e can_a hs2) (h2 F1 σ H1 _ (A.grow g1) fun F2 H2 v2 O g2 so nn ow => WA.of pa_nil ⟨small (by simp), fun p np => by
    obtain ⟨y, vs, rfl, hy, rr⟩ := ow
    have fp : F2 p = none := g2.fh.free np
    refine q (upd F2 p (.tup [v1, .ref y])) _ (.ref p) O ((g1.trans g2).trans (Grow.new g2.fh np)) (xo_new (F := F) so np) (fun x o ex => ?_) ⟨p, v1, y, vs, rfl, tup_in, R.mono (rf_mono (g2.ff.trans (sub_upd fp))) r1, hy, rr.mono (rf_mono (sub_upd fp))⟩
    obtain ⟨n1, n2, n3⟩ := nn x o ex
    exact ⟨g1.hh.free n1, by rw [upd_ne (ne_of_none (so _ _ ex) np)]; exact n2, n3⟩⟩)))
theorem mo_pair {s : α × Sum (List β) (List γ)} {n : Nat} (h1 : ∀ l, s.2 = .inl l → l.length ≤ n) (h2 : ∀ l, s.2 = .inr l → l.length ≤ n) : ∀ K F v O, Ow.own K F v s O → Ow.own K F v (MutX.mk 2 1 n) O := by
  intro K F v O r
  obtain ⟨a, s⟩ := s
  obtain ⟨p, v1, q, vs, e, hp, r1, hq, rr⟩ := r
  cases s with
  | inl l => exact ⟨p, _, q, vs, e, .inl hp, rfl, rfl, hq, by rw [Paired.length rr]; exact h1 _ rfl⟩
  | inr l => exact ⟨p, _, q, vs, e, .inl hp, rfl, rfl, hq, by rw [Paired.length rr]; exact h2 _ rfl⟩
end
section
variable {κ : Type} [R κ] [DecidableEq κ] [DK κ] {T1 T2 : Type} [R T1] [R T2]
def sU3 (K : Kf) (pre : List (κ × Int) → T1 → T2 → Prop) (m : List (κ × Int) → T1 → T2 → List (κ × Int)) : Sp := spU K (fun xs (a : T1 × T2 × Unit) => pre xs a.1 a.2.1) (fun xs a => m xs a.1 a.2.1)
variable {X : Cx} {B F0 : Hp} {Γ : Ev} {k : Bool} {es : List Expr} {pos : Pos} {D : Ends} {ss : List Stmt}
theorem ts_callU3 {pre : List (κ × Int) → T1 → T2 → Prop} {m : List (κ × Int) → T1 → T2 → List (κ × Int)} {f n : Str} {x1 : T1} {x2 : T2} {pf pn pp : Pos} {d : Dct κ Int} (i : Nat) (hΓ : Γ[i]? = some (ownd k d)) (c : CalX X f (sU3 X.K pre m)) (h : XAF X B F0 Γ es (fun K B F vs => Args.args (A := T1 × T2 × Unit) K F vs (x1, x2, ()))) (hp : pre d.kvs x1 x2)
    (ht : TSs X B F0 (Γ.set i (ownd k (Dct.mk (m d.kvs x1 x2)))) ss D)
    (hg : Gl X f := by rfl) (hN : X.N[i]? = some n := by rfl) (hv : Vis X.env.scope n := by first | exact Or.inl rfl | exact Or.inr (Or.inl rfl) | exact Or.inr (Or.inr rfl)) (hd : (n == ("__debug__" : Str)) = false := by decide) (hcd : (n == ("__classdict__" : Str)) = false := by decide)
    (hdb : (f == ("__debug__" : Str)) = false := by decide) (hs : starEach (.Name n pn :: es) X.env = (false, eval (.Name n pn) X.env) :: starEach es X.env := by rfl) (hpl : (backTo pos (starEach es X.env)).any (·.1) = false := by rfl)
    (hsw : swapsWith (.Call (.Name f pf) (.Name n pn :: es) [] pos) none pp.line X.env = pure false := by rfl) :
    TSs X B F0 Γ (.Expr (.Call (.Name f pf) (.Name n pn :: es) [] pos) pp :: ss) D :=
  ts_callU (A := T1 × T2 × Unit) (pre := fun xs a => pre xs a.1 a.2.1) (m := fun xs a => m xs a.1 a.2.1) (ag := (x1, x2, ())) i hΓ c h hp ht hg hN hv hd hcd hdb hs hpl hsw
end
end Cb

set_option Elab.async false
set_option linter.all false
set_option maxRecDepth 100000
/-! Cb56: a dict with pairs for keys, locked: its keys walked -/
namespace Cb
open PySem PySem.Spec L2
open PyProof.Rows hiding St
class FKR (κ : Type) [R κ] [FK κ] : Prop where
  rp : ∀ {K : Kf} {F : Hp} (c : κ), R.rep K F (kV (FK.key c)) c
instance : FKR Int := ⟨fun _ => rfl⟩
instance : FKR Str := ⟨fun _ => rfl⟩
structure LD (κ β : Type) where
  kvs : List (κ × β)
section
variable {α γ β : Type} [R α] [R γ] [FK α] [FK γ] [DecidableEq α] [DecidableEq γ] [R β]
def dTo (ws : List ((α × γ) × V)) : HO := .dT (ws.map fun kv => (pairKey kv.1, kv.2))
instance : R (LD (α × γ) β) := ⟨fun K F v d => ∃ p ws od, v = .ref p ∧ F p = some (.frz od (dTo ws)) ∧ PD K F ws d.kvs, fun h ⟨p, ws, od, e, q, r⟩ => ⟨p, ws, od, e, h _ _ q, r.mono h⟩⟩
instance : Ow (LD (α × γ) β) where
  own := fun K F v d O => ∃ p ws od, v = .ref p ∧ O p = some (.frz od (dTo ws)) ∧ PD K F ws d.kvs
  omono := fun h ⟨p, ws, od, e, q, r⟩ => ⟨p, ws, od, e, q, r.mono h⟩
  oread := fun ⟨p, ws, od, e, q, r⟩ hF hO => ⟨p, ws, od, e, hO _ _ q, r.mono hF⟩
instance : NN (LD (α × γ) β) := ⟨fun ⟨_, _, _, e, _⟩ => nomatch e⟩
variable {X : Cx} {B F0 : Hp} {Γ : Ev} {k : Bool} {e o i : Expr} {pos : Pos} {D : Ends} {ss : List Stmt} {d : LD (α × γ) β} {c : α × γ} {x : β}
/-- an owned dict is locked -/
theorem ts_lock {as : Dct (α × γ) β} (i : Nat) (hΓ : Γ[i]? = some (ownd k as)) (ht : TSs X B F0 (Γ.set i (ownd k (LD.mk as.kvs : LD (α × γ) β))) ss D) : TSs X B F0 Γ ss D := fun F σ H A pins s I => by
  obtain ⟨q, ho, e1, hp, ⟨ws, rfl, rw_⟩, w⟩ := A.put (P := fun p o => ∃ ws, o = dTo ws ∧ PD X.K (rf k B F) ws as.kvs) hΓ (fun v O ⟨p', ws', e', hp', r'⟩ => ⟨p', _, e', hp', ws', rfl, r'⟩)
  obtain ⟨od, J⟩ := I.lock hp trivial
  exact ht F σ _ (w (k' := k) (c' := (LD.mk as.kvs : LD (α × γ) β)) (Grow.refl A.sF) rfl ⟨q, ws, od, rfl, one_at, rw_⟩) pins s J
theorem xlget (hu : X.A.units + 1 < cLine) (ho : XE X B F0 Γ o k d) (hi : XV X B F0 Γ i c) (h : dGet d.kvs c = some x) (hs : NoSl i := by exact fun _ _ => rfl) : XE X B F0 Γ (.Subscript o i pos) k x := fun F σ H Q A q =>
  WE.of (pe_dget hu can_e can_e hs) (ho F σ H _ A fun F1 H1 v g r => hi F1 σ H1 _ (A.grow g) fun F2 H2 w g2 r2 => by
    obtain ⟨p, ws, od, e, hp, r⟩ := R.mono (rf_mono g2.ff) r
    rcases r.get (c := c) with ⟨h1, _⟩ | ⟨b, u, h1, h2, ru⟩
    · rw [h] at h1; cases h1
    · rw [h] at h1; cases h1
      refine ⟨p, u, e, ?_, q F2 H2 u (g.trans g2) ru⟩
      obtain ⟨pk, v1, v2, rfl, hk, s1, s2⟩ := r2
      have e1 := FK.rep s1
      have e2 := FK.rep s2
      subst e1 e2
      refine .inr ⟨ws.map fun kv => (pairKey kv.1, kv.2), pairKey c, pk, .inr ⟨od, g2.fh _ _ (rf_sub _ _ hp)⟩, rfl, hk, ?_⟩
      rw [valV_eq, dGet_map pairKey pairKey_inj, h2])
theorem xi_keysL [FKR α] [FKR γ] {tg : Expr} (he : XE X B F0 Γ e k d) : XI X B F0 Γ tg e k (d.kvs.map (·.1)) := fun F σ H _ A q =>
  WI.of (pi_keys can_e) (he F σ H _ A fun F' H' v g ⟨p, ws, od, ev, hF, pd⟩ => by
    have hp' : F' p = some (.frz od (dTo ws)) := rf_sub _ _ hF
    have hp : H' p = some (.frz od (dTo ws)) := g.fh _ _ hp'
    have ln : ws.length = d.kvs.length := Paired.length pd
    refine ⟨p, od, ev, .inr ⟨_, hp, q F' H' _ g ⟨fun i hi F1 H1 s1 s2 => ⟨⟨s2 _ _ (s1 _ _ hp'), by rw [List.length_map, ln]; rw [List.length_map] at hi; exact hi⟩, fun u H2 hy => ?_⟩, fun i hi F1 H1 s1 s2 => ⟨s2 _ _ (s1 _ _ hp'), by rw [List.length_map, ln]; rw [List.length_map] at hi; exact Nat.le_of_eq hi.symm⟩⟩⟩⟩
    obtain ⟨rfl, c, w, b, hkv, rfl, hb⟩ := hy
    rw [List.getElem?_map] at hkv
    obtain ⟨⟨c0, w0⟩, hw, hc⟩ := Option.map_eq_some_iff.mp hkv
    cases hc
    obtain ⟨⟨c1, y⟩, hy2, e1, ry⟩ := L2.paired_get pd hw
    have hi' : i < d.kvs.length := by rw [List.length_map] at hi; exact hi
    have ex : d.kvs[i] = (c1, y) := by rw [List.getElem?_eq_getElem hi'] at hy2; exact Option.some.inj hy2
    have e1' : c0 = c1 := e1
    subst e1'
    rw [List.getElem_map, ex]
    refine ⟨_, Grow.tups s2, b, _, _, rfl, ?_, FKR.rp _, FKR.rp _⟩
    exact rf_tup _ _ (tups_at (join_right s2 (tups_sub _) _ _ (tups_at hb rfl)) rfl))
end
end Cb

set_option Elab.async false
set_option linter.all false
set_option maxRecDepth 100000
/-! Cb57: xs[a drawn number] -/
namespace Cb
open PySem PySem.Spec L2
open PyProof.Rows hiding St
section
variable {X : Cx} {B F0 : Hp} {Γ : Ev} {a b : Expr} {pos : Pos} {p : Addr}
theorem xr_ix {α : Type} [R α] {Pb : Int → Prop} {xs : List α} (ha : XE X B F0 Γ a true xs) (hb : XR X B F0 Γ p b Pb) (hin : ∀ i, Pb i → 0 ≤ i ∧ i < xs.length) (hs : PlainIx b := by exact fun _ _ => rfl) : XR X B F0 Γ p (.Subscript a b pos) (fun x => ∃ i, Pb i ∧ atI xs i = some x) := fun d F σ H Q od A q =>
  WE.of (pe_ix ix_list can_e can_e hs) (ha F σ H _ (A.up off_sub) fun F1 H1 v g r => hb d F1 σ H1 _ (g.offs od).1 (A.grow (g.offs od).2) fun F2 H2 w i k2 o2 A2 pi ri => by
    obtain ⟨y, vs, rfl, hy, rr⟩ := r
    obtain ⟨h0, h1⟩ := hin i pi
    have e : i = ((i.toNat : Nat) : Int) := by omega
    have gx : xs[i.toNat]? = some (xs[i.toNat]'(by omega)) := List.getElem?_eq_getElem (by omega)
    have ga : atI xs i = some (xs[i.toNat]'(by omega)) := by
      have q := atI_nat gx
      rwa [← e] at q
    obtain ⟨u, hu, ru⟩ := rr.at ga
    have F1F2 : Same F1 F2 := k2.ff
    have hy2 : H2 y = some (.lst vs) := off_sub _ _ (A2.sF _ _ (F1F2 _ _ (rf_sub _ _ hy)))
    refine ⟨y, vs, i, u, rfl, ri, SqL.of hy2, hu, q F2 H2 u _ ((g.kept p).trans k2) o2 A2 ⟨i, pi, ga⟩ (R.mono (rf_mono F1F2) ru)⟩)
end
end Cb

set_option Elab.async false
set_option linter.all false
set_option maxRecDepth 100000
/-! Cb58: a locked, owned dict is frozen -/
namespace Cb
open PySem PySem.Spec L2
open PyProof.Rows hiding St
section
variable {α γ β : Type} [R α] [R γ] [FK α] [FK γ] [DecidableEq α] [DecidableEq γ] [R β]
variable {X : Cx} {B F0 : Hp} {Γ : Ev} {k : Bool} {D : Ends} {ss : List Stmt}
theorem AS.freezeLD {as : LD (α × γ) β} {K : Kf} {F : Hp} {σ : St} {H : Hp} {i : Nat} (A : AS K B F0 Γ F σ H) (e : Γ[i]? = some (ownd k as)) : ∃ F', AS K B F0 (Γ.set i (vl k as)) F' σ H := by
  obtain ⟨⟨O, s, so, d, nt⟩, sF, sB, s0, bf⟩ := A
  obtain ⟨o, O1, Or, e1, h1, h2, h3, ⟨v, rfl, p, vs, od, rfl, ep, r⟩, h5⟩ := s.focus e
  have pO : O p = some (.frz od (dTo vs)) := h1 _ _ ep
  have pH : H p = some (.frz od (dTo vs)) := so _ _ pO
  have dp := d p (by rw [pO]; simp)
  have f1 : Same F (upd F p (.frz od (dTo vs))) := sub_upd dp.1
  have hOr : Or p = none := (h3 p).resolve_left (by rw [ep]; simp)
  have hσ : σ.set i (some (.ref p)) = σ := set_self e1
  have key := h5 (upd F p (.frz od (dTo vs))) (vl k as) (some (.ref p)) (fun _ => none) Or f1 ⟨.ref p, rfl, p, vs, od, rfl, rf_new upd_same dp.2, r.mono (rf_mono f1)⟩ (fun _ _ z => nomatch z) (Same.refl _) fun x => .inl rfl
  rw [hσ] at key
  refine ⟨upd F p (.frz od (dTo vs)), ⟨Or, key, h2.trans so, fun x hx => ?_, fun x o q => nt _ _ (h2 _ _ q)⟩, fun b u q => ?_, sB, s0.trans f1, bf.trans f1⟩
  · have hO : O x ≠ none := fun z => hx (by
      cases w : Or x with
      | none => rfl
      | some u => rw [h2 _ _ w] at z; cases z)
    refine ⟨?_, (d x hO).2⟩
    rw [upd_ne (fun z => by subst z; exact hx hOr)]
    exact (d x hO).1
  · by_cases z : b = p
    · subst z; rw [upd_same] at q; cases q; exact pH
    · rw [upd_ne z] at q; exact sF _ _ q
theorem ts_freezeLD {as : LD (α × γ) β} (i : Nat) (hΓ : Γ[i]? = some (ownd k as)) (ht : TSs X B F0 (Γ.set i (vl k as)) ss D) : TSs X B F0 Γ ss D := fun F σ H A =>
  let ⟨F', A'⟩ := A.freezeLD hΓ
  ht F' σ H A'
end
end Cb

set_option Elab.async false
set_option linter.all false
set_option maxRecDepth 100000
/-! Cb59: the head of a new pair or triple as the heap stands; targets from a call that draws by a named pen -/
namespace Cb
open PySem PySem.Spec L2
open PyProof.Rows hiding St
section
variable {X : Cx} {B F0 : Hp} {Γ : Ev} {k : Bool} {a e : Expr} {pos p' : Pos} {j : Nat} {p : Addr} {D : Ends} {ss : List Stmt} {α β γ δ : Type} [R α] [R β] [R γ] [R δ]
theorem xv2_0 {u : α × β} (h : XV X B F0 Γ a u) : XV X B F0 Γ (.Subscript a (.Constant (.int 0) j p') pos) u.1 := fun F σ H Q A q =>
  WE.of (pe_ix ix_tup can_e can_e (fun _ _ => rfl)) (h F σ H _ A fun F1 H1 v g ⟨p, v1, v2, e, hp, r1, r2⟩ => (xi (k := false) (i := 0)).v F1 σ H1 _ (A.grow g) fun F2 H2 w g2 r => by
    exact ⟨p, [v1, v2], 0, v1, by rw [e], r, SqT.of (g2.hh _ _ hp), atI_nat (j := 0) rfl, q F2 H2 _ (g.trans g2) (R.mono g2.hh r1)⟩)
theorem xv3_0 {u : T3 α β γ} (h : XV X B F0 Γ a u) : XV X B F0 Γ (.Subscript a (.Constant (.int 0) j p') pos) u.a := fun F σ H Q A q =>
  WE.of (pe_ix ix_tup can_e can_e (fun _ _ => rfl)) (h F σ H _ A fun F1 H1 v g ⟨p, v1, v2, v3, e, hp, r1, r2, r3⟩ => (xi (k := false) (i := 0)).v F1 σ H1 _ (A.grow g) fun F2 H2 w g2 r => by
    exact ⟨p, [v1, v2, v3], 0, v1, by rw [e], r, SqT.of (g2.hh _ _ hp), atI_nat (j := 0) rfl, q F2 H2 _ (g.trans g2) (R.mono g2.hh r1)⟩)
theorem xvsum0 {s : Sum (α × β) (T3 α γ δ)} (h : XV X B F0 Γ a s) : XV X B F0 Γ (.Subscript a (.Constant (.int 0) j p') pos) (sfst s) := by
  cases s with
  | inl u => exact xv2_0 (XV.outl h rfl)
  | inr u => exact xv3_0 (XV.outr h rfl)
theorem ts_asgR {Z : Type} [R Z] {Pr : Z → Prop} {tg : Expr} (he : XR X B F0 Γ p e Pr) (ht : ∀ c, Pr c → ∃ (is : List Nat) (U : Ev → Ev), TGt X B tg true c is U ∧ TSs X B F0 (U Γ) ss D) (hs : swapsWithSole [tg] e pos.line X.env = pure false := by rfl) (hw : swappedStores [tg] e X.env = pure none := by rfl)
    (h1 : (assignEach [tg] X.env).map (·.2) = [assign tg X.env] := by rfl) : TSs X B F0 Γ (.Assign [tg] e pos :: ss) D :=
  ts_cons fun F σ H A => WS.of (ps_asg can_e can_g hs hw h1) (he none F σ H _ off0 (by rw [off_none]; exact A) fun F' H' v c _ _ A' pc r => by
    obtain ⟨is, U, hg, ht⟩ := ht c pc
    rw [off_none] at A'
    exact hg F0 Γ F' σ H' v _ A' r fun σ' _ _ A'' => ht F' σ' H' A'')
/-- if a test that draws -/
theorem ts_ifR {t f : List Stmt} (hc : XRT X B F0 Γ p e) (h1 : TSs X B F0 Γ t D) (h2 : TSs X B F0 Γ f D) : TSt X B F0 Γ (.If e t f pos) D := fun F σ H A =>
  WS.of (ps_if can_t can_ss can_ss) (hc none F σ H _ off0 (by rw [off_none]; exact A) fun F' H' c _ _ A' => by
    rw [off_none] at A'
    cases c with
    | true => exact h1 F' σ H' A'
    | false => exact h2 F' σ H' A')
end
end Cb

set_option Elab.async false
set_option linter.all false
set_option maxRecDepth 100000
/-! Cb60: a pair of drawn things, a drawn thing of a tuple -/
namespace Cb
open PySem PySem.Spec L2
open PyProof.Rows hiding St
section
variable {X : Cx} {B F0 : Hp} {Γ : Ev} {a b e1 e2 : Expr} {pos : Pos} {p : Addr}
theorem xr_ixT {α : Type} [R α] {Pb : Int → Prop} {t : Tup α} (ha : XE X B F0 Γ a true t) (hb : XR X B F0 Γ p b Pb) (hin : ∀ i, Pb i → 0 ≤ i ∧ i < t.items.length) (hs : PlainIx b := by exact fun _ _ => rfl) : XR X B F0 Γ p (.Subscript a b pos) (fun x => ∃ i, Pb i ∧ atI t.items i = some x) := fun d F σ H Q od A q =>
  WE.of (pe_ix ix_tup can_e can_e hs) (ha F σ H _ (A.up off_sub) fun F1 H1 v g r => hb d F1 σ H1 _ (g.offs od).1 (A.grow (g.offs od).2) fun F2 H2 w i k2 o2 A2 pi ri => by
    obtain ⟨y, vs, rfl, hy, rr⟩ := r
    obtain ⟨h0, h1⟩ := hin i pi
    have e : i = ((i.toNat : Nat) : Int) := by omega
    have gx : t.items[i.toNat]? = some (t.items[i.toNat]'(by omega)) := List.getElem?_eq_getElem (by omega)
    have ga : atI t.items i = some (t.items[i.toNat]'(by omega)) := by
      have q := atI_nat gx
      rwa [← e] at q
    obtain ⟨u, hu, ru⟩ := rr.at ga
    have F1F2 : Same F1 F2 := k2.ff
    have hy2 : H2 y = some (.tup vs) := off_sub _ _ (A2.sF _ _ (F1F2 _ _ (rf_sub _ _ hy)))
    refine ⟨y, vs, i, u, rfl, ri, SqT.of hy2, hu, q F2 H2 u _ ((g.kept p).trans k2) o2 A2 ⟨i, pi, ga⟩ (R.mono (rf_mono F1F2) ru)⟩)
theorem xr_pair {α β : Type} [R α] [R β] {Pa : α → Prop} {Pb : β → Prop} {x1} (ha : XR X B F0 Γ p e1 Pa) (hb : XR X B F0 Γ p e2 Pb) (hs : starEach [e1, e2] X.env = (false, eval e1 X.env) :: starEach [e2] X.env := by rfl) (hs2 : starEach [e2] X.env = (false, eval e2 X.env) :: starEach [] X.env := by rfl) :
    XR X B F0 Γ p (.Tuple [e1, e2] x1 pos) (fun z : α × β => Pa z.1 ∧ Pb z.2) := fun d F σ H Q od A q =>
  WE.of (pe_tup can_a) (WA.of (pa_cons can_e can_a hs) (ha d F σ H _ od A fun F1 H1 v1 c1 k1 o1 A1 p1 r1 => WA.of (pa_cons can_e can_a hs2) (hb d F1 σ H1 _ o1 A1 fun F2 H2 v2 c2 k2 o2 A2 p2 r2 => WA.of pa_nil ⟨small (by simp), fun y np => by
    have fs : Same F2 H2 := A2.sF.trans off_sub
    have fp : F2 y = none := fs.free np
    have g : Grow F2 H2 (upd F2 y (.tup [v1, v2])) (upd H2 y (.tup [v1, v2])) := Grow.new fs np
    exact q _ _ (.ref y) (c1, c2) ((k1.trans k2).trans (g.kept p)) (g.offs o2).1 (A2.grow (g.offs o2).2) ⟨p1, p2⟩ ⟨y, v1, v2, rfl, tup_in, R.mono (rf_mono (k2.ff.trans (sub_upd fp))) r1, R.mono (rf_mono (sub_upd fp)) r2⟩⟩)))
/-- the word of a new pair or triple -/
theorem xo2_0 {k : Bool} {j : Nat} {p' : Pos} {α β γ : Type} [R α] [R β] [R γ] {u : α × Sum (List β) (List γ)} (h : XO X B F0 Γ a k u) : XV X B F0 Γ (.Subscript a (.Constant (.int 0) j p') pos) u.1 :=
  xv2_0 (α := α) (β := Sum (List β) (List γ)) (u := u) h.vw
theorem xosum0 {k : Bool} {j : Nat} {p' : Pos} {α β γ δ : Type} [R α] [R β] [R γ] [R δ] {s : Sum (α × List β) (T3 α (List γ) (List δ))} (h : XO X B F0 Γ a k s) : XV X B F0 Γ (.Subscript a (.Constant (.int 0) j p') pos) (sfst s) :=
  xvsum0 (α := α) (β := List β) (γ := List γ) (δ := List δ) (s := s) h.vw
theorem XO.vwo {k : Bool} {β : Type} [Ow β] {o : Option β} (h : XO X B F0 Γ a k o) : XV X B F0 Γ a o := h.vw
end
end Cb

set_option Elab.async false
set_option linter.all false
set_option maxRecDepth 100000
/-! Cb61: dict(a list of pairs whose first things are pairs) -/
namespace Cb
open PySem PySem.Spec L2
open PyProof.Rows hiding St
theorem storedAllH_new {K : Type} [DecidableEq K] : ∀ (ps xs : List (K × Addr × Value)), ((xs ++ ps).map (·.1)).Nodup → storedAllH xs ps = xs ++ ps
  | [], xs, _ => by unfold storedAllH; simp
  | p :: ps, xs, h => by
    have hn : p.1 ∉ xs.map (·.1) := by
      rw [List.map_append, List.nodup_append] at h
      exact fun z => h.2.2 _ z p.1 (by simp) rfl
    have e : storedH xs p.1 p.2.1 p.2.2 = xs ++ [p] := by
      unfold storedH
      have : (atKey xs p.1).isSome = false := by
        rw [Bool.eq_false_iff]
        intro z
        obtain ⟨q, hq⟩ := Option.isSome_iff_exists.mp z
        unfold atKey at hq
        obtain ⟨y, hy, _⟩ := Option.map_eq_some_iff.mp hq
        have m := List.mem_of_find?_eq_some hy
        have k := List.find?_some hy
        exact hn (List.mem_map.mpr ⟨y, m, by simpa using k⟩)
      rw [this]; rfl
    have ih := storedAllH_new ps (xs ++ [p]) (by simpa using h)
    unfold storedAllH at ih ⊢
    rw [List.foldl_cons, e, ih]; simp
section
variable {X : Cx}
theorem call_dictPT (hc : X.calm = true) (hu : X.A.units + 64 < cLine) : CallR X (.type "dict") (fun xs H Q => ∃ (a : Addr) (ps : List (Addr × Addr)) (kvs : List (List Key × V)), xs = [.ref a] ∧ SqL X.K H a (ps.map fun p => V.ref p.1) ∧
    Paired (fun p kv => SqT X.K H p.1 [.ref p.2, kv.2] ∧ H p.2 = some (.tup (kv.1.map kV))) ps kvs ∧ (kvs.map (·.1)).Nodup ∧ ∀ p, H p = none → Q (.ref p) (upd H p (.dT kvs))) := by
  intro pins s σ H xs us Q I r q
  obtain ⟨a, ps, kvs, ex, hq, hp, nd, q⟩ := q
  subst ex
  obtain ⟨u, eu, rx⟩ := vals1 r
  subst eu
  cases rx
  obtain ⟨its, rv, pl, hz⟩ := I.list hq
  have ei : its = (ps.map (·.1)).map Value.ref := refs_at (ps := ps.map (·.1)) (by rw [List.map_map]; exact rv)
  subst ei
  rw [List.length_map] at hz
  have key : ∀ {ps : List (Addr × Addr)} {kvs : List (List Key × V)}, Paired (fun p kv => SqT X.K H p.1 [.ref p.2, kv.2] ∧ H p.2 = some (.tup (kv.1.map kV))) ps kvs →
      ∃ prs : List (List Key × Addr × Value), KT H kvs prs ∧ prs.length = ps.length ∧ (prs.map (·.1)) = kvs.map (·.1) ∧ (∀ x ∈ prs, H x.2.1 = some (.tup (x.1.map kV))) ∧ ∀ (j : Nat) (z : List Key × Addr × Value), prs[j]? = some z → ∃ p, ps[j]? = some p ∧ IsTup s.heap p.1 #[.ref z.2.1, z.2.2] := by
    intro ps kvs h
    induction h with
    | nil => exact ⟨[], .nil, rfl, rfl, (fun x hx => nomatch hx), fun j z e => by simp at e⟩
    | @cons p kv ps kvs h t ih =>
      obtain ⟨prs, r1, r2, r3, r4, r5⟩ := ih
      obtain ⟨its, rv, ht, _⟩ := I.tuple h.1
      obtain ⟨u, y, ei, ru, ry⟩ := vals2 rv
      subst ei
      cases (show u = Value.ref p.2 from ru)
      refine ⟨(kv.1, p.2, y) :: prs, .cons ⟨rfl, h.2, ry⟩ r1, by rw [List.length_cons, List.length_cons, r2], by rw [List.map_cons, List.map_cons, r3], fun x hx => ?_, fun j z e => ?_⟩
      · rcases List.mem_cons.mp hx with e | hx
        · subst e; exact h.2
        · exact r4 x hx
      · cases j with
        | zero =>
          have e' : (kv.1, p.2, y) = z := Option.some.inj e
          subst e'
          exact ⟨p, rfl, ht⟩
        | succ j =>
          obtain ⟨p', e1, e2⟩ := r5 j z (by simpa using e)
          exact ⟨p', by simpa using e1, e2⟩
  obtain ⟨prs, kt, hl, hk, htup, hpr⟩ := key hp
  have pl2 := pl
  obtain ⟨o, n, ho, hcl, hd, hdat⟩ := pl
  let Ts : Nat → Addr := fun j => (ps[j]?.map (·.1)).getD 0
  let rel : List (Value × Value) := prs.map fun z => (Value.ref z.2.1, z.2.2)
  have hrl : rel.length = prs.length := List.length_map ..
  have PI : PairItems s.heap (((ps.map (·.1)).map Value.ref).toArray) Ts rel := by
    refine ⟨by simp [hrl, hl], fun j k v e => ?_⟩
    rw [List.getElem?_map] at e
    obtain ⟨z, hz1, hz2⟩ := Option.map_eq_some_iff.mp e
    obtain ⟨p, e1, e2⟩ := hpr j z hz1
    have et : Ts j = p.1 := by show (ps[j]?.map (·.1)).getD 0 = p.1; rw [e1]; rfl
    have k1 : k = Value.ref z.2.1 := (congrArg Prod.fst hz2).symm
    have v1 : v = z.2.2 := (congrArg Prod.snd hz2).symm
    refine ⟨by simp [e1, et], .inl ?_⟩
    rw [et, k1, v1]
    obtain ⟨oo, g1, g2, g3, g4⟩ := e2
    exact ⟨oo, g1, g2, g3, g4⟩
  have hm : (s.heap.objs.size == sysModules) = false := beq_eq_false_iff_ne.mpr (Nat.ne_of_gt I.big)
  refine call_dict_pairsH (knd := tupleKind (mixKind X.prog X.w)) (ps := prs) (PairArg.list a (((ps.map (·.1)).map Value.ref).toArray) Ts rel) (I.ok.hd hc) (show X.A.units + 1 + 1 < cLine by omega) ⟨⟨o, n, ho, hcl, hd, hdat⟩, PI⟩ ⟨hrl.symm, fun i k v e => ?_⟩ (fun h' hk' x hx => ?_) (by rw [hrl, hl]; exact hz) fun h' tk hd' k => ?_
  · have e' : rel[i]? = some (k, v) := e
    rw [List.getElem?_map] at e'
    obtain ⟨z, hz1, hz2⟩ := Option.map_eq_some_iff.mp e'
    have v1 : z.2.2 = v := congrArg Prod.snd hz2
    exact ⟨z.1, z.2.1, by rw [hz1, ← v1], (congrArg Prod.fst hz2).symm⟩
  · exact (tupleKind_stays (knd := mixKind X.prog X.w)).stays (fun b ob vs nn e _ => hk' b ob (Nat.ne_of_lt (Heap.lt_size e)) (fun z => nomatch z) e) (key_of I.hok (htup x hx))
  · have hn : (prs.map (·.1)).Nodup := by rw [hk]; exact nd
    rw [storedAllH_new prs [] (by simpa using hn), List.nil_append] at hd'
    obtain ⟨q', es, ep, hq', h2, h3, h4, _, h5⟩ := hd'
    have hkl : kvs.length ≤ sizeLine := by rw [Paired.length kt, hl]; exact hz
    have np : H s.heap.objs.size = none := I.hok.fresh (Nat.le_refl _)
    refine ⟨.ref s.heap.objs.size, upd H s.heap.objs.size (.dT kvs), I.laid (t' := tk) (fun b o e => k b o (fun z => nomatch z) e) (Nat.le_refl _) (show ObjOk X.prog X.w _ _ _ (.dT kvs) from ⟨hkl, hm, prs, ?_, q', es, ep, hq', h2, h3, h4, h5⟩), rfl, q _ np⟩
    exact kt.keeps fun b ys e => by rw [upd_ne (ne_of_none e np)]; exact e
variable {B F0 : Hp} {Γ : Ev} {k : Bool} {a : Expr} {pos p : Pos} {α γ β : Type} [R α] [R γ] [FK α] [FK γ] [DecidableEq α] [DecidableEq γ] [R β]
theorem reps_prsT {K : Kf} {F : Hp} : ∀ {vs : List V} {l : List ((α × γ) × β)}, Reps K F vs l → ∃ (ps : List (Addr × Addr)) (ws : List ((α × γ) × V)), vs = ps.map (fun p => V.ref p.1) ∧ Paired (fun p kv => F p.1 = some (.tup [V.ref p.2, kv.2]) ∧ F p.2 = some (.tup ((pairKey kv.1).map kV))) ps ws ∧ PD K F ws l
  | _, _, .nil => ⟨[], [], rfl, .nil, .nil⟩
  | _, _, .cons r t => by
    obtain ⟨ps, ws, e1, e2, e3⟩ := reps_prsT t
    obtain ⟨p, v1, v2, rfl, hp, ⟨q, u1, u2, rfl, hq, s1, s2⟩, r2⟩ := r
    have f1 := FK.rep s1
    have f2 := FK.rep s2
    subst f1 f2
    exact ⟨(p, q) :: ps, (_, v2) :: ws, by rw [e1]; rfl, .cons ⟨hp, hq⟩ e2, .cons ⟨rfl, r2⟩ e3⟩
theorem pd_keysT {K : Kf} {F : Hp} : ∀ {ws : List ((α × γ) × V)} {l : List ((α × γ) × β)}, PD K F ws l → ws.map (·.1) = l.map (·.1)
  | _, _, .nil => rfl
  | _, _, .cons h t => by rw [List.map_cons, List.map_cons, pd_keysT t, h.1]
theorem xdictPT {l : List ((α × γ) × β)} (hc : X.calm = true) (hu : X.A.units + 64 < cLine) (mm : X.mg "dict" = none) (ha : XE X B F0 Γ a k l) (nd : (l.map (·.1)).Nodup) (hg : Gl X "dict" := by rfl) (hs : starEach [a] X.env = (false, eval a X.env) :: starEach [] X.env := by rfl) :
    XO X B F0 Γ (.Call (.Name "dict" p) [a] [] pos) k (Dct.mk l : Dct (α × γ) β) := fun F σ H Q A q =>
  x_ty (call_dictPT hc hu) hg mm (by decide +kernel) (ha F σ H _ A fun F' H' v g ⟨lp, vs, ev, hp, r⟩ => by
    obtain ⟨ps, ws, e1, e2, e3⟩ := reps_prsT r
    have sH : Same (rf k B F') H' := rf_sub.trans g.fh
    refine ⟨lp, ps, ws.map (fun kv => (pairKey kv.1, kv.2)), by rw [ev], SqL.of (by rw [← e1]; exact sH _ _ hp), ?_, ?_, fun p np => ?_⟩
    · have : ∀ {ps : List (Addr × Addr)} {ws : List ((α × γ) × V)}, Paired (fun p kv => (rf k B F') p.1 = some (.tup [V.ref p.2, kv.2]) ∧ (rf k B F') p.2 = some (.tup ((pairKey kv.1).map kV))) ps ws → Paired (fun p (kv : List Key × V) => SqT X.K H' p.1 [V.ref p.2, kv.2] ∧ H' p.2 = some (.tup (kv.1.map kV))) ps (ws.map (fun kv => (pairKey kv.1, kv.2))) := by
        intro ps ws h
        induction h with
        | nil => exact .nil
        | cons h _ ih => exact .cons ⟨SqT.of (sH _ _ h.1), sH _ _ h.2⟩ ih
      exact this e2
    · rw [List.map_map]
      have := pd_keysT e3
      rw [← this] at nd
      unfold List.Nodup at nd ⊢
      rw [List.pairwise_map] at nd ⊢
      exact nd.imp fun h e => h (pairKey_inj _ _ e)
    · refine q F' _ (.ref p) (one p (DK.ho (κ := α × γ) ws)) (g.trans (Grow.newH g.fh np)) (one_sub upd_same) (fun x o e => ?_) ⟨p, ws, rfl, one_at, e3⟩
      obtain ⟨rfl, rfl⟩ := one_is e
      exact ⟨g.hh.free np, g.fh.free np, DK.notTup _⟩) (hs := hs)
end
end Cb

set_option Elab.async false
set_option linter.all false
set_option maxRecDepth 100000
/-! Cb62: calls with drawn arguments; lists whose elements are drawn -/
namespace Cb
open PySem PySem.Spec L2
open PyProof.Rows hiding St
section
variable {X : Cx} {B F0 : Hp} {Γ : Ev} {k : Bool} {e : Expr} {es : List Expr} {pos p' : Pos} {p : Addr} {D : Ends} {ss : List Stmt}
/-- arguments that may draw -/
def XAR (X : Cx) (B F0 : Hp) (Γ : Ev) (p : Addr) (es : List Expr) {A : Type} [Args A] (Pr : A → Prop) : Prop :=
  ∀ d F σ H (Q : List V → Hp → Prop), OffOk p d F H → AS X.K B F0 Γ F σ (off d H) → (∀ F' H' vs ag, Kept p F H F' H' → OffOk p d F' H' → AS X.K B F0 Γ F' σ (off d H') → Pr ag → Args.args X.K (rf true B F') vs ag → Q vs H') → WA X es σ H Q
theorem Kept.refl {F H : Hp} (s : Same F H) : Kept p F H F H := (Grow.refl s).kept p
theorem xar_nil : XAR X B F0 Γ p [] (A := Unit) (fun _ => True) := fun d F σ H Q od A q =>
  WA.of pa_nil (q F H [] () (Kept.refl (A.sF.trans off_sub)) od A trivial rfl)
theorem xar_cons {α A : Type} [R α] [Args A] {Pa : α → Prop} {Pb : A → Prop} (he : XR X B F0 Γ p e Pa) (ht : XAR X B F0 Γ p es Pb) (hs : starEach (e :: es) X.env = (false, eval e X.env) :: starEach es X.env := by rfl) :
    XAR X B F0 Γ p (e :: es) (A := α × A) (fun ag => Pa ag.1 ∧ Pb ag.2) := fun d F σ H Q od A q =>
  WA.of (pa_cons can_e can_a hs) (he d F σ H _ od A fun F1 H1 v c k1 o1 A1 p1 r1 => ht d F1 σ H1 _ o1 A1 fun F2 H2 vs ag k2 o2 A2 p2 r2 =>
    q F2 H2 (v :: vs) (c, ag) (k1.trans k2) o2 A2 ⟨p1, p2⟩ ⟨v, vs, rfl, R.mono (rf_mono k2.ff) r1, r2⟩)
theorem xr_cvA {A Z : Type} [Args A] [R Z] {pre : A → Prop} {m : A → Z} {Pr : A → Prop} {f : Str} {pf : Pos} (c : CalX X f (spV X.K pre m)) (h : XAR X B F0 Γ p (e :: es) Pr) (hp : ∀ ag, Pr ag → pre ag) (hg : Gl X f := by rfl)
    (hdb : (f == ("__debug__" : Str)) = false := by decide) (hs : starEach (e :: es) X.env = (false, eval e X.env) :: starEach es X.env := by rfl) (hpl : (backTo pos (starEach es X.env)).any (·.1) = false := by rfl) :
    XR X B F0 Γ p (.Call (.Name f pf) (e :: es) [] pos) (fun z : Z => ∃ ag, Pr ag ∧ z = m ag) := fun d F σ H Q od AA q => by
  obtain ⟨kk, fa, fd, ps, G, hr, hm, kp, bd⟩ := c.ex
  refine WE.of (pe_call G hr hg hm kp bd .nil pass0 can_a hdb hs hpl) (h d F σ H _ od AA fun F' H' vs ag k1 o1 A1 p1 r1 => ?_)
  rw [List.append_nil]
  have fh : Same F' H' := A1.sF.trans off_sub
  have sB : Same B H' := A1.sB.trans off_sub
  refine ⟨ag, Args.mono (rf_sub.trans fh) r1, hp ag p1, fun v H2 G h1 h2 n rr => ?_⟩
  have g : Grow F' H' (join F' G) H2 := Grow.ret fh h1 h2 n
  exact q (join F' G) H2 v (m ag) (k1.trans (g.kept p)) (g.offs o1).1 (A1.grow (g.offs o1).2) ⟨ag, p1, rfl⟩ (R.mono (ret_res fh sB h1 h2 n) rr)
/-- a test that draws, what is known of it told -/
def XRC (X : Cx) (B F0 : Hp) (Γ : Ev) (p : Addr) (c : Expr) (Pc : Bool → Prop) : Prop :=
  ∀ d F σ H (Q : Bool → Hp → Prop), OffOk p d F H → AS X.K B F0 Γ F σ (off d H) → (∀ F' H' b, Kept p F H F' H' → OffOk p d F' H' → AS X.K B F0 Γ F' σ (off d H') → Pc b → Q b H') → WT X c σ H Q
theorem xrc_of {c : Expr} {Pc : Bool → Prop} (h : XR X B F0 Γ p c Pc) (he : ∀ whole, isTrue c X.env whole = (do let v ← whole; standAt c.pos; holding [v] (truthy v)) := by intro _; rfl) : XRC X B F0 Γ p c Pc := fun d F σ H Q od A q =>
  WT.of (pt_val can_e he) (h d F σ H _ od A fun F' H' v b k o A' pb r => ⟨b, r, q F' H' b k o A' pb⟩)
theorem xrc_not {c : Expr} {Pc : Bool → Prop} (h : XRC X B F0 Γ p c Pc) : XRC X B F0 Γ p (.UnaryOp .Not c pos) (fun b => Pc (!b)) := fun d F σ H Q od A q =>
  WT.of (pt_not can_t) (h d F σ H _ od A fun F' H' b k o A' pb => q F' H' (!b) k o A' (by show Pc (!!b); rw [Bool.not_not]; exact pb))
theorem ts_ifRc {c : Expr} {Pc : Bool → Prop} {t f : List Stmt} (hc : XRC X B F0 Γ p c Pc) (h1 : Pc true → TSs X B F0 Γ t D) (h2 : Pc false → TSs X B F0 Γ f D) : TSt X B F0 Γ (.If c t f pos) D := fun F σ H A =>
  WS.of (ps_if can_t can_ss can_ss) (hc none F σ H _ off0 (by rw [off_none]; exact A) fun F' H' b _ _ A' pb => by
    rw [off_none] at A'
    cases b with
    | true => exact h1 pb F' σ H' A'
    | false => exact h2 pb F' σ H' A')
end
/-! lists whose elements are drawn -/
structure LcE (X : Cx) (B F0 : Hp) (Γ : Ev) (scope : Scope) (tg it elt : Expr) (j : Nat) (p : Addr) {α β : Type} [R α] [R β] (xs : List α) (Pr : α → β → Prop) : Prop where
  ex : ∃ k0 : Bool, XI X B F0 Γ tg it k0 xs ∧ (∀ s H0 C cl fp (v : V) (σ : St) (H : Hp) (Q : St → Hp → Prop), Q (σ.set j (some v)) H → WG (Blk X scope s H0 C cl fp) tg v σ H Q) ∧ Γ[j]? = some junk ∧
    ∀ x ∈ xs, ∀ s H0 C cl fp F1, XR (Blk X scope s H0 C cl fp) B F1 (Γ.set j (vl k0 x)) p elt (Pr x)
section
variable {X : Cx} {B F0 : Hp} {Γ : Ev} {k : Bool} {D : Ends} {ss : List Stmt} {pos : Pos} {p : Addr} {α β : Type} [R α] [R β]
theorem paired_snoc {Pr : α → β → Prop} : ∀ {xs : List α} {ys : List β} {x : α} {y : β}, Paired Pr xs ys → Pr x y → Paired Pr (xs ++ [x]) (ys ++ [y])
  | _, _, _, _, .nil, h => .cons h .nil
  | _, _, _, _, .cons r t, h => .cons r (paired_snoc t h)
theorem lcE_read {scope : Scope} {tg it elt : Expr} {j jp : Nat} {xs : List α} {Pr : α → β → Prop} (L : LcE X B F0 Γ scope tg it elt j p xs Pr) (hz : xs.length ≤ sizeLine) (hp : Γ[jp]? = some (ownd k (Pn.mk p))) {F σ H} {Q : VK} (A : AS X.K B F0 Γ F σ H)
    (q : ∀ F' H' Dd acc (ys : List β), Paired Pr xs ys → H' Dd = some (.lst acc) → F' Dd = none → AS X.K B F0 Γ F' σ (off (some Dd) H') → Reps X.K (rf true B F') acc ys → Q (.ref Dd) H') :
      tLc (WI X tg it) (WGb X scope tg) tYes (WEb X scope elt) [j] σ H Q := by
  obtain ⟨k0, hi, hg, hw, he⟩ := L.ex
  refine hi F σ H _ A fun F' H1 J g ok => fun Dd nD => ?_
  have A1 := A.grow g
  have pin : H1 p ≠ none := by
    obtain ⟨v, O1, e1, ⟨rfl, x, y, ep, _⟩, so, _⟩ := own_free A1 hp
    rw [so _ _ ep]; simp
  have Dp : Dd ≠ p := fun z => by subst z; exact pin nD
  have e0 : off (some Dd) (upd H1 Dd (.lst [])) = H1 := by
    funext b
    by_cases zb : b = Dd
    · subst zb; rw [off_at, nD]
    · rw [off_ne (fun z => zb (Option.some.inj z).symm), upd_ne zb]
  refine ⟨fun i m H2 => m = xs.length - i ∧ i ≤ xs.length ∧ ∃ acc F2 ys, H2 Dd = some (.lst acc) ∧ Same F' F2 ∧ OffOk p (some Dd) F2 H2 ∧ AS X.K B F0 Γ F2 σ (off (some Dd) H2) ∧ Paired Pr (xs.take i) ys ∧ Reps X.K (rf true B F2) acc ys,
    ⟨xs.length, by simp, Nat.zero_le _, [], F', [], upd_same, Same.refl _, fun a e => by cases e; exact ⟨⟨_, upd_same⟩, A1.sF.free nD, Dp⟩, by rw [e0]; exact A1, .nil, .nil⟩, ?_⟩
  rintro i m H2 ⟨rfl, hile, acc, F2, ys, hD, s2, od2, A2, sl, racc⟩
  have f2H : Same F2 H2 := A2.sF.trans off_sub
  by_cases hlt : i < xs.length
  · refine .inr ⟨(ok.go i hlt F2 H2 s2 f2H).1, fun H3 => i + 1 ≤ xs.length ∧ ∃ acc F3 ys, H3 Dd = some (.lst acc) ∧ Same F' F3 ∧ OffOk p (some Dd) F3 H3 ∧ AS X.K B F0 Γ F3 σ (off (some Dd) H3) ∧ Paired Pr (xs.take (i + 1)) ys ∧ Reps X.K (rf true B F3) acc ys,
      fun H3 ⟨h1, h2⟩ => ⟨xs.length - (i + 1), by omega, rfl, h1, h2⟩, fun v H3 y => ?_⟩
    obtain ⟨F3, g3, rv⟩ := (ok.go i hlt F2 H2 s2 f2H).2 v H3 y
    obtain ⟨od3, gO⟩ := g3.offs od2
    have A3 : AS X.K B F0 Γ F3 σ (off (some Dd) H3) := A2.grow gO
    have et : xs.take (i + 1) = xs.take i ++ [xs[i]] := by rw [List.take_add_one, List.getElem?_eq_getElem hlt]; rfl
    have hx : xs[i] ∈ xs := List.getElem_mem hlt
    have Aw : AS X.K B F0 Γ F3 (L2.wipe σ [j]) (off (some Dd) H3) := A3.wipe [j] ⟨hw, trivial⟩
    have A4 := Aw.set j rv
    have ws : L2.wipe ((L2.wipe σ [j]).set j (some v)) [j] = L2.wipe σ [j] := wipe_same (is := [j]) (fun j' hj => by rw [List.getElem?_set_ne (fun z => hj (by simp [z]))]) (by simp) (fun _ h => h)
    intro s H0 C cl fp
    refine hg s H0 C cl fp v _ H3 _ ⟨ws, ?_⟩
    unfold tYes
    dsimp only
    rw [if_pos rfl]
    intro s2' H02 C2 cl2 fp2
    refine he xs[i] hx s2' H02 C2 cl2 fp2 F0 (some Dd) F3 _ H3 _ od3 A4 fun F5 H5 u c k5 od5 A5 pc ru => ?_
    have back : AS X.K B F0 Γ F5 σ (off (some Dd) H5) := AS.unset hw A5
    have hD5 : H5 Dd = some (.lst acc) := k5.kp _ _ Dp (g3.hh _ _ hD)
    have f5 : Same F' F5 := (s2.trans g3.ff).trans k5.ff
    have e6 : off (some Dd) (upd H5 Dd (.lst (acc ++ [u]))) = off (some Dd) H5 := by
      funext b
      by_cases zb : b = Dd
      · subst zb; rw [off_at, off_at]
      · rw [off_ne (fun z => zb (Option.some.inj z).symm), off_ne (fun z => zb (Option.some.inj z).symm), upd_ne zb]
    have yl : ys.length = i := by
      have a := Paired.length sl
      rw [List.length_take] at a
      omega
    refine ⟨acc, hD5, ?_, hlt, acc ++ [u], F5, ys ++ [c], upd_same, f5, fun a e => ?_, by rw [e6]; exact back, by rw [et]; exact paired_snoc sl pc, ?_⟩
    · rw [Reps.length racc]; omega
    · cases e
      exact ⟨⟨_, upd_same⟩, (od5 Dd rfl).2.1, Dp⟩
    · exact (racc.mono (rf_mono ((g3.ff).trans k5.ff))).append (.cons ru .nil)
  · have ei : i = xs.length := by omega
    subst ei
    rw [List.take_length] at sl
    exact .inl ⟨ok.stop _ rfl F2 H2 s2 f2H, q F2 H2 Dd acc ys sl hD (od2 Dd rfl).2.1 A2 racc⟩
/-- name = [a drawn thing for ..] -/
theorem ts_setLcE {scope : Scope} {tg it elt : Expr} {jn n : Str} {py spos : Pos} {xs : List α} {Pr : α → β → Prop} (i j jp : Nat) (hΓ : Γ[jp]? = some (ownd k (Pn.mk p))) (hc : X.calm = true) (hN : X.N.Nodup) (ok : BlkOk X.N X.env.scope scope [(jn, j)]) (L : LcE X B F0 Γ scope tg it elt j p xs Pr) (hz : xs.length ≤ sizeLine)
    (ht : ∀ ys : List β, Paired Pr xs ys → TSs X B F0 (Γ.set i (ownd true ys)) ss D) (hsw : swapsWith (.ListComp elt [⟨tg, it, [], 0⟩] scope pos) (some (.Name n py)) spos.line X.env = pure true) (hy : X.N[i]? = some n := by rfl) (hyl : X.env.scope.names.lookup n = some .local := by rfl)
    (hs : ∀ x, foldedSetIterable it X.env x = pure x := by intro _; rfl) : TSs X B F0 Γ (.Assign [.Name n py] (.ListComp elt [⟨tg, it, [], 0⟩] scope pos) spos :: ss) D := ts_cons fun F σ H A => by
  exact WS.of (ps_setLc hc hN hy hyl hsw can_i ok (fun s H C cl fp => ⟨fun pins s' σ H' v u Q I r hh => hh s H C cl fp pins s' u I r⟩) (fun s H C cl fp => pts_nil) (fun s H C cl fp => ⟨fun pins s' σ H' Q I hh => hh s H C cl fp pins s' I⟩) hs)
    (lcE_read (k := k) L hz hΓ A fun F' H' Dd acc ys sl hD fD A' r => by
      have g : Grow F' (off (some Dd) H') F' H' := ⟨off_sub, Same.refl _, A'.sF.trans off_sub, fun _ _ e => .inl e⟩
      refine ht ys sl F' _ H' (A'.seto g i (O' := one Dd (.lst acc)) (one_sub hD) (fun x o e => ?_) ⟨Dd, acc, rfl, one_at, r⟩)
      obtain ⟨rfl, rfl⟩ := one_is e
      exact ⟨off_at, fD, rfl⟩)
end
end Cb

set_option Elab.async false
set_option linter.all false
set_option maxRecDepth 100000
/-! Cb63: owned things frozen, of any kind; drawn differences; calls with four arguments, drawn -/
namespace Cb
open PySem PySem.Spec L2
open PyProof.Rows hiding St
section
variable {X : Cx} {B F0 : Hp} {Γ : Ev} {k : Bool} {e a b : Expr} {es : List Expr} {pos p' : Pos} {p : Addr} {j : Nat}
theorem fzg {β : Type} [W : Ow β] {c : β} (h : XO X B F0 Γ e k c) : @XE X B F0 Γ e k β W.toR c := fun F σ H Q A q =>
  h F σ H Q A fun F' H' v O g so n r => by
    have jO : Same O (join F' O) := fun x o ex => by
      unfold join
      rw [(n x o ex).2.1]
      exact ex
    have jF : Same F' (join F' O) := fun x o ex => by
      unfold join
      rw [ex]
    refine q (join F' O) H' v ⟨g.hh, g.ff.trans jF, fun x o ex => ?_, fun x o ex => ?_⟩ (Ow.oread r (rf_mono jF) fun x o ex => rf_new (jO _ _ ex) (A.sB.free (n x o ex).1))
    · unfold join at ex
      cases w : F' x with
      | none => rw [w] at ex; exact so _ _ ex
      | some u => rw [w] at ex; cases ex; exact g.fh _ _ w
    · unfold join at ex
      cases w : F' x with
      | none => rw [w] at ex; exact .inr (.inl (n x o ex).1)
      | some u => rw [w] at ex; cases ex; exact g.nw _ _ w
theorem XO.fzs {α β γ δ : Type} [R α] [R β] [R γ] [R δ] {s : Sum (α × List β) (T3 α (List γ) (List δ))} (h : XO X B F0 Γ e k s) : XE X B F0 Γ e k s := fzg h
theorem XO.fzp {α β γ : Type} [R α] [R β] [R γ] {u : α × Sum (List β) (List γ)} (h : XO X B F0 Γ e k u) : XE X B F0 Γ e k u := fzg h
theorem xr_sub {Pa Pb : Int → Prop} (ha : XR X B F0 Γ p a Pa) (hb : XR X B F0 Γ p b Pb) : XR X B F0 Γ p (.BinOp a .Sub b pos) (fun n : Int => ∃ i j, Pa i ∧ Pb j ∧ n = i - j) := fun d F σ H Q od A q =>
  WE.of (pe_op op_sub can_e can_e) (ha d F σ H _ od A fun F1 H1 v i k1 o1 A1 pi ri => hb d F1 σ H1 _ o1 A1 fun F2 H2 w j k2 o2 A2 pj rj => ⟨i, j, ri, rj, q F2 H2 (.int (i - j)) (i - j) (k1.trans k2) o2 A2 ⟨i, j, pi, pj, rfl⟩ rfl⟩)
theorem xr_cv4 {T1 T2 T3 T4 Z : Type} [R T1] [R T2] [R T3] [R T4] [R Z] {pre : T1 → T2 → T3 → T4 → Prop} {m : T1 → T2 → T3 → T4 → Z} {Pr : T1 × T2 × T3 × T4 × Unit → Prop} {f : Str} {pf : Pos} (c : CalX X f (sv4 X.K pre m)) (h : XAR X B F0 Γ p (e :: es) Pr) (hp : ∀ ag, Pr ag → pre ag.1 ag.2.1 ag.2.2.1 ag.2.2.2.1) (hg : Gl X f := by rfl)
    (hdb : (f == ("__debug__" : Str)) = false := by decide) (hs : starEach (e :: es) X.env = (false, eval e X.env) :: starEach es X.env := by rfl) (hpl : (backTo pos (starEach es X.env)).any (·.1) = false := by rfl) :
    XR X B F0 Γ p (.Call (.Name f pf) (e :: es) [] pos) (fun z : Z => ∃ ag, Pr ag ∧ z = m ag.1 ag.2.1 ag.2.2.1 ag.2.2.2.1) :=
  xr_cvA (A := T1 × T2 × T3 × T4 × Unit) (pre := fun a : T1 × T2 × T3 × T4 × Unit => pre a.1 a.2.1 a.2.2.1 a.2.2.2.1) (m := fun a : T1 × T2 × T3 × T4 × Unit => m a.1 a.2.1 a.2.2.1 a.2.2.2.1) c h hp hg hdb hs hpl
theorem op_isBB : OpR X (compareOp .Is) (fun x y H Q => ∃ a b, x = .bl a ∧ y = .bl b ∧ Q (.bl (decide (a = b))) H) := by
  intro pins s σ H x y v u Q I rx ry h
  obtain ⟨a, b, rfl, rfl, q⟩ := h
  cases rx
  cases ry
  show wpAny _ _ ((isSame (Value.bool a) (Value.bool b)) >>= fun z => pure (Value.bool z)) _ _ s
  refine wpAny_bind (wpAny_isSame_plain (by cases a <;> cases b <;> rfl) (wpAny_pure (fin_bl I q ?_)))
  cases a <;> cases b <;> rfl
theorem cx_isB {a b : Bool} : CmpX X .Is a b (decide (a = b)) := ⟨_, op_isBB, fun H v w Q r1 r2 q => ⟨a, b, r1, r2, q⟩⟩
theorem op_isnBB : OpR X (compareOp .IsNot) (fun x y H Q => ∃ a b, x = .bl a ∧ y = .bl b ∧ Q (.bl (!decide (a = b))) H) := by
  intro pins s σ H x y v u Q I rx ry h
  obtain ⟨a, b, rfl, rfl, q⟩ := h
  cases rx
  cases ry
  show wpAny _ _ ((isSame (Value.bool a) (Value.bool b)) >>= fun z => pure (Value.bool (!z))) _ _ s
  refine wpAny_bind (wpAny_isSame_plain (by cases a <;> cases b <;> rfl) (wpAny_pure (fin_bl I q ?_)))
  cases a <;> cases b <;> rfl
theorem cx_notB {a b : Bool} : CmpX X .IsNot a b (!decide (a = b)) := ⟨_, op_isnBB, fun H v w Q r1 r2 q => ⟨a, b, r1, r2, q⟩⟩
end
end Cb

set_option Elab.async false
set_option linter.all false
set_option maxRecDepth 100000
/-! Cb64: data within a tuple; a thing removed; calls with drawn things made on the way -/
namespace Cb
open PySem PySem.Spec L2
open PyProof.Rows hiding St
section
variable {X : Cx} {B F0 : Hp} {Γ : Ev} {k : Bool} {e a b : Expr} {es : List Expr} {pos p' : Pos} {p : Addr} {j : Nat} {D : Ends} {ss : List Stmt}
theorem op_inDT (hu : X.A.units + 65 < cLine) : OpR X (compareOp .In) (fun x y H Q => ∃ d ds, Dp X.K H x d ∧ Dp X.K H y (.tuple ds) ∧ SeqAt.shaped d = true ∧ SeqAt.shaped (.tuple ds) = true ∧ Q (.bl (ds.any fun z => PyData.eqv z d)) H) := by
  intro pins s σ H x y v u Q I rx ry h
  obtain ⟨d, ds, hd, he, sd, se, q⟩ := h
  obtain ⟨as, r1⟩ := Dp.reads I d x v hd rx
  obtain ⟨bs, r2⟩ := Dp.reads I (.tuple ds) y u he ry
  exact SeqAt.in_tuple_reads r2 r1 (SeqAt.canLay_of_shaped se) (SeqAt.canLay_of_shaped sd) (room_in_shaped sd hu) ⟨.bl _, H, I, rfl, q⟩
theorem cx_inDTs {α : Type} [R α] [DecidableEq α] [Dat α] {x : α} {t : Tup α} (hu : X.A.units + 65 < cLine) (h1 : Dat.ok x) (h2 : ∀ y ∈ t.items, Dat.ok y) (hd : Dat.dep (Tup α) ≤ 64 := by decide) (hd' : Dat.dep α ≤ 64 := by decide) : CmpX X .In x t (decide (x ∈ t.items)) := ⟨_, op_inDT hu, fun H v w Q r1 r2 q =>
  ⟨_, t.items.map Dat.dat, Dat.dp r1, Dat.dp (α := Tup α) r2, shaped h1 hd', shaped (α := Tup α) h2 hd, by rw [any_dat]; exact q⟩⟩
theorem ts_remove {n : Str} {p pa cp ep : Pos} {as : List Int} {x : Int} {m : Nat} (j : Nat) (hΓ : Γ[j]? = some (ownd k as)) (he : XV X B F0 Γ a x) (hx : as[m]? = some x) (hno : ∀ q, q < m → as[q]? ≠ some x) (ht : TSs X B F0 (Γ.set j (ownd k (as.eraseIdx m))) ss D)
    (hN : X.N[j]? = some n := by rfl) (hv : Vis X.env.scope n := by first | exact Or.inl rfl | exact Or.inr (Or.inl rfl) | exact Or.inr (Or.inr rfl)) (hd : (n == ("__debug__" : Str)) = false := by decide) (hcd : (n == ("__classdict__" : Str)) = false := by decide)
    (hbase : attributeBase (.Name n p) "remove" X.env (eval (.Name n p) X.env) = eval (.Name n p) X.env := by rfl)
    (hfew : ((backTo cp (starEach [a] X.env)).all (fun x => !x.1) && (backToKw cp (keywordEach [] X.env)).all (fun x => x.1.isSome) && decide ([a].length + ([] : List Keyword).length + (if ([] : List Keyword).isEmpty then 0 else 1) < 30)) = true := by rfl)
    (hline : (pa.endLine == cp.line) = true := by rfl) (hst : starEach [a] X.env = (false, eval a X.env) :: starEach [] X.env := by rfl) (hpl : (backTo cp (starEach [] X.env)).any (·.1) = false := by rfl) (hs : swapsWith (.Call (.Attribute (.Name n p) "remove" pa) [a] [] cp) none ep.line X.env = pure false := by rfl) :
    TSs X B F0 Γ (.Expr (.Call (.Attribute (.Name n p) "remove" pa) [a] [] cp) ep :: ss) D :=
  ts_cons fun F σ H A => WS.of (ps_expr (pe_bm PySem.F.plainAttrs_list PySem.F.slot_list_remove PySem.F.type_list_remove mt_remove (pe_var hN hv hd hcd) (pa_cons can_e pa_nil hst) hbase hfew hline hst hpl) hs) (by
    obtain ⟨q, vs, e1, hp, r, w⟩ := A.writeL hΓ
    have ev := reps_ints r
    subst ev
    refine ⟨.ref q, e1, .inl ⟨rfl, _, SqL.of hp⟩, he F σ H _ A fun F' H' v g rv => ?_⟩
    have e2 : v = .int x := rv
    subst e2
    refine ⟨q, as, x, m, rfl, rfl, g.hh _ _ hp, hx, hno, ht F' σ _ (w g ?_)⟩
    rw [← erase_mapI]
    exact (r.mono (rf_mono g.ff)).eraseIdx m)
/-! arguments of which some are drawn with a pen made on the way -/
def XAE (X : Cx) (B F0 : Hp) (Γ : Ev) (es : List Expr) {A : Type} [Args A] (Pr : A → Prop) : Prop :=
  ∀ F σ H (Q : List V → Hp → Prop), AS X.K B F0 Γ F σ H → (∀ F' H' vs ag, Grow F H F' H' → Pr ag → Args.args X.K (rf true B F') vs ag → Q vs H') → WA X es σ H Q
theorem xae_nil : XAE X B F0 Γ [] (A := Unit) (fun _ => True) := fun F σ H Q A q => WA.of pa_nil (q F H [] () (Grow.refl A.sF) trivial rfl)
theorem xae_cons {α A : Type} [R α] [Args A] {Pa : α → Prop} {Pb : A → Prop} (he : XEr X B F0 Γ e Pa) (ht : XAE X B F0 Γ es Pb) (hs : starEach (e :: es) X.env = (false, eval e X.env) :: starEach es X.env := by rfl) :
    XAE X B F0 Γ (e :: es) (A := α × A) (fun ag => Pa ag.1 ∧ Pb ag.2) := fun F σ H Q A q =>
  WA.of (pa_cons can_e can_a hs) (he F σ H _ A fun F1 H1 v c g1 p1 r1 => ht F1 σ H1 _ (A.grow g1) fun F2 H2 vs ag g2 p2 r2 =>
    q F2 H2 (v :: vs) (c, ag) (g1.trans g2) ⟨p1, p2⟩ ⟨v, vs, rfl, R.mono (rf_mono g2.ff) r1, r2⟩)
theorem xer_of {Z : Type} [R Z] {c : Z} (h : XE X B F0 Γ e true c) : XEr X B F0 Γ e (· = c) := fun F σ H Q A q => h F σ H Q A fun F' H' v g r => q F' H' v c g rfl r
theorem xer_cvA {A Z : Type} [Args A] [R Z] {pre : A → Prop} {m : A → Z} {Pr : A → Prop} {f : Str} {pf : Pos} (c : CalX X f (spV X.K pre m)) (h : XAE X B F0 Γ (e :: es) Pr) (hp : ∀ ag, Pr ag → pre ag) (hg : Gl X f := by rfl)
    (hdb : (f == ("__debug__" : Str)) = false := by decide) (hs : starEach (e :: es) X.env = (false, eval e X.env) :: starEach es X.env := by rfl) (hpl : (backTo pos (starEach es X.env)).any (·.1) = false := by rfl) :
    XEr X B F0 Γ (.Call (.Name f pf) (e :: es) [] pos) (fun z : Z => ∃ ag, Pr ag ∧ z = m ag) := fun F σ H Q AA q => by
  obtain ⟨kk, fa, fd, ps, G, hr, hm, kp, bd⟩ := c.ex
  refine WE.of (pe_call G hr hg hm kp bd .nil pass0 can_a hdb hs hpl) (h F σ H _ AA fun F' H' vs ag g p1 r1 => ?_)
  rw [List.append_nil]
  have fh : Same F' H' := g.fh
  refine ⟨ag, Args.mono (rf_sub.trans fh) r1, hp ag p1, fun v H2 G h1 h2 n rr => ?_⟩
  exact q (join F' G) H2 v (m ag) (g.trans (Grow.ret fh h1 h2 n)) ⟨ag, p1, rfl⟩ (R.mono (ret_res fh (AA.sB.trans g.hh) h1 h2 n) rr)
theorem xer_cv2 {T1 T2 Z : Type} [R T1] [R T2] [R Z] {pre : T1 → T2 → Prop} {m : T1 → T2 → Z} {Pr : T1 × T2 × Unit → Prop} {f : Str} {pf : Pos} (c : CalX X f (sv2 X.K pre m)) (h : XAE X B F0 Γ (e :: es) Pr) (hp : ∀ ag, Pr ag → pre ag.1 ag.2.1) (hg : Gl X f := by rfl)
    (hdb : (f == ("__debug__" : Str)) = false := by decide) (hs : starEach (e :: es) X.env = (false, eval e X.env) :: starEach es X.env := by rfl) (hpl : (backTo pos (starEach es X.env)).any (·.1) = false := by rfl) :
    XEr X B F0 Γ (.Call (.Name f pf) (e :: es) [] pos) (fun z : Z => ∃ ag, Pr ag ∧ z = m ag.1 ag.2.1) :=
  xer_cvA (A := T1 × T2 × Unit) (pre := fun a : T1 × T2 × Unit => pre a.1 a.2.1) (m := fun a : T1 × T2 × Unit => m a.1 a.2.1) c h hp hg hdb hs hpl
end
end Cb

set_option Elab.async false
set_option linter.all false
set_option maxRecDepth 100000
/-! Cb65: drawn lists given back; a drawn place popped or put on; calls with three arguments, drawn -/
namespace Cb
open PySem PySem.Spec L2
open PyProof.Rows hiding St
section
variable {X : Cx} {B F0 : Hp} {Γ : Ev} {k : Bool} {e a b : Expr} {es : List Expr} {pos p' : Pos} {p : Addr} {j : Nat} {D : Ends} {ss : List Stmt} {α β : Type} [R α] [R β]
theorem XE.pairU {u : α × α} (h : XE X B F0 Γ e k u) : XE X B F0 Γ e k (Tup.mk [u.1, u.2]) := XE.pairT (x := u.1) (y := u.2) h
/-- return [.. if a draw ..] -/
theorem ts_retLcR {scope : Scope} {tg it elt c : Expr} {jn : Str} {cpos : Pos} {xs : List α} {f : α → β} {Rl : List β → Prop} (j jp : Nat) (hΓ : Γ[jp]? = some (ownd k (Pn.mk p))) (hc : X.calm = true) (hN : X.N.Nodup) (ok : BlkOk X.N X.env.scope scope [(jn, j)]) (L : LcR X B F0 Γ scope tg it elt c j p xs f) (hz : xs.length ≤ sizeLine)
    (hr : RDP X.K B p D Rl) (hq : ∀ ys : List α, ys.Sublist xs → Rl (ys.map f)) (hs : ∀ x, foldedSetIterable it X.env x = pure x := by intro _; rfl) : TSs X B F0 Γ (.Return (some (.ListComp elt [⟨tg, it, [c], 0⟩] scope cpos)) pos :: ss) D := ts_cons fun F σ H A => by
  obtain ⟨pt, h⟩ := lcR_read (k := k) L hz hΓ
  exact WS.of (ps_ret (pe_lc hc hN can_i ok (fun s H C cl fp => ⟨fun pins s' σ H' v u Q I r hh => hh s H C cl fp pins s' u I r⟩) pt (fun s H C cl fp => ⟨fun pins s' σ H' Q I hh => hh s H C cl fp pins s' I⟩) hs))
    (h A fun F' H' Dd acc ys sl hD fD A' r => by
      obtain ⟨v1, O1, e1, ⟨rfl, x, y, ep, okp⟩, so, fr⟩ := own_free A' hΓ
      have pO := so _ _ ep
      have np : Dd ≠ p := fun z => by subst z; rw [off_at] at pO; cases pO
      have jF : Same F' (join F' (one Dd (.lst acc))) := join_left _ _
      have jD : join F' (one Dd (.lst acc)) Dd = some (.lst acc) := by unfold join; rw [fD]; exact one_at
      have jp' : join F' (one Dd (.lst acc)) p = none := by
        unfold join
        rw [(fr _ _ ep).1]
        cases w : one Dd (HO.lst acc) p with
        | none => rfl
        | some o => exact absurd (one_is w).1.symm np
      have bD : B Dd = none := by
        cases w : B Dd with
        | none => rfl
        | some o => have := A'.sB _ _ w; rw [off_at] at this; cases this
      refine hr (join F' (one Dd (.lst acc))) H' (.ref Dd) (ys.map f) x y (A'.sB.trans off_sub) (join_sub (A'.sF.trans off_sub) (one_sub hD)) jp' (off_sub _ _ pO) okp ?_ (hq ys sl)
      exact ⟨Dd, acc, rfl, rf_new jD bD, Reps.mono (rf_mono jF) r⟩)
theorem xr_cv3 {T1 T2 T3 Z : Type} [R T1] [R T2] [R T3] [R Z] {pre : T1 → T2 → T3 → Prop} {m : T1 → T2 → T3 → Z} {Pr : T1 × T2 × T3 × Unit → Prop} {f : Str} {pf : Pos} (c : CalX X f (sv3 X.K pre m)) (h : XAR X B F0 Γ p (e :: es) Pr) (hp : ∀ ag, Pr ag → pre ag.1 ag.2.1 ag.2.2.1) (hg : Gl X f := by rfl)
    (hdb : (f == ("__debug__" : Str)) = false := by decide) (hs : starEach (e :: es) X.env = (false, eval e X.env) :: starEach es X.env := by rfl) (hpl : (backTo pos (starEach es X.env)).any (·.1) = false := by rfl) :
    XR X B F0 Γ p (.Call (.Name f pf) (e :: es) [] pos) (fun z : Z => ∃ ag, Pr ag ∧ z = m ag.1 ag.2.1 ag.2.2.1) :=
  xr_cvA (A := T1 × T2 × T3 × Unit) (pre := fun a : T1 × T2 × T3 × Unit => pre a.1 a.2.1 a.2.2.1) (m := fun a : T1 × T2 × T3 × Unit => m a.1 a.2.1 a.2.2.1) c h hp hg hdb hs hpl
/-- arguments of which some draw, the others lie where they lie -/
def XAG (X : Cx) (B F0 : Hp) (Γ : Ev) (p : Addr) (es : List Expr) {A : Type} [Args A] (Pr : A → Prop) : Prop :=
  ∀ d F σ H (Q : List V → Hp → Prop), OffOk p d F H → AS X.K B F0 Γ F σ (off d H) → (∀ F' H' vs ag, Kept p F H F' H' → OffOk p d F' H' → AS X.K B F0 Γ F' σ (off d H') → Pr ag → Args.args X.K F' vs ag → Q vs H') → WA X es σ H Q
theorem xag_nil : XAG X B F0 Γ p [] (A := Unit) (fun _ => True) := fun d F σ H Q od A q =>
  WA.of pa_nil (q F H [] () (Kept.refl (A.sF.trans off_sub)) od A trivial rfl)
theorem xag_cons {α A : Type} [R α] [Args A] {Pa : α → Prop} {Pb : A → Prop} (he : XR X B F0 Γ p e Pa) (ht : XAG X B F0 Γ p es Pb) (hs : starEach (e :: es) X.env = (false, eval e X.env) :: starEach es X.env := by rfl) :
    XAG X B F0 Γ p (e :: es) (A := α × A) (fun ag => Pa ag.1 ∧ Pb ag.2) := fun d F σ H Q od A q =>
  WA.of (pa_cons can_e can_a hs) (he d F σ H _ od A fun F1 H1 v c k1 o1 A1 p1 r1 => ht d F1 σ H1 _ o1 A1 fun F2 H2 vs ag k2 o2 A2 p2 r2 =>
    q F2 H2 (v :: vs) (c, ag) (k1.trans k2) o2 A2 ⟨p1, p2⟩ ⟨v, vs, rfl, R.mono (rf_sub.trans k2.ff) r1, r2⟩)
theorem xag_old {α A : Type} [R α] [Args A] {c : α} {Pb : A → Prop} (he : XE X B F0 Γ e k c) (ht : XAG X B F0 Γ p es Pb) (hs : starEach (e :: es) X.env = (false, eval e X.env) :: starEach es X.env := by rfl) :
    XAG X B F0 Γ p (e :: es) (A := α × A) (fun ag => ag.1 = c ∧ Pb ag.2) := fun d F σ H Q od A q =>
  WA.of (pa_cons can_e can_a hs) (he F σ H _ (A.up off_sub) fun F1 H1 v g r1 => ht d F1 σ H1 _ (g.offs od).1 (A.grow (g.offs od).2) fun F2 H2 vs ag k2 o2 A2 p2 r2 =>
    q F2 H2 (v :: vs) (c, ag) ((g.kept p).trans k2) o2 A2 ⟨rfl, p2⟩ ⟨v, vs, rfl, R.mono (rf_sub.trans k2.ff) r1, r2⟩)
theorem xr_cvG {A Z : Type} [Args A] [R Z] {pre : A → Prop} {m : A → Z} {Pr : A → Prop} {f : Str} {pf : Pos} (c : CalX X f (spV X.K pre m)) (h : XAG X B F0 Γ p (e :: es) Pr) (hp : ∀ ag, Pr ag → pre ag) (hg : Gl X f := by rfl)
    (hdb : (f == ("__debug__" : Str)) = false := by decide) (hs : starEach (e :: es) X.env = (false, eval e X.env) :: starEach es X.env := by rfl) (hpl : (backTo pos (starEach es X.env)).any (·.1) = false := by rfl) :
    XR X B F0 Γ p (.Call (.Name f pf) (e :: es) [] pos) (fun z : Z => ∃ ag, Pr ag ∧ z = m ag) := fun d F σ H Q od AA q => by
  obtain ⟨kk, fa, fd, ps, G, hr, hm, kp, bd⟩ := c.ex
  refine WE.of (pe_call G hr hg hm kp bd .nil pass0 can_a hdb hs hpl) (h d F σ H _ od AA fun F' H' vs ag k1 o1 A1 p1 r1 => ?_)
  rw [List.append_nil]
  have fh : Same F' H' := A1.sF.trans off_sub
  have sB : Same B H' := A1.sB.trans off_sub
  refine ⟨ag, Args.mono fh r1, hp ag p1, fun v H2 G h1 h2 n rr => ?_⟩
  have g : Grow F' H' (join F' G) H2 := Grow.ret fh h1 h2 n
  exact q (join F' G) H2 v (m ag) (k1.trans (g.kept p)) (g.offs o1).1 (A1.grow (g.offs o1).2) ⟨ag, p1, rfl⟩ (R.mono (ret_res fh sB h1 h2 n) rr)
theorem xr_cg3 {T1 T2 T3 Z : Type} [R T1] [R T2] [R T3] [R Z] {pre : T1 → T2 → T3 → Prop} {m : T1 → T2 → T3 → Z} {Pr : T1 × T2 × T3 × Unit → Prop} {f : Str} {pf : Pos} (c : CalX X f (sv3 X.K pre m)) (h : XAG X B F0 Γ p (e :: es) Pr) (hp : ∀ ag, Pr ag → pre ag.1 ag.2.1 ag.2.2.1) (hg : Gl X f := by rfl)
    (hdb : (f == ("__debug__" : Str)) = false := by decide) (hs : starEach (e :: es) X.env = (false, eval e X.env) :: starEach es X.env := by rfl) (hpl : (backTo pos (starEach es X.env)).any (·.1) = false := by rfl) :
    XR X B F0 Γ p (.Call (.Name f pf) (e :: es) [] pos) (fun z : Z => ∃ ag, Pr ag ∧ z = m ag.1 ag.2.1 ag.2.2.1) :=
  xr_cvG (A := T1 × T2 × T3 × Unit) (pre := fun a : T1 × T2 × T3 × Unit => pre a.1 a.2.1 a.2.2.1) (m := fun a : T1 × T2 × T3 × Unit => m a.1 a.2.1 a.2.2.1) c h hp hg hdb hs hpl
/-- left.pop(a draw), its answer left -/
theorem ts_popR {as : List Int} {Pr : Int → Prop} {nl : Str} {pl pal cpl ep : Pos} (jl : Nat) (hl : Γ[jl]? = some (ownd true as)) (he : XR X B F0 Γ p e Pr) (hP : ∀ n, Pr n → 0 ≤ n ∧ n < as.length) (hza : as.length ≤ 1000)
    (ht : ∀ (m : Nat) (hm : m < as.length), TSs X B F0 (Γ.set jl (ownd true (as.eraseIdx m))) ss D)
    (hNl : X.N[jl]? = some nl := by rfl) (hvl : Vis X.env.scope nl := by first | exact Or.inl rfl | exact Or.inr (Or.inl rfl) | exact Or.inr (Or.inr rfl)) (hdl : (nl == ("__debug__" : Str)) = false := by decide) (hcdl : (nl == ("__classdict__" : Str)) = false := by decide)
    (hb1 : attributeBase (.Name nl pl) "pop" X.env (eval (.Name nl pl) X.env) = eval (.Name nl pl) X.env := by rfl)
    (hf1 : ((backTo cpl (starEach [e] X.env)).all (fun x => !x.1) && (backToKw cpl (keywordEach [] X.env)).all (fun x => x.1.isSome) && decide ([e].length + ([] : List Keyword).length + (if ([] : List Keyword).isEmpty then 0 else 1) < 30)) = true := by rfl)
    (hl1 : (pal.endLine == cpl.line) = true := by rfl) (hs1 : starEach [e] X.env = (false, eval e X.env) :: starEach [] X.env := by rfl) (hp1 : (backTo cpl (starEach [] X.env)).any (·.1) = false := by rfl)
    (hsw : swapsWith (.Call (.Attribute (.Name nl pl) "pop" pal) [e] [] cpl) none ep.line X.env = pure false := by rfl) :
    TSs X B F0 Γ (.Expr (.Call (.Attribute (.Name nl pl) "pop" pal) [e] [] cpl) ep :: ss) D :=
  ts_cons fun F σ H A => WS.of (ps_expr (pe_bm PySem.F.plainAttrs_list PySem.F.slot_list_pop PySem.F.type_list_pop mt_popAt (pe_var hNl hvl hdl hcdl) (pa_cons can_e pa_nil hs1) hb1 hf1 hl1 hs1 hp1) hsw) (by
    obtain ⟨ql, vl', el, hpl, rl, _⟩ := A.write hl
    refine ⟨.ref ql, el, .inl ⟨rfl, _, SqL.of hpl⟩, he none F σ H _ off0 (by rw [off_none]; exact A) fun F1 H1 v n kp _ A1 pn rn => ?_⟩
    rw [off_none] at A1
    have rn' : v = .int n := rn
    subst rn'
    obtain ⟨n0, n1⟩ := hP n pn
    obtain ⟨ql', xs, el', hpl', rl', wl⟩ := A1.write hl
    rw [el] at el'
    cases el'
    have hm : n.toNat < as.length := by omega
    have xl := Reps.length rl'
    obtain ⟨y, hy, ry⟩ := rl'.get (List.getElem?_eq_getElem hm)
    have ei : ixN xs.length n = some n.toNat := by
      unfold ixN
      rw [if_pos n0, if_pos (by omega)]
    exact ⟨ql, xs, n, n.toNat, y, rfl, rfl, hpl', by omega, by omega, (ixN_seq ei).1, hy, ht n.toNat hm F1 σ _ (wl F1 H1 _ _ (Grow.refl A1.sF) (Reps.eraseIdx n.toNat rl'))⟩)
/-- found.append(a drawn thing) -/
theorem ts_appR {fs : List α} {Pr : α → Prop} {nf : Str} {pf paf cpf ep : Pos} (jf : Nat) (hf : Γ[jf]? = some (ownd true fs)) (he : XR X B F0 Γ p e Pr) (hz : fs.length < sizeLine)
    (ht : ∀ c, Pr c → TSs X B F0 (Γ.set jf (ownd true (fs ++ [c]))) ss D)
    (hNf : X.N[jf]? = some nf := by rfl) (hvf : Vis X.env.scope nf := by first | exact Or.inl rfl | exact Or.inr (Or.inl rfl) | exact Or.inr (Or.inr rfl)) (hdf : (nf == ("__debug__" : Str)) = false := by decide) (hcdf : (nf == ("__classdict__" : Str)) = false := by decide)
    (hb2 : attributeBase (.Name nf pf) "append" X.env (eval (.Name nf pf) X.env) = eval (.Name nf pf) X.env := by rfl)
    (hf2 : ((backTo cpf (starEach [e] X.env)).all (fun x => !x.1) && (backToKw cpf (keywordEach [] X.env)).all (fun x => x.1.isSome) && decide ([e].length + ([] : List Keyword).length + (if ([] : List Keyword).isEmpty then 0 else 1) < 30)) = true := by rfl)
    (hl2 : (paf.endLine == cpf.line) = true := by rfl) (hs2 : starEach [e] X.env = (false, eval e X.env) :: starEach [] X.env := by rfl) (hp2 : (backTo cpf (starEach [] X.env)).any (·.1) = false := by rfl)
    (hsw : swapsWith (.Call (.Attribute (.Name nf pf) "append" paf) [e] [] cpf) none ep.line X.env = pure false := by rfl) :
    TSs X B F0 Γ (.Expr (.Call (.Attribute (.Name nf pf) "append" paf) [e] [] cpf) ep :: ss) D :=
  ts_cons fun F σ H A => WS.of (ps_expr (pe_bm PySem.F.plainAttrs_list PySem.F.slot_list_append PySem.F.type_list_append mt_append (pe_var hNf hvf hdf hcdf) (pa_cons can_e pa_nil hs2) hb2 hf2 hl2 hs2 hp2) hsw) (by
    obtain ⟨qf, vf, ef, hpf, rf', _⟩ := A.write hf
    refine ⟨.ref qf, ef, .inl ⟨rfl, _, SqL.of hpf⟩, he none F σ H _ off0 (by rw [off_none]; exact A) fun F1 H1 v c kp _ A1 pc rc => ?_⟩
    rw [off_none] at A1
    obtain ⟨qf', ys, ef', hpf', rff, wf⟩ := A1.write hf
    rw [ef] at ef'
    cases ef'
    exact ⟨qf, ys, v, rfl, rfl, hpf', by rw [Reps.length rff]; exact hz, ht c pc F1 σ _ (wf F1 _ _ _ (Grow.refl A1.sF) (rff.append (.cons rc .nil)))⟩)
end
def sP3 {T1 T2 T3 Z : Type} [R T1] [R T2] [R T3] [R Z] (K : Kf) (pre : T1 → T2 → T3 → Prop) (post : T1 → T2 → T3 → Z → Prop) : Sp := spP K (fun a : T1 × T2 × T3 × Unit => pre a.1 a.2.1 a.2.2.1) (fun a => post a.1 a.2.1 a.2.2.1)
section
variable {X : Cx} {B F0 : Hp} {Γ : Ev} {k : Bool} {e : Expr} {es : List Expr} {pos : Pos} {D : Ends} {ss : List Stmt}
/-- a draw by a pen without a name, with other things that lie in the heap -/
theorem xer_tmpF {A Z : Type} [Args A] [R Z] {pre : A → Prop} {post : A → Z → Prop} {ag : A} {f : Str} {pf : Pos} {x y : Int} {l : List Int} (c : CalX X f (spP X.K pre post)) (he : XO X B F0 Γ e true l) (hl : l = [x, y]) (ok : PenOk x y) (h : XAF X B F0 Γ es (fun K B F vs => Args.args K F vs ag)) (hp : pre ag) (hg : Gl X f := by rfl)
    (hdb : (f == ("__debug__" : Str)) = false := by decide) (hs : starEach (e :: es) X.env = (false, eval e X.env) :: starEach es X.env := by rfl) (hpl : (backTo pos (starEach es X.env)).any (·.1) = false := by rfl) : XEr X B F0 Γ (.Call (.Name f pf) (e :: es) [] pos) (post ag) := fun F σ H Q A q => by
  subst hl
  obtain ⟨kk, fa, fd, ps, G0, hr, hm, kp, bd⟩ := c.ex
  refine WE.of (pe_call G0 hr hg hm kp bd .nil pass0 (pa_cons can_e can_a hs) hdb hs hpl) (he F σ H _ A fun F1 H1 v O g1 so n ⟨p, vs, ev, ep, r⟩ => h F1 σ H1 _ (A.grow g1) fun F' H' ws g2 r2 => ?_)
  subst ev
  have ev2 := reps_ints r
  subst ev2
  have hp1 : H1 p = some (.lst [.int x, .int y]) := so _ _ ep
  have hp' := g2.hh _ _ hp1
  obtain ⟨np, nf1, _⟩ := n p _ ep
  have g := g1.trans g2
  have nf : F' p = none := by
    cases w : F' p with
    | none => rfl
    | some o =>
      rcases g2.nw _ _ w with z | z | z
      · rw [nf1] at z; cases z
      · rw [hp1] at z; cases z
      · have := g2.fh _ _ w; rw [hp'] at this; cases this; cases z
  show spP X.K pre post (V.ref p :: (ws ++ [])) H' Q _
  rw [List.append_nil]
  have sD : Same F' (del p H') := fun b u z => by
    have zb : b ≠ p := fun e => by subst e; rw [nf] at z; cases z
    rw [del_ne zb]; exact g.fh _ _ z
  refine ⟨p, x, y, ws, ag, rfl, hp', ok, Args.mono sD r2, hp, fun v H2 G c x' y' h1 h2 ok' h3 nw rr hc => ?_⟩
  have s2 : Same H H2 := fun b u z => by
    have zb : b ≠ p := fun e => by subst e; rw [np] at z; cases z
    exact h1 _ _ (by rw [del_ne zb]; exact g.hh _ _ z)
  have nG : NW H G := fun b o z => by
    rcases nw b o z with w | w
    · exact .inl (g.hh.free w)
    · exact .inr w
  have sF' : Same F' H2 := fun b u z => by
    have zb : b ≠ p := fun e => by subst e; rw [nf] at z; cases z
    exact h1 _ _ (by rw [del_ne zb]; exact g.fh _ _ z)
  refine q (join F' G) H2 v c ⟨s2, g.ff.trans (join_left _ _), join_sub sF' h3, fun b o z => ?_⟩ hc (R.mono (fun b o z => ?_) rr)
  · rcases join_is z with w | w
    · exact g.nw _ _ w
    · exact .inr (nG _ _ w)
  · refine res_at (join_right sF' h3 _ _ z) ?_
    rcases nG b o z with w | w
    · exact .inr (A.sB.free w)
    · exact .inl w
theorem xer_tmpF3 {T1 T2 T3 Z : Type} [R T1] [R T2] [R T3] [R Z] {pre : T1 → T2 → T3 → Prop} {post : T1 → T2 → T3 → Z → Prop} {x1 : T1} {x2 : T2} {x3 : T3} {f : Str} {pf : Pos} {x y : Int} {l : List Int} (c : CalX X f (sP3 X.K pre post)) (he : XO X B F0 Γ e true l) (hl : l = [x, y]) (ok : PenOk x y) (h : XAF X B F0 Γ es (fun K B F vs => Args.args (A := T1 × T2 × T3 × Unit) K F vs (x1, x2, x3, ()))) (hp : pre x1 x2 x3) (hg : Gl X f := by rfl)
    (hdb : (f == ("__debug__" : Str)) = false := by decide) (hs : starEach (e :: es) X.env = (false, eval e X.env) :: starEach es X.env := by rfl) (hpl : (backTo pos (starEach es X.env)).any (·.1) = false := by rfl) : XEr X B F0 Γ (.Call (.Name f pf) (e :: es) [] pos) (post x1 x2 x3) :=
  xer_tmpF (A := T1 × T2 × T3 × Unit) (pre := fun a : T1 × T2 × T3 × Unit => pre a.1 a.2.1 a.2.2.1) (post := fun a : T1 × T2 × T3 × Unit => post a.1 a.2.1 a.2.2.1) (ag := (x1, x2, x3, ())) c he hl ok h hp hg hdb hs hpl
end
end Cb

set_option Elab.async false
set_option linter.all false
set_option maxRecDepth 100000
/-! Cb66: dict(zip(a tuple, a list)) -/
namespace Cb
open PySem PySem.Spec L2
open PyProof.Rows hiding St
section
variable {prog : Program} {w : World} {A : Around} {E : Value → Shared → Prop} {s : Shared} {zz ti to' tt j1 j2 : Addr} {c1 c2 : List Addr} {n1 n2 i : Nat} {P1 P2 : Nat → Value → Prop} {S1 S2 : Nat → Heap → Prop} {fl : Bool} {ot : Obj}
/-- a zip whose pair is still held gives the next one, its iterators of any kind -/
theorem zh_item {Q : Value → Shared → Prop} (S : ZipSep2 zz ti to' j1 j2 c1 c2) (D1 : Draws prog w A j1 c1 n1 P1 S1) (D2 : Draws prog w A j2 c2 n2 P2 S2)
    (hz : IsZipHeld s.heap zz ti to' tt fl) (ht : s.heap.get? tt = some ot) (hp : IsPair s.heap ti (.ref j1) (.ref j2)) (s1 : S1 i s.heap) (s2 : S2 i s.heap) (l1 : i < n1) (l2 : i < n2)
    (hQ : ∀ x y h' tk, P1 i x → P2 i y → IsZipHeld h' zz ti to' tt true → S1 (i + 1) h' → S2 (i + 1) h' → IsPair h' s.heap.objs.size x y → h'.objs.size = s.heap.objs.size + 1 →
      (∀ c o, c ≠ zz → c ≠ j1 → c ≠ j2 → s.heap.get? c = some o → h'.get? c = some o) → Q (.ref s.heap.objs.size) { s with heap := h', toks := tk }) :
    wpAny (model prog w) A (Builtin.«zip.__next__» ⟨[.ref zz], []⟩) (fun fin s' => ∃ v, fin = .done (.ret v) ∧ Q v s') E s := by
  obtain ⟨hp0, g, d, tk0, os⟩ := s
  show wpAny _ _ (field (.ref zz) 2 >>= _) _ _ _
  refine wpAny_bind (wpAny_field hz rfl (x := Value.bool false) rfl ?_)
  show wpAny _ _ (field (.ref zz) 3 >>= _) _ _ _
  refine wpAny_bind (wpAny_field hz rfl (x := Value.ref ti) rfl ?_)
  refine wpAny_bind (wpAny_seqItems hp rfl ?_)
  show wpAny _ _ (Builtin.SmallTypes.ownedTupleIsFree (.ref zz) >>= _) _ _ _
  refine wpAny_bind (wpAny_tupleHeld_zip hz ht fun m1 z1 k1 => ?_)
  simp only [Bool.false_eq_true, if_false]; refine wpAny_bind ?_
  rw [← Array.forIn_toList]; simp only [List.forIn_cons, List.forIn_nil]
  refine wpAny_bind (wpAny_bind (wpAny_holding ?_)); show wpAny _ _ (Builtin.SmallTypes.nextOf (.ref j1) >>= _) _ _ _
  refine wpAny_bind (D1.item i _ _ _ l1 (D1.over s1 k1 S.zf1) fun x m2 t2 px st1 k2 => wpAny_pure ?_)
  refine wpAny_pure ?_; refine wpAny_bind (wpAny_bind (wpAny_holding ?_)); show wpAny _ _ (Builtin.SmallTypes.nextOf (.ref j2) >>= _) _ _ _
  refine wpAny_bind (D2.item i _ _ _ l2 (D2.over (D2.over s2 k1 S.zf2) k2 S.sep1_2) fun y m3 t3 py st2 k3 => wpAny_pure ?_)
  refine wpAny_pure (wpAny_pure ?_); show wpAny _ _ (newTuple [x, y] >>= _) _ _ _
  refine wpAny_bind (wpAny_newTuple ?_)
  replace k1 : Heap.SameBut zz hp0 m1 := k1
  replace k2 : Heap.SameBut j1 m1 m2 := k2
  replace k3 : Heap.SameBut j2 m2 m3 := k3
  have sz : m3.objs.size = hp0.objs.size := by rw [k3.1, k2.1, k1.1]
  have zh : IsZipHeld m3 zz ti to' tt true := k3.extBut _ _ S.zi2 (k2.extBut _ _ S.zi1 z1)
  have st1' : S1 (i + 1) m3 := D1.over st1 k3 S.sep2_1
  have kk : ∀ c o, c ≠ zz → c ≠ j1 → c ≠ j2 → hp0.get? c = some o → m3.get? c = some o := fun c o a b e q => k3.extBut _ _ e (k2.extBut _ _ b (k1.extBut _ _ a q))
  refine wpAny_pure ⟨_, rfl, ?_⟩
  show Q (.ref m3.objs.size) ⟨m3.push { cls := .type "tuple", data := .seq #[x, y] }, g, d, t3, os⟩
  have pr : IsPair (m3.push { cls := .type "tuple", data := .seq #[x, y] }) m3.objs.size x y := Heap.get?_push_size _ rfl
  have s4 : (m3.push { cls := .type "tuple", data := .seq #[x, y] }).objs.size = m3.objs.size + 1 := Heap.size_push ..
  rw [sz] at pr s4 ⊢
  exact hQ x y _ t3 px py (Heap.get?_push_of_some _ zh) (D1.frame _ _ _ st1' fun b _ o e => Heap.get?_push_of_some _ e) (D2.frame _ _ _ st2 fun b _ o e => Heap.get?_push_of_some _ e) pr s4 fun c o a b e q => Heap.get?_push_of_some _ (kk c o a b e q)
theorem zh_end {Q : Fin → Shared → Prop} (S : ZipSep2 zz ti to' j1 j2 c1 c2) (D1 : Draws prog w A j1 c1 n1 P1 S1) (D2 : Draws prog w A j2 c2 n2 P2 S2)
    (hz : IsZipHeld s.heap zz ti to' tt fl) (ht : s.heap.get? tt = some ot) (hp : IsPair s.heap ti (.ref j1) (.ref j2)) (s1 : S1 i s.heap) (s2 : S2 i s.heap) (l1 : i = n1) 
    (hE : ∀ h' e tk, (∀ c o, c ≠ zz → c ≠ j1 → c ≠ j2 → s.heap.get? c = some o → h'.get? c = some o) → (∃ o, h'.get? e = some o ∧ o.cls = .type "StopIteration") → E (.ref e) { s with heap := h', toks := tk }) :
    wpAny (model prog w) A (Builtin.«zip.__next__» ⟨[.ref zz], []⟩) Q E s := by
  subst l1
  obtain ⟨hp0, g, d, tk0, os⟩ := s
  show wpAny _ _ (field (.ref zz) 2 >>= _) _ _ _
  refine wpAny_bind (wpAny_field hz rfl (x := Value.bool false) rfl ?_)
  show wpAny _ _ (field (.ref zz) 3 >>= _) _ _ _
  refine wpAny_bind (wpAny_field hz rfl (x := Value.ref ti) rfl ?_)
  refine wpAny_bind (wpAny_seqItems hp rfl ?_)
  show wpAny _ _ (Builtin.SmallTypes.ownedTupleIsFree (.ref zz) >>= _) _ _ _
  refine wpAny_bind (wpAny_tupleHeld_zip hz ht fun m1 z1 k1 => ?_)
  simp only [Bool.false_eq_true, if_false]; refine wpAny_bind ?_
  rw [← Array.forIn_toList]; simp only [List.forIn_cons, List.forIn_nil]
  refine wpAny_bind (wpAny_bind (wpAny_holding ?_)); show wpAny _ _ (Builtin.SmallTypes.nextOf (.ref j1) >>= _) _ _ _
  refine wpAny_bind (D1.done _ _ _ (D1.over s1 k1 S.zf1) fun m2 e k2 he => ?_)
  exact hE m2 e tk0 (fun c o a b _ q => k2 _ _ b (k1.extBut _ _ a q)) he
theorem zh_next {Q : Option Value → Shared → Prop} (S : ZipSep2 zz ti to' j1 j2 c1 c2) (D1 : Draws prog w A.in1 j1 c1 n1 P1 S1) (D2 : Draws prog w A.in1 j2 c2 n2 P2 S2)
    (hz : IsZipHeld s.heap zz ti to' tt fl) (ht : s.heap.get? tt = some ot) (hp : IsPair s.heap ti (.ref j1) (.ref j2)) (s1 : S1 i s.heap) (s2 : S2 i s.heap) (l1 : i < n1) (l2 : i < n2)
    (hQ : ∀ x y h' tk, P1 i x → P2 i y → IsZipHeld h' zz ti to' tt true → S1 (i + 1) h' → S2 (i + 1) h' → IsPair h' s.heap.objs.size x y → h'.objs.size = s.heap.objs.size + 1 →
      (∀ c o, c ≠ zz → c ≠ j1 → c ≠ j2 → s.heap.get? c = some o → h'.get? c = some o) → Q (some (.ref s.heap.objs.size)) { s with heap := h', toks := tk }) :
    wpAny (model prog w) A (pyNext (.ref zz)) Q E s := by
  have ty : s.TypeIs (.ref zz) "zip" := ⟨_, hz, rfl⟩
  unfold pyNext
  exact wpAny_bind (wpAny_attempt (wpAny_callSpecial?_slot (name := Str.ofString "__next__") ty F.slot_zip_next
    (wpAny_call_entry F.slot_zip_next ty F.entry_zip_next
      (zh_item S D1 D2 hz ht hp s1 s2 l1 l2 fun x y h' tk a1 a2 a3 a4 a5 a6 a7 a8 => wpAny_pure (hQ x y h' tk a1 a2 a3 a4 a5 a6 a7 a8)) (F.args_zip_next_1 _))))
theorem zh_stop {Q : Option Value → Shared → Prop} (S : ZipSep2 zz ti to' j1 j2 c1 c2) (D1 : Draws prog w A.in1 j1 c1 n1 P1 S1) (D2 : Draws prog w A.in1 j2 c2 n2 P2 S2)
    (hz : IsZipHeld s.heap zz ti to' tt fl) (ht : s.heap.get? tt = some ot) (hp : IsPair s.heap ti (.ref j1) (.ref j2)) (s1 : S1 i s.heap) (s2 : S2 i s.heap) (l1 : i = n1)
    (hQ : ∀ h' tk, (∀ c o, c ≠ zz → c ≠ j1 → c ≠ j2 → s.heap.get? c = some o → h'.get? c = some o) → Q none { s with heap := h', toks := tk }) : wpAny (model prog w) A (pyNext (.ref zz)) Q E s := by
  have ty : s.TypeIs (.ref zz) "zip" := ⟨_, hz, rfl⟩
  unfold pyNext
  refine wpAny_bind (wpAny_attempt (wpAny_callSpecial?_slot (name := Str.ofString "__next__") ty F.slot_zip_next
    (wpAny_call_entry F.slot_zip_next ty F.entry_zip_next (zh_end S D1 D2 hz ht hp s1 s2 l1 fun h' e tk kk he => ?_) (F.args_zip_next_1 _))))
  obtain ⟨oe, ge, ce⟩ := he
  exact wpAny_bind (wpAny_isInstance (T := "StopIteration") (b := true) ⟨oe, ge, ce⟩ isSubtype_stop (wpAny_pure (hQ _ _ kk)))
end
section
variable {prog : Program} {w : World}
/-- zip(a tuple, a list) of one length as dict()'s argument -/
theorem pairArg_tl (zz ti to' j1 j2 ta la : Addr) (xs ys : Array Value) (e : ys.size = xs.size) (S : ZipSep2 zz ti to' j1 j2 [j1, ta] [j2, la]) (n1 : ta ≠ j1) (n2 : la ≠ j2) (u1 : ta ≠ to') (u2 : la ≠ to') (q1 : ta ≠ ti) (q2 : la ≠ ti) :
    PairArg prog w "zip" zz [zz, ti, to', j1, j2, ta, la] [zz, to', j1, j2] xs.size (fun i k v => xs[i]? = some k ∧ ys[i]? = some v)
      (fun h => IsZip h zz ti to' .none ∧ IsPair h ti (.ref j1) (.ref j2) ∧ (∃ a b, IsPair h to' a b) ∧ (h.IsTupleIter j1 ta 0 ∧ h.IsTuple ta xs) ∧ h.IsListIter j2 la 0 ∧ h.IsList la ys) where
  type := fun s ok => ⟨_, ok.1, rfl⟩
  notDict := by decide
  keep := fun h h' ok hk => by
    obtain ⟨a, b, ⟨x, y, c⟩, ⟨d1, d2⟩, e1, e2⟩ := ok
    exact ⟨hk _ _ a, hk _ _ b, ⟨x, y, hk _ _ c⟩, ⟨d1.at fun o q => hk _ o q, d2.at fun o q => hk _ o q⟩, e1.at fun o q => hk _ o q, e2.at fun o q => hk _ o q⟩
  there := fun h ok b hb => by
    obtain ⟨a, q, ⟨x, y, c⟩, ⟨⟨o1, d1, _⟩, ⟨o2, d2, _⟩⟩, ⟨o3, e1, _⟩, ⟨o4, e2, _⟩⟩ := ok
    simp only [List.mem_cons, List.not_mem_nil, or_false] at hb
    rcases hb with z | z | z | z | z | z | z <;> rw [z]
    · exact ⟨_, a⟩
    · exact ⟨_, q⟩
    · exact ⟨_, c⟩
    · exact ⟨_, d1⟩
    · exact ⟨_, e1⟩
    · exact ⟨_, d2⟩
    · exact ⟨_, e2⟩
  sub := fun b hb => by
    simp only [List.mem_cons, List.not_mem_nil, or_false] at hb ⊢
    rcases hb with z | z | z | z <;> simp [z]
  noKeys := fun A s Q E hA ok h => getAttrOr_miss_zip ok.1 rfl rfl rfl zip_no_keys (by decide +kernel) hA h
  iter := fun A s d Q E hA ok hd hdf h => by
    obtain ⟨a, b, ⟨x0, y0, c⟩, d1, e1⟩ := ok
    simp only [List.mem_cons, List.not_mem_nil, or_false, not_or] at hdf
    obtain ⟨dz, dti, dto, dj1, dj2, dta, dla⟩ := hdf
    have D1 : Draws prog w A.in1 j1 [j1, ta] xs.size (fun i v => xs[i]? = some v) (fun i h => h.IsTupleIter j1 ta i ∧ h.IsTuple ta xs) := Draws.tuple (show A.in1.handled = none from hA) j1 ta n1 xs
    have D2 : Draws prog w A.in1 j2 [j2, la] ys.size (fun i v => ys[i]? = some v) (fun i h => h.IsListIter j2 la i ∧ h.IsList la ys) := Draws.list (show A.in1.handled = none from hA) j2 la n2 ys
    refine wpAny_pyIter_zip a (h zz [zz, to', j1, j2] (fun i h => IsPair h ti (.ref j1) (.ref j2) ∧ (h.IsTupleIter j1 ta i ∧ h.IsTuple ta xs) ∧ (h.IsListIter j2 la i ∧ h.IsList la ys) ∧
      ((IsZip h zz ti to' .none ∧ ∃ a b, IsPair h to' a b) ∨ ∃ T f oT, IsZipHeld h zz ti to' T f ∧ h.get? T = some oT ∧ T ≠ zz ∧ T ≠ j1 ∧ T ≠ j2 ∧ T ≠ d)) s.heap s.toks ?_ ⟨b, d1, e1, .inl ⟨a, x0, y0, c⟩⟩ (fun _ _ q => q) fun b hb => .inl hb)
    exact {
      off := fun hm => by
        simp only [List.mem_cons, List.not_mem_nil, or_false] at hm
        rcases hm with q | q | q | q
        · exact dz q
        · exact dto q
        · exact dj1 q
        · exact dj2 q
      frame := fun i g g' st hk => by
        obtain ⟨b, ⟨d1, d2⟩, ⟨e1, e2⟩, r⟩ := st
        refine ⟨hk _ _ (Ne.symm dti) b, ⟨d1.at fun o q => hk _ o (Ne.symm dj1) q, d2.at fun o q => hk _ o (Ne.symm dta) q⟩, ⟨e1.at fun o q => hk _ o (Ne.symm dj2) q, e2.at fun o q => hk _ o (Ne.symm dla) q⟩, ?_⟩
        rcases r with ⟨a, x, y, c⟩ | ⟨T, f, oT, a, t, r1, r2, r3, r4⟩
        · exact .inl ⟨hk _ _ (Ne.symm dz) a, x, y, hk _ _ (Ne.symm dto) c⟩
        · exact .inr ⟨T, f, oT, hk _ _ (Ne.symm dz) a, hk _ _ r4 t, r1, r2, r3, r4⟩
      item := fun i s1 Q1 E1 hi st hds hQ => by
        obtain ⟨b, d1, e1, r⟩ := st
        have hi2 : i < ys.size := by rw [e]; exact hi
        have fresh : ∀ {c o}, s1.heap.get? c = some o → s1.heap.objs.size ≠ c := fun q => Nat.ne_of_gt (Heap.lt_size q)
        obtain ⟨o1, g1⟩ := D1.live _ _ d1
        obtain ⟨o2, g2⟩ := D2.live _ _ e1
        rcases r with ⟨a, x, y, c⟩ | ⟨T, f, oT, a, t, r1, r2, r3, r4⟩
        · refine wpAny_pyNext_zipD2_item S D1 D2 a b c d1 e1 hi hi2 fun x y h' tk px py b1 b2 b3 b4 b5 b6 hk => ?_
          exact hQ s1.heap.objs.size x y h' tk ⟨px, py⟩ (.inl ⟨_, b5, rfl, _, rfl⟩)
            ⟨hk _ _ S.TIz S.TITO S.TIi1 S.TIi2 b, b3, b4, .inr ⟨s1.heap.objs.size, false, _, b1, b5, fresh a, fresh g1, fresh g2, Nat.ne_of_gt hds⟩⟩
            fun c o hc q => hk c o (fun z => hc (by simp [z])) (fun z => hc (by simp [z])) (fun z => hc (by simp [z])) (fun z => hc (by simp [z])) q
        · refine zh_next S D1 D2 a t b d1 e1 hi hi2 fun x y h' tk px py b1 b3 b4 b5 b6 hk => ?_
          exact hQ s1.heap.objs.size x y h' tk ⟨px, py⟩ (.inl ⟨_, b5, rfl, _, rfl⟩)
            ⟨hk _ _ S.TIz S.TIi1 S.TIi2 b, b3, b4, .inr ⟨T, true, oT, b1, hk _ _ r1 r2 r3 t, r1, r2, r3, r4⟩⟩
            fun c o hc q => hk c o (fun z => hc (by simp [z])) (fun z => hc (by simp [z])) (fun z => hc (by simp [z])) q
      done := fun s1 Q1 E1 st hQ => by
        obtain ⟨b, d1, e1, r⟩ := st
        rcases r with ⟨a, x, y, c⟩ | ⟨T, f, oT, a, t, r1, r2, r3, r4⟩
        · exact wpAny_pyNext_zipD2_end S D1 D2 a b c d1 e1 (Nat.le_refl _) (by rw [e]; exact Nat.le_refl _) (.inl rfl) fun h' tk hk => hQ h' tk fun c o hc q => hk c o (fun z => hc (by simp [z])) (fun z => hc (by simp [z])) (fun z => hc (by simp [z])) (fun z => hc (by simp [z])) q
        · exact zh_stop S D1 D2 a t b d1 e1 rfl fun h' tk hk => hQ h' tk fun c o hc q => hk c o (fun z => hc (by simp [z])) (fun z => hc (by simp [z])) (fun z => hc (by simp [z])) q }
end
/-- dict(zip(t, l)), t a tuple of keys, l a list as long -/
def tDZ (K : Kf) (ta : TA) : TE := fun σ H Q => ta σ H fun vs H1 => ∃ (a b : Addr) (kvs : List (Key × V)), vs = [V.ref a, V.ref b] ∧ SqT K H1 a (kvs.map fun kv => kV kv.1) ∧ SqL K H1 b (kvs.map (·.2)) ∧ ∀ p, H1 p = none → Q (.ref p) (upd H1 p (.dK (mergeK [] kvs)))
theorem kv_vals (P : Program) (w : World) : ∀ {kvs : List (Key × V)} {us ws : List Value}, Vals (kvs.map fun kv => kV kv.1) us → Vals (kvs.map (·.2)) ws → us.length = kvs.length ∧ ws.length = kvs.length ∧ ∃ rs : List (Key × Value), KV kvs rs ∧ rs.length = kvs.length ∧
    ∀ (i : Nat) (k v : Value), us[i]? = some k → ws[i]? = some v → ∃ x, rs[i]? = some (x, v) ∧ (mixKind P w).is x k = true
  | [], us, ws, r, t => by
    cases r
    cases t
    exact ⟨rfl, rfl, [], .nil, rfl, fun i k v e => by simp at e⟩
  | kv :: kvs, us, ws, r, t => by
    rw [List.map_cons] at r t
    cases r with
    | cons ru r =>
      cases t with
      | cons rw_ t =>
        rename_i u us v ws
        obtain ⟨e1, e2, rs, kr, e3, hp⟩ := kv_vals P w r t
        refine ⟨by rw [List.length_cons, List.length_cons, e1], by rw [List.length_cons, List.length_cons, e2], (kv.1, v) :: rs, .cons ⟨rfl, rw_⟩ kr, by rw [List.length_cons, List.length_cons, e3], fun i k v' h1 h2 => ?_⟩
        cases i with
        | zero =>
          have q1 : u = k := Option.some.inj h1
          have q2 : v = v' := Option.some.inj h2
          subst q1 q2
          exact ⟨kv.1, rfl, by rw [mixKind_is]; exact kV_is (P := P) (w := w) ru⟩
        | succ i =>
          obtain ⟨x, g1, g2⟩ := hp i k v' (by simpa using h1) (by simpa using h2)
          exact ⟨x, by simpa using g1, g2⟩
theorem ne_add {a n k : Nat} (h : a < n) : a ≠ n + k := by omega
theorem pe_dictZip {X : Cx} {e e2 : Expr} {ta : TA} {p p2 q pos : Pos} (hg : Gl X "dict") (hm : X.mg "dict" = none) (hg2 : Gl X "zip") (hm2 : X.mg "zip" = none) (ha : PA X [e, e2] ta) (hc : X.calm = true)
    (hs : starEach [e, e2] X.env = (false, eval e X.env) :: starEach [e2] X.env) (hpl : (backTo q (starEach [e2] X.env)).any (·.1) = false)
    (na : starEach [.Call (.Name "zip" p2) [e, e2] [] q] X.env = (false, eval (.Call (.Name "zip" p2) [e, e2] [] q) X.env) :: starEach [] X.env) :
    PE X (.Call (.Name "dict" p) [.Call (.Name "zip" p2) [e, e2] [] q] [] pos) (tDZ X.K ta) := by
  constructor
  intro pins s σ H Q I h
  refine Call_ (ld_blt I hg hm boot_dict (PyProof.Rows.callWith_type1 (PyProof.Rows.args_cons (Call_ (ld_blt I hg2 hm2 boot_zip ?_)) na) na rfl))
  refine PyProof.Rows.callWith_type1 (thn (ha.run q pins s σ H _ I h) fun us s1 ⟨vs, H1, I1, r1, a, b, kvs, ex, hqt, hql, q1⟩ => ?_) hs hpl
  subst ex
  obtain ⟨u1, u2, ev, ra, rb⟩ := vals2 r1
  subst ev
  cases (show u1 = Value.ref a from ra)
  cases (show u2 = Value.ref b from rb)
  obtain ⟨its, rv, pt, hz⟩ := I1.tuple hqt
  obtain ⟨its2, rv2, pl, _⟩ := I1.list hql
  obtain ⟨l1, l2, rs, kr, l3, hpr⟩ := kv_vals X.prog X.w rv rv2
  rw [List.length_map] at hz
  obtain ⟨o1, g1, _⟩ := id pt
  have lta : a < s1.heap.objs.size := Heap.lt_size g1
  have ltb : b < s1.heap.objs.size := pl.lt
  refine zip_begins2 (begins_tuple a its.toArray) (begins_list b its2.toArray) (show s1.heap.IsTuple a its.toArray from pt) pl.isList fun h1 hZ hTI hTO w1 w2 hsz hk => ?_
  refine PyProof.Rows.args_nil ?_
  have I2 : Inv X pins σ H1 { s1 with heap := h1 } := I1.kept (t' := s1.toks) hk
  have S : ZipSep2 (s1.heap.objs.size + 4) (s1.heap.objs.size + 2) (s1.heap.objs.size + 3) s1.heap.objs.size (s1.heap.objs.size + 1) [s1.heap.objs.size, a] [s1.heap.objs.size + 1, b] :=
    zip_sep2 (fun c h => by rw [List.mem_singleton.mp h]; exact lta) (fun c h => by rw [List.mem_singleton.mp h]; exact ltb)
  have P := pairArg_tl (prog := X.prog) (w := X.w) (s1.heap.objs.size + 4) (s1.heap.objs.size + 2) (s1.heap.objs.size + 3) s1.heap.objs.size (s1.heap.objs.size + 1) a b its.toArray its2.toArray (by simp [l1, l2]) S
    (Nat.ne_of_lt lta) (ne_add ltb) (ne_add lta) (ne_add ltb) (ne_add lta) (ne_add ltb)
  have hn : its.toArray.size = kvs.length := by simp [l1]
  have fresh4 : ∀ c, c ∈ [s1.heap.objs.size + 4, s1.heap.objs.size + 3, s1.heap.objs.size, s1.heap.objs.size + 1] → FpOk X pins H1 c := fun c hcm => by
    have hle : s1.heap.objs.size ≤ c := by
      simp only [List.mem_cons, List.not_mem_nil, or_false] at hcm
      rcases hcm with z | z | z | z <;> rw [z]
      · exact Nat.le_add_right _ _
      · exact Nat.le_add_right _ _
      · exact Nat.le_refl _
      · exact Nat.le_add_right _ _
    exact I1.fpOk hle (I1.hok.fresh hle)
  have OK : IsZip h1 (s1.heap.objs.size + 4) (s1.heap.objs.size + 2) (s1.heap.objs.size + 3) .none ∧ IsPair h1 (s1.heap.objs.size + 2) (.ref s1.heap.objs.size) (.ref (s1.heap.objs.size + 1)) ∧ (∃ a b, IsPair h1 (s1.heap.objs.size + 3) a b) ∧
      (h1.IsTupleIter s1.heap.objs.size a 0 ∧ h1.IsTuple a its.toArray) ∧ h1.IsListIter (s1.heap.objs.size + 1) b 0 ∧ h1.IsList b its2.toArray :=
    ⟨hZ, hTI, ⟨_, _, hTO⟩, ⟨⟨_, w1, rfl, rfl⟩, (show s1.heap.IsTuple a its.toArray from pt).at fun o e => hk _ o e⟩, ⟨_, w2, rfl, rfl⟩, pl.isList.at fun o e => hk _ o e⟩
  refine PySem.call_dict_pairs (knd := mixKind X.prog X.w) (kvs := rs) (s := { s1 with heap := h1 }) P (I2.ok.hd hc) OK ⟨by rw [l3, hn], fun i k v hkv => hpr i k v (by simpa using hkv.1) (by simpa using hkv.2)⟩ (by rw [hn]; exact hz) fun h2 tk hd' k => ?_
  have hm' : (h1.objs.size == sysModules) = false := beq_eq_false_iff_ne.mpr (Nat.ne_of_gt I2.big)
  have hlen : (mergeK [] kvs).length ≤ sizeLine := Nat.le_trans (length_mergeK kvs []) (by rw [List.length_nil, Nat.zero_add]; exact hz)
  have new : ObjOk X.prog X.w (upd H1 h1.objs.size (.dK (mergeK [] kvs))) h2 h1.objs.size (.dK (mergeK [] kvs)) := ⟨hlen, hm', merged [] rs, KV.merge kr .nil, hd'⟩
  exact ⟨.ref h1.objs.size, upd H1 h1.objs.size (.dK (mergeK [] kvs)), I2.turnedNew (t' := tk) k fresh4 (Nat.le_refl _) new, rfl, q1 _ (I2.hok.fresh (Nat.le_refl _))⟩
section
variable {X : Cx} {B F0 : Hp} {Γ : Ev} {k : Bool} {a b : Expr} {pos p p2 q : Pos}
theorem zip_keys : ∀ {xs ys : List Int}, xs.length = ys.length → (xs.zip ys).map (·.1) = xs
  | [], _, _ => rfl
  | x :: xs, [], h => by simp at h
  | x :: xs, y :: ys, h => by rw [List.zip_cons_cons, List.map_cons, zip_keys (by simpa using h)]
theorem zip_vals : ∀ {xs ys : List Int}, xs.length = ys.length → (xs.zip ys).map (·.2) = ys
  | [], [], _ => rfl
  | [], y :: ys, h => by simp at h
  | x :: xs, [], h => by simp at h
  | x :: xs, y :: ys, h => by rw [List.zip_cons_cons, List.map_cons, zip_vals (by simpa using h)]
theorem pd_ints {K : Kf} {F : Hp} : ∀ (l : List (Int × Int)), PD K F (l.map fun z => (z.1, V.int z.2)) l
  | [] => .nil
  | z :: l => .cons ⟨rfl, rfl⟩ (pd_ints l)
theorem xdictZ {t : Tup Int} {l : List Int} (hc : X.calm = true) (md : X.mg "dict" = none) (mz : X.mg "zip" = none) (ha : XV X B F0 Γ a t) (hb : XV X B F0 Γ b l) (hl : t.items.length = l.length) (nd : t.items.Nodup) (hg : Gl X "dict" := by rfl) (hg2 : Gl X "zip" := by rfl)
    (hs : starEach [a, b] X.env = (false, eval a X.env) :: starEach [b] X.env := by rfl) (hs2 : starEach [b] X.env = (false, eval b X.env) :: starEach [] X.env := by rfl) (hpl : (backTo q (starEach [b] X.env)).any (·.1) = false := by rfl)
    (na : starEach [.Call (.Name "zip" p2) [a, b] [] q] X.env = (false, eval (.Call (.Name "zip" p2) [a, b] [] q) X.env) :: starEach [] X.env := by rfl) :
    XO X B F0 Γ (.Call (.Name "dict" p) [.Call (.Name "zip" p2) [a, b] [] q] [] pos) k (Dct.mk (t.items.zip l) : Dct Int Int) := fun F σ H Q A q' =>
  WE.of (pe_dictZip hg md hg2 mz (pa_cons can_e (pa_cons can_e pa_nil hs2) hs) hc hs hpl na) (x_two ha hb A fun F' H' v w g r1 r2 => by
    obtain ⟨p1, vs, rfl, h1, e1⟩ := r1
    obtain ⟨p2, ws, rfl, h2, e2⟩ := r2
    have e1 := reps_ints e1
    have e2 := reps_ints e2
    subst e1 e2
    refine ⟨p1, p2, (t.items.zip l).map (fun z => ((Sum.inl z.1 : Key), V.int z.2)), rfl, ?_, ?_, fun p np => ?_⟩
    · rw [List.map_map]
      have e : ((t.items.zip l).map ((fun kv : Key × V => kV kv.1) ∘ fun z : Int × Int => ((Sum.inl z.1 : Key), V.int z.2))) = t.items.map V.int := by
        conv => rhs; rw [← zip_keys hl, List.map_map]
        rfl
      rw [e]
      exact SqT.of h1
    · rw [List.map_map]
      have e : ((t.items.zip l).map ((fun kv : Key × V => kv.2) ∘ fun z : Int × Int => ((Sum.inl z.1 : Key), V.int z.2))) = l.map V.int := by
        conv => rhs; rw [← zip_vals hl, List.map_map]
        rfl
      rw [e]
      exact SqL.of h2
    · rw [mergeK_new _ [] (by
        rw [List.nil_append, List.map_map]
        have := nd
        rw [← zip_keys hl] at this
        unfold List.Nodup at this ⊢
        rw [List.pairwise_map] at this ⊢
        exact this.imp fun h e => h (Sum.inl.inj e)), List.nil_append]
      have em : ((t.items.zip l).map fun z : Int × Int => ((Sum.inl z.1 : Key), V.int z.2)) = ((t.items.zip l).map fun z => (z.1, V.int z.2)).map (fun kv => ((Sum.inl kv.1 : Key), kv.2)) := by rw [List.map_map]; rfl
      rw [em]
      refine q' F' _ (.ref p) (one p (DK.ho (κ := Int) ((t.items.zip l).map fun z => (z.1, V.int z.2)))) (g.trans (Grow.newH g.fh np)) (one_sub upd_same) (fun x o e => ?_) ⟨p, _, rfl, one_at, pd_ints _⟩
      obtain ⟨rfl, rfl⟩ := one_is e
      exact ⟨g.hh.free np, g.fh.free np, DK.notTup _⟩)
end
end Cb

set_option Elab.async false
set_option linter.all false
set_option maxRecDepth 100000
/-! Cb67: // by a wide divisor -/
namespace Cb
open PySem PySem.Spec L2
open PyProof.Rows hiding St
section
variable {X : Cx} {B F0 : Hp} {Γ : Ev} {k : Bool} {a b : Expr} {pos : Pos}
theorem xdivW {i j : Int} (ha : XV X B F0 Γ a i) (hb : XV X B F0 Γ b j) (c : CDivW i j) : XE X B F0 Γ (.BinOp a .FloorDiv b pos) k (i / j) := x_op op_fdivW ha hb fun H v w Q r1 r2 q => ⟨i, j, r1, r2, c, q _ fun _ => rfl⟩
theorem cdivW {i j : Int} (h : 0 < j) (h2 : j ≤ 4000000000000) : CDivW i j := wide_div (b := 50) h (by omega) (by decide) (by decide)
end
end Cb

set_option Elab.async false
set_option linter.all false
set_option maxRecDepth 100000
/-! Cb68: a dict with ints for keys, locked: its keys walked -/
namespace Cb
open PySem PySem.Spec L2
open PyProof.Rows hiding St
structure LDI (β : Type) where
  kvs : List (Int × β)
def dIo (ws : List (Int × V)) : HO := .dK (ws.map fun kv => (Sum.inl kv.1, kv.2))
section
variable {β : Type} [R β]
instance : R (LDI β) := ⟨fun K F v d => ∃ p ws od, v = .ref p ∧ F p = some (.frz od (dIo ws)) ∧ PD K F ws d.kvs, fun h ⟨p, ws, od, e, q, r⟩ => ⟨p, ws, od, e, h _ _ q, r.mono h⟩⟩
instance : Ow (LDI β) where
  own := fun K F v d O => ∃ p ws od, v = .ref p ∧ O p = some (.frz od (dIo ws)) ∧ PD K F ws d.kvs
  omono := fun h ⟨p, ws, od, e, q, r⟩ => ⟨p, ws, od, e, q, r.mono h⟩
  oread := fun ⟨p, ws, od, e, q, r⟩ hF hO => ⟨p, ws, od, e, hO _ _ q, r.mono hF⟩
instance : NN (LDI β) := ⟨fun ⟨_, _, _, e, _⟩ => nomatch e⟩
variable {X : Cx} {B F0 : Hp} {Γ : Ev} {k : Bool} {e o i : Expr} {pos : Pos} {D : Ends} {ss : List Stmt} {d : LDI β} {c : Int} {x : β}
/-- an owned dict is locked -/
theorem ts_lockI {as : Dct Int β} (i : Nat) (hΓ : Γ[i]? = some (ownd k as)) (ht : TSs X B F0 (Γ.set i (ownd k (LDI.mk as.kvs : LDI β))) ss D) : TSs X B F0 Γ ss D := fun F σ H A pins s I => by
  obtain ⟨q, ho, e1, hp, ⟨ws, rfl, rw_⟩, w⟩ := A.put (P := fun p o => ∃ ws, o = dIo ws ∧ PD X.K (rf k B F) ws as.kvs) hΓ (fun v O ⟨p', ws', e', hp', r'⟩ => ⟨p', _, e', hp', ws', rfl, r'⟩)
  obtain ⟨od, J⟩ := I.lock hp trivial
  exact ht F σ _ (w (k' := k) (c' := (LDI.mk as.kvs : LDI β)) (Grow.refl A.sF) rfl ⟨q, ws, od, rfl, one_at, rw_⟩) pins s J
theorem xlgetI (hu : X.A.units + 1 < cLine) (ho : XE X B F0 Γ o k d) (hi : XV X B F0 Γ i c) (h : dGet d.kvs c = some x) (hs : NoSl i := by exact fun _ _ => rfl) : XE X B F0 Γ (.Subscript o i pos) k x := fun F σ H Q A q =>
  WE.of (pe_dget hu can_e can_e hs) (ho F σ H _ A fun F1 H1 v g r => hi F1 σ H1 _ (A.grow g) fun F2 H2 w g2 r2 => by
    obtain ⟨p, ws, od, e, hp, r⟩ := R.mono (rf_mono g2.ff) r
    rcases r.get (c := c) with ⟨h1, _⟩ | ⟨b, u, h1, h2, ru⟩
    · rw [h] at h1; cases h1
    · rw [h] at h1; cases h1
      refine ⟨p, u, e, ?_, q F2 H2 u (g.trans g2) ru⟩
      have r2' : w = .int c := r2
      subst r2'
      refine .inl ⟨ws.map fun kv => ((Sum.inl kv.1 : Key), kv.2), Sum.inl c, .inr ⟨od, g2.fh _ _ (rf_sub _ _ hp)⟩, rfl, ?_⟩
      rw [valV_eq, dGet_map (fun c => (Sum.inl c : Key)) (fun a b q => Sum.inl.inj q), h2])
theorem ldi_get {K : Kf} {H : Hp} {p : Addr} {od : Obj} {ws : List (Int × V)} {v : V} (h : H p = some (.frz od (dIo ws))) (r : R.rep K H v c) : DGet H p v (dGet ws c) := by
  have r2 : v = .int c := r
  subst r2
  refine .inl ⟨ws.map (fun kv : Int × V => ((Sum.inl kv.1 : Key), kv.2)), Sum.inl c, .inr ⟨od, h⟩, rfl, ?_⟩
  rw [valV_eq, dGet_map (fun c => (Sum.inl c : Key)) (fun a b q => Sum.inl.inj q)]
theorem xlin {a b : Expr} (hu : X.A.units + 1 < cLine) (ha : XV X B F0 Γ a c) (hb : XV X B F0 Γ b d) (hm : behindInMarks .In b = false := by rfl) : XE X B F0 Γ (.Compare a [.In] [b] pos) k (dGet d.kvs c).isSome := fun F σ H Q A q =>
  WE.of (pe_cmp (pc_din hu can_e can_e) hm) (x_two ha hb A fun F' H' v w g r1 ⟨p, ws, od, e, hp, r⟩ => by
    refine ⟨p, _, e, ldi_get hp r1, q F' H' _ g ?_⟩
    rcases r.get (c := c) with ⟨h1, h2⟩ | ⟨b, v, h1, h2, _⟩
    · rw [h1, h2]; rfl
    · rw [h1, h2]; rfl)
theorem xlnin {a b : Expr} (hu : X.A.units + 1 < cLine) (ha : XV X B F0 Γ a c) (hb : XV X B F0 Γ b d) (hm : behindInMarks .NotIn b = false := by rfl) : XE X B F0 Γ (.Compare a [.NotIn] [b] pos) k (!(dGet d.kvs c).isSome) := fun F σ H Q A q =>
  WE.of (pe_cmp (pc_dnotin hu can_e can_e) hm) (x_two ha hb A fun F' H' v w g r1 ⟨p, ws, od, e, hp, r⟩ => by
    refine ⟨p, _, e, ldi_get hp r1, q F' H' _ g ?_⟩
    rcases r.get (c := c) with ⟨h1, h2⟩ | ⟨b, v, h1, h2, _⟩
    · rw [h1, h2]; rfl
    · rw [h1, h2]; rfl)
theorem xlinT {a b : Expr} (hu : X.A.units + 1 < cLine) (ha : XV X B F0 Γ a c) (hb : XV X B F0 Γ b d) (hm : behindInMarks .In b = false := by rfl) : XT X B F0 Γ (.Compare a [.In] [b] pos) (dGet d.kvs c).isSome := fun F σ H Q A q =>
  WT.of (pt_cmp (pc_din hu can_e can_e) hm) (x_two ha hb A fun F' H' v w g r1 ⟨p, ws, od, e, hp, r⟩ => by
    refine ⟨p, _, e, ldi_get hp r1, (dGet d.kvs c).isSome, ?_, q F' H' g⟩
    rcases r.get (c := c) with ⟨h1, h2⟩ | ⟨b, v, h1, h2, _⟩
    · rw [h1, h2]; rfl
    · rw [h1, h2]; rfl)
theorem xlninT {a b : Expr} (hu : X.A.units + 1 < cLine) (ha : XV X B F0 Γ a c) (hb : XV X B F0 Γ b d) (hm : behindInMarks .NotIn b = false := by rfl) : XT X B F0 Γ (.Compare a [.NotIn] [b] pos) (!(dGet d.kvs c).isSome) := fun F σ H Q A q =>
  WT.of (pt_cmp (pc_dnotin hu can_e can_e) hm) (x_two ha hb A fun F' H' v w g r1 ⟨p, ws, od, e, hp, r⟩ => by
    refine ⟨p, _, e, ldi_get hp r1, !(dGet d.kvs c).isSome, ?_, q F' H' g⟩
    rcases r.get (c := c) with ⟨h1, h2⟩ | ⟨b, v, h1, h2, _⟩
    · rw [h1, h2]; rfl
    · rw [h1, h2]; rfl)
theorem xi_keysI {tg : Expr} (he : XE X B F0 Γ e k d) : XI X B F0 Γ tg e k (d.kvs.map (·.1)) := fun F σ H _ A q =>
  WI.of (pi_keys can_e) (he F σ H _ A fun F' H' v g ⟨p, ws, od, ev, hF, pd⟩ => by
    have hp' : F' p = some (.frz od (dIo ws)) := rf_sub _ _ hF
    have hp : H' p = some (.frz od (dIo ws)) := g.fh _ _ hp'
    have ln : ws.length = d.kvs.length := Paired.length pd
    refine ⟨p, od, ev, .inl ⟨_, hp, q F' H' _ g ⟨fun i hi F1 H1 s1 s2 => ⟨⟨s2 _ _ (s1 _ _ hp'), by rw [List.length_map, ln]; rw [List.length_map] at hi; exact hi⟩, fun u H2 hy => ?_⟩, fun i hi F1 H1 s1 s2 => ⟨s2 _ _ (s1 _ _ hp'), by rw [List.length_map, ln]; rw [List.length_map] at hi; exact Nat.le_of_eq hi.symm⟩⟩⟩⟩
    obtain ⟨rfl, c, w, hkv, rfl⟩ := hy
    rw [List.getElem?_map] at hkv
    obtain ⟨⟨c0, w0⟩, hw, hc⟩ := Option.map_eq_some_iff.mp hkv
    cases hc
    obtain ⟨⟨c1, y⟩, hy2, e1, ry⟩ := L2.paired_get pd hw
    have hi' : i < d.kvs.length := by rw [List.length_map] at hi; exact hi
    have ex : d.kvs[i] = (c1, y) := by rw [List.getElem?_eq_getElem hi'] at hy2; exact Option.some.inj hy2
    have e1' : c0 = c1 := e1
    subst e1'
    rw [List.getElem_map, ex]
    exact ⟨_, Grow.refl s2, rfl⟩)
theorem AS.freezeLDI {as : LDI β} {K : Kf} {F : Hp} {σ : St} {H : Hp} {i : Nat} (A : AS K B F0 Γ F σ H) (e : Γ[i]? = some (ownd k as)) : ∃ F', AS K B F0 (Γ.set i (vl k as)) F' σ H := by
  obtain ⟨⟨O, s, so, d, nt⟩, sF, sB, s0, bf⟩ := A
  obtain ⟨o, O1, Or, e1, h1, h2, h3, ⟨v, rfl, p, vs, od, rfl, ep, r⟩, h5⟩ := s.focus e
  have pO : O p = some (.frz od (dIo vs)) := h1 _ _ ep
  have pH : H p = some (.frz od (dIo vs)) := so _ _ pO
  have dp := d p (by rw [pO]; simp)
  have f1 : Same F (upd F p (.frz od (dIo vs))) := sub_upd dp.1
  have hOr : Or p = none := (h3 p).resolve_left (by rw [ep]; simp)
  have hσ : σ.set i (some (.ref p)) = σ := set_self e1
  have key := h5 (upd F p (.frz od (dIo vs))) (vl k as) (some (.ref p)) (fun _ => none) Or f1 ⟨.ref p, rfl, p, vs, od, rfl, rf_new upd_same dp.2, r.mono (rf_mono f1)⟩ (fun _ _ z => nomatch z) (Same.refl _) fun x => .inl rfl
  rw [hσ] at key
  refine ⟨upd F p (.frz od (dIo vs)), ⟨Or, key, h2.trans so, fun x hx => ?_, fun x o q => nt _ _ (h2 _ _ q)⟩, fun b u q => ?_, sB, s0.trans f1, bf.trans f1⟩
  · have hO : O x ≠ none := fun z => hx (by
      cases w : Or x with
      | none => rfl
      | some u => rw [h2 _ _ w] at z; cases z)
    refine ⟨?_, (d x hO).2⟩
    rw [upd_ne (fun z => by subst z; exact hx hOr)]
    exact (d x hO).1
  · by_cases z : b = p
    · subst z; rw [upd_same] at q; cases q; exact pH
    · rw [upd_ne z] at q; exact sF _ _ q
theorem ts_freezeLDI {as : LDI β} (i : Nat) (hΓ : Γ[i]? = some (ownd k as)) (ht : TSs X B F0 (Γ.set i (vl k as)) ss D) : TSs X B F0 Γ ss D := fun F σ H A =>
  let ⟨F', A'⟩ := A.freezeLDI hΓ
  ht F' σ H A'
end
section
variable {α : Type} [R α] [NN α] {X : Cx} {B F0 : Hp} {Γ : Ev} {D : Ends} {ss : List Stmt}
theorem ts_outoP {o : Option α} {a : α} (i : Nat) (hΓ : Γ[i]? = some (pr o)) (e : o = some a) (ht : TSs X B F0 (Γ.set i (pr a)) ss D) : TSs X B F0 Γ ss D := fun F σ H A => by
  subst e
  obtain ⟨⟨O, s, so⟩, sF, sB, s0, bf⟩ := A
  exact ht F σ H ⟨⟨O, slots_at (fun o O q => q) hΓ s, so⟩, sF, sB, s0, bf⟩
end
end Cb

set_option Elab.async false
set_option linter.all false
set_option maxRecDepth 100000
/-! Cb69: min of a list of pairs of ints; a drawn thing given back -/
namespace Cb
open PySem PySem.Spec L2
open PyProof.Rows hiding St
def ltP (a b : Int × Int) : Bool := decide (a.1 < b.1) || (decide (a.1 = b.1) && decide (a.2 < b.2))
def minP (x : Int × Int) (l : List (Int × Int)) : Int × Int := l.foldl (fun a y => if ltP y a then y else a) x
theorem lt_ii (a b : Int × Int) : PySem.W.dataLt (Dat.dat a) (Dat.dat b) = ltP a b := by
  show PySem.W.dataLt (.tuple [.int a.1, .int a.2]) (.tuple [.int b.1, .int b.2]) = _
  rw [PySem.W.dataLt_pair (show PySem.W.alike (.int a.1) (.int b.1) = true from rfl) (show PySem.W.alike (.int a.2) (.int b.2) = true from rfl), PySem.W.dataLt_int, PySem.W.dataLt_int]
  have e1 : PyData.eqv (.int a.1) (.int b.1) = decide (a.1 = b.1) := Dat.eqv (α := Int) a.1 b.1
  have e2 : PyData.eqv (.int a.2) (.int b.2) = decide (a.2 = b.2) := Dat.eqv (α := Int) a.2 b.2
  unfold ltP
  rw [e1, e2]
  by_cases h1 : a.1 = b.1 <;> by_cases h2 : a.2 = b.2 <;> simp [h1, h2]
theorem min_ii : ∀ (l : List (Int × Int)) (x : Int × Int), PySem.W.minD (Dat.dat x) (l.map Dat.dat) = Dat.dat (minP x l)
  | [], x => rfl
  | y :: l, x => by
    have e : PySem.W.minD (Dat.dat x) ((y :: l).map Dat.dat) = PySem.W.minD (if PySem.W.dataLt (Dat.dat y) (Dat.dat x) then Dat.dat y else Dat.dat x) (l.map Dat.dat) := rfl
    rw [e, lt_ii]
    have e2 : minP x (y :: l) = minP (if ltP y x then y else x) l := rfl
    rw [e2]
    cases ltP y x
    · exact min_ii l x
    · exact min_ii l y
theorem each_get {α β : Type} {R : α → β → Prop} : ∀ {as : List α} {bs : List β}, PySem.W.EachIs R as bs → ∀ (i : Nat) (a : α), as[i]? = some a → ∃ b, bs[i]? = some b ∧ R a b
  | _, _, .cons h t, 0, a, e => by
    have e' := Option.some.inj e
    subst e'
    exact ⟨_, rfl, h⟩
  | _, _, .cons h t, i + 1, a, e => by
    obtain ⟨b, e1, e2⟩ := each_get t i a (by simpa using e)
    exact ⟨b, by simpa using e1, e2⟩
theorem dat_ii_inj {a b : Int × Int} (h : (Dat.dat a : PyData) = Dat.dat b) : a = b := by
  have h2 : (PyData.tuple [.int a.1, .int a.2]) = PyData.tuple [.int b.1, .int b.2] := h
  injection h2 with h3
  injection h3 with h4 h5
  injection h5 with h6 _
  exact Prod.ext (PyData.int.inj h4) (PyData.int.inj h6)
def rMinII (K : Kf) (A : Around) : List V → Hp → VK → Prop := fun vs H Q => ∃ (a : Addr) (us : List V) (x : Int × Int) (l : List (Int × Int)), vs = [.ref a] ∧ SqL K H a us ∧ Reps K H us (x :: l) ∧ A.units + 64 < cLine ∧ ∀ v, R.rep K H v (minP x l) → Q v H
section
variable {X : Cx}
theorem depth_ii : ∀ l : List (Int × Int), PyData.depthAll (l.map Dat.dat) ≤ 3
  | [] => by decide
  | x :: l => by
    have := depth_ii l
    have d : PyData.depth (Dat.dat x) ≤ 3 := Nat.le_trans (Dat.depth x) (by decide)
    show max (PyData.depth (Dat.dat x)) (PyData.depthAll (l.map Dat.dat)) ≤ 3
    omega
theorem alike_ii (l : List (Int × Int)) : PySem.W.AlikeAll (l.map Dat.dat) := by
  refine ⟨fun x hx y hy => ?_, fun x hx => ?_⟩
  · obtain ⟨a, _, rfl⟩ := List.mem_map.mp hx
    obtain ⟨b, _, rfl⟩ := List.mem_map.mp hy
    rfl
  · obtain ⟨a, _, rfl⟩ := List.mem_map.mp hx
    exact fun z => nomatch z
theorem cr_minII (hc : X.calm = true) : CallR X (.builtin "min") (rMinII X.K X.A) := by
  intro pins s σ H vs us Q I r h
  obtain ⟨a, xs, x, l, rfl, hs, hx, hu, q⟩ := h
  obtain ⟨its, rv, hl, hz2⟩ := I.list hs
  rw [Vals.ref1 r]
  have e1 := each_of rv hx
  have e2 := e1.mono fun u b ⟨y, ry, qy⟩ => Dp.reads I (Dat.dat b) y u (Dat.dp qy) ry
  obtain ⟨as', ra⟩ := PySem.W.each_readsAll Dat.dat e2
  have du := depth_ii (x :: l)
  refine PySem.W.min_list_data (x := Dat.dat x) (xs := l.map Dat.dat) (I.ok.hd hc) hl.isList (by simpa using ra) (alike_ii (x :: l)) (by show X.A.units + 1 + PyData.depthAll ((x :: l).map Dat.dat) < cLine; omega) fun i v h' tk bs hv hr hk => ?_
  have hv' : its[i]? = some v := by simpa using hv
  obtain ⟨b, hb, y, ry, qy⟩ := each_get e1 i v hv'
  obtain ⟨b2, hb2, as2, rr⟩ := each_get e2 i v hv'
  rw [hb] at hb2
  cases hb2
  have e3 := (Reads.unique (PySem.W.reads_keeps hk rr) _ _ hr).1
  rw [min_ii] at e3
  have e4 := dat_ii_inj e3
  subst e4
  exact ⟨y, H, I.kept (t' := tk) hk, ry, q y qy⟩
end
section
variable {X : Cx} {B F0 : Hp} {Γ : Ev} {k : Bool} {a e : Expr} {pos p' : Pos} {D : Ends} {ss : List Stmt} {p : Addr}
theorem xminII {x : Int × Int} {l : List (Int × Int)} (hc : X.calm = true) (mm : X.mg "min" = none) (hu : X.A.units + 64 < cLine) (ha : XV X B F0 Γ a (x :: l)) (hg : Gl X "min" := by rfl) (hs : starEach [a] X.env = (false, eval a X.env) :: starEach [] X.env := by rfl) : XV X B F0 Γ (.Call (.Name "min" p') [a] [] pos) (minP x l) := fun F σ H Q A q =>
  x_cb (cr_minII hc) hg mm (by decide +kernel) (ha F σ H _ A fun F' H' v g ⟨lp, vs, ev, hl, r⟩ => by
    subst ev
    exact ⟨lp, vs, x, l, rfl, SqL.of hl, r, hu, fun w rw_ => q F' H' w g rw_⟩) (hs := hs)
def minL (l : List (Int × Int)) : Int × Int := match l with | [] => (0, 0) | c :: r => minP c r
theorem xminC {l : List (Int × Int)} (hc : X.calm = true) (mm : X.mg "min" = none) (hu : X.A.units + 64 < cLine) (ha : XV X B F0 Γ a l) (hne : l ≠ []) (hg : Gl X "min" := by rfl) (hs : starEach [a] X.env = (false, eval a X.env) :: starEach [] X.env := by rfl) : XV X B F0 Γ (.Call (.Name "min" p') [a] [] pos) (minL l) := by
  cases l with
  | nil => exact absurd rfl hne
  | cons x l => exact xminII hc mm hu ha hg hs
/-- a drawn thing given back -/
theorem ts_retR {Z : Type} [R Z] {Pr : Z → Prop} {Rl : Z → Prop} (jp : Nat) (hΓ : Γ[jp]? = some (ownd k (Pn.mk p))) (he : XR X B F0 Γ p e Pr) (hr : RDP X.K B p D Rl) (hc : ∀ c, Pr c → Rl c) : TSs X B F0 Γ (.Return (some e) pos :: ss) D :=
  ts_cons fun F σ H A => WS.of (ps_ret can_e) (he none F σ H _ off0 (by rw [off_none]; exact A) fun F' H' v c _ _ A' pc r => by
    rw [off_none] at A'
    obtain ⟨v1, O1, e1, ⟨rfl, x, y, ep, ok⟩, so, fr⟩ := own_free A' hΓ
    exact hr F' H' v c x y A'.sB A'.sF (fr _ _ ep).1 (so _ _ ep) ok r (hc c pc))
end
end Cb

set_option Elab.async false
set_option linter.all false
set_option maxRecDepth 100000
/-! Cb70: for k, v in d.items(), d new, its keys ints -/
namespace Cb
open PySem PySem.Spec L2
open PyProof.Rows hiding St
/-- a new dict is locked as soon as it is told -/
theorem pe_locks {X : Cx} {e : Expr} {td : TE} (he : PE X e td) : PE X e (fun σ H Q => td σ H fun x H1 => ∃ d kvs, x = V.ref d ∧ H1 d = some (.dK kvs) ∧ ∀ o, Q x (upd H1 d (.frz o (.dK kvs)))) := by
  constructor
  intro pins s σ H Q I h
  refine thn (he.run pins s σ H _ I h) fun u s1 ⟨x, H1, I1, rx, d, kvs, ex, hd, q⟩ => ?_
  obtain ⟨o, J⟩ := I1.lock hd trivial
  exact ⟨x, _, J, rx, q o⟩
section
variable {X : Cx} {B F0 : Hp} {Γ : Ev} {k : Bool} {e : Expr} {β : Type} [R β] {d : Dct Int β} {apos cpos tpos : Pos} {elts : List Expr} {kk : Nat}
theorem xi_itemsI (he : XO X B F0 Γ e k d) (hbase : attributeBase e "items" X.env (eval e X.env) = eval e X.env := by rfl) (hline : (apos.endLine == cpos.line) = true := by rfl) :
    XI X B F0 Γ (.Tuple elts kk tpos) (.Call (.Attribute e "items" apos) [] [] cpos) k d.kvs := fun F σ H _ A q =>
  WI.of (pi_items (pe_locks can_e) hbase hline) (he F σ H _ A fun F' H' v O g so n ⟨p, ws, ev, hO, pd⟩ => by
    have hp : H' p = some (dIo ws) := so _ _ hO
    obtain ⟨n1, n2, -⟩ := n _ _ hO
    refine ⟨p, _, ev, hp, fun od => ⟨p, od, _, ev, upd_same, ?_⟩⟩
    have sF : Same F' (upd F' p (.frz od (dIo ws))) := sub_upd n2
    have g2 : Grow F H (upd F' p (.frz od (dIo ws))) (upd H' p (.frz od (dIo ws))) := by
      refine ⟨fun b u hb => ?_, g.ff.trans sF, fun b u hb => ?_, fun b u hb => ?_⟩
      · rw [upd_ne (ne_of_none hb n1)]; exact g.hh _ _ hb
      · by_cases eb : b = p
        · subst eb; rw [upd_same] at hb ⊢; exact hb
        · rw [upd_ne eb] at hb ⊢; exact g.fh _ _ hb
      · by_cases eb : b = p
        · subst eb; exact .inr (.inl n1)
        · rw [upd_ne eb] at hb; exact g.nw _ _ hb
    have ln : ws.length = d.kvs.length := Paired.length pd
    refine q _ _ _ g2 ⟨fun i hi F1 H1 s1 s2 => ⟨⟨s2 _ _ (s1 _ _ upd_same), by rw [List.length_map, ln]; exact hi⟩, fun u H2 hy => ?_⟩, fun i hi F1 H1 s1 s2 => ⟨s2 _ _ (s1 _ _ upd_same), by rw [List.length_map, ln]; exact Nat.le_of_eq hi.symm⟩⟩
    obtain ⟨T, c, w, hkv, rfl, nT, rfl⟩ := hy
    rw [List.getElem?_map] at hkv
    obtain ⟨⟨c0, w0⟩, hw, hc⟩ := Option.map_eq_some_iff.mp hkv
    cases hc
    obtain ⟨⟨c1, y⟩, hy2, e1, ry⟩ := L2.paired_get pd hw
    have ex : d.kvs[i] = (c1, y) := by rw [List.getElem?_eq_getElem hi] at hy2; exact Option.some.inj hy2
    have e1' : c0 = c1 := e1
    subst e1'
    rw [ex]
    have kb : R.rep X.K (rf k B F1) (.int c0) c0 := rfl
    have vb : R.rep X.K (rf k B F1) w0 y := R.mono (rf_mono (sF.trans s1)) ry
    exact pair_new s2 nT kb vb)
end
section
variable {X : Cx} {B F0 : Hp} {Γ : Ev} {k : Bool} {t : Expr} {α : Type} [R α]
/-- a test that reads an owned list as if it were frozen -/
theorem xt_thaw {xs : List α} {c : Bool} (i : Nat) (hΓ : Γ[i]? = some (ownd k xs)) (h : XT X B F0 (Γ.set i (vl k xs)) t c) : XT X B F0 Γ t c := fun F σ H Q A q => by
  obtain ⟨F2, A2⟩ := A.freeze hΓ
  exact h F2 σ H Q A2 fun F' H' g => q F H' ⟨g.hh, Same.refl _, A.sF.trans g.hh, fun _ _ e => .inl e⟩
end
end Cb

set_option Elab.async false
set_option linter.all false
set_option maxRecDepth 100000
set_option maxHeartbeats 2000000
/-! Cb71: defs that raise own errors; try .. except X as e: name = e; isinstance of what was caught -/
namespace L2
open PySem PySem.Spec PyProof.Rows
/-- a caught error of the class cls, at a, kept as a thing -/
def ExF (cls : Value) (a : Addr) : HO := .ext fun h => ∃ (oe : Obj) (vs : Array Value), h.get? a = some oe ∧ Zc cls none oe ∧ oe.data = .fields vs
theorem exF_ok {P : Program} {w : World} {H : Hp} {h : Heap} {a : Addr} {cls : Value} {oe : Obj} {vs : Array Value} (e : h.get? a = some oe) (z : Zc cls none oe) (d : oe.data = .fields vs) : ObjOk P w H h a (ExF cls a) :=
  ⟨⟨oe, vs, e, z, d⟩, ⟨oe, e⟩, fun _ _ ⟨o, v, q, r⟩ k => ⟨o, v, k o q, r⟩⟩
section
variable {X : Cx} {pins : List (Addr × Obj)} {σ : St} {H : Hp} {sI s : Shared}
/-- an error that has landed is tracked -/
theorem Inv.track {a : Addr} {cls : Value} {oe : Obj} {vs : Array Value} (J : Inv X pins σ H sI) (na : sI.heap.get? a = none) (I : Inv X pins σ H s) (e : s.heap.get? a = some oe) (z : Zc cls none oe) (d : oe.data = .fields vs) (nH : H a = none) (nL : a ≠ X.env.locals) :
    Inv X pins σ (upd H a (ExF cls a)) s := by
  have ne : ∀ b o, sI.heap.get? b = some o → b ≠ a := fun b o q z => by rw [z, na] at q; cases q
  have n0 : ∀ b o, X.s_0.heap.get? b = some o → b ∉ X.ex → b ≠ a := fun b o q hx => by
    obtain ⟨o', q'⟩ := J.base.there b o q hx
    exact ne b o' q'
  refine ⟨I.ok, I.os, I.bare, ⟨I.base.keep, I.base.slot, fun b o q n hx => ?_, I.base.there, fun b xs q => ?_, fun b o u q => ?_, fun b ps q => ?_⟩, I.loc, I.cell, ?_, fun x c q => ?_, fun p hp => ?_, ?_, I.len⟩
  · rw [upd_ne (n0 b o q hx)]; exact I.base.free b o q n hx
  · have w := I.base.tups b xs q
    rw [upd_ne (ne_of_none w nH)]; exact w
  · have w := I.base.frzs b o u q
    rw [upd_ne (ne_of_none w nH)]; exact w
  · obtain ⟨m, w⟩ := I.base.tbls b ps q
    exact ⟨m, by rw [upd_ne (ne_of_none w nH)]; exact w⟩
  · rw [upd_ne (Ne.symm nL)]; exact I.free
  · obtain ⟨v, o, ho, hd⟩ := J.cell x c q
    rw [upd_ne (ne c o ho)]; exact I.freeC x c q
  · obtain ⟨e1, n1, n2, n3, n4⟩ := I.pin p hp
    have np := ne p.1 p.2 (J.pin p hp).1
    exact ⟨e1, by rw [upd_ne np]; exact n1, n2, n3, n4⟩
  · exact fun b u q => by
      by_cases hb : b = a
      · subst hb
        rw [upd_same] at q
        cases q
        exact exF_ok e z d
      · rw [upd_ne hb] at q
        exact (I.hok b u q).stay (fun c v _ r => r) (fun c r => by rw [upd_ne (ne_of_none r nH)]; exact r) fun c xs r => by rw [upd_ne (ne_of_none r nH)]; exact r
theorem Inv.toSuite (I : Inv X pins σ H s) (a : Addr) : Inv (X.suite a (X.pn ++ pins)) [] σ H s :=
  ⟨I.ok.suite _ _, I.os, I.bare, I.base, I.loc, I.cell, I.free, I.freeC, fun p hp => I.pin p (by rw [List.append_nil] at hp; exact hp), I.hok, I.len⟩
theorem Inv.ofSuite {a : Addr} {pn' : List (Addr × Obj)} (I : Inv (X.suite a (X.pn ++ pins)) pn' σ H s) (ok : X.Ok) : Inv X pins σ H s :=
  ⟨ok, I.os, I.bare, I.base, I.loc, I.cell, I.free, I.freeC, fun p hp => I.pin p (List.mem_append_left _ hp), I.hok, I.len⟩
end
/-- what the clause 'except x as n' wishes, the error kept as a thing of the heap -/
def wKeep (K : PySem.W.Frag) (c : Value) (i : Nat) (ts : Addr → TS) (Wout : WX) (D : Ends) : WX := fun cls d σ H =>
  d = none ∧ ∃ b, PySem.W.exmOne K cls c = some b ∧ (b = true → ∀ a, H a = none → ts a { nx := fun σ' H' => D.nx (σ'.set i none) H', rt := D.rt, bk := fun σ' H' => D.bk (σ'.set i none) H', ct := fun σ' H' => D.ct (σ'.set i none) H' } (σ.set i (some (.ref a))) (upd H a (ExF cls a))) ∧
    (b = false → Wout cls d σ H)
section
variable {X : Cx} {x n : Str} {c : Value} {i : Nat} {body suite : List Stmt} {b₀ : Stmt} {np pos pos' : Pos} {tb : WX → TS} {ts : Addr → TS} {Wout : WX}
theorem ps_try_keep (hs : X.stack = X.env :: X.outer) (hf : X.env.frame = some X.env.locals) (hN : X.N.Nodup) (hi : X.N[i]? = some n) (hln : X.env.kindOf n = some .local) (hc : Names X x c) (tk : Takes X Wout)
    (hb : ∀ (W : WX) (pn : List (Addr × Obj)) (xe : Value → Shared → Prop), Takes (X.tr pn xe) W → PassesOwn (model X.prog X.w) X.A X.env xe → PSs (X.tr pn xe) body (tb W))
    (hsu : ∀ (a : Addr) (pn : List (Addr × Obj)), PSs (X.suite a pn) (b₀ :: suite) (ts a)) :
    PS X (.Try body [.ExceptHandler (some (.Name x np)) (some n) (b₀ :: suite) pos'] [] [] pos) (fun D σ H => tb (wKeep X.K c i ts Wout D) D σ H) := by
  refine ⟨fun pins s σ H D I h => ?_⟩
  have ok := I.ok
  have hfr : X.A.frames = some (X.env :: X.outer) := by rw [ok.frames, hs]
  have hloc : Loc X.env.scope n := .inl hln
  refine wpAny_Try_except ?_
  refine wpAny_mono ((hb (wKeep X.K c i ts Wout D) (X.pn ++ pins) (fun e s₁ => wpAny (model X.prog X.w) X.A (noteFrame e X.env) (fun _ s₂ => wpAny (model X.prog X.w) X.A (setFlight e none) (fun _ s₃ =>
    wpAny (model X.prog X.w) X.A (handleBy e X.env [.ExceptHandler (some (.Name x np)) (some n) (b₀ :: suite) pos']) (SP X pins D) X.xe s₃) X.xe s₂) X.xe s₁) (fun u s' xx => ?_) PassesOwn.looking).run [] s σ H D (I.toTry _) h) (fun f s1 hsp => ?_) (fun e s1 he => he)
  · obtain ⟨a, B, sI, pins', σ', H', cls, d, rfl, J', nb, up, sky, na, os, ag, rfl, b, hb1, hyes, hno⟩ := xx
    have J : Inv X pins σ' H' sI := J'.ofTry ok
    have sky' : Sky B (X.env :: X.outer) a (Zc cls none) X.env.locals s'.heap := by rw [← hs]; exact sky
    show wpAny (model X.prog X.w) X.A (noteFrame (.ref a) X.env) _ _ _
    refine Sky.land Zc.steady hfr hf sky' fun h3 fl3 up3 => ?_
    have J3 : Inv X pins σ' H' { s' with heap := h3 } := J.landed nb fl3.1 (up.trans up3) os ag
    obtain ⟨oe3, vs3, he3, hz3, hd3⟩ := fl3.there
    have notFr : ∀ {h : Heap} {o : Obj} {vs : Array Value}, h.FunFrames B (X.env :: X.outer) → h.get? a = some o → o.data = .fields vs → a ∉ frs (X.env :: X.outer) := fun {h o vs} ff e dd hm => by
      obtain ⟨_, o', e', hnf⟩ := ff.mem hm
      rw [e] at e'; cases e'
      exact hnf _ dd
    have nfr := notFr fl3.2.2.1 he3 hd3
    have nL : a ≠ X.env.locals := fun z => nfr (List.mem_filterMap.mpr ⟨X.env, List.mem_cons_self, by rw [hf, z]⟩)
    have nF : a ∉ X.fs := fun hm => by
      obtain ⟨e, he, q⟩ := List.mem_filterMap.mp hm
      exact nfr (List.mem_filterMap.mpr ⟨e, List.mem_cons_of_mem _ he, q⟩)
    have nI : sI.heap.get? a = none := by
      cases q : sI.heap.get? a with
      | none => rfl
      | some o =>
        have z := nb a o q (by show a ∉ frs X.stack; rw [hs]; exact nfr)
        have z2 := fl3.2.1
        rw [z] at z2; cases z2
    have S3 := J3.suite he3 hd3 na nL nF
    refine wpAny_handleBy_cons (codeAny_handlers_test ?_) (by intro q; cases q)
    have LT : PySem.W.Looks (model X.prog X.w) h3 (typeOf (.ref a)) cls := fun A Q E s k q => wpAny_typeOf_ref (k _ _ he3) (by rw [hz3.1]; exact q)
    have LM := PySem.W.exm_one (M := model X.prog X.w) (J3.kIn) LT hb1
    have test : ∀ {Q : Value → Shared → Prop} {E : Value → Shared → Prop}, Q c { s' with heap := h3 } → wpAny (model X.prog X.w) (X.A.mark (some (.ref a))) (eval (.Name x np) X.env) Q E { s' with heap := h3 } := fun {Q E} q => by
      obtain ⟨hg, hdbg, hm | ⟨hm, hv, hnn⟩⟩ := hc
      · exact ld_glob (X := X.suite a ((a, oe3) :: (X.pn ++ pins))) S3 hg hm q hdbg
      · exact ld_blt (X := X.suite a ((a, oe3) :: (X.pn ++ pins))) S3 hg hm hv q hnn hdbg
    refine test (LM.here ?_)
    cases b with
    | true =>
      refine codeAny_handlers_suite_as ?_
      refine HandSPX.lands_againZ fl3 fun h4 fl4 up4 => ?_
      have J4 : Inv X pins σ' H' { s' with heap := h4 } := J.landed nb fl4.1 ((up.trans up3).trans up4) os ag
      obtain ⟨oe4, vs4, he4, hz4, hd4⟩ := fl4.there
      have S4 := (Inv.track J nI J4 he4 hz4 hd4 na nL).toSuite a
      refine store_ok (X := X.suite a (X.pn ++ pins)) (v := .ref a) S4 hN hi hloc rfl (fun s5 S5 => ?_) (.inr hln)
      refine wpAny_mono ((hsu a (X.pn ++ pins)).run [] s5 _ _ _ S5 (hyes rfl a na)) (fun f s6 hsp => ?_) (fun _ _ z => False.elim z)
      have end_ : ∀ {σ6 : St} {H6 : Hp} {Q : Shared → Prop}, Inv (X.suite a (X.pn ++ pins)) [] σ6 H6 s6 → (∀ s7, Inv X pins (σ6.set i none) H6 s7 → Q s7) →
          wpAny (model X.prog X.w) X.A (do bindName X.env n .none; unbindBehindTheSuite X.env n pos') (fun _ s7 => Q s7) X.xe s6 := fun {σ6 H6 Q} S6 hq => gone_ok (S6.ofSuite ok) hN hi hln hq
      cases f with
      | next =>
        obtain ⟨σ6, H6, S6, q6⟩ := hsp
        exact end_ S6 fun s7 J7 => ⟨_, _, J7, q6⟩
      | brk =>
        obtain ⟨σ6, H6, S6, q6⟩ := hsp
        exact end_ S6 fun s7 J7 => ⟨_, _, J7, q6⟩
      | cont =>
        obtain ⟨σ6, H6, S6, q6⟩ := hsp
        exact end_ S6 fun s7 J7 => ⟨_, _, J7, q6⟩
      | ret u =>
        obtain ⟨v6, σ6, H6, S6, r6, q6⟩ := hsp
        exact end_ S6 fun s7 J7 => ⟨_, _, _, J7, r6, q6⟩
    | false =>
      show wpAny _ X.A (handleBy (.ref a) X.env []) _ _ _
      refine wpAny_handleBy_nil ?_
      obtain ⟨k1, k2, k3, oe, vs, T, oT, ts', he, hz, hd, h1, hr⟩ := id fl3
      unfold PySem.passOn
      refine wpAny_bind (wpAny_field he hd h1 ?_)
      rw [if_neg (show ¬ ((Value.ref T == Value.none) = true) from by simp)]
      have fin : wpAny (model X.prog X.w) X.A (setFlight (.ref a) X.env.frame) (fun _ s4 => wpAny (model X.prog X.w) X.A (throw (.ref a) : Sem Flow) (SP X pins D) X.xe s4) X.xe { s' with heap := h3 } := by
        rw [hf]
        refine HandSPX.setFlight_upZ fl3 fun h4 hh4 up4 => wpAny_throw (tk _ _ ?_)
        exact ⟨a, B, sI, pins, σ', H', cls, none, rfl, J, nb, (up.trans up3).trans up4, .inr (.inr (by rw [hs]; exact hh4)), na, os, ag, hno rfl⟩
      first
        | exact wpAny_bind (wpAny_pure (wpAny_bind fin))
        | exact wpAny_bind fin
  · cases f with
    | next =>
      obtain ⟨σ', H', J', q⟩ := hsp
      exact wpAny_execs_nil ⟨σ', H', J'.ofTry ok, q⟩
    | brk =>
      obtain ⟨σ', H', J', q⟩ := hsp
      exact ⟨σ', H', J'.ofTry ok, q⟩
    | cont =>
      obtain ⟨σ', H', J', q⟩ := hsp
      exact ⟨σ', H', J'.ofTry ok, q⟩
    | ret u =>
      obtain ⟨v, σ', H', J', r, q⟩ := hsp
      exact ⟨v, σ', H', J'.ofTry ok, r, q⟩
end
/-- isinstance(e, c), e a caught error that is kept -/
def rIsK (K : PySem.W.Frag) (D : Addr) : List V → Hp → VK → Prop := fun xs H Q => ∃ (a : Addr) (c : V) (cv : Value) (b : Bool), xs = [.ref a, c] ∧ H a = some (ExF (.ref D) a) ∧ (∀ u, RelV c u → u = cv) ∧ PySem.W.kitOne K (.ref D) cv = some b ∧ Q (.bl b) H
theorem call_isK {X : Cx} {D : Addr} (C : ExcC X.K D) : CallR X (.builtin "isinstance") (rIsK X.K D) := by
  intro pins s σ H xs us Q I r h
  obtain ⟨a, c, cv, b, rfl, ha, hcv, e, q⟩ := h
  cases r with
  | cons rx rr =>
    cases rr with
    | cons rt rr =>
      cases rr
      cases rx
      have ec := hcv _ rt
      subst ec
      obtain ⟨⟨oe, vs, hget, hz, hv⟩, _⟩ := I.hok a _ ha
      have J : PySem.W.InstAt s.heap a oe D none := by
        obtain ⟨oc, od, oda, osl⟩ := oe
        obtain ⟨h1, h2⟩ := hz
        dsimp only at h1 h2 hv
        subst h1 h2 hv
        exact ⟨hget, rfl, rfl, trivial⟩
      exact PySem.W.kia_one (PySem.W.handS_kitx_exc C.hg C.hk C.hs C.hd C.ha C.hn C.ht C.hm) I.kIn J e (fun z => nomatch z) fun tk => ⟨.bl b, H, I.kept (t' := tk) fun _ _ z => z, rfl, q⟩
end L2

set_option Elab.async false
set_option linter.all false
set_option maxRecDepth 100000
set_option maxHeartbeats 2000000
/-! Cb72: promises of defs that may raise own errors; raise, try, isinstance in the typed layer -/
namespace Cb
open PySem PySem.Spec L2
open PyProof.Rows hiding St
/-- a caught error, by its class -/
structure Exn where
  C : Addr
instance : R Exn := ⟨fun K F v x => ∃ a, v = .ref a ∧ F a = some (ExF (.ref x.C) a), fun h ⟨a, e, q⟩ => ⟨a, e, h _ _ q⟩⟩
instance : NN Exn := ⟨fun ⟨_, e, _⟩ => nomatch e⟩
/-- what the module says of an own class of error -/
structure ErrK (K : Kf) (mg : Str → Option Value) (n : Str) (C : Addr) : Prop where
  g : mg n = some (.ref C)
  x : PySem.W.excIn K C [.type "ValueError", .type "Exception", .type "BaseException", .type "object"] "ValueError.__new__" = true
  k : PySem.W.keepIn K (.ref C) = true
  b : PySem.W.subIn K (.ref C) (.type "BaseException") = some true
  t : PySem.W.typeIn K (.ref C) = some (.type "type")
  e : ExcC K C
/-- a def that may let out own errors, told by their names -/
def spX {A γ : Type} [Args A] [R γ] (K : Kf) (mg : Str → Option Value) (pre : A → Prop) (m : A → Except Str γ) : Sp := fun vs H Q E => ∃ a : A, Args.args K H vs a ∧ pre a ∧ (∀ c, m a = .ok c → Ret K H Q c) ∧ ∀ n, m a = .error n → ∀ C H', mg n = some (.ref C) → Same H H' → E (.ref C) none H'
structure CalE (P : Program) (w : World) (K : Kf) (mg : Str → Option Value) (base : Heap) (j : Nat) (x : Str) (sp : Sp) : Prop where
  ex : ∃ f fd ps, FnOk P w K mg base (L2.CX P w) j f fd ps sp ∧ mg x = some (.ref f) ∧ PySem.W.keepIn K (.ref f) = true ∧ Binds K fd ps []
structure CalEA (P : Program) (w : World) (K : Kf) (mg : Str → Option Value) (base : Heap) (A : Around) (x : Str) (sp : Sp) : Prop where
  ex : ∃ k f fd ps, FnOk P w K mg base (L2.CX P w) k f fd ps sp ∧ Room k A ∧ mg x = some (.ref f) ∧ PySem.W.keepIn K (.ref f) = true ∧ Binds K fd ps []
abbrev CalEX (X : Cx) (x : Str) (sp : Sp) : Prop := CalEA X.prog X.w X.K X.mg X.base X.A x sp
section
variable {P : Program} {w : World} {K : Kf} {mg : Str → Option Value} {base : Heap}
theorem CalE.at {j k : Nat} {x : Str} {sp : Sp} {A : Around} (c : CalE P w K mg base j x sp) (hr : Room k A) (h : j ≤ k := by decide) : CalEA P w K mg base A x sp := by
  obtain ⟨f, fd, ps, G, hm, kp, bd⟩ := c.ex
  exact ⟨j, f, fd, ps, G, hr.mono h, hm, kp, bd⟩
abbrev Xe (P : Program) (w : World) (K : Kf) (mg : Str → Option Value) (base : Heap) (N : List Str) (qual : Str) (st : Stmt) (f : Addr) (cdv : Value) (A : Around) (outer : List Env) (s : Shared) (H : Hp) (E : XK) : Cx :=
  cxOf (L2.CX P w) P w K mg base N qual (defScope st) f cdv A outer s H E
variable {x qual : Str} {st : Stmt} {N ps : List Str} {k : Nat} {A : Type} [Args A]
theorem cal_x {γ : Type} [R γ] {pre : A → Prop} {m : A → Except Str γ} (U : FnAt K mg x st ps) (S : FnScope N ps (defScope st)) (hl : Args.len A = ps.length)
    (h : ∀ f cdv Ar outer s H E, Room k (Ar.deeper (envOfC x (defScope st) s.heap.objs.size f cdv)) → ∀ (a : A) (D : Ends), pre a → (∀ c, m a = .ok c → RD K H D c) → (∀ n, m a = .error n → ∀ C H', mg n = some (.ref C) → Same H H' → E (.ref C) none H') →
      TSs (Xe P w K mg base N x st f cdv Ar outer s H E) H H (Args.env a ++ List.replicate (N.length - Args.len A) junk) (defBody st) D) :
    CalE P w K mg base (k + 1) x (spX K mg pre m) := by
  obtain ⟨f, fd, F, hm, hb⟩ := U.ex
  refine ⟨f, fd, ps, F.okX S (fun vs H Q E h => ?_) (fun cdv Ar outer s H vs Q E hr hq => ?_), hm, F.kp, hb⟩
  · obtain ⟨a, ha, _⟩ := h
    rw [Args.length ha]; exact hl
  · obtain ⟨a, ha, hp, q1, q2⟩ := hq
    exact ⟨_, can_ss, h f cdv Ar outer s H E hr a _ hp (fun c e => Ret.rd (q1 c e)) q2 H _ H (as_start ha)⟩
end
section
variable {X : Cx} {B F0 : Hp} {Γ : Ev} {k : Bool} {e a : Expr} {es : List Expr} {pos p : Pos} {D : Ends} {ss : List Stmt}
theorem ts_raise {x m : Str} {C : Addr} {E : XK} {j : Nat} {p1 p2 p3 p4 : Pos} (hE : ErrK X.K X.mg x C) (tk : Takes X (fun cls d _ H => E cls d H)) (hq : ∀ H', Same B H' → E (.ref C) none H') (hc : X.calm = true := by rfl) (hg : Gl X x := by rfl) (hdb : (x == ("__debug__" : Str)) = false := by decide) :
    TSs X B F0 Γ (.Raise (some (.Call (.Name x p1) [.Constant (.str m) j p2] [] p3)) none p4 :: ss) D :=
  ts_cons fun F σ H A => WS.of (ps_raise hc tk (pmk_own PySem.F.excBase_ValueError hE.x hE.g hE.k (raises_own hE.b hE.t) hg hdb)) (hq H A.sB)
theorem AS.any {K : Kf} {F : Hp} {σ : St} {H : Hp} (A : AS K B F0 Γ F σ H) (i : Nat) (o : Option V) : AS K B F0 (Γ.set i junk) F (σ.set i o) H := by
  obtain ⟨⟨O, s, so, d, nt⟩, sF, sB, s0, bf⟩ := A
  refine ⟨⟨O, ?_, so, d, nt⟩, sF, sB, s0, bf⟩
  by_cases hi : i < Γ.length
  · obtain ⟨o', O1, Or, _, h1, h2, h3, _, h5⟩ := s.focus (List.getElem?_eq_getElem hi)
    exact h5 F junk o (fun _ => none) O (Same.refl _) trivial (fun _ _ z => nomatch z) h2 fun x => .inl rfl
  · rw [List.set_eq_of_length_le (by omega), List.set_eq_of_length_le (by rw [← s.length]; omega)]; exact s
/-- an error kept: the slots behind the suite 'z = n' -/
theorem AS.kept {K : Kf} {F : Hp} {σ : St} {H : Hp} {C a : Addr} (A : AS K B F0 Γ F σ H) (na : H a = none) {iz ie : Nat} (ne : ie ≠ iz) :
    AS K B F0 ((Γ.set iz (vl true (some (Exn.mk C)))).set ie junk) (upd F a (ExF (.ref C) a)) ((((σ.set ie (some (.ref a))).set iz (some (.ref a))).set ie none)) (upd H a (ExF (.ref C) a)) := by
  have nF : F a = none := by
    cases q : F a with
    | none => rfl
    | some o => rw [A.sF _ _ q] at na; cases na
  have nB : B a = none := A.sB.free na
  have A1 := A.grow (Grow.new (o := ExF (.ref C) a) A.sF na)
  have A2 := A1.set (k := true) (x := some (Exn.mk C)) iz (v := .ref a) ⟨a, rfl, rf_new upd_same nB⟩
  have A3 := A2.any ie none
  have e : ((σ.set ie (some (V.ref a))).set iz (some (.ref a))).set ie none = (σ.set iz (some (.ref a))).set ie none := by
    rw [List.set_comm _ _ ne, List.set_set]
  rw [e]; exact A3
section
variable {A γ : Type} [Args A] [R γ] {pre : A → Prop} {m : A → Except Str γ} {ag : A} {f x n y z : Str} {CB : Addr} {pf pc py pa np pz pn2 pa2 pos' : Pos}
/-- try: y = f(..) except x as n: z = n -/
theorem ts_tryA (iy iz ie : Nat) (cf : CalEX X f (spX X.K X.mg pre m)) (h : ∀ pn xe, XA (X.tr pn xe) B F0 Γ (e :: es) (fun K H vs => Args.args K H vs ag)) (hp : pre ag) (hx : X.mg x = some (.ref CB))
    (hex : ∀ nm C, m ag = .error nm → X.mg nm = some (.ref C) → PySem.W.exmOne X.K (.ref C) (.ref CB) = some true)
    (h_ok : ∀ c, m ag = .ok c → TSs X B F0 (Γ.set iy (vl true c)) ss D)
    (h_err : ∀ nm C, m ag = .error nm → X.mg nm = some (.ref C) → TSs X B F0 ((Γ.set iz (vl true (some (Exn.mk C)))).set ie junk) ss D) (hN : X.N.Nodup) (hl : ie < Γ.length := by first | decide | simp) (ne : ie ≠ iz := by decide)
    (hs : X.stack = X.env :: X.outer := by rfl) (hf : X.env.frame = some X.env.locals := by rfl) (hi : X.N[ie]? = some n := by rfl) (hln : X.env.kindOf n = some .local := by rfl) (hg : Gl X x := by rfl) (hdx : (x == ("__debug__" : Str)) = false := by decide)
    (hiy : X.N[iy]? = some y := by rfl) (hly : Loc X.env.scope y := by first | exact Or.inl rfl | exact Or.inr rfl) (hiz : X.N[iz]? = some z := by rfl) (hlz : Loc X.env.scope z := by first | exact Or.inl rfl | exact Or.inr rfl)
    (hgf : Gl X f := by rfl) (hdb : (f == ("__debug__" : Str)) = false := by decide) (he : starEach (e :: es) X.env = (false, eval e X.env) :: starEach es X.env := by rfl) (hpl : (backTo pc (starEach es X.env)).any (·.1) = false := by rfl)
    (hsw : swapsWith (.Call (.Name f pf) (e :: es) [] pc) (some (.Name y py)) pa.line X.env = pure false := by rfl) (hfy : X.fn y = true ∨ X.env.scope.names.lookup y = some .local := by first | exact .inl rfl | exact .inr rfl)
    (hsw2 : swapsWith (.Name n pn2) (some (.Name z pz)) pa2.line X.env = pure false := by rfl) (hfz : X.fn z = true ∨ X.env.scope.names.lookup z = some .local := by first | exact .inl rfl | exact .inr rfl)
    (hvn : Vis X.env.scope n := by first | exact Or.inl rfl | exact Or.inr (Or.inl rfl) | exact Or.inr (Or.inr rfl)) (hdn : (n == ("__debug__" : Str)) = false := by decide) (hcn : (n == ("__classdict__" : Str)) = false := by decide) :
    TSs X B F0 Γ (.Try [.Assign [.Name y py] (.Call (.Name f pf) (e :: es) [] pc) pa] [.ExceptHandler (some (.Name x np)) (some n) [.Assign [.Name z pz] (.Name n pn2) pa2] pos'] [] [] pos :: ss) D := ts_cons fun F σ H AA => by
  obtain ⟨kk, fa, fd, ps, G, hr, hm, kp, bd⟩ := cf.ex
  refine WS.of (ps_try_keep (tb := fun W D σ H => ∀ pn xe, Takes (X.tr pn xe) W → WSs (X.tr pn xe) [.Assign [.Name y py] (.Call (.Name f pf) (e :: es) [] pc) pa] D σ H) (ts := fun _ => tAsg (tVar ie) (gName iz)) (Wout := fun _ _ _ _ => False) hs hf hN hi hln ⟨hg, hdx, .inl hx⟩ takes0 (fun W pn xe tk _ => ⟨fun pins s σ H D I q => q pn xe tk pins s I⟩)
    (fun a pn => pss_one (ps_set hN hiz hlz (pe_var (X := X.suite a pn) hi hvn hdn hcn) hsw2 hfz))) fun pn xe tk => ?_
  refine WSs.of (pss_one (ps_set (X := X.tr pn xe) hN hiy hly (pe_callS G hr hgf hm kp bd (fun σ => passAt tk σ) can_a hdb he hpl) hsw hfy)) ?_
  refine h pn xe F σ H _ AA fun F1 H1 vs g r => ⟨ag, r, hp, fun c ec v H2 G2 h1 h2 nw rr => ?_, fun nm en C H' hC sH => ?_⟩
  · have gr := Grow.ret g.fh h1 h2 nw
    exact h_ok c ec _ _ _ (((AA.grow g).grow gr).set iy (R.mono (ret_res g.fh (AA.sB.trans g.hh) h1 h2 nw) rr))
  · refine ⟨rfl, true, hex nm C en hC, fun _ a na => ?_, fun q => Bool.noConfusion q⟩
    have A2 := (AA.grow g).up sH
    have lie : ie < σ.length := by rw [← AA.len]; exact hl
    exact ⟨.ref a, List.getElem?_set_self lie, h_err nm C en hC _ _ _ (A2.kept na ne)⟩
/-- try: f(..) except x as n: z = n -/
theorem ts_tryE (iz ie : Nat) (cf : CalEX X f (spX X.K X.mg pre m)) (h : ∀ pn xe, XA (X.tr pn xe) B F0 Γ (e :: es) (fun K H vs => Args.args K H vs ag)) (hp : pre ag) (hx : X.mg x = some (.ref CB))
    (hex : ∀ nm C, m ag = .error nm → X.mg nm = some (.ref C) → PySem.W.exmOne X.K (.ref C) (.ref CB) = some true)
    (h_ok : ∀ c, m ag = .ok c → TSs X B F0 Γ ss D)
    (h_err : ∀ nm C, m ag = .error nm → X.mg nm = some (.ref C) → TSs X B F0 ((Γ.set iz (vl true (some (Exn.mk C)))).set ie junk) ss D) (hN : X.N.Nodup) (hl : ie < Γ.length := by first | decide | simp) (ne : ie ≠ iz := by decide)
    (hs : X.stack = X.env :: X.outer := by rfl) (hf : X.env.frame = some X.env.locals := by rfl) (hi : X.N[ie]? = some n := by rfl) (hln : X.env.kindOf n = some .local := by rfl) (hg : Gl X x := by rfl) (hdx : (x == ("__debug__" : Str)) = false := by decide)
    (hiz : X.N[iz]? = some z := by rfl) (hlz : Loc X.env.scope z := by first | exact Or.inl rfl | exact Or.inr rfl)
    (hgf : Gl X f := by rfl) (hdb : (f == ("__debug__" : Str)) = false := by decide) (he : starEach (e :: es) X.env = (false, eval e X.env) :: starEach es X.env := by rfl) (hpl : (backTo pc (starEach es X.env)).any (·.1) = false := by rfl)
    (hsw2 : swapsWith (.Name n pn2) (some (.Name z pz)) pa2.line X.env = pure false := by rfl) (hfz : X.fn z = true ∨ X.env.scope.names.lookup z = some .local := by first | exact .inl rfl | exact .inr rfl)
    (hvn : Vis X.env.scope n := by first | exact Or.inl rfl | exact Or.inr (Or.inl rfl) | exact Or.inr (Or.inr rfl)) (hdn : (n == ("__debug__" : Str)) = false := by decide) (hcn : (n == ("__classdict__" : Str)) = false := by decide) :
    TSs X B F0 Γ (.Try [.Expr (.Call (.Name f pf) (e :: es) [] pc) pa] [.ExceptHandler (some (.Name x np)) (some n) [.Assign [.Name z pz] (.Name n pn2) pa2] pos'] [] [] pos :: ss) D := ts_cons fun F σ H AA => by
  obtain ⟨kk, fa, fd, ps, G, hr, hm, kp, bd⟩ := cf.ex
  refine WS.of (ps_try_keep (tb := fun W D σ H => ∀ pn xe, Takes (X.tr pn xe) W → WSs (X.tr pn xe) [.Expr (.Call (.Name f pf) (e :: es) [] pc) pa] D σ H) (ts := fun _ => tAsg (tVar ie) (gName iz)) (Wout := fun _ _ _ _ => False) hs hf hN hi hln ⟨hg, hdx, .inl hx⟩ takes0 (fun W pn xe tk _ => ⟨fun pins s σ H D I q => q pn xe tk pins s I⟩)
    (fun a pn => pss_one (ps_set hN hiz hlz (pe_var (X := X.suite a pn) hi hvn hdn hcn) hsw2 hfz))) fun pn xe tk => ?_
  refine WSs.of (pss_one (ps_expr (X := X.tr pn xe) (pe_callS G hr hgf hm kp bd (fun σ => passAt tk σ) can_a hdb he hpl))) ?_
  refine h pn xe F σ H _ AA fun F1 H1 vs g r => ⟨ag, r, hp, fun c ec v H2 G2 h1 h2 nw rr => ?_, fun nm en C H' hC sH => ?_⟩
  · have gr := Grow.ret g.fh h1 h2 nw
    exact h_ok c ec _ _ _ ((AA.grow g).grow gr)
  · refine ⟨rfl, true, hex nm C en hC, fun _ a na => ?_, fun q => Bool.noConfusion q⟩
    have A2 := (AA.grow g).up sH
    have lie : ie < σ.length := by rw [← AA.len]; exact hl
    exact ⟨.ref a, List.getElem?_set_self lie, h_err nm C en hC _ _ _ (A2.kept na ne)⟩
end
/-- isinstance(e, T), e a caught error, T a class of the module -/
theorem xisK {C D' : Addr} {t : Str} {pt : Pos} {b : Bool} (mi : X.mg "isinstance" = none) (mt : X.mg t = some (.ref D')) (hE : ExcC X.K C) (hk : PySem.W.kitOne X.K (.ref C) (.ref D') = some b) (ha : XV X B F0 Γ a (some (Exn.mk C))) (hg : Gl X "isinstance" := by rfl) (hg2 : Gl X t := by rfl) (hdb : (t == ("__debug__" : Str)) = false := by decide)
    (hs : starEach [a, .Name t pt] X.env = (false, eval a X.env) :: starEach [.Name t pt] X.env := by rfl) (hs2 : starEach [.Name t pt] X.env = (false, eval (.Name t pt) X.env) :: starEach [] X.env := by rfl) (hpl : (backTo pos (starEach [.Name t pt] X.env)).any (·.1) = false := by rfl) : XE X B F0 Γ (.Call (.Name "isinstance" p) [a, .Name t pt] [] pos) k b := fun F σ H Q A q =>
  WE.of (pe_callB (call_isK hE) hg mi (by decide +kernel) (pa_cons can_e (pa_cons (pe_glob (v := .ref D') hg2 mt rfl hdb) pa_nil hs2) hs) (by decide) (by decide) (he := hs) (hpl := hpl)) (ha F σ H _ A fun F' H' v g ⟨ad, e, qa⟩ => ⟨ad, .ref D', .ref D', b, by subst e; rfl, qa, fun u r => r, hk, q F' H' _ g rfl⟩)
/-- .. ValueError -/
theorem xisV {C : Addr} {pt : Pos} {b : Bool} (mi : X.mg "isinstance" = none) (mt : X.mg "ValueError" = none) (hE : ExcC X.K C) (hk : PySem.W.kitOne X.K (.ref C) (.type "ValueError") = some b) (ha : XV X B F0 Γ a (some (Exn.mk C))) (hg : Gl X "isinstance" := by rfl) (hg2 : Gl X "ValueError" := by rfl)
    (hs : starEach [a, .Name "ValueError" pt] X.env = (false, eval a X.env) :: starEach [.Name "ValueError" pt] X.env := by rfl) (hs2 : starEach [.Name "ValueError" pt] X.env = (false, eval (.Name "ValueError" pt) X.env) :: starEach [] X.env := by rfl) (hpl : (backTo pos (starEach [.Name "ValueError" pt] X.env)).any (·.1) = false := by rfl) : XE X B F0 Γ (.Call (.Name "isinstance" p) [a, .Name "ValueError" pt] [] pos) k b := fun F σ H Q A q =>
  WE.of (pe_callB (call_isK hE) hg mi (by decide +kernel) (pa_cons can_e (pa_cons (pe_bltn (v := .ty "ValueError") hg2 mt (by decide +kernel) rfl) pa_nil hs2) hs) (by decide) (by decide) (he := hs) (hpl := hpl)) (ha F σ H _ A fun F' H' v g ⟨ad, e, qa⟩ => ⟨ad, .ty "ValueError", .type "ValueError", b, by subst e; rfl, qa, fun u r => r, hk, q F' H' _ g rfl⟩)
end
end Cb

set_option Elab.async false
set_option linter.all false
set_option maxRecDepth 100000
set_option maxHeartbeats 2000000
/-! Cb73: sum of two truths; list.index of truths -/
namespace PySem
section
variable {prog : Program} {w : World} {A : Around} {R : Result → Shared → Prop} {I : Addr} {fp wr : List Addr} {n : Nat} {P : Nat → Value → Prop} {St : Nat → Heap → Prop}
theorem codeAny_sum_loopB (W : Walks prog w A.in1 I fp wr n P St) (val : Nat → Int) (hval : ∀ i v, P i v → ∃ b : Bool, v = .bool b ∧ val i = if b then 1 else 0) (hn : n ≤ 2) (S : Addr) (hSf : S ∉ fp) :
    ∀ (k i : Nat) (s : Shared) (tA : Tok) (c : Nat), n - i = k → i ≤ n → (0 ≤ preSum val i ∧ preSum val i ≤ i) → St i s.heap → s.heap.get? S = some { cls := .type "list", dict := none, data := .seq #[.int (preSum val i) tA] c, slots := #[] } →
    (∀ h' tk t', (∀ b o, b ∉ wr → b ≠ S → s.heap.get? b = some o → h'.get? b = some o) → R (.ok (.ret (.int (preSum val n) t'))) { s with heap := h', toks := tk }) →
    codeAny (model prog w) A (.builtin "sum.loop" ⟨[.ref I, .ref S, rawInt 0, rawInt 0], []⟩) R s := by
  have hSw : S ∉ wr := fun h => hSf (W.sub _ h)
  intro k
  induction k with
  | zero =>
    intro i s tA c hk hi hpre hst hS hR
    have hin : i = n := by omega
    subst hin
    refine codeAny_builtin F.entry_sum_loop ?_
    rw [Around.under_plainId F.plain_sum_loop _]
    show wpAny _ A.in1 (seqItems? (.ref S) >>= _) _ _ s
    refine wpAny_bind (wpAny_seqItems hS rfl ?_)
    show wpAny _ A.in1 (tryCatch (pyNext (.ref I)) _ >>= _) _ _ s
    refine wpAny_bind (wpAny_tryCatch (W.done s _ _ hst fun h' tk hk' => ?_))
    exact wpAny_pure (hR h' tk tA fun b o hbw _ e => hk' b o hbw e)
  | succ k ih =>
    intro i s tA c hk hi hpre hst hS hR
    have hlt : i < n := by omega
    refine codeAny_builtin F.entry_sum_loop ?_
    rw [Around.under_plainId F.plain_sum_loop _]
    show wpAny _ A.in1 (seqItems? (.ref S) >>= _) _ _ s
    refine wpAny_bind (wpAny_seqItems hS rfl ?_)
    show wpAny _ A.in1 (tryCatch (pyNext (.ref I)) _ >>= _) _ _ s
    refine wpAny_bind (wpAny_tryCatch (W.item i s _ _ hlt hst fun v h' tk hP hst' hk' => ?_))
    obtain ⟨b, rfl, hb⟩ := hval i v hP
    have hS' := hk' S _ hSw hS
    have hb01 : val i = 0 ∨ val i = 1 := by rw [hb]; cases b <;> simp
    have hnext : preSum val (i + 1) = preSum val i + (if b then 1 else 0) := by rw [← hb]; rfl
    show wpAny _ A.in1 (if (_ : Bool) = true then (mkInt (preSum val i + (if b then 1 else 0)) >>= _) else _) _ _ _
    generalize (if b = true then (1 : Int) else 0) = bb at hb hnext ⊢
    split
    · refine wpAny_bind (wpAny_mkInt ?_)
      show wpAny _ A.in1 (updateSeq S (fun _ => #[.int (preSum val i + bb) tk]) >>= _) _ _ _
      refine wpAny_bind ?_
      refine wpAny_updateSeq hS' rfl (wpAny_pure ⟨plainId_quiet F.plain_sum_loop _, ih (i + 1) _ tk _ (by omega) hlt (by rw [hnext, ← hb]; omega) (W.frame _ _ _ hst' fun b hb o e => ?_) (by rw [hnext]; exact Heap.get?_update_self _ hS' rfl) fun h'' tk'' t'' hk'' => ?_⟩)
      · exact (Heap.get?_update_other _ _ (fun h : S = b => hSf (by rw [h]; exact hb))).trans e
      · exact hR h'' tk'' t'' fun b o hbw hbS e => hk'' b o hbw hbS ((Heap.get?_update_other _ _ (Ne.symm hbS)).trans (hk' b o hbw e))
    · rename_i hno
      exfalso
      have hp : preSum val i = 0 ∨ preSum val i = 1 := by omega
      have hq : bb = 0 ∨ bb = 1 := by omega
      revert hno
      generalize preSum val i = a at hp
      rcases hp with rfl | rfl <;> rcases hq with rfl | rfl <;> exact fun h => h (by decide)
end
section
variable {prog : Program} {w : World} {A : Around} {E : Value → Shared → Prop} {s : Shared}
theorem call_sum_walkB {x : Value} {Q : Value → Shared → Prop}
    (h : wpAny (model prog w) A.in1 (pyIter x) (fun it s₂ => ∃ I fp wr n P St val, it = .ref I ∧ Walks prog w A.in1 I fp wr n P St ∧ St 0 s₂.heap ∧ (∀ b ∈ fp, b < s₂.heap.objs.size) ∧
      (∀ i v, P i v → ∃ b : Bool, v = .bool b ∧ val i = if b then 1 else 0) ∧ n ≤ 2 ∧
      ∀ h' tk t', (∀ b o, b ∉ wr → s₂.heap.get? b = some o → h'.get? b = some o) → Q (.int (preSum val n) t') { s₂ with heap := h', toks := tk }) E s) :
    wpAny (model prog w) A (call (.builtin "sum") [x]) Q E s := by
  refine call_function_tree F.kind_sum F.plain_sum F.entry_sum (F.args_sum1 _) ?_
  unfold Builtin.«sum»
  simp only [List.length_cons, List.length_nil]
  rw [if_neg (by decide)]
  refine wpAny_bind (wpAny_of_eq (show Builtin.Builtins.bindParams "sum" ["start"] 0 { } = pure [none] from rfl) ?_)
  refine wpAny_bind (wpAny_mono h (fun it s₂ h₂ => ?_) fun _ _ e => e)
  obtain ⟨I, fp, wr, n, P, St, val, rfl, W, hst, hfp, hval, hn, hQ⟩ := h₂
  refine wpAny_bind (wpAny_mkInt ?_)
  refine wpAny_bind (wpAny_pure ?_)
  simp only [List.forIn_cons, List.forIn_nil]
  refine wpAny_bind (wpAny_bind (wpAny_bind (wpAny_isInstance (T := "int") (b := false) (typeIs_int _ _ _) sub_int_str ?_)))
  simp only [Bool.false_eq_true, if_false]
  refine wpAny_pure (wpAny_bind (wpAny_bind (wpAny_isInstance (T := "int") (b := false) (typeIs_int _ _ _) sub_int_bytes ?_)))
  simp only [Bool.false_eq_true, if_false]
  refine wpAny_pure (wpAny_bind (wpAny_bind (wpAny_isInstance (T := "int") (b := false) (typeIs_int _ _ _) sub_int_bytearray ?_)))
  simp only [Bool.false_eq_true, if_false]
  refine wpAny_pure (wpAny_pure ?_)
  refine wpAny_bind (wpAny_newObj_type ?_)
  have hSf : s₂.heap.objs.size ∉ fp := fun hm => Nat.lt_irrefl _ (hfp _ hm)
  refine wpAny_pure ⟨plainId_quiet F.plain_sum_loop _, codeAny_sum_loopB W val hval hn s₂.heap.objs.size hSf n 0 _ s₂.toks 0 rfl (Nat.zero_le _) ⟨Int.le_refl _, Int.le_refl _⟩
    (W.frame _ _ _ hst fun b _ o e => Heap.get?_push_of_some _ e) (Heap.get?_push_size _ rfl) fun h' tk t' hk => ?_⟩
  exact hQ h' tk t' fun b o hbw e => hk b o hbw (Nat.ne_of_lt (Heap.lt_size e)) (Heap.get?_push_of_some _ e)
def b2n (b : Bool) : Int := if b then 1 else 0
theorem sum_two {l : Addr} {b c : Bool} {Q : Value → Shared → Prop} (hh : A.handled = none) (hl : s.heap.IsList l #[.bool b, .bool c])
    (h : ∀ h' tk t', (∀ b o, s.heap.get? b = some o → h'.get? b = some o) → Q (.int (b2n b + b2n c) t') { s with heap := h', toks := tk }) :
    wpAny (model prog w) A (call (.builtin "sum") [.ref l]) Q E s := by
  have hlt : l < s.heap.objs.size := by obtain ⟨_, e, _⟩ := hl; exact Heap.lt_size e
  have st : (({ s with heap := s.heap.push { cls := .type "list_iterator", data := .fields #[.ref l, .int 0 0] } } : Shared).heap.IsListIter s.heap.objs.size l 0 ∧ ({ s with heap := s.heap.push { cls := .type "list_iterator", data := .fields #[.ref l, .int 0 0] } } : Shared).heap.IsList l #[.bool b, .bool c]) := ⟨⟨_, Heap.get?_push_size _ rfl, rfl, rfl⟩, hl.push _⟩
  refine call_sum_walkB (wpAny_pyIter_list hl ?_)
  refine ⟨s.heap.objs.size, [s.heap.objs.size, l], [s.heap.objs.size], _, _, _, fun i => if i = 0 then b2n b else b2n c, rfl, Walks.list (A := A.in1) hh _ l (Nat.ne_of_lt hlt) #[.bool b, .bool c], st, fun a ha => ?_, fun i v hP => ?_, Nat.le_refl _, fun h' tk t' hk => ?_⟩
  · show a < (s.heap.push _).objs.size
    rw [Heap.size_push]
    rcases List.mem_cons.mp ha with rfl | ha
    · exact Nat.lt_succ_self _
    · rw [List.mem_singleton.mp ha]; exact Nat.lt_succ_of_lt hlt
  · match i, hP with
    | 0, hP => exact ⟨b, by simpa using hP.symm, rfl⟩
    | 1, hP => exact ⟨c, by simpa using hP.symm, rfl⟩
    | i + 2, hP => exact absurd hP (by simp)
  · have e : preSum (fun i => if i = 0 then b2n b else b2n c) 2 = b2n b + b2n c := by simp [preSum]
    have := h h' tk t' (old_kept hk)
    rw [← e] at this
    exact this
end
end PySem
namespace Cb
open PySem PySem.Spec L2
open PyProof.Rows hiding St
section
variable {X : Cx} {B F0 : Hp} {Γ : Ev} {k : Bool} {a b : Expr} {pos p : Pos}
def rSum2 (K : Kf) : List V → Hp → VK → Prop := fun vs H Q => ∃ (a : Addr) (b c : Bool), vs = [V.ref a] ∧ SqL K H a [.bl b, .bl c] ∧ Q (.int (b2n b + b2n c)) H
theorem cr_sum2 (hc : X.calm = true) : CallR X (.builtin "sum") (rSum2 X.K) := by
  intro pins s σ H vs us Q I r h
  obtain ⟨a, b, c, rfl, hs, q⟩ := h
  obtain ⟨its, rv, hl, _⟩ := I.list hs
  rw [Vals.ref1 r]
  have e := Vals.bls (bs := [b, c]) rv
  subst e
  exact sum_two (I.ok.hd hc) hl.isList fun h' tk t' hk => ⟨.int _, H, I.kept hk, ⟨_, rfl⟩, q⟩
/-- sum of two truths -/
theorem xsumB2 {u v : Bool} (hc : X.calm = true) (mm : X.mg "sum" = none) (ha : XV X B F0 Γ a [u, v]) (hg : Gl X "sum" := by rfl) (hs : starEach [a] X.env = (false, eval a X.env) :: starEach [] X.env := by rfl) : XE X B F0 Γ (.Call (.Name "sum" p) [a] [] pos) k (b2n u + b2n v) := fun F σ H Q A q =>
  x_cb (cr_sum2 hc) hg mm (by decide +kernel) (ha F σ H _ A fun F' H' w g ⟨l, vs, e, hl, r⟩ => by
    have ev := reps_bls r
    subst ev
    exact ⟨l, u, v, by rw [e], SqL.of hl, q F' H' _ g rfl⟩) (hs := hs)
/-- xs.index(True) -/
theorem xindexB {as : List Bool} {x : Bool} {j : Nat} {pa : Pos} (ha : XV X B F0 Γ a as) (hb : XV X B F0 Γ b x) (hj : as[j]? = some x) (hno : ∀ m, m < j → as[m]? ≠ some x)
    (hbase : attributeBase a "index" X.env (eval a X.env) = eval a X.env := by rfl)
    (hfew : ((backTo pos (starEach [b] X.env)).all (fun x => !x.1) && (backToKw pos (keywordEach [] X.env)).all (fun x => x.1.isSome) && decide ([b].length + ([] : List Keyword).length + (if ([] : List Keyword).isEmpty then 0 else 1) < 30)) = true := by rfl)
    (hline : (pa.endLine == pos.line) = true := by rfl) (hst : starEach [b] X.env = (false, eval b X.env) :: starEach [] X.env := by rfl) (hpl : (backTo pos (starEach [] X.env)).any (·.1) = false := by rfl) :
    XE X B F0 Γ (.Call (.Attribute a "index" pa) [b] [] pos) k (j : Int) := fun F σ H Q A q =>
  WE.of (pe_bm PySem.F.plainAttrs_list PySem.F.slot_list_index PySem.F.type_list_index mt_index can_e (pa_cons can_e pa_nil hst) hbase hfew hline hst hpl) (ha F σ H _ A fun F1 H1 v g ⟨l, vs, ev, hl, r⟩ => by
    subst ev
    have e := reps_bls r
    subst e
    refine ⟨.inl ⟨rfl, _, SqL.of hl⟩, hb F1 σ H1 _ (A.grow g) fun F2 H2 w g2 r2 => ?_⟩
    have r2' : w = .bl x := r2
    subst r2'
    refine ⟨l, as.map V.bl, .bl x, j, .bl x, rfl, rfl, SqL.of (g2.hh _ _ hl), rfl, by rw [List.all_map]; exact List.all_eq_true.mpr fun _ _ => rfl, by rw [List.getElem?_map, hj]; rfl, ?_, fun m z hm hz => ?_, q F2 H2 _ (g.trans g2) rfl⟩
    · cases x <;> rfl
    · rw [List.getElem?_map] at hz
      cases e : as[m]? with
      | none => rw [e] at hz; cases hz
      | some u =>
        rw [e] at hz
        cases hz
        have ne : u ≠ x := fun q => hno m hm (q ▸ e)
        cases u <;> cases x <;> first | rfl | exact absurd rfl ne)
end
end Cb

set_option Elab.async false
set_option linter.all false
set_option maxRecDepth 100000
set_option maxHeartbeats 2000000
/-! Cb74: the program's errors -/
namespace Cb
open PySem PySem.Spec L2
open PyProof.Rows hiding St
def errNames : List Str := ["NoFloor", "Apart", "Hollow", "NoText", "NoRow", "NoField", "NoDeed"]
/-- what is known of an error of that name -/
structure ErrF (K : Kf) (mg : Str → Option Value) (nm : Str) : Prop where
  err : ∃ C, ErrK K mg nm C
  brace : ∃ C D, mg nm = some (.ref C) ∧ mg "BraceError" = some (.ref D) ∧ PySem.W.exmOne K (.ref C) (.ref D) = some true
  ve : ∃ C, mg nm = some (.ref C) ∧ PySem.W.kitOne K (.ref C) (.type "ValueError") = some true
  is : ∀ t, t ∈ errNames → ∃ C D, mg nm = some (.ref C) ∧ mg t = some (.ref D) ∧ PySem.W.kitOne K (.ref C) (.ref D) = some (decide (nm = t))
theorem kit_self {K : Kf} {v : Value} {n : Str} : PySem.W.kitOne K v v = some (decide (n = n)) := by
  unfold PySem.W.kitOne
  rw [if_pos (by simp)]; simp
theorem kit_ne {K : Kf} {v u : Value} {n m : Str} (ne : n ≠ m) (h : PySem.W.kitOne K v u = some false) : PySem.W.kitOne K v u = some (decide (n = m)) := by
  rw [h, decide_eq_false ne]
theorem refs_eq {mg : Str → Option Value} {n : Str} {C D : Addr} (h : mg n = some (.ref C)) (g : mg n = some (.ref D)) : C = D := by
  rw [h] at g; cases g; rfl
section
variable {K : Kf} {mg : Str → Option Value} {nm : Str} {C : Addr}
theorem ErrF.errK (E : ErrF K mg nm) (hC : mg nm = some (.ref C)) : ErrK K mg nm C := by
  obtain ⟨D, e⟩ := E.err
  have := refs_eq hC e.g
  subst this; exact e
theorem ErrF.exm (E : ErrF K mg nm) (hC : mg nm = some (.ref C)) {CB : Addr} (hB : mg "BraceError" = some (.ref CB)) : PySem.W.exmOne K (.ref C) (.ref CB) = some true := by
  obtain ⟨D, B, e1, e2, e3⟩ := E.brace
  rw [refs_eq hC e1, refs_eq hB e2]; exact e3
end
section
variable {X : Cx} {B F0 : Hp} {Γ : Ev} {k : Bool} {a : Expr} {pos p : Pos} {nm : Str} {C : Addr}
theorem xisF {t : Str} {pt : Pos} (mi : X.mg "isinstance" = none) (E : ErrF X.K X.mg nm) (hC : X.mg nm = some (.ref C)) (ht : t ∈ errNames) (ha : XV X B F0 Γ a (some (Exn.mk C))) (hg : Gl X "isinstance" := by rfl) (hg2 : Gl X t := by rfl) (hdb : (t == ("__debug__" : Str)) = false := by decide)
    (hs : starEach [a, .Name t pt] X.env = (false, eval a X.env) :: starEach [.Name t pt] X.env := by rfl) (hs2 : starEach [.Name t pt] X.env = (false, eval (.Name t pt) X.env) :: starEach [] X.env := by rfl) (hpl : (backTo pos (starEach [.Name t pt] X.env)).any (·.1) = false := by rfl) : XE X B F0 Γ (.Call (.Name "isinstance" p) [a, .Name t pt] [] pos) k (decide (nm = t)) := by
  obtain ⟨D, B', e1, e2, e3⟩ := E.is t ht
  have := refs_eq hC e1
  subst this
  exact xisK mi e2 (E.errK hC).e e3 ha hg hg2 hdb hs hs2 hpl
theorem xisFV {pt : Pos} (mi : X.mg "isinstance" = none) (mv : X.mg "ValueError" = none) (E : ErrF X.K X.mg nm) (hC : X.mg nm = some (.ref C)) (ha : XV X B F0 Γ a (some (Exn.mk C))) (hg : Gl X "isinstance" := by rfl) (hg2 : Gl X "ValueError" := by rfl)
    (hs : starEach [a, .Name "ValueError" pt] X.env = (false, eval a X.env) :: starEach [.Name "ValueError" pt] X.env := by rfl) (hs2 : starEach [.Name "ValueError" pt] X.env = (false, eval (.Name "ValueError" pt) X.env) :: starEach [] X.env := by rfl) (hpl : (backTo pos (starEach [.Name "ValueError" pt] X.env)).any (·.1) = false := by rfl) : XE X B F0 Γ (.Call (.Name "isinstance" p) [a, .Name "ValueError" pt] [] pos) k true := by
  obtain ⟨D, e1, e2⟩ := E.ve
  have := refs_eq hC e1
  subst this
  exact xisV mi mv (E.errK hC).e e2 ha hg hg2 hs hs2 hpl
end
/-! promises by number of arguments -/
def sx1 {T1 Z : Type} [R T1] [R Z] (K : Kf) (mg : Str → Option Value) (pre : T1 → Prop) (m : T1 → Except Str Z) : Sp := spX K mg (fun a : T1 × Unit => pre a.1) (fun a : T1 × Unit => m a.1)
def sx2 {T1 T2 Z : Type} [R T1] [R T2] [R Z] (K : Kf) (mg : Str → Option Value) (pre : T1 → T2 → Prop) (m : T1 → T2 → Except Str Z) : Sp := spX K mg (fun a : T1 × T2 × Unit => pre a.1 a.2.1) (fun a : T1 × T2 × Unit => m a.1 a.2.1)
def sx3 {T1 T2 T3 Z : Type} [R T1] [R T2] [R T3] [R Z] (K : Kf) (mg : Str → Option Value) (pre : T1 → T2 → T3 → Prop) (m : T1 → T2 → T3 → Except Str Z) : Sp := spX K mg (fun a : T1 × T2 × T3 × Unit => pre a.1 a.2.1 a.2.2.1) (fun a : T1 × T2 × T3 × Unit => m a.1 a.2.1 a.2.2.1)
end Cb
namespace Cb
open PySem PySem.Spec L2
open PyProof.Rows hiding St
theorem kit_no {K : Kf} {C D : Addr} (h : PySem.W.subIn K (.ref C) (.ref D) = some false) (s : PySem.W.subIn K (.ref C) (.ref C) = some true) (hd : PySem.W.hasDictIn K D = true) (ht : PySem.W.typeIn K (.ref D) = some (.type "type")) : PySem.W.kitOne K (.ref C) (.ref D) = some false := by
  have ne : C ≠ D := fun e => by
    subst e
    rw [h] at s; cases s
  obtain ⟨cd, hc, _⟩ := PySem.W.any_some hd
  unfold PySem.W.kitOne
  rw [if_neg (by simpa using ne)]
  have e : PySem.W.kitCls K (.ref C) (.ref D) = if ((PySem.W.clsIn K D).isSome && PySem.W.typeIn K (.ref D) == some (.type "type")) = true then PySem.W.subIn K (.ref C) (.ref D) else none := rfl
  rw [e, if_pos (by rw [hc, ht]; rfl)]
  exact h
theorem kit_ve {K : Kf} {C : Addr} (h : PySem.W.subIn K (.ref C) (.type "ValueError") = some true) : PySem.W.kitOne K (.ref C) (.type "ValueError") = some true := by
  unfold PySem.W.kitOne
  rw [if_neg (by simp)]
  have e : PySem.W.kitCls K (.ref C) (.type "ValueError") = if PySem.W.kitMeta "ValueError" = true then PySem.W.subIn K (.ref C) (.type "ValueError") else none := rfl
  rw [e, if_pos (by decide +kernel)]
  exact h
end Cb

set_option Elab.async false
set_option linter.all false
set_option maxRecDepth 100000
/-! Fx1: what floor_of refuses, over drawn places (k03) -/
namespace Fx
open PySem PySem.Spec L2 Cb Fl
abbrev AP : Str := ("Apart" : Str)
abbrev HO' : Str := ("Hollow" : Str)
structure Pl (w h : Int) (l : List Int) : Prop where
  w1 : 1 ≤ w
  w6 : w ≤ 6
  h1 : 1 ≤ h
  h6 : h ≤ 6
  ne : l ≠ []
  are : areF w h (-1) l = true
theorem Pl.mem {w h : Int} {l : List Int} (p : Pl w h l) : ∀ x ∈ l, 0 ≤ x ∧ x < w * h := fun x hx => by have := areF_mem p.are x hx; omega
theorem Pl.area {w h : Int} {l : List Int} (p : Pl w h l) : 1 ≤ w * h ∧ w * h ≤ 36 := area36 p.w1 p.w6 p.h1 p.h6
theorem Pl.nd {w h : Int} {l : List Int} (p : Pl w h l) : l.Nodup := (areF_lt p.are).imp fun h => by omega
theorem Pl.len {w h : Int} {l : List Int} (p : Pl w h l) : l.length ≤ 36 := by
  have := areF_len p.are (by have := p.area; omega)
  have := p.area
  omega
def P_floorX (w h : Int) (s : Sq Int) : Prop := Pl w h s.items
def M_floorX (w h : Int) (s : Sq Int) : Except Str (T3 Int Int (Tup Int)) :=
  if (come w h (s.items.take 1) s.items).length < s.items.length then .error AP
  else if (come w h ((bareOf w h s.items).filter fun p => isOut w h p) (bareOf w h s.items)).length < (bareOf w h s.items).length then .error HO'
  else .ok (M_floor w h s)
def M_word (w h : Int) (s : Sq Int) : Sum (T3 Int Int (Tup Int)) Str := match M_floorX w h s with
  | .ok f => .inl f
  | .error n => .inr (if n = AP then ("apart" : Str) else ("hollow" : Str))
/-! the law's flood comes to as many places -/
theorem lcome_len {w h : Int} (w1 : 1 ≤ w) (w6 : w ≤ 6) (h1 : 1 ≤ h) (h6 : h ≤ 6) (S T : List Int) (hT : ∀ x, x ∈ T → 0 ≤ x ∧ x < w * h) : (lcome w h S T).length = (come w h S T).length := by
  have a := floodAll_st (lbeside_len w h) S T
  have b := floodAll_st (beside_len w h) S T
  have adj : ∀ p, p ∈ T → Adj w h p := fun p hp => adj_of w1 w6 h1 h6 (hT p hp).1 (hT p hp).2
  refine Nat.le_antisymm (nodup_len _ _ a.nd fun x hx => ?_) (nodup_len _ _ b.nd fun x hx => ?_)
  · have r := (flood_mem (lbeside_len w h)).mp hx
    exact (flood_mem (beside_len w h)).mpr (r.to (fun s hs _ => hs) (fun y hy => hy.mem) fun p hp q hq => ((adj p hp).b q hq).1)
  · have r := (flood_mem (beside_len w h)).mp hx
    exact (flood_mem (lbeside_len w h)).mpr (r.to (fun s hs _ => hs) (fun y hy => hy.mem) fun p hp q hq => ((adj p hp).a q hq).1)
theorem bare_mem {w h : Int} {l : List Int} (h0 : 0 ≤ w * h) : ∀ x, x ∈ bareOf w h l → 0 ≤ x ∧ x < w * h := fun x hx => by
  have := rng_mem.mp (List.mem_filter.mp hx).1
  omega
theorem bare_count {w h : Int} {l : List Int} (p : Pl w h l) : ((bareOf w h l).length : Int) = w * h - l.length := by
  have ar := p.area
  have key : ∀ r : List Int, (r.filter fun x => decide (x ∈ l)).length + (r.filter fun x => !decide (x ∈ l)).length = r.length := fun r => by
    induction r with
    | nil => rfl
    | cons a r ih => by_cases hq : a ∈ l <;> simp [List.filter_cons, hq] <;> omega
  have k1 := key (rng 0 (w * h).toNat)
  rw [rng_length] at k1
  have k2 : ((rng 0 (w * h).toNat).filter fun x => decide (x ∈ l)).length = l.length := by
    refine Nat.le_antisymm (nodup_len _ _ ((rng_nodup _ _).filter _) fun x hx => of_decide_eq_true (List.mem_filter.mp hx).2) (nodup_len _ _ p.nd fun x hx => ?_)
    have := p.mem x hx
    exact List.mem_filter.mpr ⟨rng_mem.mpr (by omega), decide_eq_true hx⟩
  unfold bareOf
  omega
/-! what the law draws -/
def dg3 (z : Scr) : List Int := row z 2 (lw z 1 * lh z 1) (2 + 4 * (cell z 0 / 2 % 2))
def some0 (z : Scr) : List Int := (rng 0 (lw z 1 * lh z 1).toNat).filter fun x => decide (0 < itm (dg3 z) x)
def some3 (z : Scr) : List Int := if some0 z = [] then [0] else some0 z
theorem some3_pl (z : Scr) : Pl (lw z 1) (lh z 1) (some3 z) := by
  obtain ⟨w1, w6, h1, h6, _⟩ := lwh (z := z) (k := 1)
  have ar := area36 w1 w6 h1 h6
  refine ⟨w1, w6, h1, h6, ?_, ?_⟩
  · unfold some3
    by_cases e : some0 z = []
    · rw [if_pos e]; simp
    · rw [if_neg e]; exact e
  · unfold some3
    by_cases e : some0 z = []
    · rw [if_pos e]
      exact areF_of _ _ (by simp) fun x hx => by rw [List.mem_singleton.mp hx]; omega
    · rw [if_neg e]
      exact areF_of _ _ ((rng_lt _ _).filter _) fun x hx => by have := rng_mem.mp (List.mem_filter.mp hx).1; omega
def P_louL (w h : Int) (l : List Int) : Prop := 1 ≤ w ∧ w ≤ 6 ∧ 1 ≤ h ∧ h ≤ 6
def M_louL (w h : Int) (l : List Int) : Dct Int Bool := M_lflood w h ((bareOf w h l).filter fun x => isOut w h x) (bareOf w h l)
variable {w h : Int} {l : List Int}
theorem word_apart (p : Pl w h l) {s : Sq Int} (hs : s.items = l) (h1 : ((lcome w h (l.take 1) l).length : Int) < l.length) : M_word w h s = .inr ("apart" : Str) := by
  rw [lcome_len p.w1 p.w6 p.h1 p.h6 _ _ p.mem] at h1
  unfold M_word M_floorX
  rw [hs, if_pos (by omega)]
  rfl
theorem word_hollow (p : Pl w h l) {s : Sq Int} (hs : s.items = l) (h1 : ¬ ((lcome w h (l.take 1) l).length : Int) < l.length) (h2 : ((lcome w h ((bareOf w h l).filter fun x => isOut w h x) (bareOf w h l)).length : Int) < w * h - l.length) : M_word w h s = .inr ("hollow" : Str) := by
  have ar := p.area
  rw [lcome_len p.w1 p.w6 p.h1 p.h6 _ _ p.mem] at h1
  rw [lcome_len p.w1 p.w6 p.h1 p.h6 _ _ (bare_mem (by omega)), ← bare_count p] at h2
  unfold M_word M_floorX
  rw [hs, if_neg (by omega), if_pos (by omega)]
  rfl
theorem word_ok (p : Pl w h l) {s : Sq Int} (hs : s.items = l) (h1 : ¬ ((lcome w h (l.take 1) l).length : Int) < l.length) (h2 : ¬ ((lcome w h ((bareOf w h l).filter fun x => isOut w h x) (bareOf w h l)).length : Int) < w * h - l.length) : M_word w h s = .inl ⟨w, h, ⟨l⟩⟩ := by
  have ar := p.area
  rw [lcome_len p.w1 p.w6 p.h1 p.h6 _ _ p.mem] at h1
  rw [lcome_len p.w1 p.w6 p.h1 p.h6 _ _ (bare_mem (by omega)), ← bare_count p] at h2
  unfold M_word M_floorX
  rw [hs, if_neg (by omega), if_neg (by omega)]
  simp [M_floor, hs]
theorem floorX_err {s : Sq Int} {n : Str} (h1 : M_floorX w h s = .error n) : n = AP ∨ n = HO' := by
  unfold M_floorX at h1
  split at h1
  · cases h1; exact .inl rfl
  · split at h1
    · cases h1; exact .inr rfl
    · cases h1
end Fx
namespace Fx
open PySem PySem.Spec L2 Cb Fl
variable {w h : Int} {s : Sq Int}
theorem x_apart (h4 : (come w h (s.items.take 1) s.items).length < s.items.length) : M_floorX w h s = .error AP := if_pos h4
theorem x_hollow (h4 : ¬ (come w h (s.items.take 1) s.items).length < s.items.length) (h5 : (come w h ((bareOf w h s.items).filter fun p => isOut w h p) (bareOf w h s.items)).length < (bareOf w h s.items).length) : M_floorX w h s = .error HO' := (if_neg h4).trans (if_pos h5)
theorem x_ok (h4 : ¬ (come w h (s.items.take 1) s.items).length < s.items.length) (h5 : ¬ (come w h ((bareOf w h s.items).filter fun p => isOut w h p) (bareOf w h s.items)).length < (bareOf w h s.items).length) : M_floorX w h s = .ok (M_floor w h s) := (if_neg h4).trans (if_neg h5)
theorem word_c {c : T3 Int Int (Tup Int)} (e : M_floorX w h s = .ok c) : M_word w h s = Sum.inl c := by unfold M_word; rw [e]
theorem word_a (e : M_floorX w h s = .error AP) : M_word w h s = Sum.inr ("apart" : Str) := by unfold M_word; rw [e]; rfl
theorem word_h (e : M_floorX w h s = .error HO') : M_word w h s = Sum.inr ("hollow" : Str) := by unfold M_word; rw [e]; rfl
end Fx
namespace Fx
open PySem PySem.Spec L2 Cb Fl
variable {w h : Int} {l : List Int} {z : Scr}
theorem some3_t (e : decide (((some0 z).map fun x => x) = []) = true) : [(0 : Int)] = some3 z := by
  rw [List.map_id'] at e
  exact (if_pos (of_decide_eq_true e)).symm
theorem some3_f (e : decide (((some0 z).map fun x => x) = []) = false) : (some0 z).map (fun x => x) = some3 z := by
  rw [List.map_id'] at e ⊢
  exact (if_neg (of_decide_eq_false e)).symm
theorem ap_t (e : decide (((M_lflood w h (cut l none (some 1)) l).kvs.length : Int) < l.length) = true) : ((lcome w h (l.take 1) l).length : Int) < l.length := by
  have e := of_decide_eq_true e
  simpa [M_lflood, cut_1] using e
theorem ap_f (e : decide (((M_lflood w h (cut l none (some 1)) l).kvs.length : Int) < l.length) = false) : ¬ ((lcome w h (l.take 1) l).length : Int) < l.length := by
  have e := of_decide_eq_false e
  simpa [M_lflood, cut_1] using e
theorem ho_t (e : decide (((M_louL w h l).kvs.length : Int) < w * h - l.length) = true) : ((lcome w h ((bareOf w h l).filter fun x => isOut w h x) (bareOf w h l)).length : Int) < w * h - l.length := by
  have e := of_decide_eq_true e
  simpa [M_louL, M_lflood] using e
theorem ho_f (e : decide (((M_louL w h l).kvs.length : Int) < w * h - l.length) = false) : ¬ ((lcome w h ((bareOf w h l).filter fun x => isOut w h x) (bareOf w h l)).length : Int) < w * h - l.length := by
  have e := of_decide_eq_false e
  simpa [M_louL, M_lflood] using e
end Fx

set_option Elab.async false
set_option linter.all false
set_option maxRecDepth 100000
set_option maxHeartbeats 4000000
namespace K03
open PySem PySem.Spec L2 Cb
open PyProof.Rows hiding St
def topS (i : Nat) : Stmt := PySem.Challenge.pw_crossbrace_k03_apart_and_hollow.main.body.getD i (.Pass ⟨0, 0, 0, 0⟩)
section
variable {P : Program} {w : World} {K : Kf} {mg : Str → Option Value} {base : Heap}
abbrev s_is_within : Stmt := topS 11
theorem sc_is_within : FnScope ["thing", "low", "high"] ["thing", "low", "high"] (defScope s_is_within) := ⟨rfl, rfl, rfl, by decide +kernel, rfl, by decide +kernel, by decide +kernel⟩
theorem ok_is_within (U : FnAt K mg "is_within" s_is_within ["thing", "low", "high"])  (misinstance : mg "isinstance" = none) (mint : mg "int" = none) (mbool : mg "bool" = none)   : CalL P w K mg base 1 "is_within" (sv3 K Fl.P_within Fl.within) := by
  refine cal_v U sc_is_within rfl fun f cdv Ar outer s H E hr ⟨thing, low, high, ()⟩ D hpre rd => ?_
  replace hpre : Fl.P_within thing low high := hpre
  replace rd : RD K H D (Fl.within thing low high) := rd
  have hu := hu_of hr
  change TSs _ H H [pr thing, pr low, pr high] _ D
  -- return isinstance(thing, int) and (not isinstance(thing, bool)) and (low <= thing <= high)
  refine ts_ret (xand (XE.v (k := true) (xisi (T := "int") (c := true) misinstance mint (np (α := Int) 0) (by decide +kernel) (show kitB "int" "int" = some true by decide +kernel))) (fun h1 => (xand (XE.v (k := true) (xnot (XE.v (k := true) (xisi (T := "bool") (c := false) misinstance mbool (np (α := Int) 0) (by decide +kernel) (show kitB "int" "bool" = some false by decide +kernel))))) (fun h2 => (xone (XE.v (k := true) (xch cx_le cx_le (np (α := Int) 1) (np (α := Int) 0) (np (α := Int) 2)))))))) ?_
  exact RD.cast rd (by simp [Fl.within])
abbrev s_beside : Stmt := topS 12
theorem sc_beside : FnScope ["wide", "high", "place", "column", "found"] ["wide", "high", "place"] (defScope s_beside) := ⟨rfl, rfl, rfl, by decide +kernel, rfl, by decide +kernel, by decide +kernel⟩
theorem ok_beside (U : FnAt K mg "beside" s_beside ["wide", "high", "place"])     : CalL P w K mg base 1 "beside" (so3 K Fl.P_beside Fl.beside) := by
  refine cal_o U sc_beside rfl fun f cdv Ar outer s H E hr ⟨wide, high, place, ()⟩ D hpre rd => ?_
  replace hpre : Fl.P_beside wide high place := hpre
  replace rd : RDO K H D (Fl.beside wide high place) := rd
  have hu := hu_of hr
  change TSs _ H H [pr wide, pr high, pr place, junk, junk] _ D
  obtain ⟨p1, p2, p3, p4⟩ := hpre
  -- column = place % wide
  refine ts_set (k := true) 3 sc_beside.nd (xmod (np (α := Int) 2) (np (α := Int) 0) (by first | omega | decide | assumption)) ?_
  -- found = []
  refine ts_seto (k := true) 4 sc_beside.nd (xlist (xl0 (α := Int))) ?_
  -- if column > 0:
  refine ts_cons (ts_if (xct cx_gt (nv (α := Int) 3) iv) (fun h1 => ?_) (fun h1 => ?_))
  · skip
    -- found.append(place - 1)
    refine ts_append (k := true) 4 rfl (xsub (np (α := Int) 2) iv) (by first | decide | (simp only [List.length_append, List.length_cons, List.length_nil, sizeLine_eq]; omega)) ?_
    refine ts_end ?_
    -- if column < wide - 1:
    refine ts_cons (ts_if (xct cx_lt (nv (α := Int) 3) (XE.v (k := true) (xsub (np (α := Int) 0) iv))) (fun h2 => ?_) (fun h2 => ?_))
    · skip
      -- found.append(place + 1)
      refine ts_append (k := true) 4 rfl (xadd (np (α := Int) 2) iv) (by first | decide | (simp only [List.length_append, List.length_cons, List.length_nil, sizeLine_eq]; omega)) ?_
      refine ts_end ?_
      -- if place >= wide:
      refine ts_cons (ts_if (xct cx_ge (np (α := Int) 2) (np (α := Int) 0)) (fun h3 => ?_) (fun h3 => ?_))
      · skip
        -- found.append(place - wide)
        refine ts_append (k := true) 4 rfl (xsub (np (α := Int) 2) (np (α := Int) 0)) (by first | decide | (simp only [List.length_append, List.length_cons, List.length_nil, sizeLine_eq]; omega)) ?_
        refine ts_end ?_
        -- if place < wide * high - wide:
        refine ts_cons (ts_if (xct cx_lt (np (α := Int) 2) (XE.v (k := true) (xsub (XE.v (k := true) (xmul (np (α := Int) 0) (np (α := Int) 1) (.inl ⟨by omega, by omega⟩))) (np (α := Int) 0)))) (fun h4 => ?_) (fun h4 => ?_))
        · skip
          -- found.append(place + wide)
          refine ts_append (k := true) 4 rfl (xadd (np (α := Int) 2) (np (α := Int) 0)) (by first | decide | (simp only [List.length_append, List.length_cons, List.length_nil, sizeLine_eq]; omega)) ?_
          refine ts_end ?_
          -- return found
          refine ts_reto 4 rfl ?_
          refine RDO.cast rd ?_; simp only [decide_eq_true_eq, decide_eq_false_iff_not] at *; simp [Fl.beside, *]
        · skip
          refine ts_end ?_
          -- return found
          refine ts_reto 4 rfl ?_
          refine RDO.cast rd ?_; simp only [decide_eq_true_eq, decide_eq_false_iff_not] at *; simp [Fl.beside, *]
      · skip
        refine ts_end ?_
        -- if place < wide * high - wide:
        refine ts_cons (ts_if (xct cx_lt (np (α := Int) 2) (XE.v (k := true) (xsub (XE.v (k := true) (xmul (np (α := Int) 0) (np (α := Int) 1) (.inl ⟨by omega, by omega⟩))) (np (α := Int) 0)))) (fun h4 => ?_) (fun h4 => ?_))
        · skip
          -- found.append(place + wide)
          refine ts_append (k := true) 4 rfl (xadd (np (α := Int) 2) (np (α := Int) 0)) (by first | decide | (simp only [List.length_append, List.length_cons, List.length_nil, sizeLine_eq]; omega)) ?_
          refine ts_end ?_
          -- return found
          refine ts_reto 4 rfl ?_
          refine RDO.cast rd ?_; simp only [decide_eq_true_eq, decide_eq_false_iff_not] at *; simp [Fl.beside, *]
        · skip
          refine ts_end ?_
          -- return found
          refine ts_reto 4 rfl ?_
          refine RDO.cast rd ?_; simp only [decide_eq_true_eq, decide_eq_false_iff_not] at *; simp [Fl.beside, *]
    · skip
      refine ts_end ?_
      -- if place >= wide:
      refine ts_cons (ts_if (xct cx_ge (np (α := Int) 2) (np (α := Int) 0)) (fun h3 => ?_) (fun h3 => ?_))
      · skip
        -- found.append(place - wide)
        refine ts_append (k := true) 4 rfl (xsub (np (α := Int) 2) (np (α := Int) 0)) (by first | decide | (simp only [List.length_append, List.length_cons, List.length_nil, sizeLine_eq]; omega)) ?_
        refine ts_end ?_
        -- if place < wide * high - wide:
        refine ts_cons (ts_if (xct cx_lt (np (α := Int) 2) (XE.v (k := true) (xsub (XE.v (k := true) (xmul (np (α := Int) 0) (np (α := Int) 1) (.inl ⟨by omega, by omega⟩))) (np (α := Int) 0)))) (fun h4 => ?_) (fun h4 => ?_))
        · skip
          -- found.append(place + wide)
          refine ts_append (k := true) 4 rfl (xadd (np (α := Int) 2) (np (α := Int) 0)) (by first | decide | (simp only [List.length_append, List.length_cons, List.length_nil, sizeLine_eq]; omega)) ?_
          refine ts_end ?_
          -- return found
          refine ts_reto 4 rfl ?_
          refine RDO.cast rd ?_; simp only [decide_eq_true_eq, decide_eq_false_iff_not] at *; simp [Fl.beside, *]
        · skip
          refine ts_end ?_
          -- return found
          refine ts_reto 4 rfl ?_
          refine RDO.cast rd ?_; simp only [decide_eq_true_eq, decide_eq_false_iff_not] at *; simp [Fl.beside, *]
      · skip
        refine ts_end ?_
        -- if place < wide * high - wide:
        refine ts_cons (ts_if (xct cx_lt (np (α := Int) 2) (XE.v (k := true) (xsub (XE.v (k := true) (xmul (np (α := Int) 0) (np (α := Int) 1) (.inl ⟨by omega, by omega⟩))) (np (α := Int) 0)))) (fun h4 => ?_) (fun h4 => ?_))
        · skip
          -- found.append(place + wide)
          refine ts_append (k := true) 4 rfl (xadd (np (α := Int) 2) (np (α := Int) 0)) (by first | decide | (simp only [List.length_append, List.length_cons, List.length_nil, sizeLine_eq]; omega)) ?_
          refine ts_end ?_
          -- return found
          refine ts_reto 4 rfl ?_
          refine RDO.cast rd ?_; simp only [decide_eq_true_eq, decide_eq_false_iff_not] at *; simp [Fl.beside, *]
        · skip
          refine ts_end ?_
          -- return found
          refine ts_reto 4 rfl ?_
          refine RDO.cast rd ?_; simp only [decide_eq_true_eq, decide_eq_false_iff_not] at *; simp [Fl.beside, *]
  · skip
    refine ts_end ?_
    -- if column < wide - 1:
    refine ts_cons (ts_if (xct cx_lt (nv (α := Int) 3) (XE.v (k := true) (xsub (np (α := Int) 0) iv))) (fun h2 => ?_) (fun h2 => ?_))
    · skip
      -- found.append(place + 1)
      refine ts_append (k := true) 4 rfl (xadd (np (α := Int) 2) iv) (by first | decide | (simp only [List.length_append, List.length_cons, List.length_nil, sizeLine_eq]; omega)) ?_
      refine ts_end ?_
      -- if place >= wide:
      refine ts_cons (ts_if (xct cx_ge (np (α := Int) 2) (np (α := Int) 0)) (fun h3 => ?_) (fun h3 => ?_))
      · skip
        -- found.append(place - wide)
        refine ts_append (k := true) 4 rfl (xsub (np (α := Int) 2) (np (α := Int) 0)) (by first | decide | (simp only [List.length_append, List.length_cons, List.length_nil, sizeLine_eq]; omega)) ?_
        refine ts_end ?_
        -- if place < wide * high - wide:
        refine ts_cons (ts_if (xct cx_lt (np (α := Int) 2) (XE.v (k := true) (xsub (XE.v (k := true) (xmul (np (α := Int) 0) (np (α := Int) 1) (.inl ⟨by omega, by omega⟩))) (np (α := Int) 0)))) (fun h4 => ?_) (fun h4 => ?_))
        · skip
          -- found.append(place + wide)
          refine ts_append (k := true) 4 rfl (xadd (np (α := Int) 2) (np (α := Int) 0)) (by first | decide | (simp only [List.length_append, List.length_cons, List.length_nil, sizeLine_eq]; omega)) ?_
          refine ts_end ?_
          -- return found
          refine ts_reto 4 rfl ?_
          refine RDO.cast rd ?_; simp only [decide_eq_true_eq, decide_eq_false_iff_not] at *; simp [Fl.beside, *]
        · skip
          refine ts_end ?_
          -- return found
          refine ts_reto 4 rfl ?_
          refine RDO.cast rd ?_; simp only [decide_eq_true_eq, decide_eq_false_iff_not] at *; simp [Fl.beside, *]
      · skip
        refine ts_end ?_
        -- if place < wide * high - wide:
        refine ts_cons (ts_if (xct cx_lt (np (α := Int) 2) (XE.v (k := true) (xsub (XE.v (k := true) (xmul (np (α := Int) 0) (np (α := Int) 1) (.inl ⟨by omega, by omega⟩))) (np (α := Int) 0)))) (fun h4 => ?_) (fun h4 => ?_))
        · skip
          -- found.append(place + wide)
          refine ts_append (k := true) 4 rfl (xadd (np (α := Int) 2) (np (α := Int) 0)) (by first | decide | (simp only [List.length_append, List.length_cons, List.length_nil, sizeLine_eq]; omega)) ?_
          refine ts_end ?_
          -- return found
          refine ts_reto 4 rfl ?_
          refine RDO.cast rd ?_; simp only [decide_eq_true_eq, decide_eq_false_iff_not] at *; simp [Fl.beside, *]
        · skip
          refine ts_end ?_
          -- return found
          refine ts_reto 4 rfl ?_
          refine RDO.cast rd ?_; simp only [decide_eq_true_eq, decide_eq_false_iff_not] at *; simp [Fl.beside, *]
    · skip
      refine ts_end ?_
      -- if place >= wide:
      refine ts_cons (ts_if (xct cx_ge (np (α := Int) 2) (np (α := Int) 0)) (fun h3 => ?_) (fun h3 => ?_))
      · skip
        -- found.append(place - wide)
        refine ts_append (k := true) 4 rfl (xsub (np (α := Int) 2) (np (α := Int) 0)) (by first | decide | (simp only [List.length_append, List.length_cons, List.length_nil, sizeLine_eq]; omega)) ?_
        refine ts_end ?_
        -- if place < wide * high - wide:
        refine ts_cons (ts_if (xct cx_lt (np (α := Int) 2) (XE.v (k := true) (xsub (XE.v (k := true) (xmul (np (α := Int) 0) (np (α := Int) 1) (.inl ⟨by omega, by omega⟩))) (np (α := Int) 0)))) (fun h4 => ?_) (fun h4 => ?_))
        · skip
          -- found.append(place + wide)
          refine ts_append (k := true) 4 rfl (xadd (np (α := Int) 2) (np (α := Int) 0)) (by first | decide | (simp only [List.length_append, List.length_cons, List.length_nil, sizeLine_eq]; omega)) ?_
          refine ts_end ?_
          -- return found
          refine ts_reto 4 rfl ?_
          refine RDO.cast rd ?_; simp only [decide_eq_true_eq, decide_eq_false_iff_not] at *; simp [Fl.beside, *]
        · skip
          refine ts_end ?_
          -- return found
          refine ts_reto 4 rfl ?_
          refine RDO.cast rd ?_; simp only [decide_eq_true_eq, decide_eq_false_iff_not] at *; simp [Fl.beside, *]
      · skip
        refine ts_end ?_
        -- if place < wide * high - wide:
        refine ts_cons (ts_if (xct cx_lt (np (α := Int) 2) (XE.v (k := true) (xsub (XE.v (k := true) (xmul (np (α := Int) 0) (np (α := Int) 1) (.inl ⟨by omega, by omega⟩))) (np (α := Int) 0)))) (fun h4 => ?_) (fun h4 => ?_))
        · skip
          -- found.append(place + wide)
          refine ts_append (k := true) 4 rfl (xadd (np (α := Int) 2) (np (α := Int) 0)) (by first | decide | (simp only [List.length_append, List.length_cons, List.length_nil, sizeLine_eq]; omega)) ?_
          refine ts_end ?_
          -- return found
          refine ts_reto 4 rfl ?_
          refine RDO.cast rd ?_; simp only [decide_eq_true_eq, decide_eq_false_iff_not] at *; simp [Fl.beside, *]
        · skip
          refine ts_end ?_
          -- return found
          refine ts_reto 4 rfl ?_
          refine RDO.cast rd ?_; simp only [decide_eq_true_eq, decide_eq_false_iff_not] at *; simp [Fl.beside, *]
abbrev s_come_to : Stmt := topS 13
theorem sc_come_to : FnScope ["wide", "high", "starts", "some", "seen", "row", "place", "other"] ["wide", "high", "starts", "some"] (defScope s_come_to) := ⟨rfl, rfl, rfl, by decide +kernel, rfl, by decide +kernel, by decide +kernel⟩
theorem ok_come_to (U : FnAt K mg "come_to" s_come_to ["wide", "high", "starts", "some"]) (c_beside : CalL P w K mg base 1 "beside" (so3 K Fl.P_beside Fl.beside)) (ml : mg "len" = none)   : CalL P w K mg base 2 "come_to" (so4 K Fl.P_come Fl.M_come) := by
  refine cal_o U sc_come_to rfl fun f cdv Ar outer s H E hr ⟨wide, high, starts, sm, ()⟩ D hpre rd => ?_
  replace c_beside := c_beside.at hr
  replace hpre : Fl.P_come wide high starts sm := hpre
  replace rd : RDO K H D (Fl.M_come wide high starts sm) := rd
  have hu := hu_of hr
  change TSs _ H H [pr wide, pr high, pr starts, pr sm, junk, junk, junk, junk] _ D
  obtain ⟨p1, p2, p3, p4, p5, p6⟩ := hpre
  -- seen = {}
  refine ts_seto (k := true) 4 sc_come_to.nd (xdnew (κ := Int) (β := Bool)) ?_
  -- row = [place for place in starts if place in some]
  refine ts_setLc (k := true) 5 [("place", 6)] rfl sc_come_to.nd (blkOk_by (N := ["wide", "high", "starts", "some", "seen", "row", "place", "other"]) (sc := defScope s_come_to) (by decide +kernel)) ⟨⟨_, _, fun x => _, (xi_sq (k := false) (vp (α := (Sq Int)) 2)), (fun x _ _ _ _ _ => (tg_name 6 sc_come_to.nd rfl)), (by decide), ⟨rfl, trivial⟩, .inr ⟨_, rfl, fun x hx _ _ _ _ _ _ => (xct cx_inQ (nv (α := Int) 6) (XE.v (vp (α := (Sq Int)) 3)))⟩, (fun x hx hp _ _ _ _ _ _ => (XV.fz (nv (α := Int) 6)))⟩⟩ (by first | (rw [sizeLine_eq]; omega) | (rw [sizeLine_eq]; have := Fl.beside_len wide high (rw.getLast hne); omega)) ?_ (sw_true rfl rfl rfl (by decide +kernel))
  -- while len(row) > 0:
  refine ts_weak [pr wide, pr high, pr starts, pr sm, ownd true (Dct.mk [] : Dct Int Bool), ownd true (starts.items.filter fun x => decide (x ∈ sm.items)), junk, junk] (.cons .refl (.cons .refl (.cons .refl (.cons .refl (.cons .refl (.cons (.ow (List.map_id' _)) (.cons .refl (.cons .refl .nil)))))))) ?_
  refine ts_cons (ts_while PassesOwn.never (fun n G => ∃ (sn rw : List Int), G = [pr wide, pr high, pr starts, pr sm, ownd true (Dct.mk (sn.map fun x => (x, true)) : Dct Int Bool), ownd true rw, junk, junk] ∧ n ≤ 1000 ∧ Fl.FInv (Fl.beside wide high) sm.items (Fl.come wide high starts.items sm.items) n sn rw) ⟨_, [], _, rfl, by omega, Fl.FInv.start _ _ _⟩ (fun n G F1 hI => ?_))
  obtain ⟨sn, rw, rfl, hi⟩ := hI
  obtain ⟨hn, hi⟩ := hi
  refine ⟨_, (xct cx_gt (XE.v (k := true) (xlen ml (on (α := (List Int)) 5))) iv), fun h1 => ?_, fun h1 F σ H A => ?_⟩
  · skip
    have hne : rw ≠ [] := by rintro rfl; simp at h1
    -- place = row.pop()
    refine ts_setpop 6 5 sc_come_to.nd rfl (Fl.last_at hne) ?_
    -- if place not in seen:
    refine ts_cons (ts_if (xdninT hu (nv (α := Int) 6) (on (α := (Dct Int Bool)) 4)) (fun h2 => ?_) (fun h2 => ?_))
    · skip
      -- seen[place] = True
      refine ts_dput (k := true) 4 hu rfl (XV.fz bv) (nv (α := Int) 6) (by have := hi.sz; rw [List.length_map, sizeLine_eq]; omega) ?_
      -- row.extend([other for other in beside(wide, high, place) if other in some])
      refine ts_extend (k := true) 5 rfl (XO.fz (xlc (k := true) [("other", 7)] rfl sc_come_to.nd (blkOk_by (N := ["wide", "high", "starts", "some", "seen", "row", "place", "other"]) (sc := defScope s_come_to) (by decide +kernel)) ⟨⟨_, _, fun x => _, (xi_list (k := true) (XO.fz (xco3 c_beside (ya (np (α := Int) 0) (ya (np (α := Int) 1) (ya (nv (α := Int) 6) y0))) ⟨by omega, by omega, by omega, by omega⟩))), (fun x _ _ _ _ _ => (tg_name 7 sc_come_to.nd rfl)), (by decide), ⟨rfl, trivial⟩, .inr ⟨_, rfl, fun x hx _ _ _ _ _ _ => (xct cx_inQ (nv (α := Int) 7) (XE.v (vp (α := (Sq Int)) 3)))⟩, (fun x hx hp _ _ _ _ _ _ => (XV.fz (nv (α := Int) 7)))⟩⟩ (by first | (rw [sizeLine_eq]; omega) | (rw [sizeLine_eq]; have := Fl.beside_len wide high (rw.getLast hne); omega)))) (by have := hi.mu; have := Fl.beside_len wide high (rw.getLast hne); simp only [List.map_id', List.length_map, List.length_dropLast, sizeLine_eq]; have := List.length_filter_le (fun x => decide (x ∈ sm.items)) (Fl.beside wide high (rw.getLast hne)); omega) ?_
      refine ts_end ?_
      simp only [Fl.dGet_seen, Bool.not_eq_true', decide_eq_false_iff_not] at h2
      obtain ⟨m, rfl, hi2⟩ := hi.new hne h2 (Fl.beside_len wide high)
      refine ts_loop (.cons .refl (.cons .refl (.cons .refl (.cons .refl (.cons (.ow (by rw [Fl.dPut_seen h2])) (.cons (.ow (by rw [List.map_id'])) (.cons .junk (.cons .refl .nil)))))))) ⟨m, by omega, _, _, rfl, by omega, hi2⟩
    · skip
      refine ts_end ?_
      simp only [Fl.dGet_seen, Bool.not_eq_false', decide_eq_true_eq] at h2
      obtain ⟨m, rfl, hi2⟩ := hi.old hne h2
      refine ts_loop (.cons .refl (.cons .refl (.cons .refl (.cons .refl (.cons .refl (.cons .refl (.cons .junk (.cons .refl .nil)))))))) ⟨m, by omega, _, _, rfl, by omega, hi2⟩
  · refine ts_on A ?_
    have hne : rw = [] := by cases rw with | nil => rfl | cons a t => (exfalso; simp only [decide_eq_false_iff_not, List.length_cons] at h1; omega)
    subst hne
    have e := hi.done
    -- return seen
    refine ts_reto 4 rfl ?_
    exact RDO.cast rd (by rw [e]; rfl)
abbrev s_is_outermost : Stmt := topS 14
theorem sc_is_outermost : FnScope ["wide", "high", "place"] ["wide", "high", "place"] (defScope s_is_outermost) := ⟨rfl, rfl, rfl, by decide +kernel, rfl, by decide +kernel, by decide +kernel⟩
theorem ok_is_outermost (U : FnAt K mg "is_outermost" s_is_outermost ["wide", "high", "place"])     : CalL P w K mg base 1 "is_outermost" (sv3 K Fl.P_isOut Fl.isOut) := by
  refine cal_v U sc_is_outermost rfl fun f cdv Ar outer s H E hr ⟨wide, high, place, ()⟩ D hpre rd => ?_
  replace hpre : Fl.P_isOut wide high place := hpre
  replace rd : RD K H D (Fl.isOut wide high place) := rd
  have hu := hu_of hr
  change TSs _ H H [pr wide, pr high, pr place] _ D
  obtain ⟨p1, p2, p3, p4⟩ := hpre
  -- return place % wide in (0, wide - 1) or place // wide in (0, high - 1)
  refine ts_ret (xor (XE.v (k := true) (xcv cx_inT (XE.v (k := true) (xmod (np (α := Int) 2) (np (α := Int) 0) (by first | omega | decide | assumption))) (XE.v (k := true) (xtup (xl (XV.fz iv) (xl (xsub (np (α := Int) 0) iv) (xl0 (α := Int)))))))) (fun h1 => (xone (XE.v (k := true) (xcv cx_inT (XE.v (k := true) (xdiv (np (α := Int) 2) (np (α := Int) 0) ⟨by omega, by omega⟩)) (XE.v (k := true) (xtup (xl (XV.fz iv) (xl (xsub (np (α := Int) 1) iv) (xl0 (α := Int))))))))))) ?_
  exact rd
abbrev s_are_fields : Stmt := topS 15
theorem sc_are_fields : FnScope ["wide", "high", "fields", "last", "place"] ["wide", "high", "fields"] (defScope s_are_fields) := ⟨rfl, rfl, rfl, by decide +kernel, rfl, by decide +kernel, by decide +kernel⟩
theorem ok_are_fields (U : FnAt K mg "are_fields" s_are_fields ["wide", "high", "fields"]) (c_is_within : CalL P w K mg base 1 "is_within" (sv3 K Fl.P_within Fl.within)) (misinstance : mg "isinstance" = none) (mlist : mg "list" = none) (mtuple : mg "tuple" = none) (ml : mg "len" = none)   : CalL P w K mg base 2 "are_fields" (sv3 K Fl.P_are Fl.M_are) := by
  refine cal_v U sc_are_fields rfl fun f cdv Ar outer s H E hr ⟨wide, high, fields, ()⟩ D hpre rd => ?_
  replace c_is_within := c_is_within.at hr
  replace hpre : Fl.P_are wide high fields := hpre
  replace rd : RD K H D (Fl.M_are wide high fields) := rd
  have hu := hu_of hr
  change TSs _ H H [pr wide, pr high, pr fields, junk, junk] _ D
  obtain ⟨p1, p2, p3, p4, p5⟩ := hpre
  -- if not isinstance(fields, (list, tuple)) or len(fields) == 0:
  refine ts_cons (ts_if (XW.t (xwor (xtnot (XV.t (XE.v (k := true) (xisiQ misinstance mlist mtuple (XE.v (vp (α := (Sq Int)) 2)))))) (fun h1 => (xwor1 (xct cx_eq (XE.v (k := true) (xlenQ ml (XE.v (vp (α := (Sq Int)) 2)))) iv))))) (fun h2 => ?_) (fun h2 => ?_))
  · skip
    -- return False
    refine ts_ret (XV.fz bv) ?_
    simp at h2; exact absurd h2 p5
  · skip
    refine ts_end ?_
    -- last = -1
    refine ts_set (k := true) 3 sc_are_fields.nd (xneg iv) ?_
    -- for place in fields:
    refine ts_weak [pr wide, pr high, pr fields, vl true (-1), junk] (.cons .refl (.cons .refl (.cons .refl (.cons .refl (.cons .refl .nil))))) ?_
    refine ts_cons (ts_for rfl PassesOwn.never (xi_sq (k := false) (vp (α := (Sq Int)) 2)) (fun x => (tg_name 4 sc_are_fields.nd rfl)) (fun r G => ∃ (l : Int), G = [pr wide, pr high, pr fields, vl true l, junk] ∧ Fl.areF wide high l r = Fl.areF wide high (-1) fields.items) ⟨_, rfl, rfl⟩ (fun x r G F1 hx hI => ?_) (fun G F1 F σ H hI A => ?_))
    · obtain ⟨l, rfl, hi⟩ := hI
      -- if not is_within(place, last + 1, wide * high - 1):
      refine ts_cons (ts_if (xtnot (XV.t (XE.v (xcv3 c_is_within (ya (nv (α := Int) 4) (ya (XE.v (k := true) (xadd (nv (α := Int) 3) iv)) (ya (XE.v (k := true) (xsub (XE.v (k := true) (xmul (np (α := Int) 0) (np (α := Int) 1) (.inl ⟨by omega, by omega⟩))) iv)) y0))) trivial)))) (fun h3 => ?_) (fun h3 => ?_))
      · skip
        -- return False
        refine ts_ret (XV.fz bv) ?_
        refine RD.cast rd (hi.symm.trans ?_); simp only [Bool.not_eq_true'] at h3; simp [Fl.areF, h3]
      · skip
        refine ts_end ?_
        -- last = place
        refine ts_set (k := true) 3 sc_are_fields.nd (XV.fz (nv (α := Int) 4)) ?_
        refine ts_loop (.cons .refl (.cons .refl (.cons .refl (.cons .refl (.cons .junk .nil))))) ⟨_, rfl, ?_⟩
        simp only [Bool.not_eq_false'] at h3
        rw [← hi]; simp [Fl.areF, h3]
    · obtain ⟨l, rfl, hi⟩ := hI
      refine ts_on A ?_
      -- return True
      refine ts_ret (XV.fz bv) ?_
      exact RD.cast rd hi.symm
abbrev s_floor_of : Stmt := topS 16
theorem sc_floor_of : FnScope ["wide", "high", "fields", "bare", "ways_out", "place"] ["wide", "high", "fields"] (defScope s_floor_of) := ⟨rfl, rfl, rfl, by decide +kernel, rfl, by decide +kernel, by decide +kernel⟩
theorem ok_floor_of (U : FnAt K mg "floor_of" s_floor_of ["wide", "high", "fields"]) (c_is_within : CalL P w K mg base 1 "is_within" (sv3 K Fl.P_within Fl.within)) (c_are_fields : CalL P w K mg base 2 "are_fields" (sv3 K Fl.P_are Fl.M_are)) (c_come_to : CalL P w K mg base 2 "come_to" (so4 K Fl.P_come Fl.M_come)) (c_is_outermost : CalL P w K mg base 1 "is_outermost" (sv3 K Fl.P_isOut Fl.isOut)) (ml : mg "len" = none) (mrange : mg "range" = none) (mtuple : mg "tuple" = none) (mMOST : ∃ t, mg "MOST" = some (.int 6 t)) (eApart : ErrF K mg "Apart") (eHollow : ErrF K mg "Hollow") : CalE P w K mg base 3 "floor_of" (sx3 K mg Fx.P_floorX Fx.M_floorX) := by
  refine cal_x U sc_floor_of rfl fun f cdv Ar outer s H E hr ⟨wide, high, fields, ()⟩ D hpre rd rx => ?_
  replace c_is_within := c_is_within.at hr
  replace c_are_fields := c_are_fields.at hr
  replace c_come_to := c_come_to.at hr
  replace c_is_outermost := c_is_outermost.at hr
  replace hpre : Fx.P_floorX wide high fields := hpre
  replace rd : ∀ c, Fx.M_floorX wide high fields = .ok c → RD K H D c := rd
  replace rx : ∀ n, Fx.M_floorX wide high fields = .error n → ∀ C H', mg n = some (.ref C) → Same H H' → E (.ref C) none H' := rx
  have hu := hu_of hr
  change TSs _ H H [pr wide, pr high, pr fields, junk, junk, junk] _ D
  have pl : Fx.Pl wide high fields.items := hpre
  have ar := pl.area
  have fl := pl.len
  have bl := Fl.bare_len (w := wide) (h := high) (fields := fields.items)
  obtain ⟨w1, w6, g1, g6, ne, are⟩ := id pl
  have a1 : Fl.within wide 1 6 = true := by simp [Fl.within]; omega
  have a2 : Fl.within high 1 6 = true := by simp [Fl.within]; omega
  have a3 : Fl.M_are wide high fields = true := are
  have l1 : (cut fields.items none (some 1)).length ≤ 100 := by rw [Fl.cut_1]; have := List.length_take_le 1 fields.items; omega
  have l4 : fields.items.length ≤ 100 := by omega
  have l3 : (List.map (fun x => x) (List.filter (fun x => !decide (x ∈ fields.items)) (rng 0 (wide * high).toNat))).length ≤ 100 := by rw [List.map_id']; have := bl; unfold Fl.bareOf at this; omega
  have l2 : (List.map (fun x => x) (List.filter (fun x => Fl.isOut wide high x) (List.map (fun x => x) (List.filter (fun x => !decide (x ∈ fields.items)) (rng 0 (wide * high).toNat))))).length ≤ 100 := by rw [List.length_map]; exact Nat.le_trans (List.length_filter_le _ _) l3
  -- if not is_within(wide, 1, MOST) or not is_within(high, 1, MOST) or (not are_fields(wide, high, fields)):
  refine ts_cons (ts_if (XW.t (xwor (xtnot (XV.t (XE.v (xcv3 c_is_within (ya (np (α := Int) 0) (ya iv (ya (XE.v (k := true) (xgi mMOST)) y0))) trivial)))) (fun h1 => (xwor (xtnot (XV.t (XE.v (xcv3 c_is_within (ya (np (α := Int) 1) (ya iv (ya (XE.v (k := true) (xgi mMOST)) y0))) trivial)))) (fun h2 => (xwor1 (xtnot (XV.t (XE.v (xcv3 c_are_fields (ya (np (α := Int) 0) (ya (np (α := Int) 1) (ya (XE.v (vp (α := (Sq Int)) 2)) y0))) ⟨by omega, by omega, by omega, by omega, ne⟩)))))))))) (fun h3 => ?_) (fun h3 => ?_))
  · skip
    -- raise NoFloor('no numbers of places')
    rw [a1, a2, a3] at h3; exact absurd h3 (by decide)
  · skip
    refine ts_end ?_
    -- if len(come_to(wide, high, fields[:1], fields)) < len(fields):
    refine ts_cons (ts_if (xct cx_lt (XE.v (k := true) (xdlen ml hoI (XE.v (XO.fzd (xcd4 c_come_to (ya (np (α := Int) 0) (ya (np (α := Int) 1) (ya (XE.v (xslQ (vp (α := (Sq Int)) 2) xp0 (xp iv))) (ya (XE.v (vp (α := (Sq Int)) 2)) y0)))) ⟨by omega, by omega, by omega, by omega, by first | exact l1 | exact l2 | exact l3, by first | exact l1 | exact l2 | exact l3 | exact l4⟩))))) (XE.v (k := true) (xlenQ ml (XE.v (vp (α := (Sq Int)) 2))))) (fun h4 => ?_) (fun h4 => ?_))
    · skip
      -- raise Apart("fields that don't hang together")
      simp only [Fl.M_come, List.length_map, Fl.cut_1, decide_eq_true_eq] at h4
      obtain ⟨C, hE⟩ := eApart.err
      exact ts_raise hE (by exact takes_of rfl rfl rfl rfl) (fun H' sH => rx _ (Fx.x_apart (by omega)) C H' hE.g sH)
    · skip
      refine ts_end ?_
      -- bare = [place for place in range(wide * high) if place not in fields]
      refine ts_setLc (k := true) 3 [("place", 5)] rfl sc_floor_of.nd (blkOk_by (N := ["wide", "high", "fields", "bare", "ways_out", "place"]) (sc := defScope s_floor_of) (by decide +kernel)) ⟨⟨_, _, fun x => _, (xi_range1 (k := true) mrange (XE.v (k := true) (xmul (np (α := Int) 0) (np (α := Int) 1) (.inl ⟨by omega, by omega⟩))) ⟨by omega, by omega⟩), (fun x _ _ _ _ _ => (tg_name 5 sc_floor_of.nd rfl)), (by decide), ⟨rfl, trivial⟩, .inr ⟨_, rfl, fun x hx _ _ _ _ _ _ => (xct cx_ninQ (nv (α := Int) 5) (XE.v (vp (α := (Sq Int)) 2)))⟩, (fun x hx hp _ _ _ _ _ _ => (XV.fz (nv (α := Int) 5)))⟩⟩ (by first | (rw [rng_length, sizeLine_eq]; omega) | (rw [sizeLine_eq]; exact Nat.le_trans l3 (by decide))) ?_ (sw_true rfl rfl rfl (by decide +kernel))
      refine ts_freeze 3 rfl ?_
      -- ways_out = [place for place in bare if is_outermost(wide, high, place)]
      refine ts_setLc (k := true) 4 [("place", 5)] rfl sc_floor_of.nd (blkOk_by (N := ["wide", "high", "fields", "bare", "ways_out", "place"]) (sc := defScope s_floor_of) (by decide +kernel)) ⟨⟨_, _, fun x => _, (xi_list (k := true) (vn (α := (List Int)) (k := true) 3)), (fun x _ _ _ _ _ => (tg_name 5 sc_floor_of.nd rfl)), (by decide), ⟨rfl, trivial⟩, .inr ⟨_, rfl, fun x hx _ _ _ _ _ _ => (XV.t (XE.v (xcv3 c_is_outermost (ya (np (α := Int) 0) (ya (np (α := Int) 1) (ya (nv (α := Int) 5) y0))) ⟨by omega, by omega, by omega, by omega⟩)))⟩, (fun x hx hp _ _ _ _ _ _ => (XV.fz (nv (α := Int) 5)))⟩⟩ (by first | (rw [rng_length, sizeLine_eq]; omega) | (rw [sizeLine_eq]; exact Nat.le_trans l3 (by decide))) ?_ (sw_true rfl rfl rfl (by decide +kernel))
      refine ts_freeze 4 rfl ?_
      -- if len(come_to(wide, high, ways_out, bare)) < len(bare):
      refine ts_cons (ts_if (xct cx_lt (XE.v (k := true) (xdlen ml hoI (XE.v (XO.fzd (xcd4 c_come_to (ya (np (α := Int) 0) (ya (np (α := Int) 1) (ya (XV.sqL (XE.v (vn (α := (List Int)) (k := true) 4))) (ya (XV.sqL (XE.v (vn (α := (List Int)) (k := true) 3))) y0)))) ⟨by omega, by omega, by omega, by omega, by first | exact l1 | exact l2 | exact l3, by first | exact l1 | exact l2 | exact l3 | exact l4⟩))))) (XE.v (k := true) (xlen ml (XE.v (vn (α := (List Int)) (k := true) 3))))) (fun h5 => ?_) (fun h5 => ?_))
      · skip
        -- raise Hollow('a hole')
        simp only [Fl.M_come, List.length_map, Fl.cut_1, decide_eq_false_iff_not] at h4
        simp only [Fl.M_come, List.length_map, List.map_id', decide_eq_true_eq] at h5
        obtain ⟨C, hE⟩ := eHollow.err
        exact ts_raise hE (by exact takes_of rfl rfl rfl rfl) (fun H' sH => rx _ (Fx.x_hollow (by omega) (by unfold Fl.bareOf; omega)) C H' hE.g sH)
      · skip
        refine ts_end ?_
        -- return (wide, high, tuple(fields))
        refine ts_ret (xt3 (k := true) (xf (XV.fz (np (α := Int) 0)) (xf (XV.fz (np (α := Int) 1)) (xf (XE.p (xtupOfQ (k := false) mtuple (vp (α := (Sq Int)) 2))) xf0)))) ?_
        simp only [Fl.M_come, List.length_map, Fl.cut_1, decide_eq_false_iff_not] at h4
        simp only [Fl.M_come, List.length_map, List.map_id', decide_eq_false_iff_not] at h5
        exact rd _ (Fx.x_ok (by omega) (by unfold Fl.bareOf; omega))
abbrev s__law_cell : Stmt := topS 18
theorem sc__law_cell : FnScope ["_law_script", "_law_k", "_law_number"] ["_law_script", "_law_k"] (defScope s__law_cell) := ⟨rfl, rfl, rfl, by decide +kernel, rfl, by decide +kernel, by decide +kernel⟩
theorem ok__law_cell (U : FnAt K mg "_law_cell" s__law_cell ["_law_script", "_law_k"])  (ml : mg "len" = none)   : CalL P w K mg base 1 "_law_cell" (sv2 K Fl.P_cell Fl.cell) := by
  refine cal_v U sc__law_cell rfl fun f cdv Ar outer s H E hr ⟨z, k, ()⟩ D hpre rd => ?_
  replace hpre : Fl.P_cell z k := hpre
  replace rd : RD K H D (Fl.cell z k) := rd
  have hu := hu_of hr
  change TSs _ H H [pr z, pr k, junk] _ D
  obtain ⟨so, k0, k1⟩ := hpre
  have kk := Fl.kk_le k0 k1
  -- if _law_k < len(_law_script):
  refine ts_cons (ts_if (xct cx_lt (np (α := Int) 1) (XE.v (k := true) (xlenS ml (XE.v (vp (α := Scr) 0))))) (fun h1 => ?_) (fun h1 => ?_))
  · skip
    -- return _law_script[_law_k]
    refine ts_ret (xixS (XE.v (vp (α := Scr) 0)) (np (α := Int) 1) (Fl.itm_at k0 (of_decide_eq_true h1))) ?_
    exact RD.cast rd (if_pos (of_decide_eq_true h1))
  · skip
    refine ts_end ?_
    -- _law_number = _law_k * _law_k * 7919 + 104729 * _law_k + 11
    refine ts_set (k := true) 2 sc__law_cell.nd (xadd (XE.v (k := true) (xadd (XE.v (k := true) (xmul (XE.v (k := true) (xmul (np (α := Int) 1) (np (α := Int) 1) (.inl ⟨by omega, by omega⟩))) iv (.inl ⟨by omega, by omega⟩))) (XE.v (k := true) (xmul iv (np (α := Int) 1) (.inr ⟨by omega, by omega⟩))))) iv) ?_
    -- if len(_law_script) > 0:
    refine ts_cons (ts_if (xct cx_gt (XE.v (k := true) (xlenS ml (XE.v (vp (α := Scr) 0)))) iv) (fun h2 => ?_) (fun h2 => ?_))
    · skip
      -- _law_number = _law_number + _law_script[_law_k % len(_law_script)] * (_law_k + 3)
      refine ts_set (k := true) 2 sc__law_cell.nd (xadd (nv (α := Int) 2) (XE.v (k := true) (xmul (XE.v (k := true) (xixS (XE.v (vp (α := Scr) 0)) (XE.v (k := true) (xmod (np (α := Int) 1) (XE.v (k := true) (xlenS ml (XE.v (vp (α := Scr) 0)))) (of_decide_eq_true h2))) (Fl.itm_at (Int.emod_nonneg _ (Int.ne_of_gt (of_decide_eq_true h2))) (Int.emod_lt_of_pos _ (of_decide_eq_true h2))))) (XE.v (k := true) (xadd (np (α := Int) 1) iv)) (.inr ⟨by omega, by omega⟩)))) ?_
      refine ts_end ?_
      -- return _law_number * _law_number % 2147483629
      refine ts_ret (xmod (XE.v (k := true) (xmulB (nv (α := Int) 2) (nv (α := Int) 2) (Fl.cell_mulB so ⟨k0, k1⟩ _))) iv (by first | omega | decide | assumption)) ?_
      exact RD.cast rd ((if_neg (of_decide_eq_false h1)).trans (if_pos (of_decide_eq_true h2)))
    · skip
      refine ts_end ?_
      -- return _law_number * _law_number % 2147483629
      refine ts_ret (xmod (XE.v (k := true) (xmul (nv (α := Int) 2) (nv (α := Int) 2) (.inl ⟨by omega, by omega⟩))) iv (by first | omega | decide | assumption)) ?_
      exact RD.cast rd ((if_neg (of_decide_eq_false h1)).trans (if_neg (of_decide_eq_false h2)))
abbrev s__law_row : Stmt := topS 19
theorem sc__law_row : FnScope ["_law_script", "_law_k", "_law_count", "_law_base", "_law_cell_here", "_law_found", "_law_j", "_law_one", "_law_two"] ["_law_script", "_law_k", "_law_count", "_law_base"] (defScope s__law_row) := ⟨rfl, rfl, rfl, by decide +kernel, rfl, by decide +kernel, by decide +kernel⟩
theorem ok__law_row (U : FnAt K mg "_law_row" s__law_row ["_law_script", "_law_k", "_law_count", "_law_base"]) (c__law_cell : CalL P w K mg base 1 "_law_cell" (sv2 K Fl.P_cell Fl.cell)) (mrange : mg "range" = none)   : CalL P w K mg base 2 "_law_row" (so4 K Fl.P_row Fl.row) := by
  refine cal_o U sc__law_row rfl fun f cdv Ar outer s H E hr ⟨z, k, count, base, ()⟩ D hpre rd => ?_
  replace c__law_cell := c__law_cell.at hr
  replace hpre : Fl.P_row z k count base := hpre
  replace rd : RDO K H D (Fl.row z k count base) := rd
  have hu := hu_of hr
  change TSs _ H H [pr z, pr k, pr count, pr base, junk, junk, junk, junk, junk] _ D
  obtain ⟨so, p1, p2, p3, p4, p5, p6⟩ := hpre
  -- _law_cell_here = _law_cell(_law_script, _law_k)
  refine ts_set (k := true) 4 sc__law_row.nd (xcv2 c__law_cell (ya (XE.v (vp (α := Scr) 0)) (ya (np (α := Int) 1) y0)) ⟨so, by omega, by omega⟩) ?_
  -- _law_found = []
  refine ts_seto (k := true) 5 sc__law_row.nd (xlist (xl0 (α := Int))) ?_
  -- for _law_j in range(_law_count):
  refine ts_weak [pr z, pr k, pr count, pr base, vl true (Fl.cell z k), ownd true ([] : List Int), junk, junk, junk] (.cons .refl (.cons .refl (.cons .refl (.cons .refl (.cons .refl (.cons .refl (.cons .refl (.cons .refl (.cons .refl .nil))))))))) ?_
  refine ts_cons (ts_for rfl PassesOwn.never (xi_range1 (k := true) mrange (np (α := Int) 2) ⟨by omega, by omega⟩) (fun x => (tg_name 6 sc__law_row.nd rfl)) (fun r G => ∃ (c : Int) (fd : List Int), G = [pr z, pr k, pr count, pr base, vl true c, ownd true fd, junk, junk, junk] ∧ (r.foldl (Fl.rstep (decide (Fl.cell z 0 % 2 = 0)) base) (c, fd)).2 = Fl.row z k count base ∧ fd.length + r.length = count.toNat) ⟨_, _, rfl, rfl, (by rw [rng_length]; exact Nat.zero_add _)⟩ (fun x r G F1 hx hI => ?_) (fun G F1 F σ H hI A => ?_))
  · obtain ⟨c, fd, rfl, hi⟩ := hI
    have hj := Fl.rng_in hx
    have jj := Fl.kk_le hj.1 (m := 1000) (by omega)
    -- if _law_cell(_law_script, 0) % 2 == 0:
    refine ts_cons (ts_if (xct cx_eq (XE.v (k := true) (xmod (XE.v (xcv2 c__law_cell (ya (XE.v (vp (α := Scr) 0)) (ya iv y0)) ⟨so, by omega, by omega⟩)) iv (by first | omega | decide | assumption))) iv) (fun h1 => ?_) (fun h1 => ?_))
    · skip
      -- _law_found.append(_law_cell_here % _law_base)
      refine ts_append (k := true) 5 rfl (xmod (nv (α := Int) 4) (np (α := Int) 3) (by first | omega | decide | assumption)) (by have := hi.2; simp only [List.length_cons] at this; rw [sizeLine_eq]; omega) ?_
      -- _law_cell_here = _law_cell_here // _law_base
      refine ts_set (k := true) 4 sc__law_row.nd (xdiv (nv (α := Int) 4) (np (α := Int) 3) ⟨by omega, by omega⟩) ?_
      refine ts_end ?_
      refine ts_loop (.cons .refl (.cons .refl (.cons .refl (.cons .refl (.cons .refl (.cons .refl (.cons .junk (.cons .refl (.cons .refl .nil))))))))) ⟨_, _, rfl, ?_⟩
      exact ⟨(congrArg Prod.snd (Fl.row_t h1)).symm.trans hi.1, by have := hi.2; simp only [List.length_append, List.length_cons, List.length_nil] at *; omega⟩
    · skip
      -- _law_one = (_law_cell_here % 2147483647 * (2 * _law_j + 69621) + _law_j * _law_j * 48271 + 7) % 2147483629
      refine ts_set (k := true) 7 sc__law_row.nd (xmod (XE.v (k := true) (xadd (XE.v (k := true) (xadd (XE.v (k := true) (xmul (XE.v (k := true) (xmod (nv (α := Int) 4) iv (by first | omega | decide | assumption))) (XE.v (k := true) (xadd (XE.v (k := true) (xmul iv (nv (α := Int) 6) (.inl ⟨by omega, by omega⟩))) iv)) (.inl ⟨by omega, by omega⟩))) (XE.v (k := true) (xmul (XE.v (k := true) (xmul (nv (α := Int) 6) (nv (α := Int) 6) (.inl ⟨by omega, by omega⟩))) iv (.inl ⟨by omega, by omega⟩))))) iv)) iv (by first | omega | decide | assumption)) ?_
      -- _law_two = _law_one * _law_one % 2147483587 * 16807 % 2147483647
      refine ts_set (k := true) 8 sc__law_row.nd (xmod (XE.v (k := true) (xmul (XE.v (k := true) (xmod (XE.v (k := true) (xmul (nv (α := Int) 7) (nv (α := Int) 7) (.inl ⟨by omega, by omega⟩))) iv (by first | omega | decide | assumption))) iv (.inl ⟨by omega, by omega⟩))) iv (by first | omega | decide | assumption)) ?_
      -- _law_found.append(_law_two // 7 % _law_base)
      refine ts_append (k := true) 5 rfl (xmod (XE.v (k := true) (xdiv (nv (α := Int) 8) iv ⟨by omega, by omega⟩)) (np (α := Int) 3) (by first | omega | decide | assumption)) (by have := hi.2; simp only [List.length_cons] at this; rw [sizeLine_eq]; omega) ?_
      refine ts_end ?_
      refine ts_loop (.cons .refl (.cons .refl (.cons .refl (.cons .refl (.cons .refl (.cons .refl (.cons .junk (.cons .junk (.cons .junk .nil))))))))) ⟨_, _, rfl, ?_⟩
      exact ⟨(congrArg Prod.snd (Fl.row_f h1)).symm.trans hi.1, by have := hi.2; simp only [List.length_append, List.length_cons, List.length_nil] at *; omega⟩
  · obtain ⟨c, fd, rfl, hi⟩ := hI
    refine ts_on A ?_
    -- return _law_found
    refine ts_reto 5 rfl ?_
    exact RDO.cast rd hi.1.symm
abbrev s__law_beside : Stmt := topS 20
theorem sc__law_beside : FnScope ["_law_wide", "_law_high", "_law_place", "_law_found", "_law_other"] ["_law_wide", "_law_high", "_law_place"] (defScope s__law_beside) := ⟨rfl, rfl, rfl, by decide +kernel, rfl, by decide +kernel, by decide +kernel⟩
theorem ok__law_beside (U : FnAt K mg "_law_beside" s__law_beside ["_law_wide", "_law_high", "_law_place"])     : CalL P w K mg base 1 "_law_beside" (so3 K Fl.P_wh3 Fl.lbeside) := by
  refine cal_o U sc__law_beside rfl fun f cdv Ar outer s H E hr ⟨w, h, p, ()⟩ D hpre rd => ?_
  replace hpre : Fl.P_wh3 w h p := hpre
  replace rd : RDO K H D (Fl.lbeside w h p) := rd
  have hu := hu_of hr
  change TSs _ H H [pr w, pr h, pr p, junk, junk] _ D
  obtain ⟨p1, p2, p3, p4⟩ := hpre
  -- _law_found = []
  refine ts_seto (k := true) 3 sc__law_beside.nd (xlist (xl0 (α := Int))) ?_
  -- for _law_other in [_law_place - 1, _law_place + 1]:
  refine ts_weak [pr w, pr h, pr p, ownd true ([] : List Int), junk] (.cons .refl (.cons .refl (.cons .refl (.cons .refl (.cons .refl .nil))))) ?_
  refine ts_cons (ts_for rfl PassesOwn.never (xi_list (k := true) (XO.fz (xlist (xl (xsub (np (α := Int) 2) iv) (xl (xadd (np (α := Int) 2) iv) (xl0 (α := Int))))))) (fun x => (tg_name 4 sc__law_beside.nd rfl)) (fun r G => ∃ (fd : List Int), G = [pr w, pr h, pr p, ownd true fd, junk] ∧ fd ++ r.filter (fun o => decide (0 ≤ o) && decide (o / w = p / w)) = [p - 1, p + 1].filter (fun o => decide (0 ≤ o) && decide (o / w = p / w)) ∧ fd.length + r.length ≤ 2) ⟨_, rfl, rfl, by simp⟩ (fun x r G F1 hx hI => ?_) (fun G F1 F σ H hI A => ?_))
  · obtain ⟨fd, rfl, hi⟩ := hI
    -- if _law_other >= 0 and _law_other // _law_wide == _law_place // _law_wide:
    refine ts_cons (ts_if (XW.t (xwand (xct cx_ge (nv (α := Int) 4) iv) (fun h1 => (xwand1 (xct cx_eq (XE.v (k := true) (xdiv (nv (α := Int) 4) (np (α := Int) 0) ⟨by omega, by omega⟩)) (XE.v (k := true) (xdiv (np (α := Int) 2) (np (α := Int) 0) ⟨by omega, by omega⟩))))))) (fun h2 => ?_) (fun h2 => ?_))
    · skip
      -- _law_found.append(_law_other)
      refine ts_append (k := true) 3 rfl (XV.fz (nv (α := Int) 4)) (by have := hi.2; simp only [List.length_cons] at this; rw [sizeLine_eq]; omega) ?_
      refine ts_end ?_
      refine ts_loop (.cons .refl (.cons .refl (.cons .refl (.cons .refl (.cons .junk .nil))))) ⟨_, rfl, ?_⟩
      exact ⟨Fl.flt_t h2 hi.1, by have := hi.2; simp only [List.length_append, List.length_cons, List.length_nil] at *; omega⟩
    · skip
      refine ts_end ?_
      refine ts_loop (.cons .refl (.cons .refl (.cons .refl (.cons .refl (.cons .junk .nil))))) ⟨_, rfl, ?_⟩
      exact ⟨Fl.flt_f h2 hi.1, by have := hi.2; simp only [List.length_cons] at *; omega⟩
  · obtain ⟨fd, rfl, hi⟩ := hI
    refine ts_on A ?_
    -- for _law_other in [_law_place - _law_wide, _law_place + _law_wide]:
    refine ts_weak [pr w, pr h, pr p, ownd true fd, junk] (.cons .refl (.cons .refl (.cons .refl (.cons .refl (.cons .refl .nil))))) ?_
    refine ts_cons (ts_for rfl PassesOwn.never (xi_list (k := true) (XO.fz (xlist (xl (xsub (np (α := Int) 2) (np (α := Int) 0)) (xl (xadd (np (α := Int) 2) (np (α := Int) 0)) (xl0 (α := Int))))))) (fun x => (tg_name 4 sc__law_beside.nd rfl)) (fun r G => ∃ (fd : List Int), G = [pr w, pr h, pr p, ownd true fd, junk] ∧ fd ++ r.filter (fun o => decide (0 ≤ o) && decide (o < w * h)) = Fl.lbeside w h p ∧ fd.length + r.length ≤ 4) ⟨_, rfl, Fl.lb2 hi.1, by have := hi.2; simp only [List.length_cons, List.length_nil] at *; omega⟩ (fun x r G F1 hx hI => ?_) (fun G F1 F σ H hI A => ?_))
    · obtain ⟨fd2, rfl, hi⟩ := hI
      -- if 0 <= _law_other < _law_wide * _law_high:
      refine ts_cons (ts_if (xcht cx_le cx_lt iv (nv (α := Int) 4) (XE.v (k := true) (xmul (np (α := Int) 0) (np (α := Int) 1) (.inl ⟨by omega, by omega⟩)))) (fun h3 => ?_) (fun h3 => ?_))
      · skip
        -- _law_found.append(_law_other)
        refine ts_append (k := true) 3 rfl (XV.fz (nv (α := Int) 4)) (by have := hi.2; simp only [List.length_cons] at this; rw [sizeLine_eq]; omega) ?_
        refine ts_end ?_
        refine ts_loop (.cons .refl (.cons .refl (.cons .refl (.cons .refl (.cons .junk .nil))))) ⟨_, rfl, ?_⟩
        exact ⟨Fl.flt_t h3 hi.1, by have := hi.2; simp only [List.length_append, List.length_cons, List.length_nil] at *; omega⟩
      · skip
        refine ts_end ?_
        refine ts_loop (.cons .refl (.cons .refl (.cons .refl (.cons .refl (.cons .junk .nil))))) ⟨_, rfl, ?_⟩
        exact ⟨Fl.flt_f h3 hi.1, by have := hi.2; simp only [List.length_cons] at *; omega⟩
    · obtain ⟨fd2, rfl, hi⟩ := hI
      refine ts_on A ?_
      -- return _law_found
      refine ts_reto 3 rfl ?_
      exact RDO.cast rd (hi.1.symm.trans (List.append_nil _))
abbrev s__law_flood : Stmt := topS 21
theorem sc__law_flood : FnScope ["_law_wide", "_law_high", "_law_starts", "_law_some", "_law_seen", "_law_row_here", "_law_place", "_law_other"] ["_law_wide", "_law_high", "_law_starts", "_law_some"] (defScope s__law_flood) := ⟨rfl, rfl, rfl, by decide +kernel, rfl, by decide +kernel, by decide +kernel⟩
theorem ok__law_flood (U : FnAt K mg "_law_flood" s__law_flood ["_law_wide", "_law_high", "_law_starts", "_law_some"]) (c__law_beside : CalL P w K mg base 1 "_law_beside" (so3 K Fl.P_wh3 Fl.lbeside)) (ml : mg "len" = none)   : CalL P w K mg base 2 "_law_flood" (so4 K Fl.P_lflood Fl.M_lflood) := by
  refine cal_o U sc__law_flood rfl fun f cdv Ar outer s H E hr ⟨wide, high, starts, sm, ()⟩ D hpre rd => ?_
  replace c__law_beside := c__law_beside.at hr
  replace hpre : Fl.P_lflood wide high starts sm := hpre
  replace rd : RDO K H D (Fl.M_lflood wide high starts sm) := rd
  have hu := hu_of hr
  change TSs _ H H [pr wide, pr high, pr starts, pr sm, junk, junk, junk, junk] _ D
  obtain ⟨p1, p2, p3, p4, p5, p6⟩ := hpre
  -- _law_seen = {}
  refine ts_seto (k := true) 4 sc__law_flood.nd (xdnew (κ := Int) (β := Bool)) ?_
  -- _law_row_here = [_law_place for _law_place in _law_starts if _law_place in _law_some]
  refine ts_setLc (k := true) 5 [("_law_place", 6)] rfl sc__law_flood.nd (blkOk_by (N := ["_law_wide", "_law_high", "_law_starts", "_law_some", "_law_seen", "_law_row_here", "_law_place", "_law_other"]) (sc := defScope s__law_flood) (by decide +kernel)) ⟨⟨_, _, fun x => _, (xi_list (k := false) (vp (α := (List Int)) 2)), (fun x _ _ _ _ _ => (tg_name 6 sc__law_flood.nd rfl)), (by decide), ⟨rfl, trivial⟩, .inr ⟨_, rfl, fun x hx _ _ _ _ _ _ => (xct cx_in (nv (α := Int) 6) (XE.v (vp (α := (List Int)) 3)))⟩, (fun x hx hp _ _ _ _ _ _ => (XV.fz (nv (α := Int) 6)))⟩⟩ (by first | (rw [sizeLine_eq]; omega) | (rw [sizeLine_eq]; have := Fl.lbeside_len wide high (rw.getLast hne); omega)) ?_ (sw_true rfl rfl rfl (by decide +kernel))
  -- while len(_law_row_here) > 0:
  refine ts_weak [pr wide, pr high, pr starts, pr sm, ownd true (Dct.mk [] : Dct Int Bool), ownd true (starts.filter fun x => decide (x ∈ sm)), junk, junk] (.cons .refl (.cons .refl (.cons .refl (.cons .refl (.cons .refl (.cons (.ow (List.map_id' _)) (.cons .refl (.cons .refl .nil)))))))) ?_
  refine ts_cons (ts_while PassesOwn.never (fun n G => ∃ (sn rw : List Int), G = [pr wide, pr high, pr starts, pr sm, ownd true (Dct.mk (sn.map fun x => (x, true)) : Dct Int Bool), ownd true rw, junk, junk] ∧ n ≤ 1000 ∧ Fl.FInv (Fl.lbeside wide high) sm (Fl.lcome wide high starts sm) n sn rw) ⟨_, [], _, rfl, by omega, Fl.FInv.start _ _ _⟩ (fun n G F1 hI => ?_))
  obtain ⟨sn, rw, rfl, hi⟩ := hI
  obtain ⟨hn, hi⟩ := hi
  refine ⟨_, (xct cx_gt (XE.v (k := true) (xlen ml (on (α := (List Int)) 5))) iv), fun h1 => ?_, fun h1 F σ H A => ?_⟩
  · skip
    have hne : rw ≠ [] := by rintro rfl; simp at h1
    -- _law_place = _law_row_here.pop()
    refine ts_setpop 6 5 sc__law_flood.nd rfl (Fl.last_at hne) ?_
    -- if _law_place not in _law_seen:
    refine ts_cons (ts_if (xdninT hu (nv (α := Int) 6) (on (α := (Dct Int Bool)) 4)) (fun h2 => ?_) (fun h2 => ?_))
    · skip
      -- _law_seen[_law_place] = True
      refine ts_dput (k := true) 4 hu rfl (XV.fz bv) (nv (α := Int) 6) (by have := hi.sz; rw [List.length_map, sizeLine_eq]; omega) ?_
      -- _law_row_here.extend([_law_other for _law_other in _law_beside(_law_wide, _law_high, _law_place) if _law_other in _law_some])
      refine ts_extend (k := true) 5 rfl (XO.fz (xlc (k := true) [("_law_other", 7)] rfl sc__law_flood.nd (blkOk_by (N := ["_law_wide", "_law_high", "_law_starts", "_law_some", "_law_seen", "_law_row_here", "_law_place", "_law_other"]) (sc := defScope s__law_flood) (by decide +kernel)) ⟨⟨_, _, fun x => _, (xi_list (k := true) (XO.fz (xco3 c__law_beside (ya (np (α := Int) 0) (ya (np (α := Int) 1) (ya (nv (α := Int) 6) y0))) ⟨by omega, by omega, by omega, by omega⟩))), (fun x _ _ _ _ _ => (tg_name 7 sc__law_flood.nd rfl)), (by decide), ⟨rfl, trivial⟩, .inr ⟨_, rfl, fun x hx _ _ _ _ _ _ => (xct cx_in (nv (α := Int) 7) (XE.v (vp (α := (List Int)) 3)))⟩, (fun x hx hp _ _ _ _ _ _ => (XV.fz (nv (α := Int) 7)))⟩⟩ (by first | (rw [sizeLine_eq]; omega) | (rw [sizeLine_eq]; have := Fl.lbeside_len wide high (rw.getLast hne); omega)))) (by have := hi.mu; have := Fl.lbeside_len wide high (rw.getLast hne); simp only [List.map_id', List.length_map, List.length_dropLast, sizeLine_eq]; have := List.length_filter_le (fun x => decide (x ∈ sm)) (Fl.lbeside wide high (rw.getLast hne)); omega) ?_
      refine ts_end ?_
      simp only [Fl.dGet_seen, Bool.not_eq_true', decide_eq_false_iff_not] at h2
      obtain ⟨m, rfl, hi2⟩ := hi.new hne h2 (Fl.lbeside_len wide high)
      refine ts_loop (.cons .refl (.cons .refl (.cons .refl (.cons .refl (.cons (.ow (by rw [Fl.dPut_seen h2])) (.cons (.ow (by rw [List.map_id'])) (.cons .junk (.cons .refl .nil)))))))) ⟨m, by omega, _, _, rfl, by omega, hi2⟩
    · skip
      refine ts_end ?_
      simp only [Fl.dGet_seen, Bool.not_eq_false', decide_eq_true_eq] at h2
      obtain ⟨m, rfl, hi2⟩ := hi.old hne h2
      refine ts_loop (.cons .refl (.cons .refl (.cons .refl (.cons .refl (.cons .refl (.cons .refl (.cons .junk (.cons .refl .nil)))))))) ⟨m, by omega, _, _, rfl, by omega, hi2⟩
  · refine ts_on A ?_
    have hne : rw = [] := by cases rw with | nil => rfl | cons a t => (exfalso; simp only [decide_eq_false_iff_not, List.length_cons] at h1; omega)
    subst hne
    have e := hi.done
    -- return _law_seen
    refine ts_reto 4 rfl ?_
    exact RDO.cast rd (by rw [e]; rfl)
abbrev s__law_outside : Stmt := topS 22
theorem sc__law_outside : FnScope ["_law_wide", "_law_high", "_law_some", "_law_bare", "_law_edge", "_law_place"] ["_law_wide", "_law_high", "_law_some"] (defScope s__law_outside) := ⟨rfl, rfl, rfl, by decide +kernel, rfl, by decide +kernel, by decide +kernel⟩
theorem ok__law_outside (U : FnAt K mg "_law_outside" s__law_outside ["_law_wide", "_law_high", "_law_some"]) (c__law_flood : CalL P w K mg base 2 "_law_flood" (so4 K Fl.P_lflood Fl.M_lflood)) (mrange : mg "range" = none)   : CalL P w K mg base 3 "_law_outside" (so3 K Fx.P_louL Fx.M_louL) := by
  refine cal_o U sc__law_outside rfl fun f cdv Ar outer s H E hr ⟨w, h, d, ()⟩ D hpre rd => ?_
  replace c__law_flood := c__law_flood.at hr
  replace hpre : Fx.P_louL w h d := hpre
  replace rd : RDO K H D (Fx.M_louL w h d) := rd
  have hu := hu_of hr
  change TSs _ H H [pr w, pr h, pr d, junk, junk, junk] _ D
  obtain ⟨p1, p2, p3, p4⟩ := hpre
  have ar := Fl.area36 p1 p2 p3 p4
  have bl : (Fl.bareOf w h d).length ≤ 36 := Nat.le_trans (List.length_filter_le _ _) (by rw [rng_length]; omega)
  have ol := List.length_filter_le (fun x => Fl.isOut w h x) (Fl.bareOf w h d)
  -- _law_bare = [_law_place for _law_place in range(_law_wide * _law_high) if _law_place not in _law_some]
  refine ts_setLc (k := true) 3 [("_law_place", 5)] rfl sc__law_outside.nd (blkOk_by (N := ["_law_wide", "_law_high", "_law_some", "_law_bare", "_law_edge", "_law_place"]) (sc := defScope s__law_outside) (by decide +kernel)) ⟨⟨_, _, fun x => _, (xi_range1 (k := true) mrange (XE.v (k := true) (xmul (np (α := Int) 0) (np (α := Int) 1) (.inl ⟨by omega, by omega⟩))) ⟨by omega, by omega⟩), (fun x _ _ _ _ _ => (tg_name 5 sc__law_outside.nd rfl)), (by decide), ⟨rfl, trivial⟩, .inr ⟨_, rfl, fun x hx _ _ _ _ _ _ => (xct cx_nin (nv (α := Int) 5) (XE.v (vp (α := (List Int)) 2)))⟩, (fun x hx hp _ _ _ _ _ _ => (XV.fz (nv (α := Int) 5)))⟩⟩ (by rw [rng_length, sizeLine_eq]; omega) ?_ (sw_true rfl rfl rfl (by decide +kernel))
  refine ts_freeze 3 rfl ?_
  -- _law_edge = []
  refine ts_seto (k := true) 4 sc__law_outside.nd (xlist (xl0 (α := Int))) ?_
  -- for _law_place in _law_bare:
  refine ts_weak [pr w, pr h, pr d, vl true (Fl.bareOf w h d), ownd true ([] : List Int), junk] (.cons .refl (.cons .refl (.cons .refl (.cons (.vl (List.map_id' _)) (.cons .refl (.cons .refl .nil)))))) ?_
  refine ts_cons (ts_for rfl PassesOwn.never (xi_list (k := true) (vn (α := (List Int)) (k := true) 3)) (fun x => (tg_name 5 sc__law_outside.nd rfl)) (fun r G => ∃ (fd : List Int), G = [pr w, pr h, pr d, vl true (Fl.bareOf w h d), ownd true fd, junk] ∧ fd ++ r.filter (fun x => Fl.isOut w h x) = (Fl.bareOf w h d).filter (fun x => Fl.isOut w h x) ∧ fd.length + r.length ≤ (Fl.bareOf w h d).length) ⟨_, rfl, rfl, by simp⟩ (fun x r G F1 hx hI => ?_) (fun G F1 F σ H hI A => ?_))
  · obtain ⟨fd, rfl, hi⟩ := hI
    -- if _law_place % _law_wide in (0, _law_wide - 1) or _law_place // _law_wide in (0, _law_high - 1):
    refine ts_cons (ts_if (XW.t (xwor (xct cx_inT (XE.v (k := true) (xmod (nv (α := Int) 5) (np (α := Int) 0) (by first | omega | decide | assumption))) (XE.v (k := true) (xtup (xl (XV.fz iv) (xl (xsub (np (α := Int) 0) iv) (xl0 (α := Int))))))) (fun h1 => (xwor1 (xct cx_inT (XE.v (k := true) (xdiv (nv (α := Int) 5) (np (α := Int) 0) ⟨by omega, by omega⟩)) (XE.v (k := true) (xtup (xl (XV.fz iv) (xl (xsub (np (α := Int) 1) iv) (xl0 (α := Int))))))))))) (fun h2 => ?_) (fun h2 => ?_))
    · skip
      -- _law_edge.append(_law_place)
      refine ts_append (k := true) 4 rfl (XV.fz (nv (α := Int) 5)) (by have := hi.2; simp only [List.length_cons] at this; rw [sizeLine_eq]; omega) ?_
      refine ts_end ?_
      refine ts_loop (.cons .refl (.cons .refl (.cons .refl (.cons .refl (.cons .refl (.cons .junk .nil)))))) ⟨_, rfl, ?_⟩
      exact ⟨Fl.flt_t (f := fun x => Fl.isOut w h x) h2 hi.1, by have := hi.2; simp only [List.length_append, List.length_cons, List.length_nil] at *; omega⟩
    · skip
      refine ts_end ?_
      refine ts_loop (.cons .refl (.cons .refl (.cons .refl (.cons .refl (.cons .refl (.cons .junk .nil)))))) ⟨_, rfl, ?_⟩
      exact ⟨Fl.flt_f (f := fun x => Fl.isOut w h x) h2 hi.1, by have := hi.2; simp only [List.length_cons] at *; omega⟩
  · obtain ⟨fd, rfl, hi⟩ := hI
    refine ts_on A ?_
    -- return _law_flood(_law_wide, _law_high, _law_edge, _law_bare)
    refine ts_retO (xcd4 c__law_flood (ya (np (α := Int) 0) (ya (np (α := Int) 1) (ya (on (α := (List Int)) 4) (ya (XE.v (vn (α := (List Int)) (k := true) 3)) y0)))) ⟨p1, p2, p3, p4, by have := hi.2; simp only [List.length_nil] at this; omega, by omega⟩) ?_
    exact RDO.cast rd (show Fl.M_lflood w h _ _ = Fl.M_lflood w h fd _ by rw [← hi.1, List.filter_nil, List.append_nil])
abbrev s__law_word : Stmt := topS 24
theorem sc__law_word : FnScope ["_law_wide", "_law_high", "_law_some", "_law_found", "_law_told", "error", "_law_kinds"] ["_law_wide", "_law_high", "_law_some"] (defScope s__law_word) := ⟨rfl, rfl, rfl, by decide +kernel, rfl, by decide +kernel, by decide +kernel⟩
theorem ok__law_word (U : FnAt K mg "_law_word" s__law_word ["_law_wide", "_law_high", "_law_some"]) (c_floor_of : CalE P w K mg base 3 "floor_of" (sx3 K mg Fx.P_floorX Fx.M_floorX)) (misinstance : mg "isinstance" = none) (mValueError : mg "ValueError" = none) (msum : mg "sum" = none)  (eApart : ErrF K mg "Apart") (eHollow : ErrF K mg "Hollow") (gBrace : ∃ C, mg "BraceError" = some (.ref C)) : CalL P w K mg base 4 "_law_word" (sv3 K Fx.P_floorX Fx.M_word) := by
  refine cal_v U sc__law_word rfl fun f cdv Ar outer s H E hr ⟨w, h, s, ()⟩ D hpre rd => ?_
  replace c_floor_of := c_floor_of.at hr
  replace hpre : Fx.P_floorX w h s := hpre
  replace rd : RD K H D (Fx.M_word w h s) := rd
  have hu := hu_of hr
  change TSs _ H H [pr w, pr h, pr s, junk, junk, junk, junk] _ D
  -- _law_found = None
  refine ts_set (k := true) 3 sc__law_word.nd (xnoneO (α := Exn)) ?_
  -- _law_told = None
  refine ts_set (k := true) 4 sc__law_word.nd xnone ?_
  -- try:
  obtain ⟨CB, gCB⟩ := id gBrace
  refine ts_tryA 4 3 5 c_floor_of (fun _ _ => (ya (np (α := Int) 0) (ya (np (α := Int) 1) (ya (XE.v (vp (α := (Sq Int)) 2)) y0)))) hpre gCB (fun nm C hn hC => (by rcases Fx.floorX_err hn with rfl | rfl; exact eApart.exm hC gCB; exact eHollow.exm hC gCB)) (fun c hok => ?_) (fun nm C herr hC => ?_) sc__law_word.nd
  · skip
    -- if _law_found is None:
    refine ts_cons (ts_if (xct cx_isN (XE.v (vn (α := (Option Exn)) (k := true) 3)) (XE.v (k := true) xnone)) (fun h1 => ?_) (fun h1 => ?_))
    · skip
      -- return _law_told
      refine ts_ret (XE.inl (β := Str) (XV.fz (nv (α := (T3 Int Int (Tup Int))) 4))) ?_
      exact RD.cast rd (Fx.word_c hok)
    · skip
      exact absurd h1 (fun q => Bool.noConfusion q)
  · skip
    rcases Fx.floorX_err herr with rfl | rfl
    · skip
      -- if _law_found is None:
      refine ts_cons (ts_if (xct cx_isN (XE.v (vn (α := (Option Exn)) (k := true) 3)) (XE.v (k := true) xnone)) (fun h1 => ?_) (fun h1 => ?_))
      · skip
        exact absurd h1 (fun q => Bool.noConfusion q)
      · skip
        refine ts_end ?_
        -- if not isinstance(_law_found, ValueError) or isinstance(_law_found, NoFloor) or isinstance(_law_found, NoText):
        refine ts_cons (ts_if (XW.t (xwor (xtnot (XV.t (XE.v (k := true) (xisFV misinstance mValueError eApart hC (XE.v (vn (α := (Option Exn)) (k := true) 3)))))) (fun h2 => (xwor (XV.t (XE.v (k := true) (xisF misinstance eApart hC (by decide) (XE.v (vn (α := (Option Exn)) (k := true) 3))))) (fun h3 => (xwor1 (XV.t (XE.v (k := true) (xisF misinstance eApart hC (by decide) (XE.v (vn (α := (Option Exn)) (k := true) 3))))))))))) (fun h4 => ?_) (fun h4 => ?_))
        · skip
          -- return 'other'
          refine ts_ret (XE.inr (α := (T3 Int Int (Tup Int))) (XV.fz sv)) ?_
          exact absurd h4 (by decide)
        · skip
          refine ts_end ?_
          -- if isinstance(_law_found, NoRow) or isinstance(_law_found, NoField) or isinstance(_law_found, NoDeed):
          refine ts_cons (ts_if (XW.t (xwor (XV.t (XE.v (k := true) (xisF misinstance eApart hC (by decide) (XE.v (vn (α := (Option Exn)) (k := true) 3))))) (fun h5 => (xwor (XV.t (XE.v (k := true) (xisF misinstance eApart hC (by decide) (XE.v (vn (α := (Option Exn)) (k := true) 3))))) (fun h6 => (xwor1 (XV.t (XE.v (k := true) (xisF misinstance eApart hC (by decide) (XE.v (vn (α := (Option Exn)) (k := true) 3))))))))))) (fun h7 => ?_) (fun h7 => ?_))
          · skip
            -- return 'other'
            refine ts_ret (XE.inr (α := (T3 Int Int (Tup Int))) (XV.fz sv)) ?_
            exact absurd h7 (by decide)
          · skip
            refine ts_end ?_
            -- _law_kinds = [isinstance(_law_found, Apart), isinstance(_law_found, Hollow)]
            refine ts_set (k := true) 6 sc__law_word.nd (XO.fz (xlist (xl (xisF misinstance eApart hC (by decide) (XE.v (vn (α := (Option Exn)) (k := true) 3))) (xl (xisF misinstance eApart hC (by decide) (XE.v (vn (α := (Option Exn)) (k := true) 3))) (xl0 (α := Bool)))))) ?_
            -- if sum(_law_kinds) != 1:
            refine ts_cons (ts_if (xct cx_ne (XE.v (k := true) (xsumB2 rfl msum (XE.v (vn (α := (List Bool)) (k := true) 6)))) iv) (fun h8 => ?_) (fun h8 => ?_))
            · skip
              -- return 'other'
              refine ts_ret (XE.inr (α := (T3 Int Int (Tup Int))) (XV.fz sv)) ?_
              exact absurd h8 (by decide)
            · skip
              refine ts_end ?_
              -- return ['apart', 'hollow'][_law_kinds.index(True)]
              refine ts_ret (XE.inr (α := (T3 Int Int (Tup Int))) (XV.fz (xixV (XE.v (XO.fz (k := true) (xlist (xl (XV.fz sv) (xl (XV.fz sv) (xl0 (α := Str))))))) (XE.v (k := true) (xindexB (XE.v (vn (α := (List Bool)) (k := true) 6)) bv (j := 0) rfl (by decide))) (by rfl)))) ?_
              exact RD.cast rd (Fx.word_a herr)
    · skip
      -- if _law_found is None:
      refine ts_cons (ts_if (xct cx_isN (XE.v (vn (α := (Option Exn)) (k := true) 3)) (XE.v (k := true) xnone)) (fun h1 => ?_) (fun h1 => ?_))
      · skip
        exact absurd h1 (fun q => Bool.noConfusion q)
      · skip
        refine ts_end ?_
        -- if not isinstance(_law_found, ValueError) or isinstance(_law_found, NoFloor) or isinstance(_law_found, NoText):
        refine ts_cons (ts_if (XW.t (xwor (xtnot (XV.t (XE.v (k := true) (xisFV misinstance mValueError eHollow hC (XE.v (vn (α := (Option Exn)) (k := true) 3)))))) (fun h2 => (xwor (XV.t (XE.v (k := true) (xisF misinstance eHollow hC (by decide) (XE.v (vn (α := (Option Exn)) (k := true) 3))))) (fun h3 => (xwor1 (XV.t (XE.v (k := true) (xisF misinstance eHollow hC (by decide) (XE.v (vn (α := (Option Exn)) (k := true) 3))))))))))) (fun h4 => ?_) (fun h4 => ?_))
        · skip
          -- return 'other'
          refine ts_ret (XE.inr (α := (T3 Int Int (Tup Int))) (XV.fz sv)) ?_
          exact absurd h4 (by decide)
        · skip
          refine ts_end ?_
          -- if isinstance(_law_found, NoRow) or isinstance(_law_found, NoField) or isinstance(_law_found, NoDeed):
          refine ts_cons (ts_if (XW.t (xwor (XV.t (XE.v (k := true) (xisF misinstance eHollow hC (by decide) (XE.v (vn (α := (Option Exn)) (k := true) 3))))) (fun h5 => (xwor (XV.t (XE.v (k := true) (xisF misinstance eHollow hC (by decide) (XE.v (vn (α := (Option Exn)) (k := true) 3))))) (fun h6 => (xwor1 (XV.t (XE.v (k := true) (xisF misinstance eHollow hC (by decide) (XE.v (vn (α := (Option Exn)) (k := true) 3))))))))))) (fun h7 => ?_) (fun h7 => ?_))
          · skip
            -- return 'other'
            refine ts_ret (XE.inr (α := (T3 Int Int (Tup Int))) (XV.fz sv)) ?_
            exact absurd h7 (by decide)
          · skip
            refine ts_end ?_
            -- _law_kinds = [isinstance(_law_found, Apart), isinstance(_law_found, Hollow)]
            refine ts_set (k := true) 6 sc__law_word.nd (XO.fz (xlist (xl (xisF misinstance eHollow hC (by decide) (XE.v (vn (α := (Option Exn)) (k := true) 3))) (xl (xisF misinstance eHollow hC (by decide) (XE.v (vn (α := (Option Exn)) (k := true) 3))) (xl0 (α := Bool)))))) ?_
            -- if sum(_law_kinds) != 1:
            refine ts_cons (ts_if (xct cx_ne (XE.v (k := true) (xsumB2 rfl msum (XE.v (vn (α := (List Bool)) (k := true) 6)))) iv) (fun h8 => ?_) (fun h8 => ?_))
            · skip
              -- return 'other'
              refine ts_ret (XE.inr (α := (T3 Int Int (Tup Int))) (XV.fz sv)) ?_
              exact absurd h8 (by decide)
            · skip
              refine ts_end ?_
              -- return ['apart', 'hollow'][_law_kinds.index(True)]
              refine ts_ret (XE.inr (α := (T3 Int Int (Tup Int))) (XV.fz (xixV (XE.v (XO.fz (k := true) (xlist (xl (XV.fz sv) (xl (XV.fz sv) (xl0 (α := Str))))))) (XE.v (k := true) (xindexB (XE.v (vn (α := (List Bool)) (k := true) 6)) bv (j := 1) rfl (by decide))) (by rfl)))) ?_
              exact RD.cast rd (Fx.word_h herr)
abbrev s_law : Stmt := topS 25
theorem sc_law : FnScope ["_law_script", "_law_wide", "_law_high", "_law_digits", "_law_some", "_law_owed", "_law_number", "_law_place"] ["_law_script"] (defScope s_law) := ⟨rfl, rfl, rfl, by decide +kernel, rfl, by decide +kernel, by decide +kernel⟩
theorem ok_law {f : Addr} {fd : FuncData} (U : Fun K "law" "law" s_law f fd) (c__law_cell : CalL P w K mg base 1 "_law_cell" (sv2 K Fl.P_cell Fl.cell)) (c__law_row : CalL P w K mg base 2 "_law_row" (so4 K Fl.P_row Fl.row)) (c__law_flood : CalL P w K mg base 2 "_law_flood" (so4 K Fl.P_lflood Fl.M_lflood)) (c__law_outside : CalL P w K mg base 3 "_law_outside" (so3 K Fx.P_louL Fx.M_louL)) (c__law_word : CalL P w K mg base 4 "_law_word" (sv3 K Fx.P_floorX Fx.M_word)) (mrange : mg "range" = none) (ml : mg "len" = none) (mtuple : mg "tuple" = none)   : FnOk P w K mg base CX0 5 f fd ["_law_script"] (sv1 K Fl.SOk Fl.M_true) := by
  refine fn_v U sc_law rfl fun cdv Ar outer s H E hr ⟨z, ()⟩ D hpre rd => ?_
  replace c__law_cell := c__law_cell.at hr
  replace c__law_row := c__law_row.at hr
  replace c__law_flood := c__law_flood.at hr
  replace c__law_outside := c__law_outside.at hr
  replace c__law_word := c__law_word.at hr
  replace hpre : Fl.SOk z := hpre
  replace rd : RD K H D (Fl.M_true z) := rd
  have hu := hu_of hr
  have hu64 := hr.units
  have hu65 := hu65_of hr
  change TSs _ H H [pr z, junk, junk, junk, junk, junk, junk, junk] _ D
  obtain ⟨w1, w6, g1, g6, _⟩ := Fl.lwh (z := z) (k := 1)
  have ar := Fl.area36 w1 w6 g1 g6
  have pl := Fx.some3_pl z
  have sl := pl.len
  have sp := List.length_pos_iff.mpr pl.ne
  -- _law_wide, _law_high = [1 + _law_number for _law_number in _law_row(_law_script, 1, 2, 6)]
  refine ts_asg (k := true) (XE.cast (XO.fz (xlc (k := true) [("_law_number", 6)] rfl sc_law.nd (blkOk_by (N := ["_law_script", "_law_wide", "_law_high", "_law_digits", "_law_some", "_law_owed", "_law_number", "_law_place"]) (sc := defScope s_law) (by decide +kernel)) ⟨⟨_, _, fun x => _, (xi_list (k := true) (XO.fz (xco4 c__law_row (ya (XE.v (vp (α := Scr) 0)) (ya iv (ya iv (ya iv y0)))) ⟨hpre, by omega, by omega, by omega, by omega, by omega, by omega⟩))), (fun x _ _ _ _ _ => (tg_name 6 sc_law.nd rfl)), (by decide), ⟨rfl, trivial⟩, .inl ⟨rfl, rfl⟩, (fun x hx hp _ _ _ _ _ _ => (xadd iv (nv (α := Int) 6)))⟩⟩ (by first | (rw [rng_length, sizeLine_eq]; omega) | (rw [Fl.row_len (by decide), sizeLine_eq]; decide)))) Fl.lwh_eq) (tg_unl2 rfl (tg_name 1 sc_law.nd rfl) (tg_name 2 sc_law.nd rfl)) ?_
  -- _law_digits = _law_row(_law_script, 2, _law_wide * _law_high, 2 + 4 * (_law_cell(_law_script, 0) // 2 % 2))
  refine ts_set (k := true) 3 sc_law.nd (XO.fz (xco4 c__law_row (ya (XE.v (vp (α := Scr) 0)) (ya iv (ya (XE.v (k := true) (xmul (nv (α := Int) 1) (nv (α := Int) 2) (.inl ⟨by omega, by omega⟩))) (ya (XE.v (k := true) (xadd iv (XE.v (k := true) (xmul iv (XE.v (k := true) (xmod (XE.v (k := true) (xdiv (XE.v (xcv2 c__law_cell (ya (XE.v (vp (α := Scr) 0)) (ya iv y0)) ⟨hpre, by omega, by omega⟩)) iv ⟨by omega, by omega⟩)) iv (by omega))) (.inl ⟨by omega, by omega⟩))))) y0)))) ⟨hpre, by omega, by omega, by omega, by omega, by omega, by omega⟩)) ?_
  -- _law_some = [_law_place for _law_place in range(_law_wide * _law_high) if _law_digits[_law_place] > 0]
  refine ts_setLc (k := true) 4 [("_law_place", 7)] rfl sc_law.nd (blkOk_by (N := ["_law_script", "_law_wide", "_law_high", "_law_digits", "_law_some", "_law_owed", "_law_number", "_law_place"]) (sc := defScope s_law) (by decide +kernel)) ⟨⟨_, _, fun x => _, (xi_range1 (k := true) mrange (XE.v (k := true) (xmul (nv (α := Int) 1) (nv (α := Int) 2) (.inl ⟨by omega, by omega⟩))) ⟨by omega, by omega⟩), (fun x _ _ _ _ _ => (tg_name 7 sc_law.nd rfl)), (by decide), ⟨rfl, trivial⟩, .inr ⟨_, rfl, fun x hx _ _ _ _ _ _ => (xct cx_gt (xixV (XE.v (vn (α := (List Int)) (k := true) 3)) (nv (α := Int) 7) (Fl.itm_at (Fl.rng_mem.mp hx).1 (by have := (Fl.rng_mem.mp hx).2; rw [Fl.row_len (by omega)]; omega))) iv)⟩, (fun x hx hp _ _ _ _ _ _ => (XV.fz (nv (α := Int) 7)))⟩⟩ (by first | (rw [rng_length, sizeLine_eq]; omega) | (rw [Fl.row_len (by decide), sizeLine_eq]; decide)) ?_ (sw_true rfl rfl rfl (by decide +kernel))
  refine ts_freeze 4 rfl ?_
  -- if _law_some == []:
  refine ts_cons (ts_if (xct (cx_eqD hu64 (DatT.ok _) (DatT.ok _)) (XE.v (vn (α := (List Int)) (k := true) 4)) (XE.v (XO.fz (k := true) (xlist (xl0 (α := Int)))))) (fun h1 => ?_) (fun h1 => ?_))
  · skip
    -- _law_some = [0]
    refine ts_set (k := true) 4 sc_law.nd (XO.fz (xlist (xl (XV.fz iv) (xl0 (α := Int))))) ?_
    refine ts_end ?_
    refine ts_gen (β := List Int) (mk := vl true) (P := fun b => b = Fx.some3 z) 4 rfl (by first | exact Fx.some3_t h1 | exact Fx.some3_f h1) (fun sm hsm => ?_)
    subst hsm
    -- _law_owed = (_law_wide, _law_high, tuple(_law_some))
    refine ts_set (k := true) 5 sc_law.nd (xt3 (k := true) (xf (XV.fz (nv (α := Int) 1)) (xf (XV.fz (nv (α := Int) 2)) (xf (xtupOfV mtuple (XE.v (vn (α := (List Int)) (k := true) 4))) xf0)))) ?_
    -- if len(_law_flood(_law_wide, _law_high, _law_some[:1], _law_some)) < len(_law_some):
    refine ts_cons (ts_if (xct cx_lt (XE.v (k := true) (xdlen ml hoI (XE.v (XO.fzd (xcd4 c__law_flood (ya (nv (α := Int) 1) (ya (nv (α := Int) 2) (ya (XE.v (XO.fz (k := true) (xslV (XE.v (vn (α := (List Int)) (k := true) 4)) xp0 (xp iv)))) (ya (XE.v (vn (α := (List Int)) (k := true) 4)) y0)))) ⟨w1, w6, g1, g6, by rw [Fl.cut_1]; exact Nat.le_trans (List.length_take_le _ _) (by decide), by omega⟩))))) (XE.v (k := true) (xlen ml (XE.v (vn (α := (List Int)) (k := true) 4))))) (fun h2 => ?_) (fun h2 => ?_))
    · skip
      -- _law_owed = 'apart'
      refine ts_set (k := true) 5 sc_law.nd (XV.fz sv) ?_
      refine ts_end ?_
      -- if _law_cell(_law_script, 0) // 4 % 2 == 0:
      refine ts_cons (ts_if (xct cx_eq (XE.v (k := true) (xmod (XE.v (k := true) (xdiv (XE.v (xcv2 c__law_cell (ya (XE.v (vp (α := Scr) 0)) (ya iv y0)) ⟨hpre, by omega, by omega⟩)) iv ⟨by omega, by omega⟩)) iv (by omega))) iv) (fun h3 => ?_) (fun h3 => ?_))
      · skip
        -- _law_some = tuple(_law_some)
        refine ts_set (k := true) 4 sc_law.nd (xtupOfV mtuple (XE.v (vn (α := (List Int)) (k := true) 4))) ?_
        refine ts_end ?_
        -- return _law_word(_law_wide, _law_high, _law_some) == _law_owed
        refine ts_ret (xcv cx_eq (XE.v (XE.outr (xcv3 c__law_word (ya (nv (α := Int) 1) (ya (nv (α := Int) 2) (ya (XV.sqT (nv (α := (Tup Int)) 4)) y0))) (by exact pl)) (Fx.word_apart (s := Sq.mk true _) (Fx.some3_pl z) rfl (Fx.ap_t h2)))) (nv (α := Str) 5)) ?_
        exact RD.cast rd (by simp [Fl.M_true])
      · skip
        refine ts_end ?_
        -- return _law_word(_law_wide, _law_high, _law_some) == _law_owed
        refine ts_ret (xcv cx_eq (XE.v (XE.outr (xcv3 c__law_word (ya (nv (α := Int) 1) (ya (nv (α := Int) 2) (ya (XV.sqL (XE.v (vn (α := (List Int)) (k := true) 4))) y0))) (by exact pl)) (Fx.word_apart (s := Sq.mk false _) (Fx.some3_pl z) rfl (Fx.ap_t h2)))) (nv (α := Str) 5)) ?_
        exact RD.cast rd (by simp [Fl.M_true])
    · skip
      -- if len(_law_outside(_law_wide, _law_high, _law_some)) < _law_wide * _law_high - len(_law_some):
      refine ts_cons (ts_if (xct cx_lt (XE.v (k := true) (xdlen ml hoI (XE.v (XO.fzd (xcd3 c__law_outside (ya (nv (α := Int) 1) (ya (nv (α := Int) 2) (ya (XE.v (vn (α := (List Int)) (k := true) 4)) y0))) ⟨w1, w6, g1, g6⟩))))) (XE.v (k := true) (xsub (XE.v (k := true) (xmul (nv (α := Int) 1) (nv (α := Int) 2) (.inl ⟨by omega, by omega⟩))) (XE.v (k := true) (xlen ml (XE.v (vn (α := (List Int)) (k := true) 4))))))) (fun h3 => ?_) (fun h3 => ?_))
      · skip
        -- _law_owed = 'hollow'
        refine ts_set (k := true) 5 sc_law.nd (XV.fz sv) ?_
        refine ts_end ?_
        refine ts_end ?_
        -- if _law_cell(_law_script, 0) // 4 % 2 == 0:
        refine ts_cons (ts_if (xct cx_eq (XE.v (k := true) (xmod (XE.v (k := true) (xdiv (XE.v (xcv2 c__law_cell (ya (XE.v (vp (α := Scr) 0)) (ya iv y0)) ⟨hpre, by omega, by omega⟩)) iv ⟨by omega, by omega⟩)) iv (by omega))) iv) (fun h4 => ?_) (fun h4 => ?_))
        · skip
          -- _law_some = tuple(_law_some)
          refine ts_set (k := true) 4 sc_law.nd (xtupOfV mtuple (XE.v (vn (α := (List Int)) (k := true) 4))) ?_
          refine ts_end ?_
          -- return _law_word(_law_wide, _law_high, _law_some) == _law_owed
          refine ts_ret (xcv cx_eq (XE.v (XE.outr (xcv3 c__law_word (ya (nv (α := Int) 1) (ya (nv (α := Int) 2) (ya (XV.sqT (nv (α := (Tup Int)) 4)) y0))) (by exact pl)) (Fx.word_hollow (s := Sq.mk true _) (Fx.some3_pl z) rfl (Fx.ap_f h2) (Fx.ho_t h3)))) (nv (α := Str) 5)) ?_
          exact RD.cast rd (by simp [Fl.M_true])
        · skip
          refine ts_end ?_
          -- return _law_word(_law_wide, _law_high, _law_some) == _law_owed
          refine ts_ret (xcv cx_eq (XE.v (XE.outr (xcv3 c__law_word (ya (nv (α := Int) 1) (ya (nv (α := Int) 2) (ya (XV.sqL (XE.v (vn (α := (List Int)) (k := true) 4))) y0))) (by exact pl)) (Fx.word_hollow (s := Sq.mk false _) (Fx.some3_pl z) rfl (Fx.ap_f h2) (Fx.ho_t h3)))) (nv (α := Str) 5)) ?_
          exact RD.cast rd (by simp [Fl.M_true])
      · skip
        refine ts_end ?_
        refine ts_end ?_
        -- if _law_cell(_law_script, 0) // 4 % 2 == 0:
        refine ts_cons (ts_if (xct cx_eq (XE.v (k := true) (xmod (XE.v (k := true) (xdiv (XE.v (xcv2 c__law_cell (ya (XE.v (vp (α := Scr) 0)) (ya iv y0)) ⟨hpre, by omega, by omega⟩)) iv ⟨by omega, by omega⟩)) iv (by omega))) iv) (fun h4 => ?_) (fun h4 => ?_))
        · skip
          -- _law_some = tuple(_law_some)
          refine ts_set (k := true) 4 sc_law.nd (xtupOfV mtuple (XE.v (vn (α := (List Int)) (k := true) 4))) ?_
          refine ts_end ?_
          -- return _law_word(_law_wide, _law_high, _law_some) == _law_owed
          refine ts_ret (xcv (cx_eqD hu64 (DatT.ok _) (DatT.ok _)) (XE.v (XE.outl (xcv3 c__law_word (ya (nv (α := Int) 1) (ya (nv (α := Int) 2) (ya (XV.sqT (nv (α := (Tup Int)) 4)) y0))) (by exact pl)) (Fx.word_ok (s := Sq.mk true _) (Fx.some3_pl z) rfl (Fx.ap_f h2) (Fx.ho_f h3)))) (nv (α := (T3 Int Int (Tup Int))) 5)) ?_
          exact RD.cast rd (by simp [Fl.M_true])
        · skip
          refine ts_end ?_
          -- return _law_word(_law_wide, _law_high, _law_some) == _law_owed
          refine ts_ret (xcv (cx_eqD hu64 (DatT.ok _) (DatT.ok _)) (XE.v (XE.outl (xcv3 c__law_word (ya (nv (α := Int) 1) (ya (nv (α := Int) 2) (ya (XV.sqL (XE.v (vn (α := (List Int)) (k := true) 4))) y0))) (by exact pl)) (Fx.word_ok (s := Sq.mk false _) (Fx.some3_pl z) rfl (Fx.ap_f h2) (Fx.ho_f h3)))) (nv (α := (T3 Int Int (Tup Int))) 5)) ?_
          exact RD.cast rd (by simp [Fl.M_true])
  · skip
    refine ts_end ?_
    refine ts_gen (β := List Int) (mk := vl true) (P := fun b => b = Fx.some3 z) 4 rfl (by first | exact Fx.some3_t h1 | exact Fx.some3_f h1) (fun sm hsm => ?_)
    subst hsm
    -- _law_owed = (_law_wide, _law_high, tuple(_law_some))
    refine ts_set (k := true) 5 sc_law.nd (xt3 (k := true) (xf (XV.fz (nv (α := Int) 1)) (xf (XV.fz (nv (α := Int) 2)) (xf (xtupOfV mtuple (XE.v (vn (α := (List Int)) (k := true) 4))) xf0)))) ?_
    -- if len(_law_flood(_law_wide, _law_high, _law_some[:1], _law_some)) < len(_law_some):
    refine ts_cons (ts_if (xct cx_lt (XE.v (k := true) (xdlen ml hoI (XE.v (XO.fzd (xcd4 c__law_flood (ya (nv (α := Int) 1) (ya (nv (α := Int) 2) (ya (XE.v (XO.fz (k := true) (xslV (XE.v (vn (α := (List Int)) (k := true) 4)) xp0 (xp iv)))) (ya (XE.v (vn (α := (List Int)) (k := true) 4)) y0)))) ⟨w1, w6, g1, g6, by rw [Fl.cut_1]; exact Nat.le_trans (List.length_take_le _ _) (by decide), by omega⟩))))) (XE.v (k := true) (xlen ml (XE.v (vn (α := (List Int)) (k := true) 4))))) (fun h2 => ?_) (fun h2 => ?_))
    · skip
      -- _law_owed = 'apart'
      refine ts_set (k := true) 5 sc_law.nd (XV.fz sv) ?_
      refine ts_end ?_
      -- if _law_cell(_law_script, 0) // 4 % 2 == 0:
      refine ts_cons (ts_if (xct cx_eq (XE.v (k := true) (xmod (XE.v (k := true) (xdiv (XE.v (xcv2 c__law_cell (ya (XE.v (vp (α := Scr) 0)) (ya iv y0)) ⟨hpre, by omega, by omega⟩)) iv ⟨by omega, by omega⟩)) iv (by omega))) iv) (fun h3 => ?_) (fun h3 => ?_))
      · skip
        -- _law_some = tuple(_law_some)
        refine ts_set (k := true) 4 sc_law.nd (xtupOfV mtuple (XE.v (vn (α := (List Int)) (k := true) 4))) ?_
        refine ts_end ?_
        -- return _law_word(_law_wide, _law_high, _law_some) == _law_owed
        refine ts_ret (xcv cx_eq (XE.v (XE.outr (xcv3 c__law_word (ya (nv (α := Int) 1) (ya (nv (α := Int) 2) (ya (XV.sqT (nv (α := (Tup Int)) 4)) y0))) (by exact pl)) (Fx.word_apart (s := Sq.mk true _) (Fx.some3_pl z) rfl (Fx.ap_t h2)))) (nv (α := Str) 5)) ?_
        exact RD.cast rd (by simp [Fl.M_true])
      · skip
        refine ts_end ?_
        -- return _law_word(_law_wide, _law_high, _law_some) == _law_owed
        refine ts_ret (xcv cx_eq (XE.v (XE.outr (xcv3 c__law_word (ya (nv (α := Int) 1) (ya (nv (α := Int) 2) (ya (XV.sqL (XE.v (vn (α := (List Int)) (k := true) 4))) y0))) (by exact pl)) (Fx.word_apart (s := Sq.mk false _) (Fx.some3_pl z) rfl (Fx.ap_t h2)))) (nv (α := Str) 5)) ?_
        exact RD.cast rd (by simp [Fl.M_true])
    · skip
      -- if len(_law_outside(_law_wide, _law_high, _law_some)) < _law_wide * _law_high - len(_law_some):
      refine ts_cons (ts_if (xct cx_lt (XE.v (k := true) (xdlen ml hoI (XE.v (XO.fzd (xcd3 c__law_outside (ya (nv (α := Int) 1) (ya (nv (α := Int) 2) (ya (XE.v (vn (α := (List Int)) (k := true) 4)) y0))) ⟨w1, w6, g1, g6⟩))))) (XE.v (k := true) (xsub (XE.v (k := true) (xmul (nv (α := Int) 1) (nv (α := Int) 2) (.inl ⟨by omega, by omega⟩))) (XE.v (k := true) (xlen ml (XE.v (vn (α := (List Int)) (k := true) 4))))))) (fun h3 => ?_) (fun h3 => ?_))
      · skip
        -- _law_owed = 'hollow'
        refine ts_set (k := true) 5 sc_law.nd (XV.fz sv) ?_
        refine ts_end ?_
        refine ts_end ?_
        -- if _law_cell(_law_script, 0) // 4 % 2 == 0:
        refine ts_cons (ts_if (xct cx_eq (XE.v (k := true) (xmod (XE.v (k := true) (xdiv (XE.v (xcv2 c__law_cell (ya (XE.v (vp (α := Scr) 0)) (ya iv y0)) ⟨hpre, by omega, by omega⟩)) iv ⟨by omega, by omega⟩)) iv (by omega))) iv) (fun h4 => ?_) (fun h4 => ?_))
        · skip
          -- _law_some = tuple(_law_some)
          refine ts_set (k := true) 4 sc_law.nd (xtupOfV mtuple (XE.v (vn (α := (List Int)) (k := true) 4))) ?_
          refine ts_end ?_
          -- return _law_word(_law_wide, _law_high, _law_some) == _law_owed
          refine ts_ret (xcv cx_eq (XE.v (XE.outr (xcv3 c__law_word (ya (nv (α := Int) 1) (ya (nv (α := Int) 2) (ya (XV.sqT (nv (α := (Tup Int)) 4)) y0))) (by exact pl)) (Fx.word_hollow (s := Sq.mk true _) (Fx.some3_pl z) rfl (Fx.ap_f h2) (Fx.ho_t h3)))) (nv (α := Str) 5)) ?_
          exact RD.cast rd (by simp [Fl.M_true])
        · skip
          refine ts_end ?_
          -- return _law_word(_law_wide, _law_high, _law_some) == _law_owed
          refine ts_ret (xcv cx_eq (XE.v (XE.outr (xcv3 c__law_word (ya (nv (α := Int) 1) (ya (nv (α := Int) 2) (ya (XV.sqL (XE.v (vn (α := (List Int)) (k := true) 4))) y0))) (by exact pl)) (Fx.word_hollow (s := Sq.mk false _) (Fx.some3_pl z) rfl (Fx.ap_f h2) (Fx.ho_t h3)))) (nv (α := Str) 5)) ?_
          exact RD.cast rd (by simp [Fl.M_true])
      · skip
        refine ts_end ?_
        refine ts_end ?_
        -- if _law_cell(_law_script, 0) // 4 % 2 == 0:
        refine ts_cons (ts_if (xct cx_eq (XE.v (k := true) (xmod (XE.v (k := true) (xdiv (XE.v (xcv2 c__law_cell (ya (XE.v (vp (α := Scr) 0)) (ya iv y0)) ⟨hpre, by omega, by omega⟩)) iv ⟨by omega, by omega⟩)) iv (by omega))) iv) (fun h4 => ?_) (fun h4 => ?_))
        · skip
          -- _law_some = tuple(_law_some)
          refine ts_set (k := true) 4 sc_law.nd (xtupOfV mtuple (XE.v (vn (α := (List Int)) (k := true) 4))) ?_
          refine ts_end ?_
          -- return _law_word(_law_wide, _law_high, _law_some) == _law_owed
          refine ts_ret (xcv (cx_eqD hu64 (DatT.ok _) (DatT.ok _)) (XE.v (XE.outl (xcv3 c__law_word (ya (nv (α := Int) 1) (ya (nv (α := Int) 2) (ya (XV.sqT (nv (α := (Tup Int)) 4)) y0))) (by exact pl)) (Fx.word_ok (s := Sq.mk true _) (Fx.some3_pl z) rfl (Fx.ap_f h2) (Fx.ho_f h3)))) (nv (α := (T3 Int Int (Tup Int))) 5)) ?_
          exact RD.cast rd (by simp [Fl.M_true])
        · skip
          refine ts_end ?_
          -- return _law_word(_law_wide, _law_high, _law_some) == _law_owed
          refine ts_ret (xcv (cx_eqD hu64 (DatT.ok _) (DatT.ok _)) (XE.v (XE.outl (xcv3 c__law_word (ya (nv (α := Int) 1) (ya (nv (α := Int) 2) (ya (XV.sqL (XE.v (vn (α := (List Int)) (k := true) 4))) y0))) (by exact pl)) (Fx.word_ok (s := Sq.mk false _) (Fx.some3_pl z) rfl (Fx.ap_f h2) (Fx.ho_f h3)))) (nv (α := (T3 Int Int (Tup Int))) 5)) ?_
          exact RD.cast rd (by simp [Fl.M_true])
end
/-! ### what the top has written -/
theorem all_mk {l : PySem.W.OpenLaw} {w : World} {K : PySem.W.Frag} {h : Heap} {mg : Str → Option Value} {fa : Addr} (X : K.In h) (G : h.Ns mainGlobals mg) (hfa : mg "law" = some (.ref fa))
    {f0 : Addr} {od0 an0 : Option Addr} {sl0 : Array (Option Value)} {oc0 kV0 dc0 pm0 cd0 ct0 : Value}
    (a0 : PySem.W.nsIn K mainGlobals "is_within" = some (some (.ref f0)))
    (l0 : K.lookup f0 = some ⟨oc0, od0, .func (PySem.W.fnOf "is_within" "is_within" (defArgs s_is_within) (defBody s_is_within) (defScope s_is_within) .none kV0 dc0 pm0 an0 cd0 ct0), sl0⟩)
    (c0 : PySem.W.codeIn K cd0 "is_within" = true)
    (k0 : PySem.W.keepIn K (.ref f0) = true)
    {f1 : Addr} {od1 an1 : Option Addr} {sl1 : Array (Option Value)} {oc1 kV1 dc1 pm1 cd1 ct1 : Value}
    (a1 : PySem.W.nsIn K mainGlobals "beside" = some (some (.ref f1)))
    (l1 : K.lookup f1 = some ⟨oc1, od1, .func (PySem.W.fnOf "beside" "beside" (defArgs s_beside) (defBody s_beside) (defScope s_beside) .none kV1 dc1 pm1 an1 cd1 ct1), sl1⟩)
    (c1 : PySem.W.codeIn K cd1 "beside" = true)
    (k1 : PySem.W.keepIn K (.ref f1) = true)
    {f2 : Addr} {od2 an2 : Option Addr} {sl2 : Array (Option Value)} {oc2 kV2 dc2 pm2 cd2 ct2 : Value}
    (a2 : PySem.W.nsIn K mainGlobals "come_to" = some (some (.ref f2)))
    (l2 : K.lookup f2 = some ⟨oc2, od2, .func (PySem.W.fnOf "come_to" "come_to" (defArgs s_come_to) (defBody s_come_to) (defScope s_come_to) .none kV2 dc2 pm2 an2 cd2 ct2), sl2⟩)
    (c2 : PySem.W.codeIn K cd2 "come_to" = true)
    (k2 : PySem.W.keepIn K (.ref f2) = true)
    {f3 : Addr} {od3 an3 : Option Addr} {sl3 : Array (Option Value)} {oc3 kV3 dc3 pm3 cd3 ct3 : Value}
    (a3 : PySem.W.nsIn K mainGlobals "is_outermost" = some (some (.ref f3)))
    (l3 : K.lookup f3 = some ⟨oc3, od3, .func (PySem.W.fnOf "is_outermost" "is_outermost" (defArgs s_is_outermost) (defBody s_is_outermost) (defScope s_is_outermost) .none kV3 dc3 pm3 an3 cd3 ct3), sl3⟩)
    (c3 : PySem.W.codeIn K cd3 "is_outermost" = true)
    (k3 : PySem.W.keepIn K (.ref f3) = true)
    {f4 : Addr} {od4 an4 : Option Addr} {sl4 : Array (Option Value)} {oc4 kV4 dc4 pm4 cd4 ct4 : Value}
    (a4 : PySem.W.nsIn K mainGlobals "are_fields" = some (some (.ref f4)))
    (l4 : K.lookup f4 = some ⟨oc4, od4, .func (PySem.W.fnOf "are_fields" "are_fields" (defArgs s_are_fields) (defBody s_are_fields) (defScope s_are_fields) .none kV4 dc4 pm4 an4 cd4 ct4), sl4⟩)
    (c4 : PySem.W.codeIn K cd4 "are_fields" = true)
    (k4 : PySem.W.keepIn K (.ref f4) = true)
    {f5 : Addr} {od5 an5 : Option Addr} {sl5 : Array (Option Value)} {oc5 kV5 dc5 pm5 cd5 ct5 : Value}
    (a5 : PySem.W.nsIn K mainGlobals "floor_of" = some (some (.ref f5)))
    (l5 : K.lookup f5 = some ⟨oc5, od5, .func (PySem.W.fnOf "floor_of" "floor_of" (defArgs s_floor_of) (defBody s_floor_of) (defScope s_floor_of) .none kV5 dc5 pm5 an5 cd5 ct5), sl5⟩)
    (c5 : PySem.W.codeIn K cd5 "floor_of" = true)
    (k5 : PySem.W.keepIn K (.ref f5) = true)
    {f6 : Addr} {od6 an6 : Option Addr} {sl6 : Array (Option Value)} {oc6 kV6 dc6 pm6 cd6 ct6 : Value}
    (a6 : PySem.W.nsIn K mainGlobals "_law_cell" = some (some (.ref f6)))
    (l6 : K.lookup f6 = some ⟨oc6, od6, .func (PySem.W.fnOf "_law_cell" "_law_cell" (defArgs s__law_cell) (defBody s__law_cell) (defScope s__law_cell) .none kV6 dc6 pm6 an6 cd6 ct6), sl6⟩)
    (c6 : PySem.W.codeIn K cd6 "_law_cell" = true)
    (k6 : PySem.W.keepIn K (.ref f6) = true)
    {f7 : Addr} {od7 an7 : Option Addr} {sl7 : Array (Option Value)} {oc7 kV7 dc7 pm7 cd7 ct7 : Value}
    (a7 : PySem.W.nsIn K mainGlobals "_law_row" = some (some (.ref f7)))
    (l7 : K.lookup f7 = some ⟨oc7, od7, .func (PySem.W.fnOf "_law_row" "_law_row" (defArgs s__law_row) (defBody s__law_row) (defScope s__law_row) .none kV7 dc7 pm7 an7 cd7 ct7), sl7⟩)
    (c7 : PySem.W.codeIn K cd7 "_law_row" = true)
    (k7 : PySem.W.keepIn K (.ref f7) = true)
    {f8 : Addr} {od8 an8 : Option Addr} {sl8 : Array (Option Value)} {oc8 kV8 dc8 pm8 cd8 ct8 : Value}
    (a8 : PySem.W.nsIn K mainGlobals "_law_beside" = some (some (.ref f8)))
    (l8 : K.lookup f8 = some ⟨oc8, od8, .func (PySem.W.fnOf "_law_beside" "_law_beside" (defArgs s__law_beside) (defBody s__law_beside) (defScope s__law_beside) .none kV8 dc8 pm8 an8 cd8 ct8), sl8⟩)
    (c8 : PySem.W.codeIn K cd8 "_law_beside" = true)
    (k8 : PySem.W.keepIn K (.ref f8) = true)
    {f9 : Addr} {od9 an9 : Option Addr} {sl9 : Array (Option Value)} {oc9 kV9 dc9 pm9 cd9 ct9 : Value}
    (a9 : PySem.W.nsIn K mainGlobals "_law_flood" = some (some (.ref f9)))
    (l9 : K.lookup f9 = some ⟨oc9, od9, .func (PySem.W.fnOf "_law_flood" "_law_flood" (defArgs s__law_flood) (defBody s__law_flood) (defScope s__law_flood) .none kV9 dc9 pm9 an9 cd9 ct9), sl9⟩)
    (c9 : PySem.W.codeIn K cd9 "_law_flood" = true)
    (k9 : PySem.W.keepIn K (.ref f9) = true)
    {f10 : Addr} {od10 an10 : Option Addr} {sl10 : Array (Option Value)} {oc10 kV10 dc10 pm10 cd10 ct10 : Value}
    (a10 : PySem.W.nsIn K mainGlobals "_law_outside" = some (some (.ref f10)))
    (l10 : K.lookup f10 = some ⟨oc10, od10, .func (PySem.W.fnOf "_law_outside" "_law_outside" (defArgs s__law_outside) (defBody s__law_outside) (defScope s__law_outside) .none kV10 dc10 pm10 an10 cd10 ct10), sl10⟩)
    (c10 : PySem.W.codeIn K cd10 "_law_outside" = true)
    (k10 : PySem.W.keepIn K (.ref f10) = true)
    {f11 : Addr} {od11 an11 : Option Addr} {sl11 : Array (Option Value)} {oc11 kV11 dc11 pm11 cd11 ct11 : Value}
    (a11 : PySem.W.nsIn K mainGlobals "_law_word" = some (some (.ref f11)))
    (l11 : K.lookup f11 = some ⟨oc11, od11, .func (PySem.W.fnOf "_law_word" "_law_word" (defArgs s__law_word) (defBody s__law_word) (defScope s__law_word) .none kV11 dc11 pm11 an11 cd11 ct11), sl11⟩)
    (c11 : PySem.W.codeIn K cd11 "_law_word" = true)
    (k11 : PySem.W.keepIn K (.ref f11) = true)
    {f12 : Addr} {od12 an12 : Option Addr} {sl12 : Array (Option Value)} {oc12 kV12 dc12 pm12 cd12 ct12 : Value}
    (a12 : PySem.W.nsIn K mainGlobals "law" = some (some (.ref f12)))
    (l12 : K.lookup f12 = some ⟨oc12, od12, .func (PySem.W.fnOf "law" "law" (defArgs s_law) (defBody s_law) (defScope s_law) .none kV12 dc12 pm12 an12 cd12 ct12), sl12⟩)
    (c12 : PySem.W.codeIn K cd12 "law" = true)
    (k12 : PySem.W.keepIn K (.ref f12) = true)
    (z_isinstance : PySem.W.nsIn K mainGlobals "isinstance" = some none)
    (z_int : PySem.W.nsIn K mainGlobals "int" = some none)
    (z_bool : PySem.W.nsIn K mainGlobals "bool" = some none)
    (z_len : PySem.W.nsIn K mainGlobals "len" = some none)
    (z_list : PySem.W.nsIn K mainGlobals "list" = some none)
    (z_tuple : PySem.W.nsIn K mainGlobals "tuple" = some none)
    (z_range : PySem.W.nsIn K mainGlobals "range" = some none)
    (z_ValueError : PySem.W.nsIn K mainGlobals "ValueError" = some none)
    (z_sum : PySem.W.nsIn K mainGlobals "sum" = some none)
    (g_MOST : ∃ t, PySem.W.nsIn K mainGlobals "MOST" = some (some (.int 6 t)))
    {C_NoFloor : Addr} (ac_NoFloor : PySem.W.nsIn K mainGlobals "NoFloor" = some (some (.ref C_NoFloor)))
    {C_Apart : Addr} (ac_Apart : PySem.W.nsIn K mainGlobals "Apart" = some (some (.ref C_Apart)))
    {C_Hollow : Addr} (ac_Hollow : PySem.W.nsIn K mainGlobals "Hollow" = some (some (.ref C_Hollow)))
    {C_NoText : Addr} (ac_NoText : PySem.W.nsIn K mainGlobals "NoText" = some (some (.ref C_NoText)))
    {C_NoRow : Addr} (ac_NoRow : PySem.W.nsIn K mainGlobals "NoRow" = some (some (.ref C_NoRow)))
    {C_NoField : Addr} (ac_NoField : PySem.W.nsIn K mainGlobals "NoField" = some (some (.ref C_NoField)))
    {C_NoDeed : Addr} (ac_NoDeed : PySem.W.nsIn K mainGlobals "NoDeed" = some (some (.ref C_NoDeed)))
    {C_BraceError : Addr} (ac_BraceError : PySem.W.nsIn K mainGlobals "BraceError" = some (some (.ref C_BraceError)))
    (hnn : PySem.W.specialIn K (.builtin "object.__class__") "__get__" = some (some (.builtin "getset_descriptor.__get__")))
    (htt : PySem.W.takesIn K (.builtin "object.__class__") = some true)
    (tc_NoFloor : PySem.W.typeIn K (.ref C_NoFloor) = some (.type "type"))
    (dc_NoFloor : PySem.W.hasDictIn K C_NoFloor = true)
    (tc_Apart : PySem.W.typeIn K (.ref C_Apart) = some (.type "type"))
    (dc_Apart : PySem.W.hasDictIn K C_Apart = true)
    (tc_Hollow : PySem.W.typeIn K (.ref C_Hollow) = some (.type "type"))
    (dc_Hollow : PySem.W.hasDictIn K C_Hollow = true)
    (tc_NoText : PySem.W.typeIn K (.ref C_NoText) = some (.type "type"))
    (dc_NoText : PySem.W.hasDictIn K C_NoText = true)
    (tc_NoRow : PySem.W.typeIn K (.ref C_NoRow) = some (.type "type"))
    (dc_NoRow : PySem.W.hasDictIn K C_NoRow = true)
    (tc_NoField : PySem.W.typeIn K (.ref C_NoField) = some (.type "type"))
    (dc_NoField : PySem.W.hasDictIn K C_NoField = true)
    (tc_NoDeed : PySem.W.typeIn K (.ref C_NoDeed) = some (.type "type"))
    (dc_NoDeed : PySem.W.hasDictIn K C_NoDeed = true)
    (tc_BraceError : PySem.W.typeIn K (.ref C_BraceError) = some (.type "type"))
    (dc_BraceError : PySem.W.hasDictIn K C_BraceError = true)
    (bc_Apart : PySem.W.subIn K (.ref C_Apart) (.type "BaseException") = some true)
    (bc_Hollow : PySem.W.subIn K (.ref C_Hollow) (.type "BaseException") = some true)
    (bc_BraceError : PySem.W.subIn K (.ref C_BraceError) (.type "BaseException") = some true)
    (rc_Apart : PySem.W.subIn K (.ref C_Apart) (.ref C_Apart) = some true)
    (xc_Apart : PySem.W.excIn K C_Apart [.type "ValueError", .type "Exception", .type "BaseException", .type "object"] "ValueError.__new__" = true)
    (kc_Apart : PySem.W.keepIn K (.ref C_Apart) = true)
    (gc_Apart : PySem.W.findIn K (.ref C_Apart) "__getattribute__" = some (some (.builtin "BaseException.__getattribute__")))
    (hc_Apart : PySem.W.findIn K (.ref C_Apart) "__getattr__" = some none)
    (lc_Apart : PySem.W.findIn K (.ref C_Apart) "__class__" = some (some (.builtin "object.__class__")))
    (mc_Apart : PySem.W.mroIn K C_Apart (.type "object") = some true)
    (sc_Apart : PySem.W.subIn K (.ref C_Apart) (.ref C_BraceError) = some true)
    (vc_Apart : PySem.W.subIn K (.ref C_Apart) (.type "ValueError") = some true)
    (ic_Apart_NoFloor : PySem.W.subIn K (.ref C_Apart) (.ref C_NoFloor) = some false)
    (ic_Apart_Hollow : PySem.W.subIn K (.ref C_Apart) (.ref C_Hollow) = some false)
    (ic_Apart_NoText : PySem.W.subIn K (.ref C_Apart) (.ref C_NoText) = some false)
    (ic_Apart_NoRow : PySem.W.subIn K (.ref C_Apart) (.ref C_NoRow) = some false)
    (ic_Apart_NoField : PySem.W.subIn K (.ref C_Apart) (.ref C_NoField) = some false)
    (ic_Apart_NoDeed : PySem.W.subIn K (.ref C_Apart) (.ref C_NoDeed) = some false)
    (rc_Hollow : PySem.W.subIn K (.ref C_Hollow) (.ref C_Hollow) = some true)
    (xc_Hollow : PySem.W.excIn K C_Hollow [.type "ValueError", .type "Exception", .type "BaseException", .type "object"] "ValueError.__new__" = true)
    (kc_Hollow : PySem.W.keepIn K (.ref C_Hollow) = true)
    (gc_Hollow : PySem.W.findIn K (.ref C_Hollow) "__getattribute__" = some (some (.builtin "BaseException.__getattribute__")))
    (hc_Hollow : PySem.W.findIn K (.ref C_Hollow) "__getattr__" = some none)
    (lc_Hollow : PySem.W.findIn K (.ref C_Hollow) "__class__" = some (some (.builtin "object.__class__")))
    (mc_Hollow : PySem.W.mroIn K C_Hollow (.type "object") = some true)
    (sc_Hollow : PySem.W.subIn K (.ref C_Hollow) (.ref C_BraceError) = some true)
    (vc_Hollow : PySem.W.subIn K (.ref C_Hollow) (.type "ValueError") = some true)
    (ic_Hollow_NoFloor : PySem.W.subIn K (.ref C_Hollow) (.ref C_NoFloor) = some false)
    (ic_Hollow_Apart : PySem.W.subIn K (.ref C_Hollow) (.ref C_Apart) = some false)
    (ic_Hollow_NoText : PySem.W.subIn K (.ref C_Hollow) (.ref C_NoText) = some false)
    (ic_Hollow_NoRow : PySem.W.subIn K (.ref C_Hollow) (.ref C_NoRow) = some false)
    (ic_Hollow_NoField : PySem.W.subIn K (.ref C_Hollow) (.ref C_NoField) = some false)
    (ic_Hollow_NoDeed : PySem.W.subIn K (.ref C_Hollow) (.ref C_NoDeed) = some false)
    : ∃ fd : FuncData, (∀ (s : Shared) (v : Value), BindsTo s fd ⟨[v], []⟩ [("_law_script", v)]) ∧ ∀ base : Heap, K.In base → base.Ns mainGlobals mg → FnOk l.prog w K mg base CX0 5 fa fd ["_law_script"] (sv1 K Fl.SOk Fl.M_true) := by
  have e := hfa.symm.trans (PySem.W.mg_of X G a12)
  cases e
  have F0 := fun_mk (st := s_is_within) l0 c0 k0
  have F1 := fun_mk (st := s_beside) l1 c1 k1
  have F2 := fun_mk (st := s_come_to) l2 c2 k2
  have F3 := fun_mk (st := s_is_outermost) l3 c3 k3
  have F4 := fun_mk (st := s_are_fields) l4 c4 k4
  have F5 := fun_mk (st := s_floor_of) l5 c5 k5
  have F6 := fun_mk (st := s__law_cell) l6 c6 k6
  have F7 := fun_mk (st := s__law_row) l7 c7 k7
  have F8 := fun_mk (st := s__law_beside) l8 c8 k8
  have F9 := fun_mk (st := s__law_flood) l9 c9 k9
  have F10 := fun_mk (st := s__law_outside) l10 c10 k10
  have F11 := fun_mk (st := s__law_word) l11 c11 k11
  have F12 := fun_mk (st := s_law) l12 c12 k12
  have m_isinstance := PySem.W.mg_none_of X G z_isinstance
  have m_int := PySem.W.mg_none_of X G z_int
  have m_bool := PySem.W.mg_none_of X G z_bool
  have m_len := PySem.W.mg_none_of X G z_len
  have m_list := PySem.W.mg_none_of X G z_list
  have m_tuple := PySem.W.mg_none_of X G z_tuple
  have m_range := PySem.W.mg_none_of X G z_range
  have m_ValueError := PySem.W.mg_none_of X G z_ValueError
  have m_sum := PySem.W.mg_none_of X G z_sum
  obtain ⟨t_MOST, e_MOST⟩ := g_MOST
  have m_MOST := PySem.W.mg_of X G e_MOST
  have m_BraceError := PySem.W.mg_of X G ac_BraceError
  have m_eApart : ErrF K mg "Apart" := ⟨⟨C_Apart, PySem.W.mg_of X G ac_Apart, xc_Apart, kc_Apart, bc_Apart, tc_Apart, ⟨gc_Apart, hc_Apart, bc_Apart, dc_Apart, lc_Apart, hnn, htt, mc_Apart⟩⟩, ⟨_, _, PySem.W.mg_of X G ac_Apart, m_BraceError, PySem.W.exm_ref bc_BraceError dc_BraceError tc_BraceError sc_Apart⟩, ⟨_, PySem.W.mg_of X G ac_Apart, kit_ve vc_Apart⟩, by
    intro t ht
    simp only [errNames, List.mem_cons, List.not_mem_nil, or_false] at ht
    rcases ht with rfl | rfl | rfl | rfl | rfl | rfl | rfl
    · exact ⟨_, _, PySem.W.mg_of X G ac_Apart, PySem.W.mg_of X G ac_NoFloor, kit_ne (by decide) (kit_no ic_Apart_NoFloor rc_Apart dc_NoFloor tc_NoFloor)⟩
    · exact ⟨_, _, PySem.W.mg_of X G ac_Apart, PySem.W.mg_of X G ac_Apart, kit_self⟩
    · exact ⟨_, _, PySem.W.mg_of X G ac_Apart, PySem.W.mg_of X G ac_Hollow, kit_ne (by decide) (kit_no ic_Apart_Hollow rc_Apart dc_Hollow tc_Hollow)⟩
    · exact ⟨_, _, PySem.W.mg_of X G ac_Apart, PySem.W.mg_of X G ac_NoText, kit_ne (by decide) (kit_no ic_Apart_NoText rc_Apart dc_NoText tc_NoText)⟩
    · exact ⟨_, _, PySem.W.mg_of X G ac_Apart, PySem.W.mg_of X G ac_NoRow, kit_ne (by decide) (kit_no ic_Apart_NoRow rc_Apart dc_NoRow tc_NoRow)⟩
    · exact ⟨_, _, PySem.W.mg_of X G ac_Apart, PySem.W.mg_of X G ac_NoField, kit_ne (by decide) (kit_no ic_Apart_NoField rc_Apart dc_NoField tc_NoField)⟩
    · exact ⟨_, _, PySem.W.mg_of X G ac_Apart, PySem.W.mg_of X G ac_NoDeed, kit_ne (by decide) (kit_no ic_Apart_NoDeed rc_Apart dc_NoDeed tc_NoDeed)⟩⟩
  have m_eHollow : ErrF K mg "Hollow" := ⟨⟨C_Hollow, PySem.W.mg_of X G ac_Hollow, xc_Hollow, kc_Hollow, bc_Hollow, tc_Hollow, ⟨gc_Hollow, hc_Hollow, bc_Hollow, dc_Hollow, lc_Hollow, hnn, htt, mc_Hollow⟩⟩, ⟨_, _, PySem.W.mg_of X G ac_Hollow, m_BraceError, PySem.W.exm_ref bc_BraceError dc_BraceError tc_BraceError sc_Hollow⟩, ⟨_, PySem.W.mg_of X G ac_Hollow, kit_ve vc_Hollow⟩, by
    intro t ht
    simp only [errNames, List.mem_cons, List.not_mem_nil, or_false] at ht
    rcases ht with rfl | rfl | rfl | rfl | rfl | rfl | rfl
    · exact ⟨_, _, PySem.W.mg_of X G ac_Hollow, PySem.W.mg_of X G ac_NoFloor, kit_ne (by decide) (kit_no ic_Hollow_NoFloor rc_Hollow dc_NoFloor tc_NoFloor)⟩
    · exact ⟨_, _, PySem.W.mg_of X G ac_Hollow, PySem.W.mg_of X G ac_Apart, kit_ne (by decide) (kit_no ic_Hollow_Apart rc_Hollow dc_Apart tc_Apart)⟩
    · exact ⟨_, _, PySem.W.mg_of X G ac_Hollow, PySem.W.mg_of X G ac_Hollow, kit_self⟩
    · exact ⟨_, _, PySem.W.mg_of X G ac_Hollow, PySem.W.mg_of X G ac_NoText, kit_ne (by decide) (kit_no ic_Hollow_NoText rc_Hollow dc_NoText tc_NoText)⟩
    · exact ⟨_, _, PySem.W.mg_of X G ac_Hollow, PySem.W.mg_of X G ac_NoRow, kit_ne (by decide) (kit_no ic_Hollow_NoRow rc_Hollow dc_NoRow tc_NoRow)⟩
    · exact ⟨_, _, PySem.W.mg_of X G ac_Hollow, PySem.W.mg_of X G ac_NoField, kit_ne (by decide) (kit_no ic_Hollow_NoField rc_Hollow dc_NoField tc_NoField)⟩
    · exact ⟨_, _, PySem.W.mg_of X G ac_Hollow, PySem.W.mg_of X G ac_NoDeed, kit_ne (by decide) (kit_no ic_Hollow_NoDeed rc_Hollow dc_NoDeed tc_NoDeed)⟩⟩
  refine ⟨PySem.W.fnOf "law" "law" (defArgs s_law) (defBody s_law) (defScope s_law) .none kV12 dc12 pm12 an12 cd12 ct12, fun s v => .of_eq rfl, fun base _ _ => ?_⟩
  have d_is_within := ok_is_within (P := l.prog) (w := w) (base := base) ⟨⟨_, _, F0, PySem.W.mg_of X G a0, F0.binds (ps := ["thing", "low", "high"]) fun _ _ _ _ _ _ us hl => match us, hl with | [_, _, _], _ => rfl⟩⟩ (misinstance := m_isinstance) (mint := m_int) (mbool := m_bool)
  have d_beside := ok_beside (P := l.prog) (w := w) (base := base) ⟨⟨_, _, F1, PySem.W.mg_of X G a1, F1.binds (ps := ["wide", "high", "place"]) fun _ _ _ _ _ _ us hl => match us, hl with | [_, _, _], _ => rfl⟩⟩
  have d_come_to := ok_come_to (P := l.prog) (w := w) (base := base) ⟨⟨_, _, F2, PySem.W.mg_of X G a2, F2.binds (ps := ["wide", "high", "starts", "some"]) fun _ _ _ _ _ _ us hl => match us, hl with | [_, _, _, _], _ => rfl⟩⟩ (c_beside := d_beside) (ml := m_len)
  have d_is_outermost := ok_is_outermost (P := l.prog) (w := w) (base := base) ⟨⟨_, _, F3, PySem.W.mg_of X G a3, F3.binds (ps := ["wide", "high", "place"]) fun _ _ _ _ _ _ us hl => match us, hl with | [_, _, _], _ => rfl⟩⟩
  have d_are_fields := ok_are_fields (P := l.prog) (w := w) (base := base) ⟨⟨_, _, F4, PySem.W.mg_of X G a4, F4.binds (ps := ["wide", "high", "fields"]) fun _ _ _ _ _ _ us hl => match us, hl with | [_, _, _], _ => rfl⟩⟩ (c_is_within := d_is_within) (misinstance := m_isinstance) (mlist := m_list) (mtuple := m_tuple) (ml := m_len)
  have d_floor_of := ok_floor_of (P := l.prog) (w := w) (base := base) ⟨⟨_, _, F5, PySem.W.mg_of X G a5, F5.binds (ps := ["wide", "high", "fields"]) fun _ _ _ _ _ _ us hl => match us, hl with | [_, _, _], _ => rfl⟩⟩ (c_is_within := d_is_within) (c_are_fields := d_are_fields) (c_come_to := d_come_to) (c_is_outermost := d_is_outermost) (ml := m_len) (mrange := m_range) (mtuple := m_tuple) (mMOST := ⟨_, m_MOST⟩) (eApart := m_eApart) (eHollow := m_eHollow)
  have d__law_cell := ok__law_cell (P := l.prog) (w := w) (base := base) ⟨⟨_, _, F6, PySem.W.mg_of X G a6, F6.binds (ps := ["_law_script", "_law_k"]) fun _ _ _ _ _ _ us hl => match us, hl with | [_, _], _ => rfl⟩⟩ (ml := m_len)
  have d__law_row := ok__law_row (P := l.prog) (w := w) (base := base) ⟨⟨_, _, F7, PySem.W.mg_of X G a7, F7.binds (ps := ["_law_script", "_law_k", "_law_count", "_law_base"]) fun _ _ _ _ _ _ us hl => match us, hl with | [_, _, _, _], _ => rfl⟩⟩ (c__law_cell := d__law_cell) (mrange := m_range)
  have d__law_beside := ok__law_beside (P := l.prog) (w := w) (base := base) ⟨⟨_, _, F8, PySem.W.mg_of X G a8, F8.binds (ps := ["_law_wide", "_law_high", "_law_place"]) fun _ _ _ _ _ _ us hl => match us, hl with | [_, _, _], _ => rfl⟩⟩
  have d__law_flood := ok__law_flood (P := l.prog) (w := w) (base := base) ⟨⟨_, _, F9, PySem.W.mg_of X G a9, F9.binds (ps := ["_law_wide", "_law_high", "_law_starts", "_law_some"]) fun _ _ _ _ _ _ us hl => match us, hl with | [_, _, _, _], _ => rfl⟩⟩ (c__law_beside := d__law_beside) (ml := m_len)
  have d__law_outside := ok__law_outside (P := l.prog) (w := w) (base := base) ⟨⟨_, _, F10, PySem.W.mg_of X G a10, F10.binds (ps := ["_law_wide", "_law_high", "_law_some"]) fun _ _ _ _ _ _ us hl => match us, hl with | [_, _, _], _ => rfl⟩⟩ (c__law_flood := d__law_flood) (mrange := m_range)
  have d__law_word := ok__law_word (P := l.prog) (w := w) (base := base) ⟨⟨_, _, F11, PySem.W.mg_of X G a11, F11.binds (ps := ["_law_wide", "_law_high", "_law_some"]) fun _ _ _ _ _ _ us hl => match us, hl with | [_, _, _], _ => rfl⟩⟩ (c_floor_of := d_floor_of) (misinstance := m_isinstance) (mValueError := m_ValueError) (msum := m_sum) (eApart := m_eApart) (eHollow := m_eHollow) (gBrace := ⟨_, m_BraceError⟩)
  exact ok_law (P := l.prog) (w := w) (base := base) F12 (c__law_cell := d__law_cell) (c__law_row := d__law_row) (c__law_flood := d__law_flood) (c__law_outside := d__law_outside) (c__law_word := d__law_word) (mrange := m_range) (ml := m_len) (mtuple := m_tuple)
end K03
open PySem PySem.W PyProof.Rows
set_option maxHeartbeats 0 in
theorem PySem.Challenge.cw_crossbrace_k03_apart_and_hollow_holds : PySem.Challenge.rw_crossbrace_k03_apart_and_hollow.Holds := by
  w_on; o_law; k_head; (case hw => w_witness2)
  k_fill
  refine L2.walk_ofB (l := PySem.Challenge.rw_crossbrace_k03_apart_and_hollow) (n := 63) (k := 5) (x := "_law_script") (CX := fun _ => L2.CX0) (sp := fun w => (Cb.sv1 _ Fl.SOk Fl.M_true)) rfl (by decide) rfl ⟨rfl, by decide, by decide⟩ (fun w h Y => PySem.W.kIn_of Y) ?F
    (fun _ _ a ns hl hb _ hS => ⟨(⟨ns⟩, ()), ⟨_, [], rfl, ⟨a, rfl, hS⟩, rfl⟩, ⟨hl, hb⟩, fun v H2 F _ _ _ r => r⟩) (fun _ _ _ _ _ h => h)
  case F =>
    intro w mg fa h KX G hmg
    refine' K03.all_mk KX G hmg ?a0 ?l0 ?c0 ?k0 ?a1 ?l1 ?c1 ?k1 ?a2 ?l2 ?c2 ?k2 ?a3 ?l3 ?c3 ?k3 ?a4 ?l4 ?c4 ?k4 ?a5 ?l5 ?c5 ?k5 ?a6 ?l6 ?c6 ?k6 ?a7 ?l7 ?c7 ?k7 ?a8 ?l8 ?c8 ?k8 ?a9 ?l9 ?c9 ?k9 ?a10 ?l10 ?c10 ?k10 ?a11 ?l11 ?c11 ?k11 ?a12 ?l12 ?c12 ?k12 ?z_isinstance ?z_int ?z_bool ?z_len ?z_list ?z_tuple ?z_range ?z_ValueError ?z_sum ?g_MOST ?ac_NoFloor ?ac_Apart ?ac_Hollow ?ac_NoText ?ac_NoRow ?ac_NoField ?ac_NoDeed ?ac_BraceError ?hnn ?htt ?tc_NoFloor ?dc_NoFloor ?tc_Apart ?dc_Apart ?tc_Hollow ?dc_Hollow ?tc_NoText ?dc_NoText ?tc_NoRow ?dc_NoRow ?tc_NoField ?dc_NoField ?tc_NoDeed ?dc_NoDeed ?tc_BraceError ?dc_BraceError ?bc_Apart ?bc_Hollow ?bc_BraceError ?rc_Apart ?xc_Apart ?kc_Apart ?gc_Apart ?hc_Apart ?lc_Apart ?mc_Apart ?sc_Apart ?vc_Apart ?ic_Apart_NoFloor ?ic_Apart_Hollow ?ic_Apart_NoText ?ic_Apart_NoRow ?ic_Apart_NoField ?ic_Apart_NoDeed ?rc_Hollow ?xc_Hollow ?kc_Hollow ?gc_Hollow ?hc_Hollow ?lc_Hollow ?mc_Hollow ?sc_Hollow ?vc_Hollow ?ic_Hollow_NoFloor ?ic_Hollow_Apart ?ic_Hollow_NoText ?ic_Hollow_NoRow ?ic_Hollow_NoField ?ic_Hollow_NoDeed
    (case a0 => k_is)
    (case l0 => k_is)
    (case c0 => k_is)
    (case k0 => k_is)
    (case a1 => k_is)
    (case l1 => k_is)
    (case c1 => k_is)
    (case k1 => k_is)
    (case a2 => k_is)
    (case l2 => k_is)
    (case c2 => k_is)
    (case k2 => k_is)
    (case a3 => k_is)
    (case l3 => k_is)
    (case c3 => k_is)
    (case k3 => k_is)
    (case a4 => k_is)
    (case l4 => k_is)
    (case c4 => k_is)
    (case k4 => k_is)
    (case a5 => k_is)
    (case l5 => k_is)
    (case c5 => k_is)
    (case k5 => k_is)
    (case a6 => k_is)
    (case l6 => k_is)
    (case c6 => k_is)
    (case k6 => k_is)
    (case a7 => k_is)
    (case l7 => k_is)
    (case c7 => k_is)
    (case k7 => k_is)
    (case a8 => k_is)
    (case l8 => k_is)
    (case c8 => k_is)
    (case k8 => k_is)
    (case a9 => k_is)
    (case l9 => k_is)
    (case c9 => k_is)
    (case k9 => k_is)
    (case a10 => k_is)
    (case l10 => k_is)
    (case c10 => k_is)
    (case k10 => k_is)
    (case a11 => k_is)
    (case l11 => k_is)
    (case c11 => k_is)
    (case k11 => k_is)
    (case a12 => k_is)
    (case l12 => k_is)
    (case c12 => k_is)
    (case k12 => k_is)
    (case z_isinstance => k_is)
    (case z_int => k_is)
    (case z_bool => k_is)
    (case z_len => k_is)
    (case z_list => k_is)
    (case z_tuple => k_is)
    (case z_range => k_is)
    (case z_ValueError => k_is)
    (case z_sum => k_is)
    (case g_MOST => exact ⟨_, by k_is⟩)
    (case ac_NoFloor => k_is)
    (case ac_Apart => k_is)
    (case ac_Hollow => k_is)
    (case ac_NoText => k_is)
    (case ac_NoRow => k_is)
    (case ac_NoField => k_is)
    (case ac_NoDeed => k_is)
    (case ac_BraceError => k_is)
    (case hnn => k_is)
    (case htt => k_is)
    (case tc_NoFloor => k_is)
    (case dc_NoFloor => k_is)
    (case tc_Apart => k_is)
    (case dc_Apart => k_is)
    (case tc_Hollow => k_is)
    (case dc_Hollow => k_is)
    (case tc_NoText => k_is)
    (case dc_NoText => k_is)
    (case tc_NoRow => k_is)
    (case dc_NoRow => k_is)
    (case tc_NoField => k_is)
    (case dc_NoField => k_is)
    (case tc_NoDeed => k_is)
    (case dc_NoDeed => k_is)
    (case tc_BraceError => k_is)
    (case dc_BraceError => k_is)
    (case bc_Apart => k_is)
    (case bc_Hollow => k_is)
    (case bc_BraceError => k_is)
    (case rc_Apart => first | rfl | k_is)
    (case xc_Apart => k_exc)
    (case kc_Apart => k_is)
    (case gc_Apart => k_is)
    (case hc_Apart => k_is)
    (case lc_Apart => k_is)
    (case mc_Apart => k_is)
    (case sc_Apart => first | rfl | k_is)
    (case vc_Apart => k_is)
    (case ic_Apart_NoFloor => k_is)
    (case ic_Apart_Hollow => k_is)
    (case ic_Apart_NoText => k_is)
    (case ic_Apart_NoRow => k_is)
    (case ic_Apart_NoField => k_is)
    (case ic_Apart_NoDeed => k_is)
    (case rc_Hollow => first | rfl | k_is)
    (case xc_Hollow => k_exc)
    (case kc_Hollow => k_is)
    (case gc_Hollow => k_is)
    (case hc_Hollow => k_is)
    (case lc_Hollow => k_is)
    (case mc_Hollow => k_is)
    (case sc_Hollow => first | rfl | k_is)
    (case vc_Hollow => k_is)
    (case ic_Hollow_NoFloor => k_is)
    (case ic_Hollow_Apart => k_is)
    (case ic_Hollow_NoText => k_is)
    (case ic_Hollow_NoRow => k_is)
    (case ic_Hollow_NoField => k_is)
    (case ic_Hollow_NoDeed => k_is)
