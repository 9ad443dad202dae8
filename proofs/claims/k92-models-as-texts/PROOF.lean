import PyProof.Rows.All
import Wide.All
import OpenK.AllK
import Wide.FinOn
import HandS.ForMost
import HandS.Wide
import HandS.Deep
import HandS.EndBits
import HandS.IsInst
import HandS.SortInts
import KE.DataEq
import HandS.TupAny
import HandS.Zip
import HandS.TupMul
import HandS.Steps
import HandS.TupSets
import HandS.Conv
import HandS.TupLe
import HandS.NoneIn
import KE.GoesMore
import KE.GoesEnum
import HandS.Dict
import HandS.SetKeys
import HandS.Style
import PyProof.DictMoreH
import KE.GoesZip
import HandS.DictTup
import HandS.TupLen
import KE.KDictCopyH
import KE.KTupSum
import HandS.Exc
import HandS.ExcOwn
import HandS.ExcValue
import HandS.WordsExc
import HandS.ExcIs
import HandS.Text
import HandS.RaiseMore
import PyProof.StrLawsChain
import PyProof.Rows.StrItems
import PyProof.Rows.StrSplitAre
import HandS.FStr
import PySem.Challenge.RW_trialfield_k92_models_as_texts
set_option Elab.async false
set_option linter.all false
set_option maxRecDepth 100000
set_option maxHeartbeats 4000000
namespace Tf
open PySem PySem.Spec L2

abbrev Fg := PySem.W.Frag

/-! ### data in the heap -/
class Rep (K : Fg) (α : Type) where
  At : Hp → V → α → Prop
  mono : ∀ {F G : Hp} {v : V} {a : α}, Same F G → At F v a → At G v a

def Tup (α : Type) : Type := List α
abbrev tupOf {α : Type} (xs : List α) : Tup α := xs
def Scr : Type := List Int
structure T1 (α : Type) where
  a : α
  deriving DecidableEq
structure T3 (α β γ : Type) where
  a : α
  b : β
  c : γ
  deriving DecidableEq
structure T4 (α β γ δ : Type) where
  a : α
  b : β
  c : γ
  d : δ
  deriving DecidableEq

theorem same_t0 {K : Fg} {F G : Hp} {p : Addr} {xs : List V} (e : Same F G) (h : SqT K F p xs) : SqT K G p xs := by
  rcases h with (h | ⟨o, h⟩) | h
  · exact .inl (.inl (e _ _ h))
  · exact .inl (.inr ⟨o, e _ _ h⟩)
  · exact .inr h
class ToSq (P : Prop) (K : Fg) (F : outParam Hp) (p : outParam Addr) (xs : outParam (List V)) : Prop where
  sq : P → SqT K F p xs
instance toSq0 {K : Fg} {F : Hp} {p : Addr} {xs : List V} : ToSq (SqT K F p xs) K F p xs := ⟨fun h => h⟩
instance toSq1 {K : Fg} {F : Hp} {p : Addr} {xs : List V} : ToSq (F p = some (.tup xs)) K F p xs := ⟨fun h => .inl (.inl h)⟩
theorem same_t {P : Prop} {K : Fg} {F G : Hp} {p : Addr} {xs : List V} [t : ToSq P K F p xs] (e : Same F G) (h : P) : SqT K G p xs := same_t0 e (t.sq h)
theorem pmono {α : Type} {P Q : V → α → Prop} {vs : List V} {xs : List α} (h : Paired P vs xs) (f : ∀ v a, P v a → Q v a) : Paired Q vs xs := Paired.mapP h f

section
variable {K : Fg}
instance repInt : Rep K Int := ⟨fun _ v a => v = .int a, fun _ h => h⟩
instance repBool : Rep K Bool := ⟨fun _ v a => v = .bl a, fun _ h => h⟩
instance repStr : Rep K Str := ⟨fun _ v a => v = .str a, fun _ h => h⟩
instance repUnit : Rep K Unit := ⟨fun _ v _ => v = .non, fun _ h => h⟩
instance repScr : Rep K Scr := ⟨fun F v (a : List Int) => ∃ p, v = .ref p ∧ SqL K F p (a.map V.int) ∧ a.length ≤ 63, fun s ⟨p, e, h, l⟩ => ⟨p, e, s.seq h, l⟩⟩
instance repList {α : Type} [i : Rep K α] : Rep K (List α) :=
  ⟨fun F v xs => ∃ p vs, v = .ref p ∧ F p = some (.lst vs) ∧ vs.length ≤ sizeLine ∧ Paired (i.At F) vs xs,
   fun s ⟨p, vs, e, h, l, q⟩ => ⟨p, vs, e, s _ _ h, l, pmono q fun _ _ z => i.mono s z⟩⟩
instance repTup {α : Type} [i : Rep K α] : Rep K (Tup α) :=
  ⟨fun F v (xs : List α) => ∃ p vs, v = .ref p ∧ F p = some (.tup vs) ∧ vs.length ≤ sizeLine ∧ Paired (i.At F) vs xs,
   fun s ⟨p, vs, e, h, l, q⟩ => ⟨p, vs, e, s _ _ h, l, pmono q fun _ _ z => i.mono s z⟩⟩
instance repT1 {α : Type} [i : Rep K α] : Rep K (T1 α) :=
  ⟨fun F v x => ∃ p a, v = .ref p ∧ SqT K F p [a] ∧ i.At F a x.a,
   fun s ⟨p, a, e, h, q⟩ => ⟨p, a, e, same_t s h, i.mono s q⟩⟩
instance repProd {α β : Type} [i : Rep K α] [j : Rep K β] : Rep K (α × β) :=
  ⟨fun F v x => ∃ p a b, v = .ref p ∧ SqT K F p [a, b] ∧ i.At F a x.1 ∧ j.At F b x.2,
   fun s ⟨p, a, b, e, h, q, r⟩ => ⟨p, a, b, e, same_t s h, i.mono s q, j.mono s r⟩⟩
instance repT3 {α β γ : Type} [i : Rep K α] [j : Rep K β] [k : Rep K γ] : Rep K (T3 α β γ) :=
  ⟨fun F v x => ∃ p a b c, v = .ref p ∧ SqT K F p [a, b, c] ∧ i.At F a x.a ∧ j.At F b x.b ∧ k.At F c x.c,
   fun s ⟨p, a, b, c, e, h, q, r, t⟩ => ⟨p, a, b, c, e, same_t s h, i.mono s q, j.mono s r, k.mono s t⟩⟩
instance repT4 {α β γ δ : Type} [i : Rep K α] [j : Rep K β] [k : Rep K γ] [l : Rep K δ] : Rep K (T4 α β γ δ) :=
  ⟨fun F v x => ∃ p a b c d, v = .ref p ∧ SqT K F p [a, b, c, d] ∧ i.At F a x.a ∧ j.At F b x.b ∧ k.At F c x.c ∧ l.At F d x.d,
   fun s ⟨p, a, b, c, d, e, h, q, r, t, u⟩ => ⟨p, a, b, c, d, e, same_t s h, i.mono s q, j.mono s r, k.mono s t, l.mono s u⟩⟩
instance repOption {α : Type} [i : Rep K α] : Rep K (Option α) :=
  ⟨fun F v x => match x with
    | none => v = .non
    | some a => i.At F v a, fun {F G v a} s h => by
      cases a with
      | none => exact h
      | some a => exact i.mono s h⟩
instance repSum {α β : Type} [i : Rep K α] [j : Rep K β] : Rep K (α ⊕ β) :=
  ⟨fun F v x => match x with
    | .inl a => i.At F v a
    | .inr a => j.At F v a, fun {F G v a} s h => by
      cases a with
      | inl a => exact i.mono s h
      | inr a => exact j.mono s h⟩
end

/-! ### environments -/
/-- a tuple of whole numbers: nobody owns it -/
def NumT (o : HO) : Prop := ∃ k : List Int, o = .tup (k.map V.int)
theorem lst_flat {vs : List V} : ¬ NumT (.lst vs) := fun ⟨_, e⟩ => nomatch e
theorem ref_flat {vs : List V} {p : Addr} (h : V.ref p ∈ vs) : ¬ NumT (.tup vs) := fun ⟨k, e⟩ => by
  injection e with e
  rw [e] at h
  obtain ⟨_, _, z⟩ := List.mem_map.mp h
  cases z
/-- what one owns: an object of one's own with its parts, at the addresses S -/
structure ORep (K : Fg) (α : Type) where
  At : Hp → Hp → V → (Addr → Prop) → α → Prop
  move : ∀ {F H F' H' : Hp} {v : V} {S : Addr → Prop} {a : α}, At F H v S a → Same F F' → (∀ p, S p → H' p = H p) → (∀ p, S p → F' p = none) → At F' H' v S a
  out : ∀ {F H : Hp} {v : V} {S : Addr → Prop} {a : α}, At F H v S a → ∀ p, S p → F p = none ∧ ∃ o, H p = some o ∧ ¬ NumT o
inductive Ent (K : Fg) : Type 1 where
  | no
  | val {α : Type} (i : Rep K α) (a : α)
  | own {α : Type} (i : Rep K α) (xs : List α)
  | obj {α : Type} (r : ORep K α) (a : α)
abbrev Env (K : Fg) := List (Ent K)
abbrev vl {K : Fg} {α : Type} [i : Rep K α] (a : α) : Ent K := .val i a
abbrev ow {K : Fg} {α : Type} [i : Rep K α] (a : List α) : Ent K := .own i a
def Ent.isOwn {K : Fg} : Ent K → Bool
  | .no => false
  | .val _ _ => false
  | .own _ _ => true
  | .obj _ _ => true
def OwnL {K : Fg} {α : Type} (i : Rep K α) (F H : Hp) (p : Addr) (xs : List α) : Prop := ∃ vs, H p = some (.lst vs) ∧ vs.length ≤ sizeLine ∧ Paired (i.At F) vs xs
def EntAt {K : Fg} (F H : Hp) (S : Addr → Prop) (s : Option (Option V)) : Ent K → Prop
  | .no => True
  | .val i a => ∃ v, s = some (some v) ∧ i.At F v a
  | .own i xs => ∃ p, (∀ q, S q ↔ q = p) ∧ s = some (some (.ref p)) ∧ F p = none ∧ OwnL i F H p xs
  | .obj r a => ∃ v, s = some (some v) ∧ r.At F H v S a
def OwA {K : Fg} (es : Env K) (ad : Nat → Addr → Prop) (p : Addr) : Prop := ∃ i e, es[i]? = some e ∧ e.isOwn = true ∧ ad i p
def adSet (ad : Nat → Addr → Prop) (i : Nat) (S : Addr → Prop) : Nat → Addr → Prop := fun k => if k = i then S else ad k
theorem adSet_self (ad : Nat → Addr → Prop) (i : Nat) (S : Addr → Prop) : adSet ad i S i = S := if_pos rfl
theorem adSet_ne {ad : Nat → Addr → Prop} {i k : Nat} {S : Addr → Prop} (h : k ≠ i) : adSet ad i S k = ad k := if_neg h

structure RSt (K : Fg) (F H : Hp) (ad : Nat → Addr → Prop) (σ : L2.St) (es : Env K) : Prop where
  ex : Same F H
  len : es.length = σ.length
  ent : ∀ i e, es[i]? = some e → EntAt F H (ad i) (σ[i]?) e
  inj : ∀ i j e u, es[i]? = some e → es[j]? = some u → e.isOwn = true → u.isOwn = true → ∀ p, ad i p → ad j p → i = j

/-- the heap grows, the frozen part too; what was there stays -/
structure Grow (F H F' H' : Hp) : Prop where
  ff : Same F F'
  hh : Same H H'
  ex : Same F' H'
  fr : ∀ p o, H p = some o → ¬ NumT o → F p = none → F' p = none
theorem Grow.refl {F H : Hp} (h : Same F H) : Grow F H F H := ⟨Same.refl F, Same.refl H, h, fun _ _ _ _ h => h⟩
theorem Grow.trans {F H F1 H1 F2 H2 : Hp} (a : Grow F H F1 H1) (b : Grow F1 H1 F2 H2) : Grow F H F2 H2 :=
  ⟨a.ff.trans b.ff, a.hh.trans b.hh, b.ex, fun p o h n f => b.fr p o (a.hh p o h) n (a.fr p o h n f)⟩
theorem same_new {H : Hp} {p : Addr} {o : HO} (h : H p = none) : Same H (upd H p o) := fun b x e => by
  rw [upd_ne (ne_of_none e h)]
  exact e
/-- a new object, frozen at once -/
theorem Grow.lay {F H : Hp} {p : Addr} {o : HO} (e : Same F H) (h : H p = none) : Grow F H (upd F p o) (upd H p o) := by
  have hf : F p = none := e.free h
  refine ⟨same_new hf, same_new h, fun b x q => ?_, fun b x q _ r => ?_⟩
  · by_cases hb : b = p
    · subst hb
      rw [upd_same] at q ⊢
      exact q
    · rw [upd_ne hb] at q ⊢
      exact e _ _ q
  · rw [upd_ne (ne_of_none q h)]
    exact r
/-- a new object, not frozen -/
theorem Grow.make {F H : Hp} {p : Addr} {o : HO} (e : Same F H) (h : H p = none) : Grow F H F (upd H p o) :=
  ⟨Same.refl F, same_new h, e.trans (same_new h), fun _ _ _ _ r => r⟩

section
variable {K : Fg} {F H F' H' : Hp} {ad : Nat → Addr → Prop} {σ : L2.St} {es : Env K}
theorem OwnL.grow {α : Type} {i : Rep K α} {p : Addr} {xs : List α} (g : Same F F') (hh : H p = H' p) (h : OwnL i F H p xs) : OwnL i F' H' p xs := by
  obtain ⟨vs, a, b, c⟩ := h
  exact ⟨vs, by rw [← hh]; exact a, b, pmono c fun _ _ z => i.mono g z⟩
theorem RSt.grow (r : RSt K F H ad σ es) (g : Grow F H F' H') : RSt K F' H' ad σ es := by
  refine ⟨g.ex, r.len, fun i e he => ?_, r.inj⟩
  have h := r.ent i e he
  cases e with
  | no => trivial
  | val j a =>
    obtain ⟨v, h1, h2⟩ := h
    exact ⟨v, h1, j.mono g.ff h2⟩
  | own j xs =>
    obtain ⟨p, h0, h1, h2, vs, h3, h4, h5⟩ := h
    exact ⟨p, h0, h1, g.fr _ _ h3 lst_flat h2, vs, g.hh _ _ h3, h4, pmono h5 fun _ _ z => j.mono g.ff z⟩
  | obj j a =>
    obtain ⟨v, h1, h2⟩ := h
    exact ⟨v, h1, j.move h2 g.ff (fun p hp => by
      obtain ⟨_, o, ho, _⟩ := j.out h2 p hp
      rw [ho, g.hh p o ho]) fun p hp => by
      obtain ⟨hf, o, ho, nf⟩ := j.out h2 p hp
      exact g.fr p o ho nf hf⟩
end

/-! ### expressions -/
abbrev RR (α : Type) := (Addr → Prop) → Hp → Hp → V → α → Prop
class GoodR {α : Type} (R : RR α) : Prop where
  mono : ∀ {fr : Addr → Prop} {F H F' H' : Hp} {v : V} {a : α}, Grow F H F' H' → R fr F H v a → R fr F' H' v a
  weak : ∀ {fr fr' : Addr → Prop} {F H : Hp} {v : V} {a : α}, (∀ p, fr p → fr' p) → R fr F H v a → R fr' F H v a
section
variable {K : Fg} {α : Type}
/-- frozen data | a new list of one's own | a list that can be read -/
def RV (i : Rep K α) : RR α := fun _ F _ v a => i.At F v a
def RN (i : Rep K α) : RR (List α) := fun fr F H v xs => ∃ p, v = .ref p ∧ fr p ∧ F p = none ∧ OwnL i F H p xs
def RL (i : Rep K α) : RR (List α) := fun _ F H v xs => ∃ p vs, v = .ref p ∧ H p = some (.lst vs) ∧ vs.length ≤ sizeLine ∧ Paired (i.At F) vs xs
instance goodRV {i : Rep K α} : GoodR (RV i) := ⟨fun g h => i.mono g.ff h, fun _ h => h⟩
instance goodRN {i : Rep K α} : GoodR (RN i) := ⟨fun g ⟨p, e, f, h, vs, a, b, c⟩ => ⟨p, e, f, g.fr _ _ a lst_flat h, vs, g.hh _ _ a, b, pmono c fun _ _ z => i.mono g.ff z⟩, fun w ⟨p, e, f, h⟩ => ⟨p, e, w p f, h⟩⟩
instance goodRL {i : Rep K α} : GoodR (RL i) := ⟨fun g ⟨p, vs, e, h, l, c⟩ => ⟨p, vs, e, g.hh _ _ h, l, pmono c fun _ _ z => i.mono g.ff z⟩, fun _ h => h⟩
end

def EvG {K : Fg} {α : Type} (R : RR α) (te : TE) (es : Env K) (m : Option α) : Prop :=
  ∀ a, m = some a → ∀ (F H : Hp) (ad : Nat → Addr → Prop) (σ : L2.St), RSt K F H ad σ es → ∀ Q : VK, (∀ v F' H', Grow F H F' H' → R (fun p => H p = none) F' H' v a → Q v H') → te σ H Q
def EvT {K : Fg} (tt : TT) (es : Env K) (m : Option Bool) : Prop :=
  ∀ a, m = some a → ∀ (F H : Hp) (ad : Nat → Addr → Prop) (σ : L2.St), RSt K F H ad σ es → ∀ Q : Bool → Hp → Prop, (∀ F' H', Grow F H F' H' → Q a H') → tt σ H Q
abbrev Ev {K : Fg} {α : Type} [i : Rep K α] (te : TE) (es : Env K) (m : Option α) : Prop := EvG (RV i) te es m
abbrev EvN {K : Fg} {α : Type} [i : Rep K α] (te : TE) (es : Env K) (m : Option (List α)) : Prop := EvG (RN i) te es m
abbrev EvL {K : Fg} {α : Type} [i : Rep K α] (te : TE) (es : Env K) (m : Option (List α)) : Prop := EvG (RL i) te es m
/-- what an operation on values gives -/
def OpS {γ : Type} (R : RR γ) (r : Hp → VK → Prop) (F H : Hp) (m : Option γ) : Prop :=
  ∀ c, m = some c → ∀ Q : VK, (∀ v F' H', Grow F H F' H' → R (fun p => H p = none) F' H' v c → Q v H') → r H Q

section
variable {K : Fg} {α β γ : Type} {es : Env K} {ta tb te : TE} {R1 : RR α} {R2 : RR β} {R : RR γ} {ma : Option α} {mb : Option β}
theorem weak_none [GoodR R] {H H1 F' H' : Hp} {v : V} {c : γ} (g : Same H H1) (h : R (fun p => H1 p = none) F' H' v c) : R (fun p => H p = none) F' H' v c := GoodR.weak (fun p q => g.free q) h
theorem bind_some {α : Type u} {β : Type w} {m : Option α} {k : α → Option β} {b : β} (h : m.bind k = some b) : ∃ a, m = some a ∧ k a = some b := by
  cases m with
  | none => cases h
  | some a => exact ⟨a, rfl, h⟩
theorem map_some {α : Type u} {β : Type w} {m : Option α} {k : α → β} {b : β} (h : m.map k = some b) : ∃ a, m = some a ∧ k a = b := by
  cases m with
  | none => cases h
  | some a => exact ⟨a, rfl, Option.some.inj h⟩
theorem ev_op2 [GoodR R1] [GoodR R2] [GoodR R] {r : L2.R2} {k : α → β → Option γ} (ha : EvG R1 ta es ma) (hb : EvG R2 tb es mb)
    (hr : ∀ a b x y fr1 fr2 F H, ma = some a → mb = some b → Same F H → R1 fr1 F H x a → R2 fr2 F H y b → OpS R (r x y) F H (k a b)) : EvG R (tOp r ta tb) es (ma.bind fun a => mb.bind fun b => k a b) := by
  intro c hc F H ad σ rs Q q
  obtain ⟨a, ea, hc⟩ := bind_some hc
  obtain ⟨b, eb, hc⟩ := bind_some hc
  refine ha a ea F H ad σ rs _ fun x F1 H1 g1 h1 => ?_
  refine hb b eb F1 H1 ad σ (rs.grow g1) _ fun y F2 H2 g2 h2 => ?_
  exact hr a b x y _ _ F2 H2 ea eb g2.ex (GoodR.mono g2 h1) h2 c hc Q fun v F3 H3 g3 h3 => q v F3 H3 ((g1.trans g2).trans g3) (weak_none (g1.trans g2).hh h3)
theorem ev_op1 [GoodR R1] [GoodR R] {r : V → Hp → VK → Prop} {k : α → Option γ} (ha : EvG R1 ta es ma)
    (hr : ∀ a x fr1 F H, ma = some a → Same F H → R1 fr1 F H x a → OpS R (r x) F H (k a)) : EvG R (tUn r ta) es (ma.bind k) := by
  intro c hc F H ad σ rs Q q
  obtain ⟨a, ea, hc⟩ := bind_some hc
  refine ha a ea F H ad σ rs _ fun x F1 H1 g1 h1 => ?_
  exact hr a x _ F1 H1 ea g1.ex h1 c hc Q fun v F3 H3 g3 h3 => q v F3 H3 (g1.trans g3) (weak_none g1.hh h3)
theorem ev_cb1 [GoodR R1] [GoodR R] {r : List V → Hp → VK → Prop} {k : α → Option γ} (ha : EvG R1 ta es ma)
    (hr : ∀ a x fr1 F H, ma = some a → Same F H → R1 fr1 F H x a → OpS R (r [x]) F H (k a)) : EvG R (tCB r (tCons ta tNil)) es (ma.bind k) := by
  intro c hc F H ad σ rs Q q
  obtain ⟨a, ea, hc⟩ := bind_some hc
  refine ha a ea F H ad σ rs _ fun x F1 H1 g1 h1 => ?_
  exact hr a x _ F1 H1 ea g1.ex h1 c hc Q fun v F3 H3 g3 h3 => q v F3 H3 (g1.trans g3) (weak_none g1.hh h3)
theorem ev_cb2 [GoodR R1] [GoodR R2] [GoodR R] {r : List V → Hp → VK → Prop} {k : α → β → Option γ} (ha : EvG R1 ta es ma) (hb : EvG R2 tb es mb)
    (hr : ∀ a b x y fr1 fr2 F H, ma = some a → mb = some b → Same F H → R1 fr1 F H x a → R2 fr2 F H y b → OpS R (r [x, y]) F H (k a b)) : EvG R (tCB r (tCons ta (tCons tb tNil))) es (ma.bind fun a => mb.bind fun b => k a b) := by
  intro c hc F H ad σ rs Q q
  obtain ⟨a, ea, hc⟩ := bind_some hc
  obtain ⟨b, eb, hc⟩ := bind_some hc
  refine ha a ea F H ad σ rs _ fun x F1 H1 g1 h1 => ?_
  refine hb b eb F1 H1 ad σ (rs.grow g1) _ fun y F2 H2 g2 h2 => ?_
  exact hr a b x y _ _ F2 H2 ea eb g2.ex (GoodR.mono g2 h1) h2 c hc Q fun v F3 H3 g3 h3 => q v F3 H3 ((g1.trans g2).trans g3) (weak_none (g1.trans g2).hh h3)
theorem ops_pure {r : Hp → VK → Prop} {F H : Hp} {c : γ} {i : Rep K γ} (e : Same F H) (v : V) (hv : i.At F v c) (h : ∀ Q : VK, Q v H → r H Q) : OpS (RV i) r F H (some c) := fun c' hc Q q => by
  cases hc
  exact h Q (q v F H (Grow.refl e) hv)
theorem ops_if {r : Hp → VK → Prop} {F H : Hp} {P : Prop} [Decidable P] {m : Option γ} (h : P → OpS R r F H m) : OpS R r F H (if P then m else none) := by
  intro c hc
  by_cases hp : P
  · rw [if_pos hp] at hc
    exact h hp c hc
  · rw [if_neg hp] at hc
    cases hc
/-- reading a name -/
theorem ev_var {i : Nat} [j : Rep K α] {a : α} (h : es[i]? = some (.val j a)) : Ev (tVar i) es (some a) := by
  intro c hc F H ad σ rs Q q
  cases hc
  obtain ⟨v, h1, h2⟩ := rs.ent i _ h
  exact ⟨v, h1, q v F H (Grow.refl rs.ex) h2⟩
theorem ev_varL {i : Nat} [j : Rep K α] {xs : List α} (h : es[i]? = some (.own j xs)) : EvL (tVar i) es (some xs) := by
  intro c hc F H ad σ rs Q q
  cases hc
  obtain ⟨p, _, h1, h2, vs, h3, h4, h5⟩ := rs.ent i _ h
  exact ⟨_, h1, q _ F H (Grow.refl rs.ex) ⟨_, vs, rfl, h3, h4, h5⟩⟩
theorem ev_c [j : Rep K α] {v : V} {a : α} (h : ∀ F, j.At F v a) : Ev (tC v) es (some a) := by
  intro c hc F H ad σ rs Q q
  cases hc
  exact q v F H (Grow.refl rs.ex) (h F)
theorem ev_int {n : Int} : Ev (tC (.int n)) es (some n) := ev_c fun _ => rfl
theorem ev_bl {n : Bool} : Ev (tC (.bl n)) es (some n) := ev_c fun _ => rfl
theorem ev_str {n : Str} : Ev (tC (.str n)) es (some n) := ev_c fun _ => rfl
theorem ev_non : Ev (tC .non) es (some ()) := ev_c fun _ => rfl
theorem ev_none [Rep K α] : Ev (tC .non) es (some (none : Option α)) := ev_c fun _ => rfl
/-- kinds of answers -/
theorem EvG.imp {R R' : RR α} {m : Option α} (h : EvG R te es m) (f : ∀ fr F H v a, Same F H → R fr F H v a → R' fr F H v a) : EvG R' te es m := fun a ha F H ad σ rs Q q =>
  h a ha F H ad σ rs Q fun v F' H' g x => q v F' H' g (f _ _ _ _ _ g.ex x)
theorem paired_ints {K : Fg} {F : Hp} : ∀ ns : List Int, Paired ((repInt (K := K)).At F) (ns.map V.int) ns
  | [] => .nil
  | n :: r => .cons rfl (paired_ints r)
theorem ints_of_paired {K : Fg} {F : Hp} {vs : List V} {ns : List Int} (h : Paired ((repInt (K := K)).At F) vs ns) : vs = ns.map V.int := by
  induction h with
  | nil => rfl
  | cons a _ ih =>
    have e : _ = V.int _ := a
    rw [List.map_cons, e, ih]
/-- a new list, frozen -/
theorem ev_froz [i : Rep K α] {m : Option (List α)} (h : EvN te es m) : Ev te es m := fun a ha F H ad σ rs Q q =>
  h a ha F H ad σ rs Q fun v F' H' g ⟨p, e, f, f2, vs, h3, h4, h5⟩ => by
    refine q v (upd F' p (.lst vs)) H' ⟨g.ff.trans (same_new f2), g.hh, fun b x z => ?_, fun b x z n y => ?_⟩ ⟨p, vs, e, upd_same, h4, pmono h5 fun _ _ z => i.mono (same_new f2) z⟩
    · by_cases hb : b = p
      · subst hb
        rw [upd_same] at z
        rw [← z]
        exact h3
      · rw [upd_ne hb] at z
        exact g.ex _ _ z
    · rw [upd_ne (ne_of_none z f)]
      exact g.fr b x z n y
theorem ev_rdN [i : Rep K α] {m : Option (List α)} (h : EvN te es m) : EvL te es m := fun a ha F H ad σ rs Q q =>
  h a ha F H ad σ rs Q fun v F' H' g ⟨p, e, f, f2, vs, h3, h4, h5⟩ => q v F' H' g ⟨p, vs, e, h3, h4, h5⟩
theorem ev_rd [i : Rep K α] {m : Option (List α)} (h : Ev te es m) : EvL te es m := fun a ha F H ad σ rs Q q =>
  h a ha F H ad σ rs Q fun v F' H' g ⟨p, vs, e, h3, h4, h5⟩ => q v F' H' g ⟨p, vs, e, g.ex _ _ h3, h4, h5⟩
end
end Tf
set_option Elab.async false
set_option linter.all false
set_option maxRecDepth 100000
set_option maxHeartbeats 4000000
namespace Tf
open PySem PySem.Spec L2

/-! ### statements -/
inductive Fl (K : Fg) (ρ : Type) : Type 1 where
  | nx (es : Env K)
  | rt (r : ρ)
  | bk (es : Env K)
  | ct (es : Env K)
  | ex (P : Hp → Prop)
structure Adv (ow : Addr → Prop) (F H F' H' : Hp) : Prop where
  ff : Same F F'
  hh : ∀ p o, H p = some o → ¬ ow p → H' p = some o
  dm : ∀ p o, H p = some o → ∃ u, H' p = some u
  fr : ∀ p o, H p = some o → ¬ NumT o → F p = none → ow p ∨ F' p = none
theorem Grow.adv {ow : Addr → Prop} {F H F' H' : Hp} (g : Grow F H F' H') : Adv ow F H F' H' :=
  ⟨g.ff, fun p o h _ => g.hh p o h, fun p o h => ⟨o, g.hh p o h⟩, fun p o h n f => .inr (g.fr p o h n f)⟩
theorem Adv.refl {ow : Addr → Prop} {F H : Hp} : Adv ow F H F H := ⟨Same.refl F, fun _ _ h _ => h, fun _ o h => ⟨o, h⟩, fun _ _ _ _ f => .inr f⟩
theorem Adv.trans {ow ow1 : Addr → Prop} {F H F1 H1 F2 H2 : Hp} (a : Adv ow F H F1 H1) (s : ∀ p, ow1 p → ow p ∨ H p = none) (b : Adv ow1 F1 H1 F2 H2) : Adv ow F H F2 H2 := by
  refine ⟨a.ff.trans b.ff, fun p o h n => ?_, fun p o h => ?_, fun p o h nf f => ?_⟩
  · refine b.hh p o (a.hh p o h n) fun z => ?_
    rcases s p z with q | q
    · exact n q
    · rw [h] at q
      cases q
  · obtain ⟨u, hu⟩ := a.dm p o h
    exact b.dm p u hu
  · by_cases hw : ow p
    · exact .inl hw
    rcases a.fr p o h nf f with z | z
    · exact .inl z
    · rcases b.fr p o (a.hh p o h hw) nf z with y | y
      · rcases s p y with q | q
        · exact .inl q
        · rw [h] at q
          cases q
      · exact .inr y
theorem Adv.free {ow : Addr → Prop} {F H F' H' : Hp} (a : Adv ow F H F' H') {p : Addr} (h : H' p = none) : H p = none := by
  cases e : H p with
  | none => rfl
  | some o =>
    obtain ⟨u, hu⟩ := a.dm p o e
    rw [h] at hu
    cases hu
def FlOk {K : Fg} {ρ : Type} (R : RR ρ) (ow : Addr → Prop) (F H : Hp) (D : Ends) : Fl K ρ → Prop
  | .nx es' => ∀ F' H' ad' σ', Adv ow F H F' H' → (∀ p, OwA es' ad' p → ow p ∨ H p = none) → RSt K F' H' ad' σ' es' → D.nx σ' H'
  | .rt r => ∀ F' H' v, Adv ow F H F' H' → Same F' H' → R (fun p => ow p ∨ H p = none) F' H' v r → D.rt v H'
  | .bk es' => ∀ F' H' ad' σ', Adv ow F H F' H' → (∀ p, OwA es' ad' p → ow p ∨ H p = none) → RSt K F' H' ad' σ' es' → D.bk σ' H'
  | .ct es' => ∀ F' H' ad' σ', Adv ow F H F' H' → (∀ p, OwA es' ad' p → ow p ∨ H p = none) → RSt K F' H' ad' σ' es' → D.ct σ' H'
  | .ex P => ∀ F' H', Adv ow F H F' H' → Same F' H' → P H'
def Sv {K : Fg} {ρ : Type} (R : RR ρ) (ts : TS) (es : Env K) (M : Option (Fl K ρ)) : Prop :=
  ∀ fl, M = some fl → ∀ (F H : Hp) (ad : Nat → Addr → Prop) (σ : L2.St) (D : Ends), RSt K F H ad σ es → FlOk R (OwA es ad) F H D fl → ts D σ H

section
variable {K : Fg} {ρ : Type} {R : RR ρ} {ow ow1 : Addr → Prop} {F H F1 H1 : Hp} {D : Ends} {es es1 : Env K}
theorem sub_trans (a : Adv ow F H F1 H1) (s : ∀ p, ow1 p → ow p ∨ H p = none) {p : Addr} (h : ow1 p ∨ H1 p = none) : ow p ∨ H p = none := by
  rcases h with h | h
  · exact s p h
  · exact .inr (a.free h)
theorem FlOk.trans [GoodR R] {fl : Fl K ρ} (h : FlOk R ow F H D fl) (a : Adv ow F H F1 H1) (s : ∀ p, ow1 p → ow p ∨ H p = none) : FlOk R ow1 F1 H1 D fl := by
  cases fl with
  | nx es' => exact fun F' H' ad' σ' b t r => h F' H' ad' σ' (a.trans s b) (fun p z => sub_trans a s (t p z)) r
  | bk es' => exact fun F' H' ad' σ' b t r => h F' H' ad' σ' (a.trans s b) (fun p z => sub_trans a s (t p z)) r
  | ct es' => exact fun F' H' ad' σ' b t r => h F' H' ad' σ' (a.trans s b) (fun p z => sub_trans a s (t p z)) r
  | rt r => exact fun F' H' v b t x => h F' H' v (a.trans s b) t (GoodR.weak (fun p z => sub_trans a s z) x)
  | ex P => exact fun F' H' b t => h F' H' (a.trans s b) t
theorem FlOk.ends {fl : Fl K ρ} {D' : Ends} (h : FlOk R ow F H D fl) (h1 : ∀ σ H, D.nx σ H → D'.nx σ H) (h2 : ∀ v H, D.rt v H → D'.rt v H) (h3 : ∀ σ H, D.bk σ H → D'.bk σ H) (h4 : ∀ σ H, D.ct σ H → D'.ct σ H) : FlOk R ow F H D' fl := by
  cases fl with
  | nx es' => exact fun F' H' ad' σ' b t r => h1 _ _ (h F' H' ad' σ' b t r)
  | bk es' => exact fun F' H' ad' σ' b t r => h3 _ _ (h F' H' ad' σ' b t r)
  | ct es' => exact fun F' H' ad' σ' b t r => h4 _ _ (h F' H' ad' σ' b t r)
  | rt r => exact fun F' H' v b t x => h2 _ _ (h F' H' v b t x)
  | ex P => exact h

variable {t u tz : TS} {te : TE} {tc : TT}
theorem sv_seq [GoodR R] {S : Type} {m1 : Option S} {enc : S → Env K} {k : S → Option (Fl K ρ)} (h1 : Sv R t es (m1.map fun s => .nx (enc s))) (h2 : ∀ s, Sv R u (enc s) (k s)) : Sv R (tSeq t u) es (m1.bind k) := by
  intro fl hfl F H ad σ D rs fo
  obtain ⟨s, es, hs⟩ := bind_some hfl
  refine h1 (.nx (enc s)) (by rw [es]; rfl) F H ad σ { D with nx := u D } rs fun F' H' ad' σ' a t r => ?_
  exact h2 s fl hs F' H' ad' σ' D r (fo.trans a t)
/-- the block's own end -/
inductive Wk {K : Fg} : Env K → Env K → Prop
  | nil : Wk [] []
  | same {a b : Env K} (e : Ent K) : Wk a b → Wk (e :: a) (e :: b)
  | no {a b : Env K} (e : Ent K) : Wk a b → Wk (e :: a) (.no :: b)
theorem Wk.len {a b : Env K} (h : Wk a b) : b.length = a.length := by
  induction h with
  | nil => rfl
  | same e _ ih => rw [List.length_cons, List.length_cons, ih]
  | no e _ ih => rw [List.length_cons, List.length_cons, ih]
theorem Wk.get {a b : Env K} (h : Wk a b) : ∀ (i : Nat) (e : Ent K), b[i]? = some e → e = .no ∨ a[i]? = some e := by
  induction h with
  | nil => intro i e q; exact .inr q
  | same e _ ih =>
    intro i u q
    cases i with
    | zero => exact .inr q
    | succ i => exact ih i u q
  | no e _ ih =>
    intro i u q
    cases i with
    | zero => exact .inl (Option.some.inj q).symm
    | succ i => exact ih i u q
theorem RSt.wk {ad : Nat → Addr → Prop} {σ : L2.St} (r : RSt K F H ad σ es) (hl : es1.length = es.length) (g : ∀ (i : Nat) (e : Ent K), es1[i]? = some e → e = .no ∨ es[i]? = some e) : RSt K F H ad σ es1 := by
  refine ⟨r.ex, hl.trans r.len, fun i e he => ?_, fun i j e u hi hj he hu => ?_⟩
  · rcases g i e he with z | z
    · subst z; trivial
    · exact r.ent i e z
  · rcases g i e hi with z | z
    · subst z; cases he
    · rcases g j u hj with y | y
      · subst y; cases hu
      · exact r.inj i j e u z y he hu
theorem own_wk {ad : Nat → Addr → Prop} {p : Addr} (g : ∀ (i : Nat) (e : Ent K), es1[i]? = some e → e = .no ∨ es[i]? = some e) (h : OwA es1 ad p) : OwA es ad p := by
  obtain ⟨i, e, hi, he, hp⟩ := h
  rcases g i e hi with z | z
  · subst z; cases he
  · exact ⟨i, e, z, he, hp⟩
theorem sv_end (w : Wk es es1) : Sv R tNext es (some (.nx es1)) := by
  intro fl hfl F H ad σ D rs fo
  cases hfl
  exact fo F H ad σ Adv.refl (fun p h => .inl (own_wk w.get h)) (rs.wk w.len w.get)
theorem sv_cont (w : Wk es es1) : Sv R (tSeq tCont tz) es (some (.ct es1)) := by
  intro fl hfl F H ad σ D rs fo
  cases hfl
  exact fo F H ad σ Adv.refl (fun p h => .inl (own_wk w.get h)) (rs.wk w.len w.get)
theorem sv_break (w : Wk es es1) : Sv R (tSeq tBreak tz) es (some (.bk es1)) := by
  intro fl hfl F H ad σ D rs fo
  cases hfl
  exact fo F H ad σ Adv.refl (fun p h => .inl (own_wk w.get h)) (rs.wk w.len w.get)
theorem sv_assoc {M : Option (Fl K ρ)} (h : Sv R (tSeq t (tSeq u tz)) es M) : Sv R (tSeq (tSeq t u) tz) es M := h
theorem sv_skip {M : Option (Fl K ρ)} (h : Sv R tz es M) : Sv R (tSeq tNext tz) es M := h
/-! assignment -/
theorem getset {α : Type u} {l : List α} {i j : Nat} {a b : α} (h : (l.set i a)[j]? = some b) : (j = i ∧ i < l.length ∧ b = a) ∨ (j ≠ i ∧ l[j]? = some b) := by
  rw [List.getElem?_set] at h
  by_cases hij : i = j
  · rw [if_pos hij] at h
    by_cases hl : i < l.length
    · rw [if_pos hl] at h
      exact .inl ⟨hij.symm, hl, (Option.some.inj h).symm⟩
    · rw [if_neg hl] at h
      cases h
  · rw [if_neg hij] at h
    exact .inr ⟨fun e => hij e.symm, h⟩
theorem RSt.setVal {α : Type} {j : Rep K α} {ad : Nat → Addr → Prop} {σ : L2.St} {i : Nat} {v : V} {a : α} (r : RSt K F H ad σ es) (h : j.At F v a) : RSt K F H ad (σ.set i (some v)) (es.set i (.val j a)) := by
  refine ⟨r.ex, by rw [List.length_set, List.length_set]; exact r.len, fun k e hk => ?_, fun k l e u hk hl he hu => ?_⟩
  · rcases getset hk with ⟨rfl, hl, rfl⟩ | ⟨hn, hk⟩
    · exact ⟨v, by rw [List.getElem?_set_self (by rw [← r.len]; exact hl)], h⟩
    · rw [List.getElem?_set_ne (fun e => hn e.symm)]
      exact r.ent k e hk
  · rcases getset hk with ⟨rfl, _, rfl⟩ | ⟨hn, hk⟩
    · cases he
    · rcases getset hl with ⟨rfl, _, rfl⟩ | ⟨hm, hl⟩
      · cases hu
      · exact r.inj k l e u hk hl he hu
theorem own_setVal {α : Type} {j : Rep K α} {ad : Nat → Addr → Prop} {i : Nat} {a : α} {p : Addr} (h : OwA (es.set i (.val j a)) ad p) : OwA es ad p := by
  obtain ⟨k, e, hk, he, hp⟩ := h
  rcases getset hk with ⟨rfl, _, rfl⟩ | ⟨hn, hk⟩
  · cases he
  · exact ⟨k, e, hk, he, hp⟩
theorem RSt.setObj {e0 : Ent K} {ad : Nat → Addr → Prop} {σ : L2.St} {i : Nat} {v : V} {S : Addr → Prop} (r : RSt K F H ad σ es) (h0 : EntAt F H S (some (some v)) e0) (hn : ∀ q, OwA es ad q → ¬ S q) :
    RSt K F H (adSet ad i S) (σ.set i (some v)) (es.set i e0) := by
  refine ⟨r.ex, by rw [List.length_set, List.length_set]; exact r.len, fun k e hk => ?_, fun k l e u hk hl he hu p eq1 eq2 => ?_⟩
  · rcases getset hk with ⟨rfl, hl, rfl⟩ | ⟨hne, hk⟩
    · rw [adSet_self, List.getElem?_set_self (by rw [← r.len]; exact hl)]
      exact h0
    · rw [adSet_ne hne, List.getElem?_set_ne (fun e => hne e.symm)]
      exact r.ent k e hk
  · rcases getset hk with ⟨hki, _, _⟩ | ⟨hne, hk'⟩
    · rcases getset hl with ⟨hli, _, _⟩ | ⟨hm, hl'⟩
      · rw [hki, hli]
      · rw [hki, adSet_self] at eq1
        rw [adSet_ne hm] at eq2
        exact absurd eq1 (hn _ ⟨l, u, hl', hu, eq2⟩)
    · rcases getset hl with ⟨hli, _, _⟩ | ⟨hm, hl'⟩
      · rw [hli, adSet_self] at eq2
        rw [adSet_ne hne] at eq1
        exact absurd eq2 (hn _ ⟨k, e, hk', he, eq1⟩)
      · rw [adSet_ne hne] at eq1
        rw [adSet_ne hm] at eq2
        exact r.inj k l e u hk' hl' he hu p eq1 eq2
theorem own_setObj {e0 : Ent K} {ad : Nat → Addr → Prop} {i : Nat} {S : Addr → Prop} {q : Addr} (h : OwA (es.set i e0) (adSet ad i S) q) : OwA es ad q ∨ S q := by
  obtain ⟨k, e, hk, he, hp⟩ := h
  rcases getset hk with ⟨hki, _, _⟩ | ⟨hn, hk'⟩
  · rw [hki, adSet_self] at hp
    exact .inr hp
  · rw [adSet_ne hn] at hp
    exact .inl ⟨k, e, hk', he, hp⟩
theorem RSt.setOwn {α : Type} {j : Rep K α} {ad : Nat → Addr → Prop} {σ : L2.St} {i : Nat} {p : Addr} {xs : List α} (r : RSt K F H ad σ es) (hf : F p = none) (ho : OwnL j F H p xs) (hn : ∀ q, OwA es ad q → q ≠ p) :
    RSt K F H (adSet ad i (· = p)) (σ.set i (some (.ref p))) (es.set i (.own j xs)) :=
  r.setObj (e0 := .own j xs) ⟨p, fun _ => Iff.rfl, rfl, hf, ho⟩ hn
theorem own_setOwn {α : Type} {j : Rep K α} {ad : Nat → Addr → Prop} {i : Nat} {xs : List α} {p q : Addr} (h : OwA (es.set i (.own j xs)) (adSet ad i (· = p)) q) : OwA es ad q ∨ q = p := own_setObj h
theorem RSt.ownThere {ad : Nat → Addr → Prop} {σ : L2.St} (r : RSt K F H ad σ es) {p : Addr} (h : OwA es ad p) : ∃ o, H p = some o := by
  obtain ⟨i, e, hi, he, hp⟩ := h
  have x := r.ent i e hi
  cases e with
  | no => cases he
  | val => cases he
  | own j xs =>
    obtain ⟨q, h0, _, _, vs, h3, _⟩ := x
    rw [(h0 p).mp hp]
    exact ⟨_, h3⟩
  | obj j a =>
    obtain ⟨v, _, h⟩ := x
    obtain ⟨_, o, ho, _⟩ := j.out h p hp
    exact ⟨o, ho⟩
theorem RSt.ownFree {ad : Nat → Addr → Prop} {σ : L2.St} (r : RSt K F H ad σ es) {p : Addr} (h : OwA es ad p) : F p = none := by
  obtain ⟨i, e, hi, he, hp⟩ := h
  have x := r.ent i e hi
  cases e with
  | no => cases he
  | val => cases he
  | own j xs =>
    obtain ⟨q, h0, _, h2, _⟩ := x
    rw [(h0 p).mp hp]
    exact h2
  | obj j a =>
    obtain ⟨v, _, h⟩ := x
    exact (j.out h p hp).1
theorem sv_asg {α : Type} [j : Rep K α] {i : Nat} {m : Option α} {k : α → Option (Fl K ρ)} [GoodR R] (h : Ev te es m) (h2 : ∀ a, Sv R tz (es.set i (.val j a)) (k a)) : Sv R (tSeq (tAsg te (gName i)) tz) es (m.bind k) := by
  intro fl hfl F H ad σ D rs fo
  obtain ⟨a, ea, hk⟩ := bind_some hfl
  refine h a ea F H ad σ rs _ fun v F' H' g x => ?_
  exact h2 a fl hk F' H' ad _ D ((rs.grow g).setVal x) (fo.trans g.adv fun p z => .inl (own_setVal z))
theorem sv_asgN {α : Type} [j : Rep K α] {i : Nat} {m : Option (List α)} {k : List α → Option (Fl K ρ)} [GoodR R] (h : EvN te es m) (h2 : ∀ a, Sv R tz (es.set i (.own j a)) (k a)) : Sv R (tSeq (tAsg te (gName i)) tz) es (m.bind k) := by
  intro fl hfl F H ad σ D rs fo
  obtain ⟨a, ea, hk⟩ := bind_some hfl
  refine h a ea F H ad σ rs _ fun v F' H' g ⟨p, ev, f1, f2, ho⟩ => ?_
  subst ev
  refine h2 a fl hk F' H' _ _ D ((rs.grow g).setOwn f2 ho fun q hq e => ?_) (fo.trans g.adv fun q z => ?_)
  · subst e
    obtain ⟨o, z⟩ := rs.ownThere hq
    rw [f1] at z
    cases z
  · rcases own_setOwn z with y | y
    · exact .inl y
    · subst y
      exact .inr f1
theorem sv_drop {M : Option (Fl K ρ)} [GoodR R] {α : Type} {Ra : RR α} {m : Option α} (h : EvG Ra te es m) (h2 : Sv R tz es M) : Sv R (tSeq (tDrop te) tz) es (m.bind fun _ => M) := by
  intro fl hfl F H ad σ D rs fo
  obtain ⟨a, ea, hk⟩ := bind_some hfl
  refine h a ea F H ad σ rs _ fun v F' H' g x => ?_
  exact h2 fl hk F' H' ad σ D (rs.grow g) (fo.trans g.adv fun p z => .inl z)
theorem sv_ret [GoodR R] {m : Option ρ} (h : EvG R te es m) : Sv R (tSeq (tRet te) tz) es (m.map .rt) := by
  intro fl hfl F H ad σ D rs fo
  obtain ⟨a, ea, hk⟩ := map_some hfl
  subst hk
  refine h a ea F H ad σ rs _ fun v F' H' g x => ?_
  exact fo F' H' v g.adv g.ex (GoodR.weak (fun p z => .inr z) x)
/-- an own list is handed back -/
theorem sv_retOwn {α : Type} {j : Rep K α} {i : Nat} {xs : List α} (h : es[i]? = some (.own j xs)) : Sv (RN j) (tSeq (tRet (tVar i)) tz) es (some (.rt xs)) := by
  intro fl hfl F H ad σ D rs fo
  cases hfl
  obtain ⟨p, h0, h1, h2, h3⟩ := rs.ent i _ h
  exact ⟨_, h1, fo F H _ Adv.refl rs.ex ⟨_, rfl, .inl ⟨i, _, h, rfl, (h0 p).mpr rfl⟩, h2, h3⟩⟩
/-! if -/
theorem sv_if {mc : Option Bool} {M1 M2 : Option (Fl K ρ)} [GoodR R] (hc : EvT tc es mc) (h1 : Sv R (tSeq t tz) es M1) (h2 : Sv R (tSeq u tz) es M2) : Sv R (tSeq (tIfS tc t u) tz) es (mc.bind fun b => if b = true then M1 else M2) := by
  intro fl hfl F H ad σ D rs fo
  obtain ⟨b, eb, hk⟩ := bind_some hfl
  refine hc b eb F H ad σ rs _ fun F' H' g => ?_
  cases b with
  | true =>
    rw [if_pos rfl] at hk
    show if true = true then _ else _
    rw [if_pos rfl]
    exact h1 fl hk F' H' ad σ D (rs.grow g) (fo.trans g.adv fun p z => .inl z)
  | false =>
    rw [if_neg Bool.false_ne_true] at hk
    show if false = true then _ else _
    rw [if_neg Bool.false_ne_true]
    exact h2 fl hk F' H' ad σ D (rs.grow g) (fo.trans g.adv fun p z => .inl z)
theorem sv_if0 {mc : Option Bool} {M1 M2 : Option (Fl K ρ)} [GoodR R] (hc : EvT tc es mc) (h1 : Sv R t es M1) (h2 : Sv R u es M2) : Sv R (tIfS tc t u) es (mc.bind fun b => if b = true then M1 else M2) := by
  intro fl hfl F H ad σ D rs fo
  obtain ⟨b, eb, hk⟩ := bind_some hfl
  refine hc b eb F H ad σ rs _ fun F' H' g => ?_
  cases b with
  | true =>
    rw [if_pos rfl] at hk
    show if true = true then _ else _
    rw [if_pos rfl]
    exact h1 fl hk F' H' ad σ D (rs.grow g) (fo.trans g.adv fun p z => .inl z)
  | false =>
    rw [if_neg Bool.false_ne_true] at hk
    show if false = true then _ else _
    rw [if_neg Bool.false_ne_true]
    exact h2 fl hk F' H' ad σ D (rs.grow g) (fo.trans g.adv fun p z => .inl z)
theorem sv_ifJ {S : Type} {mc : Option Bool} {m1 m2 : Option S} {enc : S → Env K} {k : S → Option (Fl K ρ)} [GoodR R] (hc : EvT tc es mc) (h1 : Sv R t es (m1.map fun s => .nx (enc s))) (h2 : Sv R u es (m2.map fun s => .nx (enc s)))
    (hk : ∀ s, Sv R tz (enc s) (k s)) : Sv R (tSeq (tIfS tc t u) tz) es ((mc.bind fun b => if b = true then m1 else m2).bind k) := by
  refine sv_seq (enc := enc) ?_ hk
  have e : ((mc.bind fun b => if b = true then m1 else m2).map fun s => (.nx (enc s) : Fl K ρ)) = mc.bind fun b => if b = true then (m1.map fun s => .nx (enc s)) else (m2.map fun s => .nx (enc s)) := by
    cases mc with
    | none => rfl
    | some b => cases b <;> rfl
  rw [e]
  exact sv_if0 hc h1 h2
/-! freezing -/
/-- what one owns becomes frozen data: the frozen part grows over it -/
theorem RSt.frzObj {e0 : Ent K} {α : Type} {j : Rep K α} {a : α} {G : Hp} {ad : Nat → Addr → Prop} {σ : L2.St} {i : Nat} {v : V} (r : RSt K F H ad σ es) (h : es[i]? = some e0) (hw : e0.isOwn = true) (hv : σ[i]? = some (some v)) (hg : Same F G) (hG : Same G H)
    (hS : ∀ p o, G p = some o → F p = none → ad i p) (hj : j.At G v a) : RSt K G H ad σ (es.set i (.val j a)) := by
  have out : ∀ k e, es[k]? = some e → e.isOwn = true → k ≠ i → ∀ p, ad k p → F p = none → G p = none := fun k e hk he hne p hp hf => by
    cases hg2 : G p with
    | none => rfl
    | some o => exact absurd (r.inj k i _ _ hk h he hw p hp (hS p o hg2 hf)) hne
  refine ⟨hG, by rw [List.length_set]; exact r.len, fun k e hk => ?_, fun k l e u hk hl he hu => ?_⟩
  · rcases getset hk with ⟨rfl, hl, rfl⟩ | ⟨hne, hk⟩
    · exact ⟨v, hv, hj⟩
    · have x := r.ent k e hk
      have o2 := out k e hk
      cases e with
      | no => trivial
      | val j2 a =>
        obtain ⟨v, x1, x2⟩ := x
        exact ⟨v, x1, j2.mono hg x2⟩
      | own j2 ys =>
        obtain ⟨q, x0, x1, x2, ws, x3, x4, x5⟩ := x
        exact ⟨q, x0, x1, o2 rfl hne q ((x0 q).mpr rfl) x2, ws, x3, x4, pmono x5 fun _ _ z => j2.mono hg z⟩
      | obj j2 b =>
        obtain ⟨v, x1, x2⟩ := x
        exact ⟨v, x1, j2.move x2 hg (fun _ _ => rfl) fun p hp => o2 rfl hne p hp (j2.out x2 p hp).1⟩
  · rcases getset hk with ⟨rfl, _, rfl⟩ | ⟨hn, hk⟩
    · cases he
    · rcases getset hl with ⟨rfl, _, rfl⟩ | ⟨hm, hl⟩
      · cases hu
      · exact r.inj k l e u hk hl he hu
theorem RSt.freeze {α : Type} {j : Rep K α} {ad : Nat → Addr → Prop} {σ : L2.St} {i : Nat} {xs : List α} (r : RSt K F H ad σ es) (h : es[i]? = some (.own j xs)) :
    ∃ p vs, (∀ q, ad i q ↔ q = p) ∧ H p = some (.lst vs) ∧ F p = none ∧ RSt K (upd F p (.lst vs)) H ad σ (es.set i (.val (@repList K α j) xs)) := by
  obtain ⟨p, h0, h1, h2, vs, h3, h4, h5⟩ := r.ent i _ h
  refine ⟨p, vs, h0, h3, h2, r.frzObj h rfl h1 (same_new h2) (fun b x z => ?_) (fun b o z f => ?_) ⟨p, vs, rfl, upd_same, h4, pmono h5 fun _ _ z => j.mono (same_new h2) z⟩⟩
  · by_cases hb : b = p
    · subst hb
      rw [upd_same] at z
      rw [← z]
      exact h3
    · rw [upd_ne hb] at z
      exact r.ex _ _ z
  · by_cases hb : b = p
    · exact (h0 b).mpr hb
    · rw [upd_ne hb, f] at z
      cases z
theorem adv_frz {G : Hp} {ad : Nat → Addr → Prop} {e0 : Ent K} {i : Nat} (h : es[i]? = some e0) (hw : e0.isOwn = true) (hg : Same F G) (hS : ∀ p o, G p = some o → F p = none → ad i p) : Adv (OwA es ad) F H G H :=
  ⟨hg, fun _ _ q _ => q, fun p o q => ⟨o, q⟩, fun p o q _ f => by
    cases hg2 : G p with
    | none => exact .inr rfl
    | some o => exact .inl ⟨i, _, h, hw, hS p o hg2 f⟩⟩
theorem sv_fz {α : Type} {j : Rep K α} (i : Nat) {xs : List α} {M : Option (Fl K ρ)} [GoodR R] (h : es[i]? = some (.own j xs)) (hs : Sv R t (es.set i (.val (@repList K α j) xs)) M) : Sv R t es M := by
  intro fl hfl F H ad σ D rs fo
  obtain ⟨p0, vs, h0, h3, h2, r2⟩ := rs.freeze h
  refine hs fl hfl _ H ad σ D r2 (fo.trans (F1 := upd F p0 (.lst vs)) (adv_frz h rfl (same_new h2) fun p o z f => ?_) fun p z => .inl (own_setVal z))
  by_cases hb : p = p0
  · exact (h0 p).mpr hb
  · rw [upd_ne hb, f] at z
    cases z
/-- forgetting a slot -/
theorem sv_forget (w : Wk es es1) {M : Option (Fl K ρ)} [GoodR R] (hs : Sv R t es1 M) : Sv R t es M := fun fl hfl F H ad σ D rs fo =>
  hs fl hfl F H ad σ D (rs.wk w.len w.get) (fo.trans Adv.refl fun p z => .inl (own_wk w.get z))
end
end Tf
set_option Elab.async false
set_option linter.all false
set_option maxRecDepth 100000
set_option maxHeartbeats 4000000
namespace Tf
open PySem PySem.Spec L2 PyProof.Rows

/-! ### what a loop walks -/
structure ItOk (K : Fg) {α : Type} (J : It) (g : TG) (tgt : List Nat) (xs : List α) (bind : α → Env K → Env K) (F0 : Hp) : Prop where
  sz : xs.length ≤ sizeLine
  go : ∀ i x, xs[i]? = some x → ∀ H, Same F0 H → J.go i H
  st : ∀ H, Same F0 H → J.stop xs.length H
  bo : ∀ x es ad p, OwA (bind x es) ad p → OwA es ad p
  it : ∀ i x, xs[i]? = some x → ∀ F H v H1, Same F0 F → Same F H → J.yld i H v H1 → ∀ ad σ es, RSt K F H ad σ es → ∀ Q : L2.St → Hp → Prop,
    (∀ F' H' σ', Grow F H F' H' → RSt K F' H' ad σ' (bind x es) → (∀ k, k ∉ tgt → σ'[k]? = σ[k]?) → σ'.length = σ.length → Q σ' H') → g v σ H1 Q
def EvI {K : Fg} {α : Type} (wi : TI) (g : TG) (tgt : List Nat) (es : Env K) (m : Option (List α)) (bind : α → Env K → Env K) : Prop :=
  ∀ xs, m = some xs → ∀ (F H : Hp) (ad : Nat → Addr → Prop) (σ : L2.St), RSt K F H ad σ es → ∀ Rk : It → Hp → Prop, (∀ J F' H', Grow F H F' H' → ItOk K J g tgt xs bind F' → Rk J H') → wi σ H Rk

inductive Lp (S ρ : Type) where
  | nx (s : S)
  | ct (s : S)
  | bk (s : S)
  | rt (r : ρ)
def Lp.fl {K : Fg} {S ρ : Type} (enc : S → Env K) : Lp S ρ → Fl K ρ
  | .nx s => .nx (enc s)
  | .ct s => .ct (enc s)
  | .bk s => .bk (enc s)
  | .rt r => .rt r
def forL {S ρ α : Type} (step : S → α → Option (Lp S ρ)) : List α → S → Option (Lp S ρ)
  | [], s => some (.nx s)
  | x :: xs, s => (step s x).bind fun
    | .nx s' => forL step xs s'
    | .ct s' => forL step xs s'
    | .bk s' => some (.nx s')
    | .rt r => some (.rt r)
def forS {S α : Type} (step : S → α → Option S) : List α → S → Option S
  | [], s => some s
  | x :: xs, s => (step s x).bind fun s' => forS step xs s'
theorem forL_map {S ρ α : Type} (step : S → α → Option S) : ∀ (xs : List α) (s : S), forL (ρ := ρ) (fun s x => (step s x).map .nx) xs s = (forS step xs s).map .nx
  | [], _ => rfl
  | x :: xs, s => by
    show ((step s x).map Lp.nx).bind _ = ((step s x).bind fun s' => forS step xs s').map _
    cases step s x with
    | none => rfl
    | some s' => exact forL_map step xs s'
def whileL {S ρ : Type} (c : S → Option Bool) (b : S → Option (Lp S ρ)) : Nat → S → Option (Lp S ρ)
  | 0, _ => none
  | n + 1, s => (c s).bind fun t => if t = true then (b s).bind fun
      | .nx s' => whileL c b n s'
      | .ct s' => whileL c b n s'
      | .bk s' => some (.nx s')
      | .rt r => some (.rt r)
    else some (.nx s)
def whileS {S : Type} (c : S → Option Bool) (b : S → Option S) : Nat → S → Option S
  | 0, _ => none
  | n + 1, s => (c s).bind fun t => if t = true then (b s).bind fun s' => whileS c b n s' else some s
theorem whileL_map {S ρ : Type} (c : S → Option Bool) (b : S → Option S) : ∀ (n : Nat) (s : S), whileL (ρ := ρ) c (fun s => (b s).map .nx) n s = (whileS c b n s).map .nx
  | 0, _ => rfl
  | n + 1, s => by
    show ((c s).bind _) = ((c s).bind _).map _
    cases c s with
    | none => rfl
    | some t =>
      show (if t = true then _ else _) = Option.map _ (if t = true then _ else _)
      by_cases ht : t = true
      · rw [if_pos ht, if_pos ht]
        have ih := whileL_map (ρ := ρ) c b n
        generalize whileL (ρ := ρ) c (fun s => (b s).map .nx) n = W at ih ⊢
        show ((b s).map Lp.nx).bind _ = ((b s).bind _).map _
        cases b s with
        | none => rfl
        | some s' => exact ih s'
      · rw [if_neg ht, if_neg ht]
        rfl
section
variable {K : Fg} {ρ : Type} {R : RR ρ} {es : Env K} {t u tz tb : TS} {te : TE} {tc : TT} {wi : TI} {g : TG} {tgt : List Nat} {α S : Type} {m : Option (List α)} {bind : α → Env K → Env K} {enc : S → Env K}
theorem drop_cons {α : Type} {xs : List α} {i : Nat} {x : α} (h : xs[i]? = some x) : xs.drop i = x :: xs.drop (i + 1) := by
  obtain ⟨hl, e⟩ := List.getElem?_eq_some_iff.mp h
  rw [← e]
  exact List.drop_eq_getElem_cons hl
theorem sv_forL0 [GoodR R] {s0 : S} {step : S → α → Option (Lp S ρ)} (hI : EvI wi g tgt (enc s0) m bind) (hb : ∀ s x, Sv R tb (bind x (enc s)) ((step s x).map (Lp.fl enc))) :
    Sv R (tFor wi g tb) (enc s0) ((m.bind fun xs => forL step xs s0).map (Lp.fl enc)) := by
  intro fl hfl F H ad σ D rs fo
  obtain ⟨lp, hlp, hfl⟩ := map_some hfl
  obtain ⟨xs, hm, hf⟩ := bind_some hlp
  subst hfl
  refine hI xs hm F H ad σ rs _ fun J F1 H1 g1 ok => ?_
  have fo1 := fo.trans (ow1 := OwA (enc s0) ad) g1.adv fun p z => .inl z
  refine ⟨fun i n σ' H' => i ≤ xs.length ∧ n = xs.length - i ∧ ∃ F' ad' s, Adv (OwA (enc s0) ad) F1 H1 F' H' ∧ (∀ p, OwA (enc s) ad' p → OwA (enc s0) ad p ∨ H1 p = none) ∧ RSt K F' H' ad' σ' (enc s) ∧ forL step (xs.drop i) s = some lp,
    ⟨xs.length, Nat.zero_le _, rfl, F1, ad, s0, Adv.refl, fun p z => .inl z, rs.grow g1, hf⟩, ?_⟩
  rintro i n σ' H' ⟨hi, rfl, F', ad', s, a, sb, r, hd⟩
  rcases Nat.lt_or_ge i xs.length with hlt | hge
  · have hx : xs[i]? = some xs[i] := List.getElem?_eq_getElem hlt
    refine .inr ⟨ok.go i _ hx H' (a.ff.trans r.ex), fun σ2 H2 => ∃ F2 ad2 s2, Adv (OwA (enc s0) ad) F1 H1 F2 H2 ∧ (∀ p, OwA (enc s2) ad2 p → OwA (enc s0) ad p ∨ H1 p = none) ∧ RSt K F2 H2 ad2 σ2 (enc s2) ∧ forL step (xs.drop (i + 1)) s2 = some lp,
      fun σ2 H2 h2 => ⟨xs.length - (i + 1), by omega, hlt, rfl, h2⟩, fun v H2 hy => ?_⟩
    refine ok.it i _ hx F' H' v H2 a.ff r.ex hy ad' σ' _ r _ fun F3 H3 σ3 g3 r3 _ _ => ?_
    rw [drop_cons hx] at hd
    obtain ⟨l, hl, hd⟩ := bind_some (show (step s xs[i]).bind _ = some lp from hd)
    have sb3 : ∀ p, OwA (bind xs[i] (enc s)) ad' p → OwA (enc s0) ad p ∨ H1 p = none := fun p z => sb p (ok.bo _ _ _ _ z)
    have a3 : Adv (OwA (enc s0) ad) F1 H1 F3 H3 := a.trans (ow1 := OwA (enc s) ad') sb g3.adv
    refine hb s xs[i] (l.fl enc) (by rw [hl]; rfl) F3 H3 ad' σ3 _ r3 ?_
    cases l with
    | nx s2 => exact fun F4 H4 ad4 σ4 b sb4 r4 => ⟨F4, ad4, s2, a3.trans sb3 b, fun p z => sub_trans a3 sb3 (sb4 p z), r4, hd⟩
    | ct s2 => exact fun F4 H4 ad4 σ4 b sb4 r4 => ⟨F4, ad4, s2, a3.trans sb3 b, fun p z => sub_trans a3 sb3 (sb4 p z), r4, hd⟩
    | bk s2 =>
      have hd : some (Lp.nx s2) = some lp := hd
      cases hd
      exact fun F4 H4 ad4 σ4 b sb4 r4 => fo1 F4 H4 ad4 σ4 (a3.trans sb3 b) (fun p z => sub_trans a3 sb3 (sb4 p z)) r4
    | rt q =>
      have hd : some (Lp.rt q) = some lp := hd
      cases hd
      exact fun F4 H4 w b ex x => fo1 F4 H4 w (a3.trans sb3 b) ex (GoodR.weak (fun p z => sub_trans a3 sb3 z) x)
  · have e : i = xs.length := Nat.le_antisymm hi hge
    subst e
    rw [List.drop_length] at hd
    have hd : some (Lp.nx s) = some lp := hd
    cases hd
    exact .inl ⟨ok.st H' (a.ff.trans r.ex), fo1 F' H' ad' σ' a sb r⟩
theorem sv_whileL0 [GoodR R] {s0 : S} {n : Nat} {c : S → Option Bool} {b : S → Option (Lp S ρ)} (hc : ∀ s, EvT tc (enc s) (c s)) (hb : ∀ s, Sv R tb (enc s) ((b s).map (Lp.fl enc))) :
    Sv R (tWhile tc tb) (enc s0) ((whileL c b n s0).map (Lp.fl enc)) := by
  intro fl hfl F H ad σ D rs fo
  obtain ⟨lp, hlp, hfl⟩ := map_some hfl
  subst hfl
  refine ⟨fun n σ' H' => ∃ F' ad' s, Adv (OwA (enc s0) ad) F H F' H' ∧ (∀ p, OwA (enc s) ad' p → OwA (enc s0) ad p ∨ H p = none) ∧ RSt K F' H' ad' σ' (enc s) ∧ whileL c b n s = some lp, ⟨n, F, ad, s0, Adv.refl, fun p z => .inl z, rs, hlp⟩, ?_⟩
  rintro n σ' H' ⟨F', ad', s, a, sb, r, hd⟩
  cases n with
  | zero => cases hd
  | succ n =>
    obtain ⟨t, ht, hd⟩ := bind_some (show (c s).bind _ = some lp from hd)
    refine hc s t ht F' H' ad' σ' r _ fun F3 H3 g3 => ?_
    have a3 : Adv (OwA (enc s0) ad) F H F3 H3 := a.trans (ow1 := OwA (enc s) ad') sb g3.adv
    cases t with
    | true =>
      rw [if_pos rfl]
      rw [if_pos rfl] at hd
      obtain ⟨l, hl, hd⟩ := bind_some hd
      refine ⟨fun σ2 H2 => ∃ F2 ad2 s2, Adv (OwA (enc s0) ad) F H F2 H2 ∧ (∀ p, OwA (enc s2) ad2 p → OwA (enc s0) ad p ∨ H p = none) ∧ RSt K F2 H2 ad2 σ2 (enc s2) ∧ whileL c b n s2 = some lp, fun σ2 H2 h2 => ⟨n, Nat.lt_succ_self n, h2⟩, ?_⟩
      refine hb s (l.fl enc) (by rw [hl]; rfl) F3 H3 ad' σ' _ (r.grow g3) ?_
      cases l with
      | nx s2 => exact fun F4 H4 ad4 σ4 b sb4 r4 => ⟨F4, ad4, s2, a3.trans sb b, fun p z => sub_trans a3 sb (sb4 p z), r4, hd⟩
      | ct s2 => exact fun F4 H4 ad4 σ4 b sb4 r4 => ⟨F4, ad4, s2, a3.trans sb b, fun p z => sub_trans a3 sb (sb4 p z), r4, hd⟩
      | bk s2 =>
        have hd : some (Lp.nx s2) = some lp := hd
        cases hd
        exact fun F4 H4 ad4 σ4 b sb4 r4 => fo F4 H4 ad4 σ4 (a3.trans sb b) (fun p z => sub_trans a3 sb (sb4 p z)) r4
      | rt q =>
        have hd : some (Lp.rt q) = some lp := hd
        cases hd
        exact fun F4 H4 w b ex x => fo F4 H4 w (a3.trans sb b) ex (GoodR.weak (fun p z => sub_trans a3 sb z) x)
    | false =>
      rw [if_neg Bool.false_ne_true]
      rw [if_neg Bool.false_ne_true] at hd
      have hd : some (Lp.nx s) = some lp := hd
      cases hd
      exact fo F3 H3 ad' σ' a3 sb (r.grow g3)
theorem map_nx {S : Type} {enc : S → Env K} (o : Option S) : (o.map (Lp.nx (ρ := ρ))).map (Lp.fl enc) = o.map fun s => (.nx (enc s) : Fl K ρ) := by cases o <;> rfl
/-- a loop that nothing leaves, and what follows -/
theorem sv_for [GoodR R] {s0 : S} {step : S → α → Option S} {k : S → Option (Fl K ρ)} (hI : EvI wi g tgt es m bind) (he : es = enc s0) (hb : ∀ s x, Sv R tb (bind x (enc s)) ((step s x).map fun s => .nx (enc s)))
    (hk : ∀ s, Sv R tz (enc s) (k s)) : Sv R (tSeq (tFor wi g tb) tz) es ((m.bind fun xs => forS step xs s0).bind k) := by
  subst he
  refine sv_seq (enc := enc) ?_ hk
  have h := sv_forL0 (R := R) (tb := tb) (step := fun s x => (step s x).map .nx) hI fun s x => by
    rw [map_nx]
    exact hb s x
  have e : ((m.bind fun xs => forL (ρ := ρ) (fun s x => (step s x).map .nx) xs s0).map (Lp.fl enc)) = (m.bind fun xs => forS step xs s0).map fun s => (.nx (enc s) : Fl K ρ) := by
    cases m with
    | none => rfl
    | some xs =>
      show (forL (ρ := ρ) (fun s x => (step s x).map .nx) xs s0).map (Lp.fl enc) = (forS step xs s0).map _
      rw [forL_map, map_nx]
  rw [← e]
  exact h
theorem sv_while [GoodR R] {s0 : S} (n : Nat) {c : S → Option Bool} {b : S → Option S} {k : S → Option (Fl K ρ)} (he : es = enc s0) (hc : ∀ s, EvT tc (enc s) (c s)) (hb : ∀ s, Sv R tb (enc s) ((b s).map fun s => .nx (enc s)))
    (hk : ∀ s, Sv R tz (enc s) (k s)) : Sv R (tSeq (tWhile tc tb) tz) es ((whileS c b n s0).bind k) := by
  subst he
  refine sv_seq (enc := enc) ?_ hk
  have h := sv_whileL0 (R := R) (tb := tb) (n := n) (s0 := s0) (b := fun s => (b s).map .nx) hc fun s => by
    rw [map_nx]
    exact hb s
  rw [whileL_map, map_nx] at h
  exact h
/-- a loop that may hand back: in a def's own block -/
def Lp.els {S ρ : Type} {β : Type u} (l : Lp S ρ) (k : S → Option β) (r : ρ → Option β) : Option β := match l with
  | .nx s => k s
  | .rt q => r q
  | _ => none
theorem seq_els [GoodR R] {m1 : Option (Lp S ρ)} {k : S → Option (Fl K ρ)} (h1 : Sv R t es (m1.map (Lp.fl enc))) (h2 : ∀ s, Sv R tz (enc s) (k s)) : Sv R (tSeq t tz) es (m1.bind fun l => l.els k fun q => some (.rt q)) := by
  intro fl hfl F H ad σ D rs fo
  obtain ⟨l, hl, hk⟩ := bind_some hfl
  cases l with
  | nx s =>
    refine h1 (.nx (enc s)) (by rw [hl]; rfl) F H ad σ _ rs fun F' H' ad' σ' a t r => ?_
    exact h2 s fl hk F' H' ad' σ' D r (fo.trans a t)
  | rt q =>
    have hk : some (Fl.rt q) = some fl := hk
    cases hk
    exact h1 (.rt q) (by rw [hl]; rfl) F H ad σ _ rs fo
  | bk s => cases hk
  | ct s => cases hk
theorem els_rt {m1 : Option (Lp S ρ)} {k : S → Option ρ} : (m1.bind fun l => l.els k some).map (Fl.rt (K := K)) = m1.bind fun l => l.els (fun s => (k s).map .rt) fun q => some (.rt q) := by
  cases m1 with
  | none => rfl
  | some l => cases l <;> rfl
theorem els_lp {S2 : Type} {enc2 : S2 → Env K} {m1 : Option (Lp S ρ)} {k : S → Option (Lp S2 ρ)} : (m1.bind fun l => l.els k fun q => some (.rt q)).map (Lp.fl enc2) = m1.bind fun l => l.els (fun s => (k s).map (Lp.fl enc2)) fun q => some (.rt q) := by
  cases m1 with
  | none => rfl
  | some l => cases l <;> rfl
theorem sv_forR [GoodR R] {s0 : S} {step : S → α → Option (Lp S ρ)} {k : S → Option ρ} (hI : EvI wi g tgt es m bind) (he : es = enc s0) (hb : ∀ s x, Sv R tb (bind x (enc s)) ((step s x).map (Lp.fl enc)))
    (hk : ∀ s, Sv R tz (enc s) ((k s).map .rt)) : Sv R (tSeq (tFor wi g tb) tz) es (((m.bind fun xs => forL step xs s0).bind fun l => l.els k some).map .rt) := by
  subst he
  rw [els_rt]
  exact seq_els (sv_forL0 hI hb) hk
theorem sv_forP [GoodR R] {S2 : Type} {enc2 : S2 → Env K} {s0 : S} {step : S → α → Option (Lp S ρ)} {k : S → Option (Lp S2 ρ)} (hI : EvI wi g tgt es m bind) (he : es = enc s0) (hb : ∀ s x, Sv R tb (bind x (enc s)) ((step s x).map (Lp.fl enc)))
    (hk : ∀ s, Sv R tz (enc s) ((k s).map (Lp.fl enc2))) : Sv R (tSeq (tFor wi g tb) tz) es (((m.bind fun xs => forL step xs s0).bind fun l => l.els k fun q => some (.rt q)).map (Lp.fl enc2)) := by
  subst he
  rw [els_lp]
  exact seq_els (sv_forL0 hI hb) hk
theorem sv_whileR [GoodR R] {s0 : S} (n : Nat) {c : S → Option Bool} {b : S → Option (Lp S ρ)} {k : S → Option ρ} (he : es = enc s0) (hc : ∀ s, EvT tc (enc s) (c s)) (hb : ∀ s, Sv R tb (enc s) ((b s).map (Lp.fl enc)))
    (hk : ∀ s, Sv R tz (enc s) ((k s).map .rt)) : Sv R (tSeq (tWhile tc tb) tz) es (((whileL c b n s0).bind fun l => l.els k some).map .rt) := by
  subst he
  rw [els_rt]
  exact seq_els (sv_whileL0 hc hb) hk
theorem sv_whileP [GoodR R] {S2 : Type} {enc2 : S2 → Env K} {s0 : S} (n : Nat) {c : S → Option Bool} {b : S → Option (Lp S ρ)} {k : S → Option (Lp S2 ρ)} (he : es = enc s0) (hc : ∀ s, EvT tc (enc s) (c s)) (hb : ∀ s, Sv R tb (enc s) ((b s).map (Lp.fl enc)))
    (hk : ∀ s, Sv R tz (enc s) ((k s).map (Lp.fl enc2))) : Sv R (tSeq (tWhile tc tb) tz) es (((whileL c b n s0).bind fun l => l.els k fun q => some (.rt q)).map (Lp.fl enc2)) := by
  subst he
  rw [els_lp]
  exact seq_els (sv_whileL0 hc hb) hk
end

/-! ### comprehensions -/
def wipeE {K : Fg} (es : Env K) : List Nat → Env K
  | [] => es
  | v :: vs => (wipeE es vs).set v .no
section
variable {K : Fg} {es : Env K} {F H : Hp} {ad : Nat → Addr → Prop} {σ : L2.St}
theorem RSt.set_no (r : RSt K F H ad σ es) (v : Nat) : RSt K F H ad (σ.set v none) (es.set v .no) := by
  refine ⟨r.ex, by rw [List.length_set, List.length_set]; exact r.len, fun k e hk => ?_, fun k l e u hk hl he hu => ?_⟩
  · rcases getset hk with ⟨rfl, hl, rfl⟩ | ⟨hn, hk⟩
    · trivial
    · rw [List.getElem?_set_ne (fun e => hn e.symm)]
      exact r.ent k e hk
  · rcases getset hk with ⟨rfl, _, rfl⟩ | ⟨hn, hk⟩
    · cases he
    · rcases getset hl with ⟨rfl, _, rfl⟩ | ⟨hm, hl⟩
      · cases hu
      · exact r.inj k l e u hk hl he hu
theorem RSt.wipe (r : RSt K F H ad σ es) : ∀ vs : List Nat, RSt K F H ad (wipe σ vs) (wipeE es vs)
  | [] => r
  | v :: vs => (RSt.wipe r vs).set_no v
theorem wipe_in {σ : L2.St} {k : Nat} : ∀ {vs : List Nat}, k ∈ vs → k < σ.length → (wipe σ vs)[k]? = some none
  | [], h, _ => by cases h
  | v :: vs, h, hl => by
    show ((wipe σ vs).set v none)[k]? = some none
    by_cases e : v = k
    · subst e
      exact List.getElem?_set_self (by rw [wipe_length]; exact hl)
    · rw [List.getElem?_set_ne e]
      rcases List.mem_cons.mp h with z | z
      · exact absurd z.symm e
      · exact wipe_in z hl
theorem wipe_ext {σ σ' : L2.St} {vs : List Nat} (hl : σ'.length = σ.length) (h : ∀ k, k ∉ vs → σ'[k]? = σ[k]?) : wipe σ' vs = wipe σ vs := by
  apply List.ext_getElem?
  intro k
  by_cases hk : k ∈ vs
  · by_cases hlt : k < σ.length
    · rw [wipe_in hk hlt, wipe_in hk (by rw [hl]; exact hlt)]
    · rw [List.getElem?_eq_none (by rw [wipe_length]; omega), List.getElem?_eq_none (by rw [wipe_length]; omega)]
  · rw [wipe_out hk, wipe_out hk]
    exact h k hk
theorem wipe_idem {σ : L2.St} {vs : List Nat} : wipe (wipe σ vs) vs = wipe σ vs := wipe_ext (wipe_length σ vs) fun k hk => wipe_out hk
def compO {α β : Type} (p : α → Option Bool) (f : α → Option β) : List α → Option (List β)
  | [] => some []
  | x :: r => (p x).bind fun b => if b = true then (f x).bind fun y => (compO p f r).bind fun ys => some (y :: ys) else compO p f r
def mapO {α β : Type} (f : α → Option β) : List α → Option (List β)
  | [] => some []
  | x :: r => (f x).bind fun y => (mapO f r).bind fun ys => some (y :: ys)
theorem compO_map {α β : Type} (f : α → Option β) : ∀ xs : List α, compO (fun _ => some true) f xs = mapO f xs
  | [] => rfl
  | x :: r => by
    show (f x).bind _ = (f x).bind _
    rw [compO_map f r]
theorem compO_len {α β : Type} {p : α → Option Bool} {f : α → Option β} : ∀ {xs : List α} {ys : List β}, compO p f xs = some ys → ys.length ≤ xs.length
  | [], ys, h => by
    cases h
    exact Nat.le_refl _
  | x :: r, ys, h => by
    obtain ⟨b, _, h⟩ := bind_some (show (p x).bind _ = some ys from h)
    by_cases hb : b = true
    · rw [if_pos hb] at h
      obtain ⟨y, _, h⟩ := bind_some h
      obtain ⟨zs, hz, h⟩ := bind_some h
      cases h
      have := compO_len hz
      rw [List.length_cons, List.length_cons]
      omega
    · rw [if_neg hb] at h
      have := compO_len h
      rw [List.length_cons]
      omega
theorem paired_snoc {α β : Type} {P : α → β → Prop} {xs : List α} {ys : List β} {x : α} {y : β} (h : Paired P xs ys) (q : P x y) : Paired P (xs ++ [x]) (ys ++ [y]) := by
  induction h with
  | nil => exact .cons q .nil
  | cons a _ ih => exact .cons a ih
theorem paired_append {α β : Type} {P : α → β → Prop} {xs zs : List α} {ys ws : List β} (h : Paired P xs ys) (q : Paired P zs ws) : Paired P (xs ++ zs) (ys ++ ws) := by
  induction h with
  | nil => exact q
  | cons a _ ih => exact .cons a ih
theorem et_yes : EvT (K := K) tYes es (some true) := fun a ha F H ad σ rs Q q => by
  cases ha
  exact q F H (Grow.refl rs.ex)
theorem ev_comp {α β : Type} [j : Rep K β] {wi : TI} {g : TG} {tgt : List Nat} {tt : TT} {te : TE} {vs : List Nat} {m : Option (List α)} {bind : α → Env K → Env K} {p : α → Option Bool} {f : α → Option β}
    (hI : EvI wi g tgt es m bind) (hv : ∀ k, k ∈ tgt → k ∈ vs) (hI2 : bind = bind) (ht : ∀ x, EvT tt (bind x (wipeE es vs)) (p x)) (he : ∀ x, Ev te (bind x (wipeE es vs)) (f x)) : EvN (tLc wi g tt te vs) es (m.bind fun xs => compO p f xs) := by
  intro ys hys F H ad σ rs Q q
  obtain ⟨xs, hm, hc⟩ := bind_some hys
  refine hI xs hm F H ad σ rs _ fun J F1 H1 g1 ok => ?_
  intro D hD
  have hDH : H D = none := g1.hh.free hD
  have fin : ∀ {F' H' : Hp} {ws : List V}, Grow F1 H1 F' H' → F' D = none → H' D = some (.lst ws) → Paired (j.At F') ws ys → Q (.ref D) H' := fun {F' H' ws} g2 f2 h2 pr =>
    q (.ref D) F' H' (g1.trans g2) ⟨D, rfl, hDH, f2, ws, h2, by
      have e := Paired.length pr
      have := compO_len hc
      have := ok.sz
      omega, pr⟩
  refine ⟨fun i n H' => i ≤ xs.length ∧ n = xs.length - i ∧ ∃ F' ws done rest, Grow F1 H1 F' H' ∧ F' D = none ∧ H' D = some (.lst ws) ∧ Paired (j.At F') ws done ∧ done.length ≤ i ∧ compO p f (xs.drop i) = some rest ∧ done ++ rest = ys,
    ⟨xs.length, Nat.zero_le _, rfl, F1, [], [], ys, Grow.make (rs.grow g1).ex hD, (rs.grow g1).ex.free hD, upd_same, .nil, Nat.le_refl _, hc, rfl⟩, ?_⟩
  rintro i n H' ⟨hi, rfl, F', ws, done, rest, g2, f2, h2, pr, hl, hr, hd⟩
  rcases Nat.lt_or_ge i xs.length with hlt | hge
  · have hx : xs[i]? = some xs[i] := List.getElem?_eq_getElem hlt
    refine .inr ⟨ok.go i _ hx H' (g2.ff.trans g2.ex), fun H2 => ∃ F' ws done rest, Grow F1 H1 F' H2 ∧ F' D = none ∧ H2 D = some (.lst ws) ∧ Paired (j.At F') ws done ∧ done.length ≤ i + 1 ∧ compO p f (xs.drop (i + 1)) = some rest ∧ done ++ rest = ys,
      fun H2 h => ⟨xs.length - (i + 1), by omega, hlt, rfl, h⟩, fun v H2 hy => ?_⟩
    have r' : RSt K F' H' ad (L2.wipe σ vs) (wipeE es vs) := ((rs.grow g1).grow g2).wipe vs
    refine ok.it i _ hx F' H' v H2 g2.ff g2.ex hy ad _ _ r' _ fun F3 H3 σ3 g3 r3 hk hlen => ?_
    refine ⟨?_, ?_⟩
    · rw [wipe_ext hlen fun k hk2 => hk k fun z => hk2 (hv k z), wipe_idem]
    rw [drop_cons hx] at hr
    obtain ⟨b, hb, hr⟩ := bind_some (show (p xs[i]).bind _ = some rest from hr)
    refine ht xs[i] b hb F3 H3 ad σ3 r3 _ fun F4 H4 g4 => ?_
    have g34 := (g2.trans g3).trans g4
    have k4 : H4 D = some (.lst ws) := g4.hh _ _ (g3.hh _ _ h2)
    have n4 : F4 D = none := g4.fr _ _ (g3.hh _ _ h2) lst_flat (g3.fr _ _ h2 lst_flat f2)
    cases b with
    | true =>
      rw [if_pos rfl] at hr
      rw [if_pos rfl]
      obtain ⟨y, hy2, hr⟩ := bind_some hr
      obtain ⟨rest2, hr2, hr⟩ := bind_some hr
      cases hr
      refine he xs[i] y hy2 F4 H4 ad σ3 (r3.grow g4) _ fun w F5 H5 g5 aw => ?_
      have aw : j.At F5 w y := aw
      have k5 : H5 D = some (.lst ws) := g5.hh _ _ k4
      have n5 : F5 D = none := g5.fr _ _ k4 lst_flat n4
      have g35 := g34.trans g5
      refine ⟨ws, k5, ?_, F5, ws ++ [w], done ++ [y], rest2, ⟨g35.ff, fun b x z => ?_, fun b x z => ?_, g35.fr⟩, n5, upd_same, paired_snoc (pmono pr fun _ _ z => j.mono ((g3.ff.trans g4.ff).trans g5.ff) z) aw, ?_, hr2, ?_⟩
      · have e := Paired.length pr
        have := ok.sz
        omega
      · rw [upd_ne (ne_of_none z hD)]
        exact g35.hh _ _ z
      · rw [upd_ne (ne_of_none z n5)]
        exact g35.ex _ _ z
      · rw [List.length_append]
        exact Nat.add_le_add_right hl 1
      · rw [List.append_assoc]
        exact hd
    | false =>
      rw [if_neg Bool.false_ne_true] at hr
      rw [if_neg Bool.false_ne_true]
      exact ⟨F4, ws, done, rest, g34, n4, k4, pmono pr fun _ _ z => j.mono (g3.ff.trans g4.ff) z, Nat.le_succ_of_le hl, hr, hd⟩
  · have e : i = xs.length := Nat.le_antisymm hi hge
    subst e
    rw [List.drop_length] at hr
    cases hr
    rw [List.append_nil] at hd
    subst hd
    exact .inl ⟨ok.st H' (g2.ff.trans g2.ex), fin g2 f2 h2 pr⟩
theorem ev_lc {α β : Type} [j : Rep K β] {wi : TI} {g : TG} {tgt : List Nat} {te : TE} {vs : List Nat} {m : Option (List α)} {bind : α → Env K → Env K} {f : α → Option β}
    (hI : EvI wi g tgt es m bind) (hv : ∀ k, k ∈ tgt → k ∈ vs) (he : ∀ x, Ev te (bind x (wipeE es vs)) (f x)) : EvN (tLc wi g tYes te vs) es (m.bind fun xs => mapO f xs) := by
  have h := ev_comp (p := fun _ => some true) hI hv rfl (fun x => et_yes) he
  have e : (m.bind fun xs => compO (fun _ => some true) f xs) = m.bind fun xs => mapO f xs := by
    cases m with
    | none => rfl
    | some xs => exact compO_map f xs
  rw [← e]
  exact h
end

/-! ### calls -/
def ArgAt {K : Fg} (F : Hp) (v : V) : Ent K → Prop
  | .val i a => i.At F v a
  | _ => False
inductive ArgsAt {K : Fg} (F : Hp) : List V → Env K → Prop
  | nil : ArgsAt F [] []
  | cons {v : V} {e : Ent K} {vs : List V} {es : Env K} : ArgAt F v e → ArgsAt F vs es → ArgsAt F (v :: vs) (e :: es)
theorem ArgsAt.length {K : Fg} {F : Hp} {vs : List V} {es : Env K} (h : ArgsAt F vs es) : vs.length = es.length := by
  induction h with
  | nil => rfl
  | cons _ _ ih => rw [List.length_cons, List.length_cons, ih]
theorem ArgsAt.get {K : Fg} {F : Hp} {vs : List V} {es : Env K} (h : ArgsAt F vs es) : ∀ {i : Nat} {e : Ent K}, es[i]? = some e → ∃ v, vs[i]? = some v ∧ ArgAt F v e := by
  induction h with
  | nil => intro i y q; cases i <;> cases q
  | cons a _ ih =>
    intro i y q
    cases i with
    | zero =>
      cases q
      exact ⟨_, rfl, a⟩
    | succ i => exact ih q
def SpF {K : Fg} {ι ρ : Type} (enc : ι → Env K) (f : ι → Option ρ) (R : RR ρ) : Sp := fun vs H Q _ => ∃ F x r, Same F H ∧ ArgsAt F vs (enc x) ∧ f x = some r ∧ ∀ v F' H', Grow F H F' H' → R (fun p => H p = none) F' H' v r → Q v H'
def EvA {K : Fg} {ι γ : Type} (ta : TA) (es : Env K) (M : (ι → Option γ) → Option γ) (enc : ι → Env K) : Prop :=
  ∀ k r, M k = some r → ∀ (F H : Hp) (ad : Nat → Addr → Prop) (σ : L2.St), RSt K F H ad σ es → ∀ Q : List V → Hp → Prop, (∀ vs F' H' x, Grow F H F' H' → ArgsAt F' vs (enc x) → k x = some r → Q vs H') → ta σ H Q
section
variable {K : Fg} {es : Env K} {te : TE} {ta tr : TA}
theorem argAt_mono {F G : Hp} {v : V} {e : Ent K} (s : Same F G) (h : ArgAt F v e) : ArgAt G v e := by
  cases e with
  | no => exact h
  | val i a => exact i.mono s h
  | own i xs => exact h
  | obj i xs => exact h
theorem ea_nil {γ : Type} : EvA (γ := γ) tNil es (fun k => k ()) (fun _ => []) := fun k r h F H ad σ rs Q q => q [] F H () (Grow.refl rs.ex) .nil h
theorem ea_cons {α ι γ : Type} [i : Rep K α] {ma : Option α} {M : (ι → Option γ) → Option γ} {enc : ι → Env K} (h : Ev te es ma) (hr : EvA tr es M enc) : EvA (tCons te tr) es (fun k => ma.bind fun a => M fun x => k (a, x)) (fun p => .val i p.1 :: enc p.2) := by
  intro k r hk F H ad σ rs Q q
  obtain ⟨a, ha, hk⟩ := bind_some hk
  refine h a ha F H ad σ rs _ fun v F1 H1 g1 h1 => ?_
  refine hr _ r hk F1 H1 ad σ (rs.grow g1) _ fun vs F2 H2 x g2 h2 hx => ?_
  exact q (v :: vs) F2 H2 (a, x) (g1.trans g2) (.cons (i.mono g2.ff h1) h2) hx
theorem ev_call {ι ρ : Type} {R : RR ρ} [GoodR R] {enc : ι → Env K} {f : ι → Option ρ} {M : (ι → Option ρ) → Option ρ} {E : XK} (h : EvA ta es M enc) : EvG R (tCall (SpF enc f R) [] E ta) es (M f) := by
  intro r hr F H ad σ rs Q q
  refine h f r hr F H ad σ rs _ fun vs F1 H1 x g1 h1 hx => ?_
  show SpF enc f R (vs ++ []) H1 Q E
  rw [List.append_nil]
  exact ⟨F1, x, r, g1.ex, h1, hx, fun v F2 H2 g2 h2 => q v F2 H2 (g1.trans g2) (weak_none g1.hh h2)⟩
/-- a call whose answer bears no reference, an own list among its arguments -/
class Flat (K : Fg) (α : Type) [i : Rep K α] : Prop where
  flat : ∀ {F G : Hp} {v : V} {a : α}, i.At F v a → i.At G v a
instance flatInt : Flat K Int := ⟨fun h => h⟩
instance flatBool : Flat K Bool := ⟨fun h => h⟩
instance flatStr : Flat K Str := ⟨fun h => h⟩
theorem ev_flat {α β : Type} [i : Rep K α] [Flat K α] {j : Rep K β} {xs : List β} {m : Option α} (k : Nat) (h : es[k]? = some (.own j xs)) (he : Ev te (es.set k (.val (@repList K β j) xs)) m) : Ev te es m := by
  intro a ha F H ad σ rs Q q
  obtain ⟨p0, vs, h0, h3, h2, r2⟩ := rs.freeze h
  refine he a ha _ H ad σ r2 Q fun v F' H' g x => q v F H' ⟨Same.refl F, g.hh, rs.ex.trans g.hh, fun p o z _ f => f⟩ (Flat.flat (K := K) (show i.At F' v a from x))
theorem et_flat {β : Type} {j : Rep K β} {xs : List β} {m : Option Bool} {tt : TT} (k : Nat) (h : es[k]? = some (.own j xs)) (he : EvT tt (es.set k (.val (@repList K β j) xs)) m) : EvT tt es m := by
  intro a ha F H ad σ rs Q q
  obtain ⟨p0, vs, h0, h3, h2, r2⟩ := rs.freeze h
  exact he a ha _ H ad σ r2 Q fun F' H' g => q F H' ⟨Same.refl F, g.hh, rs.ex.trans g.hh, fun p o z _ f => f⟩
theorem paired_of_get {α β : Type} {P : α → β → Prop} {xs : List α} {ys : List β} (h : Paired P xs ys) : ∀ {i : Nat} {y : β}, ys[i]? = some y → ∃ x, xs[i]? = some x ∧ P x y := by
  induction h with
  | nil => intro i y q; cases i <;> cases q
  | cons a _ ih =>
    intro i y q
    cases i with
    | zero =>
      cases q
      exact ⟨_, rfl, a⟩
    | succ i => exact ih q
theorem fn_ok {P : Program} {w : World} {mg : Str → Option Value} {base : Heap} {k : Nat} {x qual : Str} {st : Stmt} {fa : Addr} {fd : FuncData} {N ps : List Str} {ι ρ : Type} {R : RR ρ} [GoodR R] {enc : ι → Env K} {f : ι → Option ρ}
    (Fn : Fun K x qual st fa fd) (S : FnScope N ps (defScope st)) (hl : ∀ x, (enc x).length = ps.length)
    (hb : ∀ (cdv : Value) (A : Around) (outer : List PySem.Env) (s : Shared) (H : Hp) (E : XK), Room k (A.deeper (envOfC qual (defScope st) s.heap.objs.size fa cdv)) →
      ∃ t, PSs (cxOf CX0 P w K mg base N qual (defScope st) fa cdv A outer s H E).nox (defBody st) t ∧ ∀ x, Sv R t (enc x ++ List.replicate (N.length - ps.length) .no) ((f x).map .rt)) :
    FnOk P w K mg base CX0 (k + 1) fa fd ps (SpF enc f R) := by
  refine Fn.ok S (fun vs H Q E h => ?_) (fun cdv A outer s H vs Q E hr h => ?_)
  · obtain ⟨F, x, r, _, h, _⟩ := h
    exact (ArgsAt.length h).trans (hl x)
  · obtain ⟨F, x, r, sf, ha, hf, q⟩ := h
    obtain ⟨t, ht, hs⟩ := hb cdv A outer s H E hr
    refine ⟨t, ht, ?_⟩
    have e1 := ArgsAt.length ha
    have e2 := hl x
    have noOwn : ∀ (i : Nat) (e : Ent K), (enc x ++ List.replicate (N.length - ps.length) Ent.no)[i]? = some e → e.isOwn = false := fun i e he => by
      by_cases hi : i < (enc x).length
      · rw [List.getElem?_append_left hi] at he
        obtain ⟨v, _, av⟩ := ha.get he
        cases e with
        | no => rfl
        | val => rfl
        | own => cases av
        | obj => cases av
      · rw [List.getElem?_append_right (by omega), List.getElem?_replicate] at he
        split at he
        · cases he; rfl
        · cases he
    have rs : RSt K F H (fun _ _ => False) (L2.start N vs) (enc x ++ List.replicate (N.length - ps.length) .no) := by
      refine ⟨sf, ?_, fun i e he => ?_, fun i j e u hi hj he hu _ => ?_⟩
      · unfold L2.start
        rw [List.length_append, List.length_append, List.length_map, List.length_replicate, List.length_replicate]
        omega
      · by_cases hi : i < (enc x).length
        · rw [List.getElem?_append_left hi] at he
          obtain ⟨v, hv, av⟩ := ha.get he
          have hs2 : (L2.start N vs)[i]? = some (some v) := by
            unfold L2.start
            rw [List.getElem?_append_left (by rw [List.length_map]; omega), List.getElem?_map, hv]
            rfl
          rw [hs2]
          cases e with
          | no => trivial
          | val j a => exact ⟨v, rfl, av⟩
          | own => cases av
          | obj => cases av
        · rw [List.getElem?_append_right (by omega), List.getElem?_replicate] at he
          split at he
          · cases he; trivial
          · cases he
      · rw [noOwn i e hi] at he
        cases he
    refine hs x (.rt r) (by rw [hf]; rfl) F H _ _ { nx := fun _ H' => Q .non H', rt := Q } rs fun F' H' v a ex x2 => ?_
    have no : ∀ p, ¬ OwA (enc x ++ List.replicate (N.length - ps.length) Ent.no) (fun _ _ => False) p := fun p ⟨i, e, hi, he, _⟩ => by
      rw [noOwn i e hi] at he
      cases he
    refine q v F' H' ⟨a.ff, fun p o h => a.hh p o h (no p), ex, fun p o h n f => (a.fr p o h n f).resolve_left (no p)⟩ (GoodR.weak (fun p z => z.resolve_left (no p)) x2)
end
end Tf
set_option Elab.async false
set_option linter.all false
set_option maxRecDepth 100000
set_option maxHeartbeats 4000000
namespace Tf
open PySem PySem.Spec L2 PyProof.Rows

/-! ### numbers -/
def mulO_d (a b : Int) : Option Int := if a.natAbs.log2 + b.natAbs.log2 < 134000000 then some (a * b) else none
theorem mulO_ex : ∃ f : Int → Int → Option Int, f = mulO_d := ⟨mulO_d, rfl⟩
noncomputable def mulO : Int → Int → Option Int := Classical.choose mulO_ex
theorem mulO_eq (a b : Int) : mulO a b = mulO_d a b := by
  have h : mulO = mulO_d := Classical.choose_spec mulO_ex
  rw [h]
def fdivO_d (a b : Int) : Option Int := if b = 0 then none else some (a.fdiv b)
theorem fdivO_ex : ∃ f : Int → Int → Option Int, f = fdivO_d := ⟨fdivO_d, rfl⟩
noncomputable def fdivO : Int → Int → Option Int := Classical.choose fdivO_ex
theorem fdivO_eq (a b : Int) : fdivO a b = fdivO_d a b := by
  have h : fdivO = fdivO_d := Classical.choose_spec fdivO_ex
  rw [h]
def fmodO_d (a b : Int) : Option Int := if b = 0 then none else some (a.fmod b)
theorem fmodO_ex : ∃ f : Int → Int → Option Int, f = fmodO_d := ⟨fmodO_d, rfl⟩
noncomputable def fmodO : Int → Int → Option Int := Classical.choose fmodO_ex
theorem fmodO_eq (a b : Int) : fmodO a b = fmodO_d a b := by
  have h : fmodO = fmodO_d := Classical.choose_spec fmodO_ex
  rw [h]
def shrO_d (a b : Int) : Option Int := if 0 ≤ b then some (a / 2 ^ b.toNat) else none
theorem shrO_ex : ∃ f : Int → Int → Option Int, f = shrO_d := ⟨shrO_d, rfl⟩
noncomputable def shrO : Int → Int → Option Int := Classical.choose shrO_ex
theorem shrO_eq (a b : Int) : shrO a b = shrO_d a b := by
  have h : shrO = shrO_d := Classical.choose_spec shrO_ex
  rw [h]
def powO_d (a b : Int) : Option Int := if 0 ≤ b ∧ b ≤ 1000000 ∧ a.natAbs < 2 ^ 64 then some (a ^ b.toNat) else none
theorem powO_ex : ∃ f : Int → Int → Option Int, f = powO_d := ⟨powO_d, rfl⟩
noncomputable def powO : Int → Int → Option Int := Classical.choose powO_ex
theorem powO_eq (a b : Int) : powO a b = powO_d a b := by
  have h : powO = powO_d := Classical.choose_spec powO_ex
  rw [h]
def CMulT (i j : Int) : Prop := i.natAbs.log2 + j.natAbs.log2 < 134000000
theorem CMulT.ok {i j : Int} (h : CMulT i j) : IntMulOk i j := by
  have b : ∀ x : Int, Builtin.Int.intBits x ≤ x.natAbs.log2 + 1 := fun x => by
    unfold Builtin.Int.intBits
    split <;> omega
  have h1 := b i
  have h2 := b j
  have h3 : i.natAbs.log2 + j.natAbs.log2 < 134000000 := h
  have e : bitsLine = 134217728 := by decide
  unfold IntMulOk
  intro z
  rw [Bool.and_eq_true] at z
  have z2 := z.2
  unfold Builtin.Int.intTooBig at z2
  have z3 := of_decide_eq_true z2
  rw [e] at z3
  omega
section
variable {X : Cx}
theorem op_mulT : OpR X (binaryOp .Mult) (rI CMulT fun i j => .int (i * j)) := opI fun _ _ _ _ _ _ _ hc q => mul_int q hc.ok
end
section
variable {K : Fg} {es : Env K} {ta tb te : TE} {ma mb : Option Int} {a b : Int}
theorem ops_I0 {g : Int → Int → V} {γ : Type} [i : Rep K γ] {F H : Hp} {x y : V} {c : γ} (s : Same F H) (hx : x = .int a) (hy : y = .int b) (hv : i.At F (g a b) c) : OpS (RV i) ((rI0 g) x y) F H (some c) :=
  ops_pure s (g a b) hv fun Q q => ⟨a, b, hx, hy, q⟩
theorem ops_I {C : Int → Int → Prop} {g : Int → Int → V} {γ : Type} [i : Rep K γ] {F H : Hp} {x y : V} {c : γ} (s : Same F H) (hx : x = .int a) (hy : y = .int b) (hc : C a b) (hv : i.At F (g a b) c) : OpS (RV i) ((rI C g) x y) F H (some c) :=
  ops_pure s (g a b) hv fun Q q => ⟨a, b, hx, hy, hc, q⟩
theorem ev_add (ha : Ev ta es ma) (hb : Ev tb es mb) : Ev (tOp (rI0 fun i j => .int (i + j)) ta tb) es (ma.bind fun a => mb.bind fun b => some (a + b)) :=
  ev_op2 ha hb fun _ _ _ _ _ _ _ _ _ _ s x y => ops_I0 s x y rfl
theorem ev_sub (ha : Ev ta es ma) (hb : Ev tb es mb) : Ev (tOp (rI0 fun i j => .int (i - j)) ta tb) es (ma.bind fun a => mb.bind fun b => some (a - b)) :=
  ev_op2 ha hb fun _ _ _ _ _ _ _ _ _ _ s x y => ops_I0 s x y rfl
theorem ev_mul (ha : Ev ta es ma) (hb : Ev tb es mb) : Ev (tOp (rI CMulT fun i j => .int (i * j)) ta tb) es (ma.bind fun a => mb.bind fun b => mulO a b) :=
  ev_op2 ha hb fun _ _ _ _ _ _ _ _ _ _ s x y => by
    rw [mulO_eq]
    exact ops_if fun h => ops_I s x y h rfl
/-- a written factor -/
theorem ev_mulL {n : Int} (hn : -(2 ^ 64) < n ∧ n < 2 ^ 64) (hb : Ev tb es mb) : Ev (tOp (rI CMul fun i j => .int (i * j)) (tC (.int n)) tb) es (mb.bind fun b => some (n * b)) :=
  ev_op2 (ma := some n) (k := fun a b => some (a * b)) ev_int hb fun _ _ _ _ _ _ _ _ e _ s x y => ops_I s x y (.inl (by cases e; exact hn)) rfl
theorem ev_mulR {n : Int} (hn : -(2 ^ 64) < n ∧ n < 2 ^ 64) (ha : Ev ta es ma) : Ev (tOp (rI CMul fun i j => .int (i * j)) ta (tC (.int n))) es (ma.bind fun a => some (a * n)) :=
  ev_op2 (mb := some n) (k := fun a b => some (a * b)) ha ev_int fun _ _ _ _ _ _ _ _ _ e s x y => ops_I s x y (.inr (by cases e; exact hn)) rfl
/-- % and // by a written positive number -/
theorem ev_modL {n : Int} (hn : 0 < n) (ha : Ev ta es ma) : Ev (tOp (rI (fun _ j => 0 < j) fun i j => .int (i % j)) ta (tC (.int n))) es (ma.bind fun a => some (a % n)) :=
  ev_op2 (mb := some n) (k := fun a b => some (a % b)) ha ev_int fun _ _ _ _ _ _ _ _ _ e s x y => ops_I s x y (by cases e; exact hn) rfl
theorem ev_divL {n : Int} (hn : 0 < n ∧ n.natAbs.log2 < 9000) (ha : Ev ta es ma) : Ev (tOp (rI CDivW fun i j => .int (i / j)) ta (tC (.int n))) es (ma.bind fun a => some (a / n)) :=
  ev_op2 (mb := some n) (k := fun a b => some (a / b)) ha ev_int fun _ _ _ _ _ _ _ _ _ e s x y => ops_I s x y (by cases e; exact hn) rfl
theorem ev_fmod (ha : Ev ta es ma) (hb : Ev tb es mb) : Ev (tOp (rI (fun _ j => j ≠ 0) fun i j => .int (i.fmod j)) ta tb) es (ma.bind fun a => mb.bind fun b => fmodO a b) :=
  ev_op2 ha hb fun a b _ _ _ _ _ _ _ _ s x y => fun c hc => by
    rw [fmodO_eq] at hc
    unfold fmodO_d at hc
    by_cases h : b = 0
    · rw [if_pos h] at hc
      cases hc
    · rw [if_neg h] at hc
      exact ops_I (i := repInt (K := K)) s x y h rfl c hc
theorem ev_powL {m n : Int} (h : 0 ≤ n ∧ n ≤ 1000000 ∧ m.natAbs < 2 ^ 64) : Ev (tOp (rI CPow fun i j => .int (i ^ j.toNat)) (tC (.int m)) (tC (.int n))) es (some (m ^ n.toNat)) :=
  ev_op2 (ma := some m) (mb := some n) (k := fun a b => some (a ^ b.toNat)) ev_int ev_int fun _ _ _ _ _ _ _ _ e e2 s x y => ops_I s x y (by cases e; cases e2; exact h) rfl
theorem ev_pow (ha : Ev ta es ma) (hb : Ev tb es mb) : Ev (tOp (rI CPow fun i j => .int (i ^ j.toNat)) ta tb) es (ma.bind fun a => mb.bind fun b => powO a b) :=
  ev_op2 ha hb fun a b _ _ _ _ _ _ _ _ s x y => by
    rw [powO_eq]
    unfold powO_d
    exact ops_if fun h => ops_I s x y h rfl
theorem ev_shr (ha : Ev ta es ma) (hb : Ev tb es mb) : Ev (tOp (rI (fun _ j => 0 ≤ j) fun i j => .int (i / 2 ^ j.toNat)) ta tb) es (ma.bind fun a => mb.bind fun b => shrO a b) :=
  ev_op2 ha hb fun a b _ _ _ _ _ _ _ _ s x y => by
    rw [shrO_eq]
    exact ops_if fun h => ops_I s x y h rfl
theorem ev_neg (ha : Ev ta es ma) : Ev (tUn (rU fun i => .int (-i)) ta) es (ma.bind fun a => some (-a)) :=
  ev_op1 ha fun a x _ F H _ s hx => ops_pure s (.int (-a)) rfl fun Q q => ⟨a, hx, q⟩
/-! comparisons of ints -/
theorem ev_lt (ha : Ev ta es ma) (hb : Ev tb es mb) : Ev (tOp (rI0 fun i j => .bl (decide (i < j))) ta tb) es (ma.bind fun a => mb.bind fun b => some (decide (a < b))) :=
  ev_op2 ha hb fun _ _ _ _ _ _ _ _ _ _ s x y => ops_I0 s x y rfl
theorem ev_le (ha : Ev ta es ma) (hb : Ev tb es mb) : Ev (tOp (rI0 fun i j => .bl (decide (i ≤ j))) ta tb) es (ma.bind fun a => mb.bind fun b => some (decide (a ≤ b))) :=
  ev_op2 ha hb fun _ _ _ _ _ _ _ _ _ _ s x y => ops_I0 s x y rfl
theorem ev_gt (ha : Ev ta es ma) (hb : Ev tb es mb) : Ev (tOp (rI0 fun i j => .bl (decide (j < i))) ta tb) es (ma.bind fun a => mb.bind fun b => some (decide (b < a))) :=
  ev_op2 ha hb fun _ _ _ _ _ _ _ _ _ _ s x y => ops_I0 s x y rfl
theorem ev_ge (ha : Ev ta es ma) (hb : Ev tb es mb) : Ev (tOp (rI0 fun i j => .bl (decide (j ≤ i))) ta tb) es (ma.bind fun a => mb.bind fun b => some (decide (b ≤ a))) :=
  ev_op2 ha hb fun _ _ _ _ _ _ _ _ _ _ s x y => ops_I0 s x y rfl
end

/-! ### truth -/
section
variable {K : Fg} {es : Env K} {ta tb te : TE} {t u : TT} {ma mb : Option Bool} {a b : Bool}
theorem et_test (h : Ev te es ma) : EvT (tTest te) es ma := fun a ha F H ad σ rs Q q => h a ha F H ad σ rs _ fun v F' H' g x => ⟨a, x, q F' H' g⟩
theorem et_B (h : Ev te es ma) : EvT (tB te) es ma := fun a ha F H ad σ rs Q q => h a ha F H ad σ rs _ fun v F' H' g x => ⟨a, x, q F' H' g⟩
def andO (a : Bool) (m : Option Bool) : Option Bool := if a = true then m else some false
def orO (a : Bool) (m : Option Bool) : Option Bool := if a = true then some true else m
theorem et_and (h1 : EvT t es ma) (h2 : EvT u es mb) : EvT (tAnd t u) es (ma.bind fun a => andO a mb) := by
  intro c hc F H ad σ rs Q q
  obtain ⟨a, ea, hc⟩ := bind_some hc
  refine h1 a ea F H ad σ rs _ fun F1 H1 g1 => ?_
  cases a with
  | true => exact h2 c hc F1 H1 ad σ (rs.grow g1) Q fun F2 H2 g2 => q F2 H2 (g1.trans g2)
  | false =>
    have hc : some false = some c := hc
    cases hc
    exact q F1 H1 g1
theorem et_or (h1 : EvT t es ma) (h2 : EvT u es mb) : EvT (tOr t u) es (ma.bind fun a => orO a mb) := by
  intro c hc F H ad σ rs Q q
  obtain ⟨a, ea, hc⟩ := bind_some hc
  refine h1 a ea F H ad σ rs _ fun F1 H1 g1 => ?_
  cases a with
  | false => exact h2 c hc F1 H1 ad σ (rs.grow g1) Q fun F2 H2 g2 => q F2 H2 (g1.trans g2)
  | true =>
    have hc : some true = some c := hc
    cases hc
    exact q F1 H1 g1
theorem et_is {t : TT} {m m' : Option Bool} (h : EvT t es m) (e : m = m') : EvT t es m' := e ▸ h
theorem et_andP (h1 : EvT t es (some a)) (h2 : EvT u es (some b)) : EvT (tAnd t u) es (some (a && b)) := et_is (et_and h1 h2) (by cases a <;> rfl)
theorem et_orP (h1 : EvT t es (some a)) (h2 : EvT u es (some b)) : EvT (tOr t u) es (some (a || b)) := et_is (et_or h1 h2) (by cases a <;> rfl)
theorem et_not (h1 : EvT t es ma) : EvT (tNot t) es (ma.bind fun a => some (!a)) := by
  intro c hc F H ad σ rs Q q
  obtain ⟨a, ea, hc⟩ := bind_some hc
  cases hc
  exact h1 a ea F H ad σ rs _ q
theorem ev_is {γ : Type} {R : RR γ} {m m' : Option γ} (h : EvG R te es m) (e : m = m') : EvG R te es m' := e ▸ h
theorem ev_and (h1 : Ev ta es ma) (h2 : Ev tb es mb) : Ev (tAndV ta tb) es (ma.bind fun a => andO a mb) := by
  intro c hc F H ad σ rs Q q
  obtain ⟨a, ea, hc⟩ := bind_some hc
  refine h1 a ea F H ad σ rs _ fun v F1 H1 g1 x => ⟨a, x, ?_⟩
  cases a with
  | true => exact h2 c hc F1 H1 ad σ (rs.grow g1) Q fun v F2 H2 g2 x => q v F2 H2 (g1.trans g2) x
  | false =>
    have hc : some false = some c := hc
    cases hc
    exact q _ F1 H1 g1 rfl
theorem ev_or (h1 : Ev ta es ma) (h2 : Ev tb es mb) : Ev (tOrV ta tb) es (ma.bind fun a => orO a mb) := by
  intro c hc F H ad σ rs Q q
  obtain ⟨a, ea, hc⟩ := bind_some hc
  refine h1 a ea F H ad σ rs _ fun v F1 H1 g1 x => ⟨a, x, ?_⟩
  cases a with
  | false => exact h2 c hc F1 H1 ad σ (rs.grow g1) Q fun v F2 H2 g2 x => q v F2 H2 (g1.trans g2) x
  | true =>
    have hc : some true = some c := hc
    cases hc
    exact q _ F1 H1 g1 rfl
theorem ev_andP (h1 : Ev ta es (some a)) (h2 : Ev tb es (some b)) : Ev (tAndV ta tb) es (some (a && b)) := ev_is (ev_and h1 h2) (by cases a <;> rfl)
theorem ev_orP (h1 : Ev ta es (some a)) (h2 : Ev tb es (some b)) : Ev (tOrV ta tb) es (some (a || b)) := ev_is (ev_or h1 h2) (by cases a <;> rfl)
theorem ev_not (h1 : Ev ta es ma) : Ev (tNotV ta) es (ma.bind fun a => some (!a)) := by
  intro c hc F H ad σ rs Q q
  obtain ⟨a, ea, hc⟩ := bind_some hc
  cases hc
  exact h1 a ea F H ad σ rs _ fun v F1 H1 g1 x => ⟨a, x, q _ F1 H1 g1 rfl⟩
theorem ev_if {γ : Type} {R : RR γ} [GoodR R] {m1 m2 : Option γ} (h : EvT t es ma) (h1 : EvG R ta es m1) (h2 : EvG R tb es m2) : EvG R (tIf t ta tb) es (ma.bind fun a => if a = true then m1 else m2) := by
  intro c hc F H ad σ rs Q q
  obtain ⟨a, ea, hc⟩ := bind_some hc
  refine h a ea F H ad σ rs _ fun F1 H1 g1 => ?_
  cases a with
  | true =>
    rw [if_pos rfl] at hc
    show if true = true then _ else _
    rw [if_pos rfl]
    exact h1 c hc F1 H1 ad σ (rs.grow g1) Q fun v F2 H2 g2 x => q v F2 H2 (g1.trans g2) (weak_none g1.hh x)
  | false =>
    rw [if_neg Bool.false_ne_true] at hc
    show if false = true then _ else _
    rw [if_neg Bool.false_ne_true]
    exact h2 c hc F1 H1 ad σ (rs.grow g1) Q fun v F2 H2 g2 x => q v F2 H2 (g1.trans g2) (weak_none g1.hh x)
end

/-! ### == of data -/
def rEqP (K : Fg) : R2 := fun x y H Q => ∃ d e, Dp K H x d ∧ Dp K H y e ∧ d.plain = true ∧ e.plain = true ∧ d.depth ≤ 64 ∧ Q (.bl (PyData.eqv d e)) H
def rNeP (K : Fg) : R2 := fun x y H Q => ∃ d e, Dp K H x d ∧ Dp K H y e ∧ d.plain = true ∧ e.plain = true ∧ d.depth ≤ 64 ∧ Q (.bl (!PyData.eqv d e)) H
def rInP (K : Fg) : R2 := fun x y H Q => ∃ d ds, Dp K H x d ∧ (Dp K H y (.list ds) ∨ Dp K H y (.tuple ds)) ∧ d.plain = true ∧ PyData.plainAll ds = true ∧ d.depth ≤ 64 ∧ Q (.bl (ds.any fun z => PyData.eqv z d)) H
def rNotInP (K : Fg) : R2 := fun x y H Q => ∃ d ds, Dp K H x d ∧ (Dp K H y (.list ds) ∨ Dp K H y (.tuple ds)) ∧ d.plain = true ∧ PyData.plainAll ds = true ∧ d.depth ≤ 64 ∧ Q (.bl (!ds.any fun z => PyData.eqv z d)) H
section
variable {X : Cx}
theorem op_eqP (hu : X.A.units + 64 < cLine) : OpR X (compareOp .Eq) (rEqP X.K) := by
  intro pins s σ H x y v u Q I rx ry h
  obtain ⟨d, e, hd, he, pd, pe, hz, q⟩ := h
  obtain ⟨as, r1⟩ := Dp.reads I d x v hd rx
  obtain ⟨bs, r2⟩ := Dp.reads I e y u he ry
  exact SeqAt.eq_plain r1 r2 pd pe (by have := Nat.min_le_left d.depth e.depth; omega) ⟨.bl _, H, I, rfl, q⟩
theorem op_neP (hu : X.A.units + 64 < cLine) : OpR X (compareOp .NotEq) (rNeP X.K) := by
  intro pins s σ H x y v u Q I rx ry h
  obtain ⟨d, e, hd, he, pd, pe, hz, q⟩ := h
  obtain ⟨as, r1⟩ := Dp.reads I d x v hd rx
  obtain ⟨bs, r2⟩ := Dp.reads I e y u he ry
  exact SeqAt.ne_plain r1 r2 pd pe (by have := Nat.min_le_left d.depth e.depth; omega) ⟨.bl _, H, I, rfl, q⟩
theorem op_inP (hu : X.A.units + 65 < cLine) : OpR X (compareOp .In) (rInP X.K) := by
  intro pins s σ H x y v u Q I rx ry h
  obtain ⟨d, ds, hd, he, pd, pe, hz, q⟩ := h
  obtain ⟨as, r1⟩ := Dp.reads I d x v hd rx
  have hm : X.A.units + 1 + min (PyData.depthAll ds) d.depth < cLine := by
    have := Nat.min_le_right (PyData.depthAll ds) d.depth
    omega
  rcases he with he | he
  · obtain ⟨bs, r2⟩ := Dp.reads I (.list ds) y u he ry
    exact SeqAt.in_list_data r2 r1 pe pd hm ⟨.bl _, H, I, rfl, q⟩
  · obtain ⟨bs, r2⟩ := Dp.reads I (.tuple ds) y u he ry
    exact SeqAt.in_tuple_data r2 r1 pe pd hm ⟨.bl _, H, I, rfl, q⟩
theorem op_notInP (hu : X.A.units + 65 < cLine) : OpR X (compareOp .NotIn) (rNotInP X.K) := by
  intro pins s σ H x y v u Q I rx ry h
  obtain ⟨d, ds, hd, he, pd, pe, hz, q⟩ := h
  obtain ⟨as, r1⟩ := Dp.reads I d x v hd rx
  have hm : X.A.units + 1 + min (PyData.depthAll ds) d.depth < cLine := by
    have := Nat.min_le_right (PyData.depthAll ds) d.depth
    omega
  rcases he with he | he
  · obtain ⟨bs, r2⟩ := Dp.reads I (.list ds) y u he ry
    exact SeqAt.notIn_list_data r2 r1 pe pd hm ⟨.bl _, H, I, rfl, q⟩
  · obtain ⟨bs, r2⟩ := Dp.reads I (.tuple ds) y u he ry
    exact SeqAt.notIn_tuple_data r2 r1 pe pd hm ⟨.bl _, H, I, rfl, q⟩
end
class RepD (K : Fg) (α : Type) [i : Rep K α] where
  toD : α → PyData
  dp : ∀ {F : Hp} {v : V} {a : α}, i.At F v a → Dp K F v (toD a)
  lay : ∀ a, (toD a).plain = true
  dn : Nat
  dep : ∀ a, (toD a).depth ≤ dn
  inj : ∀ a b, PyData.eqv (toD a) (toD b) = true ↔ a = b
section
variable {K : Fg}
theorem dp_same {F H : Hp} (s : Same F H) : (∀ {v : V} {d : PyData}, Dp K F v d → Dp K H v d) := by
  intro v d h
  refine Dp.rec (motive_1 := fun v d _ => Dp K H v d) (motive_2 := fun vs ds _ => DpAll K H vs ds) .non (fun b => .bl b) (fun i => .int i) (fun x => .str x) (fun h _ ih => .lst (s.seq h) ih) (fun h _ ih => .tup (same_t s h) ih) .nil (fun _ _ h1 h2 => .cons h1 h2) h
theorem dpAll_of {α : Type} [i : Rep K α] [d : RepD K α] {F : Hp} {vs : List V} {xs : List α} (h : Paired (i.At F) vs xs) : DpAll K F vs (xs.map d.toD) := by
  induction h with
  | nil => exact .nil
  | cons a _ ih => exact .cons (d.dp a) ih
theorem lay_all {α : Type} {f : α → PyData} (h : ∀ a, (f a).plain = true) : ∀ xs : List α, PyData.plainAll (xs.map f) = true
  | [] => by simp [PyData.plainAll]
  | x :: r => by simp [PyData.plainAll, h x, lay_all h r]
theorem dep_all {α : Type} {f : α → PyData} {n : Nat} (h : ∀ a, (f a).depth ≤ n) : ∀ xs : List α, PyData.depthAll (xs.map f) ≤ n
  | [] => by simp [PyData.depthAll]
  | x :: r => by
    have h1 := h x
    have h2 := dep_all h r
    simp only [List.map_cons, PyData.depthAll]
    omega
theorem inj_all {α : Type} {f : α → PyData} (h : ∀ a b, PyData.eqv (f a) (f b) = true ↔ a = b) : ∀ xs ys : List α, PyData.eqvAll (xs.map f) (ys.map f) = true ↔ xs = ys
  | [], [] => by simp [PyData.eqvAll]
  | [], y :: ys => by simp [PyData.eqvAll]
  | x :: xs, [] => by simp [PyData.eqvAll]
  | x :: xs, y :: ys => by
    simp only [List.map_cons, PyData.eqvAll, Bool.and_eq_true, h x y, inj_all h xs ys, List.cons.injEq]
instance dInt : RepD K Int := ⟨.int, fun h => by cases h; exact .int _, fun _ => by simp [PyData.plain], 0, fun _ => by simp [PyData.depth], fun a b => by simp [PyData.eqv]⟩
instance dBool : RepD K Bool := ⟨.bool, fun h => by cases h; exact .bl _, fun _ => by simp [PyData.plain], 0, fun _ => by simp [PyData.depth], fun a b => by simp [PyData.eqv]⟩
instance dStr : RepD K Str := ⟨.str, fun h => by cases h; exact .str _, fun _ => by simp [PyData.plain], 0, fun _ => by simp [PyData.depth], fun a b => by simp [PyData.eqv]⟩
instance dUnit : RepD K Unit := ⟨fun _ => .none, fun h => by cases h; exact .non, fun _ => by simp [PyData.plain], 0, fun _ => by simp [PyData.depth], fun a b => by simp [PyData.eqv]⟩
/-- data of two kinds is never == -/
class Apart (f : α → PyData) (g : β → PyData) : Prop where
  ap : ∀ a b, PyData.eqv (f a) (g b) = false ∧ PyData.eqv (g b) (f a) = false
instance dOption {α : Type} [i : Rep K α] [d : RepD K α] [n : Apart (fun (_ : Unit) => PyData.none) d.toD] : RepD K (Option α) :=
  ⟨fun x => match x with
    | none => .none
    | some a => d.toD a, fun {F v a} h => by
      cases a with
      | none =>
        have h : v = .non := h
        subst h
        exact .non
      | some a => exact d.dp h, fun a => by
      cases a with
      | none => rfl
      | some a => exact d.lay a, d.dn, fun a => by
      cases a with
      | none => simp [PyData.depth]
      | some a => exact d.dep a, fun a b => by
      cases a with
      | none =>
        cases b with
        | none => simp [PyData.eqv]
        | some b => simp [(n.ap () b).1]
      | some a =>
        cases b with
        | none => simp [(n.ap () a).2]
        | some b => simp [d.inj]⟩
instance dSum {α β : Type} [i : Rep K α] [j : Rep K β] [d : RepD K α] [e : RepD K β] [n : Apart d.toD e.toD] : RepD K (α ⊕ β) :=
  ⟨fun x => match x with
    | .inl a => d.toD a
    | .inr a => e.toD a, fun {F v a} h => by
      cases a with
      | inl a => exact d.dp h
      | inr a => exact e.dp h, fun a => by
      cases a with
      | inl a => exact d.lay a
      | inr a => exact e.lay a, max d.dn e.dn, fun a => by
      cases a with
      | inl a => have := d.dep a; show (d.toD a).depth ≤ _; omega
      | inr a => have := e.dep a; show (e.toD a).depth ≤ _; omega, fun a b => by
      cases a with
      | inl a =>
        cases b with
        | inl b => simp [d.inj]
        | inr b => simp [(n.ap a b).1]
      | inr a =>
        cases b with
        | inl b => simp [(n.ap b a).2]
        | inr b => simp [e.inj]⟩
instance dList {α : Type} [i : Rep K α] [d : RepD K α] : RepD K (List α) :=
  ⟨fun xs => .list (xs.map d.toD), fun ⟨p, vs, e, h, _, q⟩ => by subst e; exact .lst (.inl (.inl h)) (dpAll_of q), fun xs => by simp only [PyData.plain]; exact lay_all d.lay xs, d.dn + 1, fun xs => by
    simp only [PyData.depth]
    exact Nat.add_le_add_right (dep_all d.dep xs) 1, fun a b => by simp only [PyData.eqv]; exact inj_all d.inj a b⟩
instance dTup {α : Type} [i : Rep K α] [d : RepD K α] : RepD K (Tup α) :=
  ⟨fun (xs : List α) => .tuple (xs.map d.toD), fun ⟨p, vs, e, h, _, q⟩ => by subst e; exact .tup (.inl (.inl h)) (dpAll_of q), fun (xs : List α) => by simp only [PyData.plain]; exact lay_all d.lay xs, d.dn + 1, fun (xs : List α) => by
    simp only [PyData.depth]
    exact Nat.add_le_add_right (dep_all d.dep xs) 1, fun (a b : List α) => by simp only [PyData.eqv]; exact inj_all d.inj a b⟩
instance dT1 {α : Type} [i : Rep K α] [d : RepD K α] : RepD K (T1 α) :=
  ⟨fun x => .tuple [d.toD x.a], fun ⟨p, a, e, h, q⟩ => by subst e; exact .tup h (.cons (d.dp q) .nil), fun x => by simp [PyData.plain, PyData.plainAll, d.lay], d.dn + 1, fun x => by
    have := d.dep x.a
    simp only [PyData.depth, PyData.depthAll]
    omega, fun a b => by
    cases a; cases b
    simp [PyData.eqv, PyData.eqvAll, d.inj]⟩
instance dProd {α β : Type} [i : Rep K α] [d : RepD K α] [j : Rep K β] [e : RepD K β] : RepD K (α × β) :=
  ⟨fun x => .tuple [d.toD x.1, e.toD x.2], fun ⟨p, a, b, z, h, q, r⟩ => by subst z; exact .tup h (.cons (d.dp q) (.cons (e.dp r) .nil)), fun x => by simp [PyData.plain, PyData.plainAll, d.lay, e.lay], max d.dn e.dn + 1, fun x => by
    have h1 := d.dep x.1
    have h2 := e.dep x.2
    simp only [PyData.depth, PyData.depthAll]
    omega, fun a b => by
    cases a; cases b
    simp [PyData.eqv, PyData.eqvAll, d.inj, e.inj]⟩
instance dT3 {α β γ : Type} [i : Rep K α] [d : RepD K α] [j : Rep K β] [e : RepD K β] [k : Rep K γ] [f : RepD K γ] : RepD K (T3 α β γ) :=
  ⟨fun x => .tuple [d.toD x.a, e.toD x.b, f.toD x.c], fun ⟨p, a, b, c, z, h, q, r, t⟩ => by subst z; exact .tup h (.cons (d.dp q) (.cons (e.dp r) (.cons (f.dp t) .nil))), fun x => by simp [PyData.plain, PyData.plainAll, d.lay, e.lay, f.lay], max (max d.dn e.dn) f.dn + 1, fun x => by
    have h1 := d.dep x.a
    have h2 := e.dep x.b
    have h3 := f.dep x.c
    simp only [PyData.depth, PyData.depthAll]
    omega, fun a b => by
    cases a; cases b
    simp [PyData.eqv, PyData.eqvAll, d.inj, e.inj, f.inj]⟩
section
variable {α β γ δ : Type} [i : Rep K α] [d : RepD K α] [j : Rep K β] [e : RepD K β] [k : Rep K γ] [f : RepD K γ] [l : Rep K δ] [g : RepD K δ]
instance apI : Apart (fun (_ : Unit) => PyData.none) (dInt (K := K)).toD := ⟨fun _ _ => ⟨by simp [RepD.toD, PyData.eqv], by simp [RepD.toD, PyData.eqv]⟩⟩
instance apB : Apart (fun (_ : Unit) => PyData.none) (dBool (K := K)).toD := ⟨fun _ _ => ⟨by simp [RepD.toD, PyData.eqv], by simp [RepD.toD, PyData.eqv]⟩⟩
instance apS : Apart (fun (_ : Unit) => PyData.none) (dStr (K := K)).toD := ⟨fun _ _ => ⟨by simp [RepD.toD, PyData.eqv], by simp [RepD.toD, PyData.eqv]⟩⟩
instance apL : Apart (fun (_ : Unit) => PyData.none) (dList (K := K) (α := α)).toD := ⟨fun _ _ => ⟨by simp [RepD.toD, PyData.eqv], by simp [RepD.toD, PyData.eqv]⟩⟩
instance apT : Apart (fun (_ : Unit) => PyData.none) (dTup (K := K) (α := α)).toD := ⟨fun _ _ => ⟨by simp [RepD.toD, PyData.eqv], by simp [RepD.toD, PyData.eqv]⟩⟩
instance ap1 : Apart (fun (_ : Unit) => PyData.none) (dT1 (K := K) (α := α)).toD := ⟨fun _ _ => ⟨by simp [RepD.toD, PyData.eqv], by simp [RepD.toD, PyData.eqv]⟩⟩
instance ap2 : Apart (fun (_ : Unit) => PyData.none) (dProd (K := K) (α := α) (β := β)).toD := ⟨fun _ _ => ⟨by simp [RepD.toD, PyData.eqv], by simp [RepD.toD, PyData.eqv]⟩⟩
instance ap3 : Apart (fun (_ : Unit) => PyData.none) (dT3 (K := K) (α := α) (β := β) (γ := γ)).toD := ⟨fun _ _ => ⟨by simp [RepD.toD, PyData.eqv], by simp [RepD.toD, PyData.eqv]⟩⟩
instance ap12 : Apart (dT1 (K := K) (α := α)).toD (dProd (K := K) (α := β) (β := γ)).toD := ⟨fun _ _ => ⟨by simp [RepD.toD, PyData.eqv, PyData.eqvAll], by simp [RepD.toD, PyData.eqv, PyData.eqvAll]⟩⟩
instance ap13 : Apart (dT1 (K := K) (α := α)).toD (dT3 (K := K) (α := β) (β := γ) (γ := δ)).toD := ⟨fun _ _ => ⟨by simp [RepD.toD, PyData.eqv, PyData.eqvAll], by simp [RepD.toD, PyData.eqv, PyData.eqvAll]⟩⟩
end
/-- which answers are data for == -/
class DpR {α : Type} (K : Fg) (R : RR α) (f : outParam (α → PyData)) : Prop where
  dpr : ∀ {fr : Addr → Prop} {F H : Hp} {v : V} {a : α}, Same F H → R fr F H v a → Dp K H v (f a)
instance dprV {α : Type} [i : Rep K α] [d : RepD K α] : DpR K (RV i) d.toD := ⟨fun s h => dp_same s (d.dp h)⟩
instance dprL {α : Type} [i : Rep K α] [d : RepD K α] : DpR K (RL i) (fun xs => .list (xs.map d.toD)) := ⟨fun s ⟨p, vs, e, h, _, q⟩ => by subst e; exact .lst (.inl (.inl h)) (dpAll_of (pmono q fun _ _ z => i.mono s z))⟩
theorem eqv_dec {α : Type} [DecidableEq α] {f : α → PyData} (h : ∀ a b, PyData.eqv (f a) (f b) = true ↔ a = b) (a b : α) : PyData.eqv (f a) (f b) = decide (a = b) := by
  by_cases e : a = b
  · rw [decide_eq_true e]
    exact (h a b).mpr e
  · rw [decide_eq_false e]
    cases q : PyData.eqv (f a) (f b) with
    | false => rfl
    | true => exact absurd ((h a b).mp q) e
variable {es : Env K} {ta tb te : TE}
theorem ev_eqG {α : Type} [i : Rep K α] [d : RepD K α] [DecidableEq α] {R1 R2 : RR α} [GoodR R1] [GoodR R2] [DpR K R1 d.toD] [DpR K R2 d.toD] {ma mb : Option α} (ha : EvG R1 ta es ma) (hb : EvG R2 tb es mb) (hd : d.dn ≤ 63 := by exact Nat.le_of_ble_eq_true rfl) :
    Ev (tOp (rEqP K) ta tb) es (ma.bind fun a => mb.bind fun b => some (decide (a = b))) :=
  ev_op2 ha hb fun a b _ _ _ _ _ _ _ _ s x y => ops_pure s (.bl (decide (a = b))) rfl fun Q q => ⟨d.toD a, d.toD b, DpR.dpr s x, DpR.dpr s y, d.lay a, d.lay b, by have := d.dep a; omega, by rw [eqv_dec d.inj]; exact q⟩
theorem ev_neG {α : Type} [i : Rep K α] [d : RepD K α] [DecidableEq α] {R1 R2 : RR α} [GoodR R1] [GoodR R2] [DpR K R1 d.toD] [DpR K R2 d.toD] {ma mb : Option α} (ha : EvG R1 ta es ma) (hb : EvG R2 tb es mb) (hd : d.dn ≤ 63 := by exact Nat.le_of_ble_eq_true rfl) :
    Ev (tOp (rNeP K) ta tb) es (ma.bind fun a => mb.bind fun b => some (!decide (a = b))) :=
  ev_op2 ha hb fun a b _ _ _ _ _ _ _ _ s x y => ops_pure s (.bl (!decide (a = b))) rfl fun Q q => ⟨d.toD a, d.toD b, DpR.dpr s x, DpR.dpr s y, d.lay a, d.lay b, by have := d.dep a; omega, by rw [eqv_dec d.inj]; exact q⟩
/-- of texts -/
theorem ev_eqS {ma mb : Option Str} (ha : Ev ta es ma) (hb : Ev tb es mb) : Ev (tOp rEq ta tb) es (ma.bind fun a => mb.bind fun b => some (decide (a = b))) :=
  ev_op2 ha hb fun a b _ _ _ _ _ _ _ _ s x y => ops_pure s (.bl (decide (a = b))) rfl fun Q q => by
    cases x
    cases y
    refine ⟨rfl, ?_⟩
    have e : decide (V.str a = V.str b) = decide (a = b) := by
      by_cases h : a = b
      · rw [h, decide_eq_true rfl, decide_eq_true rfl]
      · rw [decide_eq_false h, decide_eq_false fun z => h (V.str.inj z)]
    rw [e]
    exact q
theorem ev_neS {ma mb : Option Str} (ha : Ev ta es ma) (hb : Ev tb es mb) : Ev (tOp rNe ta tb) es (ma.bind fun a => mb.bind fun b => some (!decide (a = b))) :=
  ev_op2 ha hb fun a b _ _ _ _ _ _ _ _ s x y => ops_pure s (.bl (!decide (a = b))) rfl fun Q q => by
    cases x
    cases y
    refine ⟨rfl, ?_⟩
    have e : decide (V.str a = V.str b) = decide (a = b) := by
      by_cases h : a = b
      · rw [h, decide_eq_true rfl, decide_eq_true rfl]
      · rw [decide_eq_false h, decide_eq_false fun z => h (V.str.inj z)]
    rw [e]
    exact q
end
instance {α : Type} [DecidableEq α] : DecidableEq (Tup α) := inferInstanceAs (DecidableEq (List α))
end Tf
set_option Elab.async false
set_option linter.all false
set_option maxRecDepth 100000
set_option maxHeartbeats 4000000
namespace Tf
open PySem PySem.Spec L2 PyProof.Rows

def lim : Nat := 16777216
theorem lim_eq : lim = sizeLine := by decide
theorem le_lim {n : Nat} (h : n ≤ lim) : n ≤ sizeLine := by rw [← lim_eq]; exact h
theorem lt_lim {n : Nat} (h : n < lim) : n < sizeLine := by rw [← lim_eq]; exact h
theorem n1000 {n : Nat} (h : n ≤ 1000) : n ≤ sizeLine := Nat.le_trans h (by decide)

section
variable {K : Fg} {α β γ δ : Type} {es : Env K} {ta tb tc td te tr : TE} {tas : TA}
theorem ops_new {R : RR γ} {r : Hp → VK → Prop} {F H : Hp} {c : γ} (s : Same F H) (o : HO) (h : ∀ Q : VK, (∀ p, H p = none → Q (.ref p) (upd H p o)) → r H Q) (hR : ∀ p, H p = none → ∃ F', Grow F H F' (upd H p o) ∧ R (fun q => H q = none) F' (upd H p o) (.ref p) c) : OpS R r F H (some c) := fun c' hc Q q => by
  cases hc
  refine h Q fun p hp => ?_
  obtain ⟨F', g, x⟩ := hR p hp
  exact q _ F' _ g x
/-! ### items of one kind, written -/
def EvH [Rep K α] (n : Nat) (ta : TA) (es : Env K) (m : Option (List α)) : Prop := ∀ xs, m = some xs → xs.length = n ∧ ∀ (F H : Hp) (ad : Nat → Addr → Prop) (σ : L2.St), RSt K F H ad σ es → ∀ Q : List V → Hp → Prop, (∀ vs F' H', Grow F H F' H' → Paired ((inferInstance : Rep K α).At F') vs xs → Q vs H') → ta σ H Q
theorem eh_nil [Rep K α] : EvH (α := α) 0 tNil es (some []) := fun xs h => by
  cases h
  exact ⟨rfl, fun F H ad σ rs Q q => q [] F H (Grow.refl rs.ex) .nil⟩
theorem eh_cons [i : Rep K α] {n : Nat} {ma : Option α} {mx : Option (List α)} (h : Ev te es ma) (hr : EvH n tas es mx) : EvH (n + 1) (tCons te tas) es (ma.bind fun a => mx.bind fun x => some (a :: x)) := fun xs hx => by
  obtain ⟨a, ha, hx⟩ := bind_some hx
  obtain ⟨y, hy, hx⟩ := bind_some hx
  cases hx
  obtain ⟨hl, hr⟩ := hr y hy
  refine ⟨by rw [List.length_cons, hl], fun F H ad σ rs Q q => ?_⟩
  refine h a ha F H ad σ rs _ fun v F1 H1 g1 h1 => ?_
  refine hr F1 H1 ad σ (rs.grow g1) _ fun vs F2 H2 g2 h2 => ?_
  exact q (v :: vs) F2 H2 (g1.trans g2) (.cons (i.mono g2.ff h1) h2)
theorem ev_lst [i : Rep K α] {n : Nat} {mx : Option (List α)} (h : EvH n tas es mx) (hn : n ≤ 1000 := by decide) : EvN (tLst tas) es mx := fun xs hx F H ad σ rs Q q => by
  obtain ⟨hl, h⟩ := h xs hx
  refine h F H ad σ rs _ fun vs F1 H1 g1 pr => ?_
  have e := Paired.length pr
  refine ⟨n1000 (by omega), fun p hp => ?_⟩
  exact q (.ref p) F1 _ (g1.trans (Grow.make g1.ex hp)) ⟨p, rfl, g1.hh.free hp, g1.ex.free hp, vs, upd_same, n1000 (by omega), pr⟩
theorem ev_tupH [i : Rep K α] {n : Nat} {mx : Option (List α)} (h : EvH n tas es mx) (hn : n ≤ 1000 := by decide) : EvG (α := Tup α) (RV (repTup (K := K))) (tTup tas) es mx := fun xs hx F H ad σ rs Q q => by
  obtain ⟨hl, h⟩ := h xs hx
  refine h F H ad σ rs _ fun vs F1 H1 g1 pr => ?_
  have e := Paired.length pr
  refine ⟨n1000 (by omega), fun p hp => ?_⟩
  exact q (.ref p) _ _ (g1.trans (Grow.lay g1.ex hp)) ⟨p, vs, rfl, upd_same, n1000 (by omega), pmono pr fun _ _ z => i.mono (same_new (g1.ex.free hp)) z⟩
/-! tuples of fixed places -/
theorem ev_t1 [i : Rep K α] {ma : Option α} (ha : Ev ta es ma) : Ev (tTup (tCons ta tNil)) es (ma.bind fun a => some (T1.mk a)) := fun x hx F H ad σ rs Q q => by
  obtain ⟨a, ea, hx⟩ := bind_some hx
  cases hx
  refine ha a ea F H ad σ rs _ fun v F1 H1 g1 h1 => ⟨by show 1 ≤ sizeLine; decide, fun p hp => ?_⟩
  exact q (.ref p) _ _ (g1.trans (Grow.lay g1.ex hp)) ⟨p, v, rfl, .inl (.inl upd_same), i.mono (same_new (g1.ex.free hp)) h1⟩
theorem ev_t2 [i : Rep K α] [j : Rep K β] {ma : Option α} {mb : Option β} (ha : Ev ta es ma) (hb : Ev tb es mb) : Ev (tTup (tCons ta (tCons tb tNil))) es (ma.bind fun a => mb.bind fun b => some (a, b)) := fun x hx F H ad σ rs Q q => by
  obtain ⟨a, ea, hx⟩ := bind_some hx
  obtain ⟨b, eb, hx⟩ := bind_some hx
  cases hx
  refine ha a ea F H ad σ rs _ fun v F1 H1 g1 h1 => ?_
  refine hb b eb F1 H1 ad σ (rs.grow g1) _ fun w F2 H2 g2 h2 => ⟨by show 2 ≤ sizeLine; decide, fun p hp => ?_⟩
  exact q (.ref p) _ _ ((g1.trans g2).trans (Grow.lay g2.ex hp)) ⟨p, v, w, rfl, .inl (.inl upd_same), i.mono (g2.ff.trans (same_new (g2.ex.free hp))) h1, j.mono (same_new (g2.ex.free hp)) h2⟩
theorem ev_t3 [i : Rep K α] [j : Rep K β] [k : Rep K γ] {ma : Option α} {mb : Option β} {mc : Option γ} (ha : Ev ta es ma) (hb : Ev tb es mb) (hc : Ev tc es mc) : Ev (tTup (tCons ta (tCons tb (tCons tc tNil)))) es (ma.bind fun a => mb.bind fun b => mc.bind fun c => some (T3.mk a b c)) := fun x hx F H ad σ rs Q q => by
  obtain ⟨a, ea, hx⟩ := bind_some hx
  obtain ⟨b, eb, hx⟩ := bind_some hx
  obtain ⟨c, ec, hx⟩ := bind_some hx
  cases hx
  refine ha a ea F H ad σ rs _ fun v F1 H1 g1 h1 => ?_
  refine hb b eb F1 H1 ad σ (rs.grow g1) _ fun w F2 H2 g2 h2 => ?_
  refine hc c ec F2 H2 ad σ ((rs.grow g1).grow g2) _ fun z F3 H3 g3 h3 => ⟨by show 3 ≤ sizeLine; decide, fun p hp => ?_⟩
  have n := same_new (o := .tup [v, w, z]) (g3.ex.free hp)
  exact q (.ref p) _ _ (((g1.trans g2).trans g3).trans (Grow.lay g3.ex hp)) ⟨p, v, w, z, rfl, .inl (.inl upd_same), i.mono ((g2.ff.trans g3.ff).trans n) h1, j.mono (g3.ff.trans n) h2, k.mono n h3⟩
theorem ev_t4 [i : Rep K α] [j : Rep K β] [k : Rep K γ] [l : Rep K δ] {ma : Option α} {mb : Option β} {mc : Option γ} {md : Option δ} (ha : Ev ta es ma) (hb : Ev tb es mb) (hc : Ev tc es mc) (hd : Ev td es md) : Ev (tTup (tCons ta (tCons tb (tCons tc (tCons td tNil))))) es (ma.bind fun a => mb.bind fun b => mc.bind fun c => md.bind fun d => some (T4.mk a b c d)) := fun x hx F H ad σ rs Q q => by
  obtain ⟨a, ea, hx⟩ := bind_some hx
  obtain ⟨b, eb, hx⟩ := bind_some hx
  obtain ⟨c, ec, hx⟩ := bind_some hx
  obtain ⟨d, ed, hx⟩ := bind_some hx
  cases hx
  refine ha a ea F H ad σ rs _ fun v F1 H1 g1 h1 => ?_
  refine hb b eb F1 H1 ad σ (rs.grow g1) _ fun w F2 H2 g2 h2 => ?_
  refine hc c ec F2 H2 ad σ ((rs.grow g1).grow g2) _ fun z F3 H3 g3 h3 => ?_
  refine hd d ed F3 H3 ad σ (((rs.grow g1).grow g2).grow g3) _ fun y F4 H4 g4 h4 => ⟨by show 4 ≤ sizeLine; decide, fun p hp => ?_⟩
  have n := same_new (o := .tup [v, w, z, y]) (g4.ex.free hp)
  exact q (.ref p) _ _ ((((g1.trans g2).trans g3).trans g4).trans (Grow.lay g4.ex hp)) ⟨p, v, w, z, y, rfl, .inl (.inl upd_same), i.mono (((g2.ff.trans g3.ff).trans g4.ff).trans n) h1, j.mono ((g3.ff.trans g4.ff).trans n) h2, k.mono (g4.ff.trans n) h3, l.mono n h4⟩
/-! places of them -/
theorem at0 {a : V} {r : List V} : atI (a :: r) 0 = some a := atI_nat (j := 0) rfl
theorem at1 {a b : V} {r : List V} : atI (a :: b :: r) 1 = some b := atI_nat (j := 1) rfl
theorem at2 {a b c : V} {r : List V} : atI (a :: b :: c :: r) 2 = some c := atI_nat (j := 2) rfl
theorem at3 {a b c d : V} {r : List V} : atI (a :: b :: c :: d :: r) 3 = some d := atI_nat (j := 3) rfl
theorem ev_fst [i : Rep K α] [j : Rep K β] {m : Option (α × β)} (h : Ev te es m) : Ev (tOp (rIxT K) te (tC (.int 0))) es (m.bind fun a => some a.1) := fun x hx F H ad σ rs Q q => by
  obtain ⟨a, ea, hx⟩ := bind_some hx
  cases hx
  refine h a ea F H ad σ rs _ fun v F1 H1 g1 ⟨p, u, w, e, hs, h1, h2⟩ => ⟨p, _, 0, u, e, rfl, same_t g1.ex hs, at0, q u F1 H1 g1 h1⟩
theorem ev_snd [i : Rep K α] [j : Rep K β] {m : Option (α × β)} (h : Ev te es m) : Ev (tOp (rIxT K) te (tC (.int 1))) es (m.bind fun a => some a.2) := fun x hx F H ad σ rs Q q => by
  obtain ⟨a, ea, hx⟩ := bind_some hx
  cases hx
  refine h a ea F H ad σ rs _ fun v F1 H1 g1 ⟨p, u, w, e, hs, h1, h2⟩ => ⟨p, _, 1, w, e, rfl, same_t g1.ex hs, at1, q w F1 H1 g1 h2⟩
theorem ev_1a [i : Rep K α] {m : Option (T1 α)} (h : Ev te es m) : Ev (tOp (rIxT K) te (tC (.int 0))) es (m.bind fun a => some a.a) := fun x hx F H ad σ rs Q q => by
  obtain ⟨a, ea, hx⟩ := bind_some hx
  cases hx
  refine h a ea F H ad σ rs _ fun v F1 H1 g1 ⟨p, u, e, hs, h1⟩ => ⟨p, _, 0, u, e, rfl, same_t g1.ex hs, at0, q u F1 H1 g1 h1⟩
theorem ev_3a [i : Rep K α] [j : Rep K β] [k : Rep K γ] {m : Option (T3 α β γ)} (h : Ev te es m) : Ev (tOp (rIxT K) te (tC (.int 0))) es (m.bind fun a => some a.a) := fun x hx F H ad σ rs Q q => by
  obtain ⟨a, ea, hx⟩ := bind_some hx
  cases hx
  refine h a ea F H ad σ rs _ fun v F1 H1 g1 ⟨p, u, w, z, e, hs, h1, h2, h3⟩ => ⟨p, _, 0, u, e, rfl, same_t g1.ex hs, at0, q u F1 H1 g1 h1⟩
theorem ev_3b [i : Rep K α] [j : Rep K β] [k : Rep K γ] {m : Option (T3 α β γ)} (h : Ev te es m) : Ev (tOp (rIxT K) te (tC (.int 1))) es (m.bind fun a => some a.b) := fun x hx F H ad σ rs Q q => by
  obtain ⟨a, ea, hx⟩ := bind_some hx
  cases hx
  refine h a ea F H ad σ rs _ fun v F1 H1 g1 ⟨p, u, w, z, e, hs, h1, h2, h3⟩ => ⟨p, _, 1, w, e, rfl, same_t g1.ex hs, at1, q w F1 H1 g1 h2⟩
theorem ev_3c [i : Rep K α] [j : Rep K β] [k : Rep K γ] {m : Option (T3 α β γ)} (h : Ev te es m) : Ev (tOp (rIxT K) te (tC (.int 2))) es (m.bind fun a => some a.c) := fun x hx F H ad σ rs Q q => by
  obtain ⟨a, ea, hx⟩ := bind_some hx
  cases hx
  refine h a ea F H ad σ rs _ fun v F1 H1 g1 ⟨p, u, w, z, e, hs, h1, h2, h3⟩ => ⟨p, _, 2, z, e, rfl, same_t g1.ex hs, at2, q z F1 H1 g1 h3⟩
theorem ev_4a [i : Rep K α] [j : Rep K β] [k : Rep K γ] [l : Rep K δ] {m : Option (T4 α β γ δ)} (h : Ev te es m) : Ev (tOp (rIxT K) te (tC (.int 0))) es (m.bind fun a => some a.a) := fun x hx F H ad σ rs Q q => by
  obtain ⟨a, ea, hx⟩ := bind_some hx
  cases hx
  refine h a ea F H ad σ rs _ fun v F1 H1 g1 ⟨p, u, w, z, y, e, hs, h1, h2, h3, h4⟩ => ⟨p, _, 0, u, e, rfl, same_t g1.ex hs, at0, q u F1 H1 g1 h1⟩
theorem ev_4b [i : Rep K α] [j : Rep K β] [k : Rep K γ] [l : Rep K δ] {m : Option (T4 α β γ δ)} (h : Ev te es m) : Ev (tOp (rIxT K) te (tC (.int 1))) es (m.bind fun a => some a.b) := fun x hx F H ad σ rs Q q => by
  obtain ⟨a, ea, hx⟩ := bind_some hx
  cases hx
  refine h a ea F H ad σ rs _ fun v F1 H1 g1 ⟨p, u, w, z, y, e, hs, h1, h2, h3, h4⟩ => ⟨p, _, 1, w, e, rfl, same_t g1.ex hs, at1, q w F1 H1 g1 h2⟩
theorem ev_4c [i : Rep K α] [j : Rep K β] [k : Rep K γ] [l : Rep K δ] {m : Option (T4 α β γ δ)} (h : Ev te es m) : Ev (tOp (rIxT K) te (tC (.int 2))) es (m.bind fun a => some a.c) := fun x hx F H ad σ rs Q q => by
  obtain ⟨a, ea, hx⟩ := bind_some hx
  cases hx
  refine h a ea F H ad σ rs _ fun v F1 H1 g1 ⟨p, u, w, z, y, e, hs, h1, h2, h3, h4⟩ => ⟨p, _, 2, z, e, rfl, same_t g1.ex hs, at2, q z F1 H1 g1 h3⟩
theorem ev_4d [i : Rep K α] [j : Rep K β] [k : Rep K γ] [l : Rep K δ] {m : Option (T4 α β γ δ)} (h : Ev te es m) : Ev (tOp (rIxT K) te (tC (.int 3))) es (m.bind fun a => some a.d) := fun x hx F H ad σ rs Q q => by
  obtain ⟨a, ea, hx⟩ := bind_some hx
  cases hx
  refine h a ea F H ad σ rs _ fun v F1 H1 g1 ⟨p, u, w, z, y, e, hs, h1, h2, h3, h4⟩ => ⟨p, _, 3, y, e, rfl, same_t g1.ex hs, at3, q y F1 H1 g1 h4⟩
/-! an item by its place -/
def ixO (xs : List α) (i : Int) : Option α := atI xs i
theorem atI_paired {P : V → α → Prop} {vs : List V} {xs : List α} (h : Paired P vs xs) {i : Int} {a : α} (ha : atI xs i = some a) : ∃ v, atI vs i = some v ∧ P v a := by
  unfold atI at ha ⊢
  rw [Paired.length h]
  obtain ⟨j, hj, ha⟩ := bind_some ha
  obtain ⟨v, hv, pv⟩ := paired_of_get h ha
  exact ⟨v, by rw [hj]; exact hv, pv⟩
theorem ev_ix [i : Rep K α] {ma : Option (List α)} {mb : Option Int} (ha : EvL ta es ma) (hb : Ev tb es mb) : Ev (tOp (rIxL K) ta tb) es (ma.bind fun a => mb.bind fun b => ixO a b) :=
  ev_op2 ha hb fun a b x y _ _ F H _ _ s ⟨p, vs, e, h, hl, pr⟩ hy => fun c hc Q q => by
    obtain ⟨v, hv, pv⟩ := atI_paired pr hc
    exact ⟨p, vs, b, v, e, hy, .inl (.inl h), hv, q v F H (Grow.refl s) pv⟩
theorem ev_ixT [i : Rep K α] {ma : Option (Tup α)} {mb : Option Int} (ha : Ev ta es ma) (hb : Ev tb es mb) : Ev (tOp (rIxT K) ta tb) es (ma.bind fun a => mb.bind fun b => ixO (α := α) a b) :=
  ev_op2 ha hb fun a b x y _ _ F H _ _ s ⟨p, vs, e, h, hl, pr⟩ hy => fun c hc Q q => by
    obtain ⟨v, hv, pv⟩ := atI_paired pr hc
    exact ⟨p, vs, b, v, e, hy, same_t s h, hv, q v F H (Grow.refl s) pv⟩
/-! slices -/
def cutL (xs : List α) (lo hi : Option Int) : List α := (xs.drop (HT.sIx xs.length 0 lo)).take (HT.sIx xs.length xs.length hi - HT.sIx xs.length 0 lo)
theorem paired_drop {P : V → α → Prop} {vs : List V} {xs : List α} (h : Paired P vs xs) : ∀ n, Paired P (vs.drop n) (xs.drop n) := by
  induction h with
  | nil => intro n; cases n <;> exact .nil
  | cons a t ih =>
    intro n
    cases n with
    | zero => exact .cons a t
    | succ n => exact ih n
theorem paired_take {P : V → α → Prop} {vs : List V} {xs : List α} (h : Paired P vs xs) : ∀ n, Paired P (vs.take n) (xs.take n) := by
  induction h with
  | nil => intro n; cases n <;> exact .nil
  | cons a t ih =>
    intro n
    cases n with
    | zero => exact .nil
    | succ n => exact .cons a (ih n)
theorem cut_paired {P : V → α → Prop} {vs : List V} {xs : List α} (h : Paired P vs xs) (lo hi : Option Int) : Paired P (cutV vs lo hi) (cutL xs lo hi) := by
  unfold cutV cutL
  rw [Paired.length h]
  exact paired_take (paired_drop h _) _
theorem cut_len (xs : List α) (lo hi : Option Int) : (cutL xs lo hi).length ≤ xs.length := by
  unfold cutL
  rw [List.length_take, List.length_drop]
  omega
def EvO (to : TO) (es : Env K) (m : Option (Option Int)) : Prop := ∀ o, m = some o → ∀ (F H : Hp) (ad : Nat → Addr → Prop) (σ : L2.St), RSt K F H ad σ es → ∀ Q : Option Int → Hp → Prop, (∀ F' H', Grow F H F' H' → Q o H') → to σ H Q
theorem eo_none : EvO (K := K) tNoPart es (some none) := fun o h F H ad σ rs Q q => by
  cases h
  exact q F H (Grow.refl rs.ex)
theorem eo_some {m : Option Int} (h : Ev te es m) : EvO (tPart te) es (m.bind fun a => some (some a)) := fun o ho F H ad σ rs Q q => by
  obtain ⟨a, ea, ho⟩ := bind_some ho
  cases ho
  exact h a ea F H ad σ rs _ fun v F' H' g x => ⟨a, x, q F' H' g⟩
theorem ev_sl [i : Rep K α] {tl th : TO} {m : Option (List α)} {ml mh : Option (Option Int)} (h : EvL te es m) (h1 : EvO tl es ml) (h2 : EvO th es mh) : EvN (tSl (rSlL K) te tl th) es (m.bind fun xs => ml.bind fun l => mh.bind fun u => some (cutL xs l u)) := fun c hc F H ad σ rs Q q => by
  obtain ⟨xs, ex, hc⟩ := bind_some hc
  obtain ⟨l, el, hc⟩ := bind_some hc
  obtain ⟨u, eu, hc⟩ := bind_some hc
  cases hc
  refine h xs ex F H ad σ rs _ fun v F1 H1 g1 x1 => ?_
  refine h1 l el F1 H1 ad σ (rs.grow g1) _ fun F2 H2 g2 => ?_
  refine h2 u eu F2 H2 ad σ ((rs.grow g1).grow g2) _ fun F3 H3 g3 => ?_
  obtain ⟨p, vs, e, hp, hl, pr⟩ := GoodR.mono (R := RL i) (g2.trans g3) x1
  refine ⟨p, vs, e, .inl (.inl hp), fun r hr => ?_⟩
  have g := (g1.trans g2).trans g3
  refine q (.ref r) F3 _ (g.trans (Grow.make g3.ex hr)) ⟨r, rfl, g.hh.free hr, g3.ex.free hr, _, upd_same, ?_, cut_paired pr l u⟩
  have e1 := Paired.length (cut_paired pr l u)
  have e2 := cut_len xs l u
  have e3 := Paired.length pr
  omega
theorem ev_slScr {tl th : TO} {m : Option Scr} {ml mh : Option (Option Int)} (h : Ev te es m) (h1 : EvO tl es ml) (h2 : EvO th es mh) : EvN (α := Int) (tSl (rSlL K) te tl th) es (m.bind fun xs => ml.bind fun l => mh.bind fun u => some (cutL (α := Int) xs l u)) := fun c hc F H ad σ rs Q q => by
  obtain ⟨(xs : List Int), ex, hc⟩ := bind_some hc
  obtain ⟨l, el, hc⟩ := bind_some hc
  obtain ⟨u, eu, hc⟩ := bind_some hc
  cases hc
  refine h xs ex F H ad σ rs _ fun v F1 H1 g1 ⟨p, e, hp, hl⟩ => ?_
  refine h1 l el F1 H1 ad σ (rs.grow g1) _ fun F2 H2 g2 => ?_
  refine h2 u eu F2 H2 ad σ ((rs.grow g1).grow g2) _ fun F3 H3 g3 => ?_
  refine ⟨p, _, e, ((g1.ex.trans (g2.hh.trans g3.hh)).seq hp), fun r hr => ?_⟩
  have g := (g1.trans g2).trans g3
  have pr := cut_paired (paired_ints (K := K) (F := F3) xs) l u
  refine q (.ref r) F3 _ (g.trans (Grow.make g3.ex hr)) ⟨r, rfl, g.hh.free hr, g3.ex.free hr, _, upd_same, ?_, pr⟩
  have e1 := Paired.length pr
  have e2 := cut_len xs l u
  exact n1000 (by omega)
theorem ev_slT [i : Rep K α] {tl th : TO} {m : Option (Tup α)} {ml mh : Option (Option Int)} (h : Ev te es m) (h1 : EvO tl es ml) (h2 : EvO th es mh) : EvG (α := Tup α) (RV (repTup (K := K))) (tSl (rSlA K) te tl th) es (m.bind fun xs => ml.bind fun l => mh.bind fun u => some (cutL (α := α) xs l u)) := fun c hc F H ad σ rs Q q => by
  obtain ⟨(xs : List α), ex, hc⟩ := bind_some hc
  obtain ⟨l, el, hc⟩ := bind_some hc
  obtain ⟨u, eu, hc⟩ := bind_some hc
  cases hc
  refine h xs ex F H ad σ rs _ fun v F1 H1 g1 ⟨p, vs, e, hp, hl, pr⟩ => ?_
  refine h1 l el F1 H1 ad σ (rs.grow g1) _ fun F2 H2 g2 => ?_
  refine h2 u eu F2 H2 ad σ ((rs.grow g1).grow g2) _ fun F3 H3 g3 => ?_
  have g := (g1.trans g2).trans g3
  have pr3 := pmono pr fun _ _ z => i.mono (g2.ff.trans g3.ff) z
  have e1 := Paired.length (cut_paired pr l u)
  have e2 := cut_len xs l u
  have e3 := Paired.length pr
  refine ⟨p, vs, e, same_t (g1.ex.trans (g2.hh.trans g3.hh)) hp, fun hw => ?_, fun _ r hr => ?_⟩
  · have ee : cutL xs l u = xs := by
      unfold cutL
      rw [← e3, hw.1, hw.2, List.drop_zero, Nat.sub_zero, e3, List.take_length]
    rw [ee] at q
    exact q (.ref p) F3 H3 g ⟨p, vs, rfl, (g2.ff.trans g3.ff) _ _ hp, hl, pr3⟩
  · exact q (.ref r) _ _ (g.trans (Grow.lay g3.ex hr)) ⟨r, _, rfl, upd_same, by omega, pmono (cut_paired pr3 l u) fun _ _ z => i.mono (same_new (g3.ex.free hr)) z⟩
/-! + of lists, tuples -/
def catO_d {α : Type} (a b : List α) : Option (List α) := if a.length + b.length ≤ lim then some (a ++ b) else none
theorem catO_ex (α : Type) : ∃ f : List α → List α → Option (List α), f = catO_d := ⟨_, rfl⟩
noncomputable def catO {α : Type} : List α → List α → Option (List α) := Classical.choose (catO_ex α)
theorem catO_eq {α : Type} (a b : List α) : catO a b = catO_d a b := by
  have h : @catO α = catO_d := Classical.choose_spec (catO_ex α)
  rw [h]
theorem ev_cat [i : Rep K α] {ma mb : Option (List α)} (ha : EvL ta es ma) (hb : EvL tb es mb) : EvN (tOp rCat ta tb) es (ma.bind fun a => mb.bind fun b => catO a b) :=
  ev_op2 ha hb fun a b x y _ _ F H _ _ s ⟨p, vs, e, h, hl, pr⟩ ⟨p2, vs2, e2, h2, hl2, pr2⟩ => by
    rw [catO_eq]
    refine ops_if fun hz => ?_
    have l1 := Paired.length pr
    have l2 := Paired.length pr2
    have l3 : vs.length + vs2.length ≤ sizeLine := le_lim (by omega)
    exact ops_new s (.lst (vs ++ vs2)) (fun Q q => ⟨p, p2, vs, vs2, e, e2, h, h2, l3, q⟩) fun r hr => ⟨F, Grow.make s hr, r, rfl, hr, s.free hr, _, upd_same, by rw [List.length_append]; exact l3, paired_append pr pr2⟩
theorem ev_catT [i : Rep K α] {ma mb : Option (Tup α)} (ha : Ev ta es ma) (hb : Ev tb es mb) : EvG (α := Tup α) (RV (repTup (K := K))) (tOp (rCatA K) ta tb) es (ma.bind fun a => mb.bind fun b => catO (α := α) a b) :=
  ev_op2 ha hb fun (a : List α) (b : List α) x y _ _ F H _ _ s ⟨p, vs, e, h, hl, pr⟩ ⟨p2, vs2, e2, h2, hl2, pr2⟩ => by
    rw [catO_eq]
    refine ops_if fun hz => fun c hc Q q => ?_
    cases hc
    have l1 := Paired.length pr
    have l2 := Paired.length pr2
    have l3 : vs.length + vs2.length ≤ sizeLine := le_lim (by omega)
    refine ⟨p, p2, vs, vs2, e, e2, same_t s h, same_t s h2, l3, fun hv => ?_, fun _ hv => ?_, fun _ _ r hr => ?_⟩
    · subst hv
      have ea : a = [] := List.length_eq_zero_iff.mp l1.symm
      refine q _ F H (Grow.refl s) ⟨p2, vs2, rfl, h2, hl2, ?_⟩
      rw [ea]
      exact pr2
    · subst hv
      have eb : b = [] := List.length_eq_zero_iff.mp l2.symm
      refine q _ F H (Grow.refl s) ⟨p, vs, rfl, h, hl, ?_⟩
      rw [eb, List.append_nil]
      exact pr
    · have n := same_new (o := .tup (vs ++ vs2)) (s.free hr)
      exact q _ _ _ (Grow.lay s hr) ⟨r, _, rfl, upd_same, by rw [List.length_append]; exact l3, paired_append (pmono pr fun _ _ z => i.mono n z) (pmono pr2 fun _ _ z => i.mono n z)⟩
/-! len, list, tuple, sum, abs, int, min, max -/
theorem ev_len [i : Rep K α] {ma : Option (List α)} (ha : EvL ta es ma) : Ev (tCB (fun xs H Q => ∃ p ys, xs = [.ref p] ∧ (SqL K H p ys ∨ SqT K H p ys) ∧ Q (.int ys.length) H) (tCons ta tNil)) es (ma.bind fun a => some (a.length : Int)) :=
  ev_cb1 ha fun a x _ F H _ s ⟨p, vs, e, h, hl, pr⟩ => ops_pure s (.int vs.length) (by rw [Paired.length pr]; rfl) fun Q q => ⟨p, vs, by rw [e], .inl (.inl (.inl h)), q⟩
theorem ev_lenT [i : Rep K α] {ma : Option (Tup α)} (ha : Ev ta es ma) : Ev (tCB (fun xs H Q => ∃ p ys, xs = [.ref p] ∧ (SqL K H p ys ∨ SqT K H p ys) ∧ Q (.int ys.length) H) (tCons ta tNil)) es (ma.bind fun (a : List α) => some (a.length : Int)) :=
  ev_cb1 ha fun a x _ F H _ s ⟨p, vs, e, h, hl, pr⟩ => ops_pure s (.int vs.length) (by rw [Paired.length pr]; rfl) fun Q q => ⟨p, vs, by rw [e], .inr (same_t s h), q⟩
theorem ev_len2 [i : Rep K α] [j : Rep K β] {ma : Option (α × β)} (ha : Ev ta es ma) : Ev (tCB (fun xs H Q => ∃ p ys, xs = [.ref p] ∧ (SqL K H p ys ∨ SqT K H p ys) ∧ Q (.int ys.length) H) (tCons ta tNil)) es (ma.bind fun _ => some (2 : Int)) :=
  ev_cb1 ha fun a x _ F H _ s ⟨p, u, w, e, h, _⟩ => ops_pure s (.int 2) rfl fun Q q => ⟨p, [u, w], by rw [e], .inr (same_t s h), q⟩
theorem ev_len1 [i : Rep K α] {ma : Option (T1 α)} (ha : Ev ta es ma) : Ev (tCB (fun xs H Q => ∃ p ys, xs = [.ref p] ∧ (SqL K H p ys ∨ SqT K H p ys) ∧ Q (.int ys.length) H) (tCons ta tNil)) es (ma.bind fun _ => some (1 : Int)) :=
  ev_cb1 ha fun a x _ F H _ s ⟨p, u, e, h, _⟩ => ops_pure s (.int 1) rfl fun Q q => ⟨p, [u], by rw [e], .inr (same_t s h), q⟩
theorem ev_len3 [i : Rep K α] [j : Rep K β] [k : Rep K γ] {ma : Option (T3 α β γ)} (ha : Ev ta es ma) : Ev (tCB (fun xs H Q => ∃ p ys, xs = [.ref p] ∧ (SqL K H p ys ∨ SqT K H p ys) ∧ Q (.int ys.length) H) (tCons ta tNil)) es (ma.bind fun _ => some (3 : Int)) :=
  ev_cb1 ha fun a x _ F H _ s ⟨p, u, w, z, e, h, _⟩ => ops_pure s (.int 3) rfl fun Q q => ⟨p, [u, w, z], by rw [e], .inr (same_t s h), q⟩
theorem ev_len4 [i : Rep K α] [j : Rep K β] [k : Rep K γ] [l : Rep K δ] {ma : Option (T4 α β γ δ)} (ha : Ev ta es ma) : Ev (tCB (fun xs H Q => ∃ p ys, xs = [.ref p] ∧ (SqL K H p ys ∨ SqT K H p ys) ∧ Q (.int ys.length) H) (tCons ta tNil)) es (ma.bind fun _ => some (4 : Int)) :=
  ev_cb1 ha fun a x _ F H _ s ⟨p, u, w, z, y, e, h, _⟩ => ops_pure s (.int 4) rfl fun Q q => ⟨p, [u, w, z, y], by rw [e], .inr (same_t s h), q⟩
theorem ev_list [i : Rep K α] {ma : Option (List α)} (ha : EvL ta es ma) : EvN (tCB (fun xs H Q => ∃ p ys, xs = [.ref p] ∧ (SqL K H p ys ∨ SqT K H p ys) ∧ ∀ l, H l = none → Q (.ref l) (upd H l (.lst ys))) (tCons ta tNil)) es (ma.bind fun a => some a) :=
  ev_cb1 ha fun a x _ F H _ s ⟨p, vs, e, h, hl, pr⟩ => ops_new s (.lst vs) (fun Q q => ⟨p, vs, by rw [e], .inl (.inl (.inl h)), q⟩) fun r hr => ⟨F, Grow.make s hr, r, rfl, hr, s.free hr, vs, upd_same, hl, pr⟩
theorem ev_listT [i : Rep K α] {ma : Option (Tup α)} (ha : Ev ta es ma) : EvN (tCB (fun xs H Q => ∃ p ys, xs = [.ref p] ∧ (SqL K H p ys ∨ SqT K H p ys) ∧ ∀ l, H l = none → Q (.ref l) (upd H l (.lst ys))) (tCons ta tNil)) es (ma.bind fun (a : List α) => some a) :=
  ev_cb1 ha fun a x _ F H _ s ⟨p, vs, e, h, hl, pr⟩ => ops_new s (.lst vs) (fun Q q => ⟨p, vs, by rw [e], .inr (same_t s h), q⟩) fun r hr => ⟨F, Grow.make s hr, r, rfl, hr, s.free hr, vs, upd_same, hl, pr⟩
theorem ev_tuple [i : Rep K α] {ma : Option (List α)} (ha : EvL ta es ma) : EvG (α := Tup α) (RV (repTup (K := K))) (tCB (fun xs H Q => ∃ p ys, xs = [.ref p] ∧ ((SqL K H p ys ∧ ∀ l, H l = none → Q (.ref l) (upd H l (.tup ys))) ∨ (SqT K H p ys ∧ Q (.ref p) H))) (tCons ta tNil)) es (ma.bind fun a => some a) :=
  ev_cb1 ha fun a x _ F H _ s ⟨p, vs, e, h, hl, pr⟩ => ops_new s (.tup vs) (fun Q q => ⟨p, vs, by rw [e], .inl ⟨.inl (.inl h), q⟩⟩) fun r hr => ⟨_, Grow.lay s hr, r, vs, rfl, upd_same, hl, pmono pr fun _ _ z => i.mono (same_new (s.free hr)) z⟩
theorem ev_tupleT [i : Rep K α] {ma : Option (Tup α)} (ha : Ev ta es ma) : EvG (α := Tup α) (RV (repTup (K := K))) (tCB (fun xs H Q => ∃ p ys, xs = [.ref p] ∧ ((SqL K H p ys ∧ ∀ l, H l = none → Q (.ref l) (upd H l (.tup ys))) ∨ (SqT K H p ys ∧ Q (.ref p) H))) (tCons ta tNil)) es (ma.bind fun a => some a) :=
  ev_cb1 ha fun a x _ F H _ s ⟨p, vs, e, h, hl, pr⟩ => ops_pure s (.ref p) ⟨p, vs, rfl, h, hl, pr⟩ fun Q q => ⟨p, vs, by rw [e], .inr ⟨same_t s h, q⟩⟩
theorem ev_sum {ma : Option (List Int)} (ha : EvL ta es ma) : Ev (tCB (rSum K) (tCons ta tNil)) es (ma.bind fun a => some a.sum) :=
  ev_cb1 ha fun a x _ F H _ s ⟨p, vs, e, h, hl, pr⟩ => ops_pure s (.int a.sum) rfl fun Q q => ⟨p, a, by rw [e], by rw [← ints_of_paired pr]; exact .inl (.inl h), q⟩
theorem bools_of_paired {F : Hp} {vs : List V} {ns : List Bool} (h : Paired ((repBool (K := K)).At F) vs ns) : vs = ns.map V.bl := by
  induction h with
  | nil => rfl
  | cons a _ ih =>
    have e : _ = V.bl _ := a
    rw [List.map_cons, e, ih]
theorem ev_all {ma : Option (List Bool)} (ha : EvL ta es ma) : Ev (tCB (rAll K) (tCons ta tNil)) es (ma.bind fun a => some (a.all id)) :=
  ev_cb1 ha fun a x _ F H _ s ⟨p, vs, e, h, hl, pr⟩ => ops_pure s (.bl (a.all id)) rfl fun Q q => ⟨p, a, by rw [e], by rw [← bools_of_paired pr]; exact .inl (.inl h), q⟩
theorem ev_any {ma : Option (List Bool)} (ha : EvL ta es ma) : Ev (tCB (rAny K) (tCons ta tNil)) es (ma.bind fun a => some (a.any id)) :=
  ev_cb1 ha fun a x _ F H _ s ⟨p, vs, e, h, hl, pr⟩ => ops_pure s (.bl (a.any id)) rfl fun Q q => ⟨p, a, by rw [e], by rw [← bools_of_paired pr]; exact .inl (.inl h), q⟩
theorem ev_abs {ma : Option Int} (ha : Ev ta es ma) : Ev (tCB (fun xs H Q => ∃ i, xs = [V.int i] ∧ Q (.int (if i < 0 then -i else i)) H) (tCons ta tNil)) es (ma.bind fun a => some (a.natAbs : Int)) :=
  ev_cb1 ha fun a x _ F H _ s hx => ops_pure s (.int a.natAbs) rfl fun Q q => ⟨a, by rw [show x = V.int a from hx], by
    have e : (if a < 0 then -a else a) = (a.natAbs : Int) := by split <;> omega
    rw [e]
    exact q⟩
def bI (b : Bool) : Int := if b = true then 1 else 0
theorem ev_intB {ma : Option Bool} (ha : Ev ta es ma) : Ev (tCB (fun xs H Q => (∃ i, xs = [V.int i] ∧ Q (.int i) H) ∨ ∃ k, xs = [V.bl k] ∧ Q (.int (if k then 1 else 0)) H) (tCons ta tNil)) es (ma.bind fun a => some (bI a)) :=
  ev_cb1 ha fun a x _ F H _ s hx => ops_pure s (.int (bI a)) rfl fun Q q => .inr ⟨a, by rw [show x = V.bl a from hx], q⟩
theorem ev_min2 {ma mb : Option Int} (ha : Ev ta es ma) (hb : Ev tb es mb) : Ev (tCB (fun xs H Q => ∃ i j, xs = [V.int i, V.int j] ∧ Q (.int (if j < i then j else i)) H) (tCons ta (tCons tb tNil))) es (ma.bind fun a => mb.bind fun b => some (min a b)) :=
  ev_cb2 ha hb fun a b x y _ _ F H _ _ s hx hy => ops_pure s (.int (min a b)) rfl fun Q q => ⟨a, b, by rw [show x = V.int a from hx, show y = V.int b from hy], by
    have e : (if b < a then b else a) = min a b := by split <;> omega
    rw [e]
    exact q⟩
theorem ev_max2 {ma mb : Option Int} (ha : Ev ta es ma) (hb : Ev tb es mb) : Ev (tCB (fun xs H Q => ∃ i j, xs = [V.int i, V.int j] ∧ Q (.int (if j > i then j else i)) H) (tCons ta (tCons tb tNil))) es (ma.bind fun a => mb.bind fun b => some (max a b)) :=
  ev_cb2 ha hb fun a b x y _ _ F H _ _ s hx hy => ops_pure s (.int (max a b)) rfl fun Q q => ⟨a, b, by rw [show x = V.int a from hx, show y = V.int b from hy], by
    have e : (if b > a then b else a) = max a b := by split <;> omega
    rw [e]
    exact q⟩
/-! isinstance by a built-in class: the answer is known -/
class IsTy (K : Fg) (α : Type) [i : Rep K α] (T : outParam String) : Prop where
  ty : ∀ {F : Hp} {v : V} {a : α}, i.At F v a → TyX K F v (.type T)
theorem tyx_same {F H : Hp} {v : V} {t : Value} (s : Same F H) (h : TyX K F v t) : TyX K H v t := by
  cases h with
  | base b =>
    refine .base ?_
    cases b with
    | non => exact .non
    | bl b => exact .bl b
    | int i => exact .int i
    | str x => exact .str x
    | flt x => exact .flt x
    | lst e => exact .lst (s _ _ e)
    | tup e => exact .tup (s _ _ e)
    | dK e => exact .dK (s _ _ e)
    | dT e => exact .dT (s _ _ e)
    | frz e => exact .frz (s _ _ e)
    | ins e c h1 h2 h3 h4 => exact .ins (s _ _ e) c h1 h2 h3 h4
  | byt b => exact .byt b
  | set e => exact .set (s _ _ e)
  | kList e c => exact .kList e c
  | kTuple e c => exact .kTuple e c
  | kDict e c => exact .kDict e c
  | fTuple e => exact .fTuple (s _ _ e)
  | fDict e => exact .fDict (s _ _ e)
theorem ty_t {F : Hp} {p : Addr} {xs : List V} (h : SqT K F p xs) : TyX K F (.ref p) (.type "tuple") := by
  rcases h with (h | ⟨o, h⟩) | ⟨o, its, n, h, c, _⟩
  · exact .base (.tup h)
  · exact .fTuple h
  · exact .kTuple h c
instance isInt : IsTy K Int "int" := ⟨fun h => by cases h; exact .base (.int _)⟩
instance isBool : IsTy K Bool "bool" := ⟨fun h => by cases h; exact .base (.bl _)⟩
instance isStr : IsTy K Str "str" := ⟨fun h => by cases h; exact .base (.str _)⟩
instance isUnit : IsTy K Unit "NoneType" := ⟨fun h => by cases h; exact .base .non⟩
instance isList [i : Rep K α] : IsTy K (List α) "list" := ⟨fun ⟨p, vs, e, h, _⟩ => by subst e; exact .base (.lst h)⟩
instance isTup [i : Rep K α] : IsTy K (Tup α) "tuple" := ⟨fun ⟨p, vs, e, h, _⟩ => by subst e; exact ty_t (.inl (.inl h))⟩
instance isT1 [i : Rep K α] : IsTy K (T1 α) "tuple" := ⟨fun ⟨p, _, e, h, _⟩ => by subst e; exact ty_t h⟩
instance isProd [i : Rep K α] [j : Rep K β] : IsTy K (α × β) "tuple" := ⟨fun ⟨p, _, _, e, h, _⟩ => by subst e; exact ty_t h⟩
instance isT3 [i : Rep K α] [j : Rep K β] [k : Rep K γ] : IsTy K (T3 α β γ) "tuple" := ⟨fun ⟨p, _, _, _, e, h, _⟩ => by subst e; exact ty_t h⟩
instance isT4 [i : Rep K α] [j : Rep K β] [k : Rep K γ] [l : Rep K δ] : IsTy K (T4 α β γ δ) "tuple" := ⟨fun ⟨p, _, _, _, _, e, h, _⟩ => by subst e; exact ty_t h⟩
theorem ev_isi [i : Rep K α] {T : String} [IsTy K α T] {U : String} {b : Bool} (hk : ∀ K : Fg, PySem.W.kitOne K (.type T) (.type U) = some b) {ma : Option α} (ha : Ev ta es ma) : Ev (tCB (rIsi K) (tCons ta (tCons (tC (.ty U)) tNil))) es (ma.bind fun _ => some b) := fun c hc F H ad σ rs Q q => by
  obtain ⟨a, ea, hc⟩ := bind_some hc
  cases hc
  refine ha a ea F H ad σ rs _ fun v F1 H1 g1 h1 => ⟨v, .ty U, .type T, .type U, b, rfl, .ty U, tyx_same g1.ex (IsTy.ty h1), hk K, q _ F1 H1 g1 rfl⟩
end
end Tf
set_option Elab.async false
set_option linter.all false
set_option maxRecDepth 100000
set_option maxHeartbeats 4000000
namespace Tf
open PySem PySem.Spec L2 PyProof.Rows

/-! ### what is walked -/
section
variable {K : Fg} {α β γ δ : Type} {es : Env K} {ta tb te tl : TE} {tas : TA}
theorem sqL_of {F H : Hp} {p : Addr} {vs : List V} (s : Same F H) (h : F p = some (.lst vs)) : SqL K H p vs := .inl (.inl (s _ _ h))
/-- a target that is a name -/
theorem tg_name {F H : Hp} {σ : L2.St} {ad : Nat → Addr → Prop} [i : Rep K α] {j : Nat} {v : V} {x : α} {Q : L2.St → Hp → Prop} (r : RSt K F H ad σ es) (hv : i.At F v x)
    (q : ∀ F' H' σ', Grow F H F' H' → RSt K F' H' ad σ' (es.set j (.val i x)) → (∀ k, k ∉ [j] → σ'[k]? = σ[k]?) → σ'.length = σ.length → Q σ' H') : gName j v σ H Q :=
  q F H _ (Grow.refl r.ex) (r.setVal hv) (fun k hk => List.getElem?_set_ne fun e => hk (by rw [e]; exact List.mem_singleton.mpr rfl)) (List.length_set)
/-- a target of two names, over a pair -/
theorem tg_pair {F H : Hp} {σ : L2.St} {ad : Nat → Addr → Prop} [i : Rep K α] [j : Rep K β] {k l : Nat} {p : Addr} {u w : V} {x : α} {y : β} {Q : L2.St → Hp → Prop} (r : RSt K F H ad σ es) (hs : SqT K H p [u, w]) (hu : i.At F u x) (hw : j.At F w y)
    (q : ∀ F' H' σ', Grow F H F' H' → RSt K F' H' ad σ' ((es.set k (.val i x)).set l (.val j y)) → (∀ n, n ∉ [k, l] → σ'[n]? = σ[n]?) → σ'.length = σ.length → Q σ' H') : gTup K 2 (gCons (gName k) (gCons (gName l) gNil)) (.ref p) σ H Q :=
  ⟨p, [u, w], rfl, hs, rfl, u, [w], rfl, w, [], rfl, rfl, q F H _ (Grow.refl r.ex) ((r.setVal hu).setVal hw) (fun n hn => by
    rw [List.getElem?_set_ne fun e => hn (by rw [e]; simp), List.getElem?_set_ne fun e => hn (by rw [e]; simp)]) (by rw [List.length_set, List.length_set])⟩
theorem own_set2 [i : Rep K α] [j : Rep K β] {ad : Nat → Addr → Prop} {k l : Nat} {x : α} {y : β} {p : Addr} (h : OwA ((es.set k (.val i x)).set l (.val j y)) ad p) : OwA es ad p := own_setVal (own_setVal h)
theorem ei_list [i : Rep K α] {j : Nat} {m : Option (List α)} (h : Ev tl es m) : EvI (iList K tl) (gName j) [j] es m (fun x es => es.set j (.val i x)) := fun xs hx F H ad σ rs Rk q =>
  h xs hx F H ad σ rs _ fun v F1 H1 g1 ⟨p, vs, e, hp, hl, pr⟩ => by
    refine ⟨p, e, ⟨vs, sqL_of g1.ex hp⟩, q _ F1 H1 g1 ⟨?_, fun k x hk H2 s => ?_, fun H2 s => ?_, fun x es ad p z => own_setVal z, fun k x hk F2 H2 v2 H3 s s2 hy ad2 σ2 es2 r2 Q2 q2 => ?_⟩⟩
    · rw [← Paired.length pr]; exact hl
    · obtain ⟨u, hu, _⟩ := paired_of_get pr hk
      exact ⟨vs, u, sqL_of s hp, hu⟩
    · exact ⟨vs, sqL_of s hp, by rw [Paired.length pr]; exact Nat.le_refl _⟩
    · obtain ⟨e2, hv⟩ := hy
      subst e2
      obtain ⟨u, hu, pu⟩ := paired_of_get pr hk
      have e3 := hv vs (sqL_of (s.trans s2) hp)
      rw [hu] at e3
      cases e3
      exact tg_name r2 (i.mono s pu) q2
theorem ei_tup [i : Rep K α] {j : Nat} {m : Option (Tup α)} (h : Ev tl es m) : EvI (α := α) (iTup K tl) (gName j) [j] es m (fun x es => es.set j (.val i x)) := fun xs hx F H ad σ rs Rk q =>
  h xs hx F H ad σ rs _ fun v F1 H1 g1 ⟨p, vs, e, hp, hl, pr⟩ => by
    refine ⟨p, e, ⟨vs, same_t g1.ex hp⟩, q _ F1 H1 g1 ⟨?_, fun k x hk H2 s => ?_, fun H2 s => ?_, fun x es ad p z => own_setVal z, fun k x hk F2 H2 v2 H3 s s2 hy ad2 σ2 es2 r2 Q2 q2 => ?_⟩⟩
    · rw [← Paired.length pr]; exact hl
    · obtain ⟨u, hu, _⟩ := paired_of_get pr hk
      exact ⟨vs, u, same_t s hp, hu⟩
    · exact ⟨vs, same_t s hp, by rw [Paired.length pr]; exact Nat.le_refl _⟩
    · obtain ⟨e2, hv⟩ := hy
      subst e2
      obtain ⟨u, hu, pu⟩ := paired_of_get pr hk
      have e3 := hv vs (same_t (s.trans s2) hp)
      rw [hu] at e3
      cases e3
      exact tg_name r2 (i.mono s pu) q2
/-- a list of pairs, two names -/
theorem ei_list2 [i : Rep K α] [j : Rep K β] {k l : Nat} {m : Option (List (α × β))} (h : Ev tl es m) : EvI (iList K tl) (gTup K 2 (gCons (gName k) (gCons (gName l) gNil))) [k, l] es m (fun x es => (es.set k (.val i x.1)).set l (.val j x.2)) := fun xs hx F H ad σ rs Rk q =>
  h xs hx F H ad σ rs _ fun v F1 H1 g1 ⟨p, vs, e, hp, hl, pr⟩ => by
    refine ⟨p, e, ⟨vs, sqL_of g1.ex hp⟩, q _ F1 H1 g1 ⟨?_, fun k x hk H2 s => ?_, fun H2 s => ?_, fun x es ad p z => own_set2 z, fun k x hk F2 H2 v2 H3 s s2 hy ad2 σ2 es2 r2 Q2 q2 => ?_⟩⟩
    · rw [← Paired.length pr]; exact hl
    · obtain ⟨u, hu, _⟩ := paired_of_get pr hk
      exact ⟨vs, u, sqL_of s hp, hu⟩
    · exact ⟨vs, sqL_of s hp, by rw [Paired.length pr]; exact Nat.le_refl _⟩
    · obtain ⟨e2, hv⟩ := hy
      subst e2
      obtain ⟨u, hu, t, a, b, et, hs, pa, pb⟩ := paired_of_get pr hk
      have e3 := hv vs (sqL_of (s.trans s2) hp)
      rw [hu] at e3
      cases e3
      subst et
      exact tg_pair r2 (same_t (s.trans s2) hs) (i.mono s pa) (j.mono s pb) q2
/-- ranges -/
def rng (lo hi : Int) : List Int := (List.range (hi - lo).toNat).map fun (k : Nat) => lo + (k : Int)
theorem rng_get {lo hi : Int} {k : Nat} {x : Int} (h : (rng lo hi)[k]? = some x) : k < (hi - lo).toNat ∧ x = lo + (k : Int) := by
  unfold rng at h
  rw [List.getElem?_map] at h
  obtain ⟨j, hj, e⟩ := map_some h
  obtain ⟨hl, e2⟩ := List.getElem?_eq_some_iff.mp hj
  rw [List.getElem_range] at e2
  rw [List.length_range] at hl
  subst e2
  exact ⟨hl, e.symm⟩
theorem rng_len (lo hi : Int) : (rng lo hi).length = (hi - lo).toNat := by
  unfold rng
  rw [List.length_map, List.length_range]
def rngO_d (lo hi : Int) : Option (List Int) := if -(2 ^ 62) ≤ lo ∧ hi < 2 ^ 62 ∧ lo < 2 ^ 62 ∧ -(2 ^ 62) ≤ hi ∧ hi - lo ≤ lim then some (rng lo hi) else none
theorem rngO_ex : ∃ f : Int → Int → Option (List Int), f = rngO_d := ⟨rngO_d, rfl⟩
noncomputable def rngO : Int → Int → Option (List Int) := Classical.choose rngO_ex
theorem rngO_eq (lo hi : Int) : rngO lo hi = rngO_d lo hi := by
  have h : rngO = rngO_d := Classical.choose_spec rngO_ex
  rw [h]
theorem rng_ok {lo hi : Int} {xs : List Int} {j : Nat} {F1 : Hp} (hz : hi - lo ≤ lim) : ItOk K (Itr lo (hi - lo).toNat) (gName j) [j] (rng lo hi) (fun x (es : Env K) => es.set j (.val repInt x)) F1 := by
  refine ⟨?_, fun k x hk H2 s => (rng_get hk).1, fun H2 s => ?_, fun x es ad p z => own_setVal z, fun k x hk F2 H2 v2 H3 s s2 hy ad2 σ2 es2 r2 Q2 q2 => ?_⟩
  · rw [rng_len]
    exact le_lim (by omega)
  · rw [rng_len]
    exact Nat.le_refl _
  · obtain ⟨e2, hv⟩ := hy
    subst e2
    rw [hv, ← (rng_get hk).2]
    exact tg_name r2 rfl q2
theorem ei_rng1 {j : Nat} {m : Option Int} (h : Ev te es m) : EvI (iRng1 (tCons te tNil)) (gName j) [j] es (m.bind fun n => rngO 0 n) (fun x es => es.set j (.val repInt x)) := fun xs hx F H ad σ rs Rk q => by
  obtain ⟨n, en, hx⟩ := bind_some hx
  rw [rngO_eq] at hx
  unfold rngO_d at hx
  split at hx
  · rename_i hc
    cases hx
    refine h n en F H ad σ rs _ fun v F1 H1 g1 hv => ⟨n, by rw [show v = V.int n from hv], hc.2.2.2.1, hc.2.1, ?_⟩
    have e : n.toNat = (n - 0).toNat := by rw [Int.sub_zero]
    rw [e]
    exact q _ F1 H1 g1 (rng_ok (xs := []) hc.2.2.2.2)
  · cases hx
theorem ei_rng2 {j : Nat} {ma mb : Option Int} (ha : Ev ta es ma) (hb : Ev tb es mb) : EvI (iRng2 (tCons ta (tCons tb tNil))) (gName j) [j] es (ma.bind fun a => mb.bind fun b => rngO a b) (fun x es => es.set j (.val repInt x)) := fun xs hx F H ad σ rs Rk q => by
  obtain ⟨a, ea, hx⟩ := bind_some hx
  obtain ⟨b, eb, hx⟩ := bind_some hx
  rw [rngO_eq] at hx
  unfold rngO_d at hx
  split at hx
  · rename_i hc
    cases hx
    refine ha a ea F H ad σ rs _ fun v F1 H1 g1 hv => ?_
    refine hb b eb F1 H1 ad σ (rs.grow g1) _ fun w F2 H2 g2 hw => ⟨a, b, by rw [show v = V.int a from hv, show w = V.int b from hw], ⟨hc.1, hc.2.2.1, hc.2.2.2.1, hc.2.1⟩, ?_⟩
    exact q _ F2 H2 (g1.trans g2) (rng_ok (xs := []) hc.2.2.2.2)
  · cases hx
/-- range(a, b, c), c a positive written step -/
def rng3O_d (lo hi c : Int) : Option (List Int) := if 0 ≤ lo ∧ lo ≤ hi ∧ hi ≤ lim ∧ 0 < c ∧ c ≤ lim then some ((List.range ((hi - lo + c - 1) / c).toNat).map fun (k : Nat) => lo + (k : Int) * c) else none
theorem rng3O_ex : ∃ f : Int → Int → Int → Option (List Int), f = rng3O_d := ⟨rng3O_d, rfl⟩
noncomputable def rng3O : Int → Int → Int → Option (List Int) := Classical.choose rng3O_ex
theorem rng3O_eq (lo hi c : Int) : rng3O lo hi c = rng3O_d lo hi c := by
  have h : rng3O = rng3O_d := Classical.choose_spec rng3O_ex
  rw [h]
/-- zip of two lists | of two tuples -/
theorem zip_get {xs : List α} {ys : List β} {k : Nat} {x : α × β} (h : (xs.zip ys)[k]? = some x) : xs[k]? = some x.1 ∧ ys[k]? = some x.2 := by
  rw [List.getElem?_zip_eq_some] at h
  exact h
theorem ei_zip [i : Rep K α] [j : Rep K β] {k l : Nat} {ma : Option (List α)} {mb : Option (List β)} (ha : Ev ta es ma) (hb : Ev tb es mb) :
    EvI (iZip K (tCons ta (tCons tb tNil))) (gTup K 2 (gCons (gName k) (gCons (gName l) gNil))) [k, l] es (ma.bind fun a => mb.bind fun b => some (a.zip b)) (fun x es => (es.set k (.val i x.1)).set l (.val j x.2)) := fun xs hx F H ad σ rs Rk q => by
  obtain ⟨a, ea, hx⟩ := bind_some hx
  obtain ⟨b, eb, hx⟩ := bind_some hx
  cases hx
  refine ha a ea F H ad σ rs _ fun v F1 H1 g1 hv => ?_
  refine hb b eb F1 H1 ad σ (rs.grow g1) _ fun w F2 H2 g2 ⟨p2, vs2, e2, hp2, hl2, pr2⟩ => ?_
  obtain ⟨p, vs, e, hp, hl, pr⟩ := (repList (K := K) (α := α)).mono g2.ff hv
  subst e e2
  refine ⟨p, p2, vs, vs2, rfl, sqL_of g2.ex hp, sqL_of g2.ex hp2, q _ F2 H2 (g1.trans g2) ⟨?_, fun n x hn H3 s => ?_, fun H3 s => ?_, fun x es ad p z => own_set2 z, fun n x hn F3 H3 v3 H4 s s2 hy ad2 σ2 es2 r2 Q2 q2 => ?_⟩⟩
  · rw [List.length_zip, ← Paired.length pr]
    omega
  · obtain ⟨h1, h2⟩ := zip_get hn
    obtain ⟨u, hu, _⟩ := paired_of_get pr h1
    obtain ⟨w, hw, _⟩ := paired_of_get pr2 h2
    exact ⟨vs, vs2, u, w, sqL_of s hp, sqL_of s hp2, hu, hw⟩
  · refine ⟨vs, vs2, sqL_of s hp, sqL_of s hp2, ?_⟩
    rw [List.length_zip, Paired.length pr, Paired.length pr2]
    omega
  · obtain ⟨T, u, w, e3, nT, e4, f1, f2⟩ := hy
    subst e3 e4
    obtain ⟨h1, h2⟩ := zip_get hn
    obtain ⟨u', hu, pu⟩ := paired_of_get pr h1
    obtain ⟨w', hw, pw⟩ := paired_of_get pr2 h2
    have z1 := f1 vs (sqL_of (s.trans s2) hp)
    have z2 := f2 vs2 (sqL_of (s.trans s2) hp2)
    rw [hu] at z1
    rw [hw] at z2
    cases z1
    cases z2
    have gT := Grow.make (o := .tup [u, w]) s2 nT
    exact tg_pair (r2.grow gT) (.inl (.inl upd_same)) (i.mono s pu) (j.mono s pw) fun F' H' σ' g r => q2 F' H' σ' (gT.trans g) r
theorem ei_zipT [i : Rep K α] [j : Rep K β] {k l : Nat} {ma : Option (Tup α)} {mb : Option (Tup β)} (ha : Ev ta es ma) (hb : Ev tb es mb) :
    EvI (RZ.iZipA K (tCons ta (tCons tb tNil))) (gTup K 2 (gCons (gName k) (gCons (gName l) gNil))) [k, l] es (ma.bind fun (a : List α) => mb.bind fun (b : List β) => some (a.zip b)) (fun x es => (es.set k (.val i x.1)).set l (.val j x.2)) := fun xs hx F H ad σ rs Rk q => by
  obtain ⟨(a : List α), ea, hx⟩ := bind_some hx
  obtain ⟨(b : List β), eb, hx⟩ := bind_some hx
  cases hx
  refine ha a ea F H ad σ rs _ fun v F1 H1 g1 hv => ?_
  refine hb b eb F1 H1 ad σ (rs.grow g1) _ fun w F2 H2 g2 ⟨p2, vs2, e2, hp2, hl2, pr2⟩ => ?_
  obtain ⟨p, vs, e, hp, hl, pr⟩ := (repTup (K := K) (α := α)).mono g2.ff hv
  subst e e2
  refine ⟨p, p2, vs, vs2, rfl, .inr ⟨same_t g2.ex hp, same_t g2.ex hp2, q _ F2 H2 (g1.trans g2) ⟨?_, fun n x hn H3 s => ?_, fun H3 s => ?_, fun x es ad p z => own_set2 z, fun n x hn F3 H3 v3 H4 s s2 hy ad2 σ2 es2 r2 Q2 q2 => ?_⟩⟩⟩
  · rw [List.length_zip, ← Paired.length pr]
    omega
  · obtain ⟨h1, h2⟩ := zip_get hn
    obtain ⟨u, hu, _⟩ := paired_of_get pr h1
    obtain ⟨w, hw, _⟩ := paired_of_get pr2 h2
    exact ⟨vs, vs2, u, w, same_t s hp, same_t s hp2, hu, hw⟩
  · refine ⟨vs, vs2, same_t s hp, same_t s hp2, ?_⟩
    rw [List.length_zip, Paired.length pr, Paired.length pr2]
    omega
  · obtain ⟨T, u, w, e3, nT, e4, f1, f2⟩ := hy
    subst e3 e4
    obtain ⟨h1, h2⟩ := zip_get hn
    obtain ⟨u', hu, pu⟩ := paired_of_get pr h1
    obtain ⟨w', hw, pw⟩ := paired_of_get pr2 h2
    have z1 := f1 vs (same_t (s.trans s2) hp)
    have z2 := f2 vs2 (same_t (s.trans s2) hp2)
    rw [hu] at z1
    rw [hw] at z2
    cases z1
    cases z2
    have gT := Grow.make (o := .tup [u, w]) s2 nT
    exact tg_pair (r2.grow gT) (.inl (.inl upd_same)) (i.mono s pu) (j.mono s pw) fun F' H' σ' g r => q2 F' H' σ' (gT.trans g) r
/-- enumerate -/
def enumI (xs : List α) : List (Int × α) := xs.zipIdx.map fun p => ((p.2 : Int), p.1)
theorem enum_get {xs : List α} {n : Nat} {p : Int × α} (h : (enumI xs)[n]? = some p) : p.1 = (n : Int) ∧ xs[n]? = some p.2 := by
  unfold enumI at h
  rw [List.getElem?_map, List.getElem?_zipIdx] at h
  obtain ⟨q, hq, e⟩ := map_some h
  obtain ⟨x, hx, e2⟩ := map_some hq
  subst e
  subst e2
  refine ⟨?_, hx⟩
  show ((0 + n : Nat) : Int) = n
  omega
theorem enum_len (xs : List α) : (enumI xs).length = xs.length := by
  unfold enumI
  rw [List.length_map, List.length_zipIdx]
theorem ei_enum [i : Rep K α] {k l : Nat} {ma : Option (List α)} (ha : Ev ta es ma) :
    EvI (iEnum K (tCons ta tNil)) (gTup K 2 (gCons (gName k) (gCons (gName l) gNil))) [k, l] es (ma.bind fun a => some (enumI a)) (fun x es => (es.set k (.val repInt x.1)).set l (.val i x.2)) := fun xs hx F H ad σ rs Rk q => by
  obtain ⟨a, ea, hx⟩ := bind_some hx
  cases hx
  refine ha a ea F H ad σ rs _ fun v F1 H1 g1 ⟨p, vs, e, hp, hl, pr⟩ => ?_
  subst e
  refine ⟨p, vs, rfl, sqL_of g1.ex hp, q _ F1 H1 g1 ⟨?_, fun n x hn H3 s => ?_, fun H3 s => ?_, fun x es ad p z => own_set2 z, fun n x hn F3 H3 v3 H4 s s2 hy ad2 σ2 es2 r2 Q2 q2 => ?_⟩⟩
  · rw [enum_len, ← Paired.length pr]
    exact hl
  · obtain ⟨h1, h2⟩ := enum_get hn
    obtain ⟨w, hw, _⟩ := paired_of_get pr h2
    exact ⟨vs, w, sqL_of s hp, hw⟩
  · refine ⟨vs, sqL_of s hp, ?_⟩
    rw [enum_len, Paired.length pr]
    exact Nat.le_refl _
  · obtain ⟨T, w, e3, nT, e4, f1⟩ := hy
    subst e3 e4
    obtain ⟨h1, h2⟩ := enum_get hn
    obtain ⟨w', hw, pw⟩ := paired_of_get pr h2
    have z1 := f1 vs (sqL_of (s.trans s2) hp)
    rw [hw] at z1
    cases z1
    have gT := Grow.make (o := .tup [.int (n : Nat), w]) s2 nT
    refine tg_pair (r2.grow gT) (.inl (.inl upd_same)) ?_ (i.mono s pw) fun F' H' σ' g r => q2 F' H' σ' (gT.trans g) r
    show V.int (n : Int) = V.int x.1
    rw [h1]
theorem ei_rev [i : Rep K α] {j : Nat} {m : Option (List α)} (h : Ev tl es m) : EvI (iRev K (tCons tl tNil)) (gName j) [j] es (m.bind fun a => some a.reverse) (fun x es => es.set j (.val i x)) := fun xs hx F H ad σ rs Rk q => by
  obtain ⟨a, ea, hx⟩ := bind_some hx
  cases hx
  refine h a ea F H ad σ rs _ fun v F1 H1 g1 ⟨p, vs, e, hp, hl, pr⟩ => ?_
  subst e
  have hlen := Paired.length pr
  have nth : ∀ {k : Nat} {x : α}, a.reverse[k]? = some x → k < vs.length ∧ a[vs.length - 1 - k]? = some x := fun {k x} hk => by
    obtain ⟨hl2, e⟩ := List.getElem?_eq_some_iff.mp hk
    rw [List.length_reverse] at hl2
    rw [List.getElem_reverse] at e
    refine ⟨by omega, ?_⟩
    rw [List.getElem?_eq_some_iff]
    refine ⟨by omega, ?_⟩
    rw [← e]
    congr 1
    omega
  refine ⟨p, vs, rfl, sqL_of g1.ex hp, q _ F1 H1 g1 ⟨?_, fun k x hk H2 s => ?_, fun H2 s => ?_, fun x es ad p z => own_setVal z, fun k x hk F2 H2 v2 H3 s s2 hy ad2 σ2 es2 r2 Q2 q2 => ?_⟩⟩
  · rw [List.length_reverse, ← hlen]; exact hl
  · obtain ⟨k1, k2⟩ := nth hk
    obtain ⟨u, hu, _⟩ := paired_of_get pr k2
    exact ⟨k1, vs, u, sqL_of s hp, hu⟩
  · show vs.length ≤ _
    rw [List.length_reverse, ← hlen]
    exact Nat.le_refl _
  · obtain ⟨e2, hv⟩ := hy
    subst e2
    obtain ⟨k1, k2⟩ := nth hk
    obtain ⟨u, hu, pu⟩ := paired_of_get pr k2
    have e3 := hv vs (sqL_of (s.trans s2) hp)
    rw [hu] at e3
    cases e3
    exact tg_name r2 (i.mono s pu) q2
end

/-! ### statements that change an own list -/
section
variable {K : Fg} {ρ : Type} {R : RR ρ} {es : Env K} {tz : TS} {te ti : TE} {α β : Type} {F H : Hp} {ad : Nat → Addr → Prop} {σ : L2.St}
theorem own_same {S : Addr → Prop} {p p' : Addr} (h : ∀ q, S q ↔ q = p) (h' : ∀ q, S q ↔ q = p') : p' = p := (h p').mp ((h' p').mpr rfl)
/-- what one owns changes -/
theorem RSt.updObj {e0 e1 : Ent K} {i : Nat} {S : Addr → Prop} {H' : Hp} {v : V} (r : RSt K F H ad σ es) (h : es[i]? = some e0) (hw : e0.isOwn = true) (hv : σ[i]? = some (some v)) (h1 : EntAt F H' S (some (some v)) e1) (hx : Same F H')
    (hh : ∀ p o, H p = some o → ¬ ad i p → H' p = some o) (hS : ∀ p, S p → ad i p ∨ H p = none) : RSt K F H' (adSet ad i S) σ (es.set i e1) := by
  have ne : ∀ {k : Nat} {e : Ent K}, es[k]? = some e → e.isOwn = true → k ≠ i → ∀ p, ad k p → ¬ ad i p := fun {k e} hk he hn p a b => hn (r.inj k i _ _ hk h he hw p a b)
  refine ⟨hx, by rw [List.length_set]; exact r.len, fun k e hk => ?_, fun k l e u hk hl he hu p e1 e2 => ?_⟩
  · rcases getset hk with ⟨rfl, hl2, rfl⟩ | ⟨hne, hk⟩
    · rw [adSet_self, hv]
      exact h1
    · rw [adSet_ne hne]
      have x := r.ent k e hk
      cases e with
      | no => trivial
      | val j2 a => exact x
      | own j2 zs =>
        obtain ⟨q, x0, x1, x2, us, x3, x4, x5⟩ := x
        exact ⟨q, x0, x1, x2, us, hh q _ x3 (ne hk rfl hne q ((x0 q).mpr rfl)), x4, x5⟩
      | obj j2 b =>
        obtain ⟨w, x1, x2⟩ := x
        exact ⟨w, x1, j2.move x2 (Same.refl F) (fun p hp => by
          obtain ⟨_, o, ho, _⟩ := j2.out x2 p hp
          rw [ho, hh p o ho (ne hk rfl hne p hp)]) fun p hp => (j2.out x2 p hp).1⟩
  · have cl : ∀ {k : Nat} {e : Ent K}, es[k]? = some e → e.isOwn = true → k ≠ i → ad k p → ¬ S p := fun {k e} hk he hn a b => by
      rcases hS p b with z | z
      · exact ne hk he hn p a z
      · obtain ⟨o, ho⟩ := r.ownThere ⟨k, e, hk, he, a⟩
        rw [z] at ho
        cases ho
    rcases getset hk with ⟨hki, _, _⟩ | ⟨hne, hk'⟩
    · rcases getset hl with ⟨hli, _, _⟩ | ⟨hm, hl'⟩
      · rw [hki, hli]
      · rw [hki, adSet_self] at e1
        rw [adSet_ne hm] at e2
        exact absurd e1 (cl hl' hu hm e2)
    · rcases getset hl with ⟨hli, _, _⟩ | ⟨hm, hl'⟩
      · rw [hli, adSet_self] at e2
        rw [adSet_ne hne] at e1
        exact absurd e2 (cl hk' he hne e1)
      · rw [adSet_ne hne] at e1
        rw [adSet_ne hm] at e2
        exact r.inj k l e u hk' hl' he hu p e1 e2
theorem own_updObj {e0 e1 : Ent K} {i : Nat} {S : Addr → Prop} {p : Addr} (h : es[i]? = some e0) (hw : e0.isOwn = true) (hS : ∀ p, S p → ad i p ∨ H p = none) (z : OwA (es.set i e1) (adSet ad i S) p) : OwA es ad p ∨ H p = none := by
  rcases own_setObj z with z | z
  · exact .inl z
  · rcases hS p z with y | y
    · exact .inl ⟨i, _, h, hw, y⟩
    · exact .inr y
theorem adv_obj {e0 : Ent K} {i : Nat} {H' : Hp} (h : es[i]? = some e0) (hw : e0.isOwn = true) (hh : ∀ p o, H p = some o → ¬ ad i p → H' p = some o) (dm : ∀ p o, H p = some o → ∃ u, H' p = some u) : Adv (OwA es ad) F H F H' :=
  ⟨Same.refl F, fun p o q n => hh p o q fun z => n ⟨i, _, h, hw, z⟩, dm, fun _ _ _ _ f => .inr f⟩
theorem sv_obj [GoodR R] {e0 e1 : Ent K} {i : Nat} {S : Addr → Prop} {H' : Hp} {v : V} {M : Option (Fl K ρ)} {fl : Fl K ρ} {D : Ends} (hs : Sv R tz (es.set i e1) M) (hfl : M = some fl) (r : RSt K F H ad σ es) (h : es[i]? = some e0) (hw : e0.isOwn = true) (hv : σ[i]? = some (some v)) (h1 : EntAt F H' S (some (some v)) e1) (hx : Same F H')
    (hh : ∀ p o, H p = some o → ¬ ad i p → H' p = some o) (dm : ∀ p o, H p = some o → ∃ u, H' p = some u) (hS : ∀ p, S p → ad i p ∨ H p = none) (fo : FlOk R (OwA es ad) F H D fl) : tz D σ H' :=
  hs fl hfl F _ _ σ D (r.updObj h hw hv h1 hx hh hS) (fo.trans (adv_obj h hw hh dm) fun p z => own_updObj h hw hS z)
theorem upd_hh {H : Hp} {p : Addr} {o : HO} {S : Addr → Prop} (h0 : ∀ q, S q ↔ q = p) : ∀ q u, H q = some u → ¬ S q → (L2.upd H p o) q = some u := fun q u e n => by
  rw [upd_ne fun z => n ((h0 q).mpr z)]
  exact e
theorem upd_dm {H : Hp} {p : Addr} {o : HO} : ∀ q u, H q = some u → ∃ u, (L2.upd H p o) q = some u := fun q u e => by
  by_cases z : q = p
  · exact ⟨o, by rw [z]; exact upd_same⟩
  · exact ⟨u, by rw [upd_ne z]; exact e⟩
theorem upd_same_ {F H : Hp} {p : Addr} {o : HO} (s : Same F H) (h : F p = none) : Same F (L2.upd H p o) := fun b x z => by
  rw [upd_ne (ne_of_none z h)]
  exact s _ _ z
theorem RSt.upd {j : Rep K α} {i : Nat} {xs ys : List α} {ws : List V} {p : Addr} (r : RSt K F H ad σ es) (h : es[i]? = some (.own j xs)) (h0 : ∀ q, ad i q ↔ q = p) (hl : ws.length ≤ sizeLine) (pr : Paired (j.At F) ws ys) : RSt K F (upd H p (.lst ws)) (adSet ad i (· = p)) σ (es.set i (.own j ys)) := by
  obtain ⟨p', h0', h1, h2, vs, h3, h4, h5⟩ := r.ent i _ h
  have e := own_same h0 h0'
  subst e
  exact r.updObj h rfl h1 (e1 := .own j ys) ⟨p', fun _ => Iff.rfl, rfl, h2, ws, upd_same, hl, pr⟩ (upd_same_ r.ex h2) (upd_hh h0) fun p z => .inl ((h0 p).mpr z)
/-- what is behind such a change -/
theorem sv_behind [GoodR R] {j : Rep K α} {i : Nat} {xs ys : List α} {ws : List V} {p : Addr} {M : Option (Fl K ρ)} {fl : Fl K ρ} {D : Ends} (hs : Sv R tz (es.set i (.own j ys)) M) (hfl : M = some fl) (r : RSt K F H ad σ es) (h : es[i]? = some (.own j xs)) (h0 : ∀ q, ad i q ↔ q = p) (hl : ws.length ≤ sizeLine) (pr : Paired (j.At F) ws ys)
    (fo : FlOk R (OwA es ad) F H D fl) : tz D σ (L2.upd H p (.lst ws)) := by
  refine hs fl hfl F _ _ σ D (r.upd h h0 hl pr) (fo.trans (adv_obj h rfl (upd_hh h0) upd_dm) fun q z => ?_)
  exact own_updObj (H := H) h rfl (fun p z => .inl ((h0 p).mpr z)) z
def appO_d {α : Type} (xs : List α) (x : α) : Option (List α) := if xs.length < lim then some (xs ++ [x]) else none
theorem appO_ex (α : Type) : ∃ f : List α → α → Option (List α), f = appO_d := ⟨_, rfl⟩
noncomputable def appO {α : Type} : List α → α → Option (List α) := Classical.choose (appO_ex α)
theorem appO_eq {α : Type} (xs : List α) (x : α) : appO xs x = appO_d xs x := by
  have h : @appO α = appO_d := Classical.choose_spec (appO_ex α)
  rw [h]
theorem sv_app [GoodR R] {j : Rep K α} {i : Nat} {xs : List α} {m : Option α} {k : List α → Option (Fl K ρ)} (h : es[i]? = some (.own j xs)) (he : Ev (i := j) te es m) (h2 : ∀ ys, Sv R tz (es.set i (.own j ys)) (k ys)) :
    Sv R (tSeq (tDrop (tBM K "list" rAppend (tVar i) (tCons te tNil))) tz) es ((m.bind fun x => appO xs x).bind k) := by
  intro fl hfl F H ad σ D rs fo
  obtain ⟨ys, hy, hk⟩ := bind_some hfl
  obtain ⟨x, hx, hy⟩ := bind_some hy
  rw [appO_eq] at hy
  unfold appO_d at hy
  split at hy
  · rename_i hz
    cases hy
    obtain ⟨p0, q0, q1, q2, vs, q3, q4, q5⟩ := rs.ent i _ h
    refine ⟨_, q1, .inl ⟨rfl, vs, .inl (.inl q3)⟩, ?_⟩
    refine he x hx F H ad σ rs _ fun v F' H' g av => ?_
    have r' := rs.grow g
    obtain ⟨p0', q0', _, _, vs', q3', q4', q5'⟩ := r'.ent i _ h
    have ep := own_same q0 q0'
    subst ep
    have e : vs' = vs := by
      have z := g.hh _ _ q3
      rw [q3'] at z
      cases z
      rfl
    subst e
    have hl := Paired.length q5
    refine ⟨_, vs', v, rfl, rfl, q3', lt_lim (by omega), ?_⟩
    exact sv_behind (D := D) (R := R) (h2 _) hk r' h q0' (by rw [List.length_append]; have := lt_lim hz; simp only [List.length_cons, List.length_nil]; omega) (paired_snoc q5' av) (fo.trans g.adv fun p z => .inl z)
  · cases hy
def extO_d {α : Type} (xs ys : List α) : Option (List α) := if xs.length + ys.length ≤ lim then some (xs ++ ys) else none
theorem extO_ex (α : Type) : ∃ f : List α → List α → Option (List α), f = extO_d := ⟨_, rfl⟩
noncomputable def extO {α : Type} : List α → List α → Option (List α) := Classical.choose (extO_ex α)
theorem extO_eq {α : Type} (xs ys : List α) : extO xs ys = extO_d xs ys := by
  have h : @extO α = extO_d := Classical.choose_spec (extO_ex α)
  rw [h]
theorem sv_ext [GoodR R] {j : Rep K α} {i : Nat} {xs : List α} {m : Option (List α)} {k : List α → Option (Fl K ρ)} (h : es[i]? = some (.own j xs)) (he : EvL (i := j) te es m) (h2 : ∀ ys, Sv R tz (es.set i (.own j ys)) (k ys)) :
    Sv R (tSeq (tDrop (tBM K "list" rExtend (tVar i) (tCons te tNil))) tz) es ((m.bind fun ys => extO xs ys).bind k) := by
  intro fl hfl F H ad σ D rs fo
  obtain ⟨ys, hy, hk⟩ := bind_some hfl
  obtain ⟨zs, hx, hy⟩ := bind_some hy
  rw [extO_eq] at hy
  unfold extO_d at hy
  split at hy
  · rename_i hz
    cases hy
    obtain ⟨p0, q0, q1, q2, vs, q3, q4, q5⟩ := rs.ent i _ h
    refine ⟨_, q1, .inl ⟨rfl, vs, .inl (.inl q3)⟩, ?_⟩
    refine he zs hx F H ad σ rs _ fun v F' H' g ⟨p, us, ev, hp, hl2, pr2⟩ => ?_
    have r' := rs.grow g
    obtain ⟨p0', q0', _, _, vs', q3', q4', q5'⟩ := r'.ent i _ h
    have ep := own_same q0 q0'
    subst ep
    have hl := Paired.length q5'
    have hl3 := Paired.length pr2
    subst ev
    refine ⟨_, p, vs', us, rfl, rfl, q3', hp, le_lim (by omega), ?_⟩
    exact sv_behind (D := D) (R := R) (h2 _) hk r' h q0' (by rw [List.length_append]; exact le_lim (by omega)) (paired_append q5' pr2) (fo.trans g.adv fun p z => .inl z)
  · cases hy
/-- xs[e] = v -/
def setO (xs : List α) (n : Int) (x : α) : Option (List α) := (ixN xs.length n).map fun k => xs.set k x
theorem paired_set {P : V → α → Prop} {vs : List V} {xs : List α} {v : V} {x : α} (h : Paired P vs xs) (hx : P v x) : ∀ n, Paired P (vs.set n v) (xs.set n x) := by
  induction h with
  | nil => intro n; exact .nil
  | cons a t ih =>
    intro n
    cases n with
    | zero => exact .cons hx t
    | succ n => exact .cons a (ih n)
theorem sv_set [GoodR R] {j : Rep K α} {i : Nat} {xs : List α} {m : Option α} {mi : Option Int} {k : List α → Option (Fl K ρ)} (h : es[i]? = some (.own j xs)) (he : Ev (i := j) te es m) (hi : Ev ti es mi) (h2 : ∀ ys, Sv R tz (es.set i (.own j ys)) (k ys)) :
    Sv R (tSeq (tAsg te (gSub (tVar i) ti rSetL)) tz) es ((m.bind fun x => mi.bind fun n => setO xs n x).bind k) := by
  intro fl hfl F H ad σ D rs fo
  obtain ⟨ys, hy, hk⟩ := bind_some hfl
  obtain ⟨x, hx, hy⟩ := bind_some hy
  obtain ⟨n, hn, hy⟩ := bind_some hy
  obtain ⟨kk, hkk, hy⟩ := map_some hy
  subst hy
  refine he x hx F H ad σ rs _ fun v F1 H1 g1 av => ?_
  have r1 := rs.grow g1
  obtain ⟨p0, q0, q1, _, _⟩ := r1.ent i _ h
  refine ⟨_, q1, ?_⟩
  refine hi n hn F1 H1 ad σ r1 _ fun w F2 H2 g2 aw => ?_
  have r2 := r1.grow g2
  obtain ⟨p0', q0', _, _, vs, q3, q4, q5⟩ := r2.ent i _ h
  have ep := own_same q0 q0'
  subst ep
  have hl := Paired.length q5
  refine ⟨_, vs, n, kk, rfl, aw, q3, by rw [hl]; exact hkk, ?_⟩
  exact sv_behind (D := D) (R := R) (h2 _) hk r2 h q0' (by rw [List.length_set]; exact q4) (paired_set q5 (j.mono g2.ff av) kk) (fo.trans (g1.trans g2).adv fun p z => .inl z)
/-- y = xs.pop(e) -/
def popAtO_d {α : Type} (xs : List α) (n : Int) : Option (α × List α) := if -(2 ^ 63) ≤ n ∧ n < 2 ^ 63 then (seqIndex? n xs.length).bind fun k => (xs[k]?).map fun x => (x, xs.eraseIdx k) else none
theorem popAtO_ex (α : Type) : ∃ f : List α → Int → Option (α × List α), f = popAtO_d := ⟨_, rfl⟩
noncomputable def popAtO {α : Type} : List α → Int → Option (α × List α) := Classical.choose (popAtO_ex α)
theorem popAtO_eq {α : Type} (xs : List α) (n : Int) : popAtO xs n = popAtO_d xs n := by
  have h : @popAtO α = popAtO_d := Classical.choose_spec (popAtO_ex α)
  rw [h]
theorem paired_erase {P : V → α → Prop} {vs : List V} {xs : List α} (h : Paired P vs xs) : ∀ n, Paired P (vs.eraseIdx n) (xs.eraseIdx n) := by
  induction h with
  | nil => intro n; exact .nil
  | cons a t ih =>
    intro n
    cases n with
    | zero => exact t
    | succ n => exact .cons a (ih n)
theorem sv_popAt [GoodR R] {j : Rep K α} {i l : Nat} {xs : List α} {mi : Option Int} {k : α × List α → Option (Fl K ρ)} (h : es[i]? = some (.own j xs)) (hi : Ev ti es mi) (h2 : ∀ y, Sv R tz ((es.set i (.own j y.2)).set l (.val j y.1)) (k y)) :
    Sv R (tSeq (tAsg (tBM K "list" rPopAt (tVar i) (tCons ti tNil)) (gName l)) tz) es ((mi.bind fun n => popAtO xs n).bind k) := by
  intro fl hfl F H ad σ D rs fo
  obtain ⟨y, hy, hk⟩ := bind_some hfl
  obtain ⟨n, hn, hy⟩ := bind_some hy
  rw [popAtO_eq] at hy
  unfold popAtO_d at hy
  split at hy
  · rename_i hz
    obtain ⟨kk, hkk, hy⟩ := bind_some hy
    obtain ⟨x, hx, hy⟩ := map_some hy
    subst hy
    obtain ⟨p0, q0, q1, q2, vs, q3, q4, q5⟩ := rs.ent i _ h
    refine ⟨_, q1, .inl ⟨rfl, vs, .inl (.inl q3)⟩, ?_⟩
    refine hi n hn F H ad σ rs _ fun w F' H' g aw => ?_
    have r' := rs.grow g
    obtain ⟨p0', q0', _, _, vs', q3', q4', q5'⟩ := r'.ent i _ h
    have ep := own_same q0 q0'
    subst ep
    have hl := Paired.length q5'
    obtain ⟨v, hv, av⟩ := paired_of_get q5' hx
    refine ⟨_, vs', n, kk, v, rfl, by rw [show w = V.int n from aw], q3', hz.1, hz.2, by rw [hl]; exact hkk, hv, ?_⟩
    have r2 := (r'.upd h q0' (by rw [List.length_eraseIdx]; split <;> omega) (paired_erase q5' kk)).setVal (i := l) (v := v) (a := x) (j := j) av
    exact h2 _ fl hk _ _ _ _ _ r2 ((fo.trans g.adv fun p z => .inl z).trans (adv_obj h rfl (upd_hh q0') upd_dm) fun p z => own_updObj (H := H') h rfl (fun p z => .inl ((q0' p).mpr z)) (own_setVal z))
  · cases hy
/-- xs.insert(e, v) -/
def insO_d {α : Type} (xs : List α) (n : Int) (x : α) : Option (List α) := if xs.length < lim ∧ 0 ≤ n ∧ n < 2 ^ 63 then some (xs.take n.toNat ++ [x] ++ xs.drop n.toNat) else none
theorem insO_ex (α : Type) : ∃ f : List α → Int → α → Option (List α), f = insO_d := ⟨_, rfl⟩
noncomputable def insO {α : Type} : List α → Int → α → Option (List α) := Classical.choose (insO_ex α)
theorem insO_eq {α : Type} (xs : List α) (n : Int) (x : α) : insO xs n x = insO_d xs n x := by
  have h : @insO α = insO_d := Classical.choose_spec (insO_ex α)
  rw [h]
theorem sv_ins [GoodR R] {j : Rep K α} {i : Nat} {xs : List α} {m : Option α} {mi : Option Int} {k : List α → Option (Fl K ρ)} (h : es[i]? = some (.own j xs)) (hi : Ev ti es mi) (he : Ev (i := j) te es m) (h2 : ∀ ys, Sv R tz (es.set i (.own j ys)) (k ys)) :
    Sv R (tSeq (tDrop (tBM K "list" (fun x vs H Q => ∃ (l : Addr) (xs : List V) (i : Int) (y : V), x = .ref l ∧ vs = [.int i, y] ∧ H l = some (.lst xs) ∧ xs.length < sizeLine ∧ 0 ≤ i ∧ i < 2 ^ 63 ∧
    Q .non (L2.upd H l (.lst (xs.take i.toNat ++ [y] ++ xs.drop i.toNat)))) (tVar i) (tCons ti (tCons te tNil)))) tz) es ((mi.bind fun n => m.bind fun x => insO xs n x).bind k) := by
  intro fl hfl F H ad σ D rs fo
  obtain ⟨ys, hy, hk⟩ := bind_some hfl
  obtain ⟨n, hn, hy⟩ := bind_some hy
  obtain ⟨x, hx, hy⟩ := bind_some hy
  rw [insO_eq] at hy
  unfold insO_d at hy
  split at hy
  · rename_i hz
    cases hy
    obtain ⟨p0, q0, q1, q2, vs, q3, q4, q5⟩ := rs.ent i _ h
    refine ⟨_, q1, .inl ⟨rfl, vs, .inl (.inl q3)⟩, ?_⟩
    refine hi n hn F H ad σ rs _ fun w F1 H1 g1 aw => ?_
    refine he x hx F1 H1 ad σ (rs.grow g1) _ fun v F2 H2 g2 av => ?_
    have g := g1.trans g2
    have r' := rs.grow g
    obtain ⟨p0', q0', _, _, vs', q3', q4', q5'⟩ := r'.ent i _ h
    have ep := own_same q0 q0'
    subst ep
    have hl := Paired.length q5'
    refine ⟨_, vs', n, v, rfl, by rw [show w = V.int n from aw], q3', lt_lim (by omega), hz.2.1, hz.2.2, ?_⟩
    have z := lt_lim hz.1
    exact sv_behind (D := D) (R := R) (h2 _) hk r' h q0' (by simp only [List.length_append, List.length_take, List.length_drop, List.length_cons, List.length_nil]; omega) (paired_append (paired_append (paired_take q5' _) (.cons av .nil)) (paired_drop q5' _)) (fo.trans g.adv fun p z => .inl z)
  · cases hy
/-- x += e, numbers -/
theorem sv_aug [GoodR R] {i : Nat} {f : Int → Int → Int} {a : Int} {m : Option Int} {k : Int → Option (Fl K ρ)} (h : es[i]? = some (.val repInt a)) (he : Ev te es m) (h2 : ∀ y, Sv R tz (es.set i (.val repInt y)) (k y)) :
    Sv R (tSeq (tAug i te (ipI f)) tz) es ((m.bind fun b => some (f a b)).bind k) := by
  intro fl hfl F H ad σ D rs fo
  obtain ⟨y, hy, hk⟩ := bind_some hfl
  obtain ⟨b, hb, hy⟩ := bind_some hy
  cases hy
  obtain ⟨v, q1, q2⟩ := rs.ent i _ h
  refine ⟨v, q1, ?_⟩
  refine he b hb F H ad σ rs _ fun w F1 H1 g1 aw => ⟨a, b, q2, aw, ?_⟩
  exact h2 _ fl hk F1 H1 ad _ D ((rs.grow g1).setVal (j := repInt) rfl) (fo.trans g1.adv fun p z => .inl (own_setVal z))
/-- a, b = e1, e2 -/
theorem sv_par [GoodR R] [j : Rep K α] [l : Rep K β] {i n : Nat} {ma : Option α} {mb : Option β} {ta tb : TE} {k : α → β → Option (Fl K ρ)} (ha : Ev ta es ma) (hb : Ev tb es mb) (h2 : ∀ x y, Sv R tz ((es.set i (.val j x)).set n (.val l y)) (k x y)) :
    Sv R (tSeq (tPar i n (tCons ta (tCons tb tNil))) tz) es (ma.bind fun a => mb.bind fun b => k a b) := by
  intro fl hfl F H ad σ D rs fo
  obtain ⟨a, ea, hfl⟩ := bind_some hfl
  obtain ⟨b, eb, hk⟩ := bind_some hfl
  refine ha a ea F H ad σ rs _ fun v F1 H1 g1 av => ?_
  refine hb b eb F1 H1 ad σ (rs.grow g1) _ fun w F2 H2 g2 aw => ⟨v, w, rfl, ?_⟩
  exact h2 a b fl hk F2 H2 ad _ D ((((rs.grow g1).grow g2).setVal (j.mono g2.ff av)).setVal aw) (fo.trans (g1.trans g2).adv fun p z => .inl (own_set2 z))
/-- a, b = e, a pair -/
theorem sv_unp [GoodR R] [j : Rep K α] [l : Rep K β] {i n : Nat} {m : Option (α × β)} {k : α × β → Option (Fl K ρ)} (ha : Ev te es m) (h2 : ∀ x, Sv R tz ((es.set i (.val j x.1)).set n (.val l x.2)) (k x)) :
    Sv R (tSeq (tAsg te (gTup K 2 (gCons (gName i) (gCons (gName n) gNil)))) tz) es (m.bind k) := by
  intro fl hfl F H ad σ D rs fo
  obtain ⟨x, ex, hk⟩ := bind_some hfl
  refine ha x ex F H ad σ rs _ fun v F1 H1 g1 ⟨p, u, w, ev, hs, au, aw⟩ => ?_
  subst ev
  refine tg_pair (rs.grow g1) (same_t g1.ex hs) au aw fun F' H' σ' g r _ _ => ?_
  exact h2 x fl hk F' H' ad σ' D r ((fo.trans g1.adv fun p z => .inl z).trans g.adv fun p z => .inl (own_set2 z))
end
end Tf
set_option Elab.async false
set_option linter.all false
set_option maxRecDepth 100000
set_option maxHeartbeats 4000000
namespace Tf
open PySem PySem.Spec L2 PyProof.Rows

/-! ### statements by their mirrors: φ tells how what the mirror gives ends the block -/
abbrev Sx {K : Fg} {ρ X : Type} (R : RR ρ) (φ : X → Fl K ρ) (ts : TS) (es : Env K) (m : Option X) : Prop := Sv R ts es (m.map φ)
section
variable {K : Fg} {ρ X : Type} {R : RR ρ} {φ : X → Fl K ρ} {es es1 : Env K} {t u tz tb : TS} {te ti : TE} {tc : TT} {α β S : Type}
theorem map_bind_ {A : Type u} {m : Option A} {k : A → Option X} : (m.bind k).map φ = m.bind fun a => (k a).map φ := by cases m <;> rfl
theorem map_ite_ {c : Prop} [Decidable c] {a b : Option X} : (if c then a else b).map φ = if c then a.map φ else b.map φ := by split <;> rfl
theorem sx_asg [GoodR R] [j : Rep K α] {i : Nat} {m : Option α} {k : α → Option X} (h : Ev te es m) (h2 : ∀ a, Sx R φ tz (es.set i (.val j a)) (k a)) : Sx R φ (tSeq (tAsg te (gName i)) tz) es (m.bind k) := by
  show Sv _ _ _ _
  rw [map_bind_]
  exact sv_asg h h2
theorem sx_asgN [GoodR R] [j : Rep K α] {i : Nat} {m : Option (List α)} {k : List α → Option X} (h : EvN te es m) (h2 : ∀ a, Sx R φ tz (es.set i (.own j a)) (k a)) : Sx R φ (tSeq (tAsg te (gName i)) tz) es (m.bind k) := by
  show Sv _ _ _ _
  rw [map_bind_]
  exact sv_asgN h h2
theorem sx_drop [GoodR R] {Ra : RR α} {m : Option α} {k : Option X} (h : EvG Ra te es m) (h2 : Sx R φ tz es k) : Sx R φ (tSeq (tDrop te) tz) es (m.bind fun _ => k) := by
  show Sv _ _ _ _
  rw [map_bind_]
  exact sv_drop h h2
theorem sx_ret [GoodR R] {m : Option ρ} (h : EvG R te es m) : Sx R (.rt (K := K)) (tSeq (tRet te) tz) es m := sv_ret h
theorem sx_retOwn {j : Rep K α} {i : Nat} {xs : List α} (h : es[i]? = some (.own j xs)) : Sx (RN j) (.rt (K := K)) (tSeq (tRet (tVar i)) tz) es (some xs) := sv_retOwn h
theorem sx_retL [GoodR R] {m : Option ρ} {enc : S → Env K} (h : EvG R te es m) : Sx R (Lp.fl enc) (tSeq (tRet te) tz) es (m.bind fun r => some (.rt r)) := by
  show Sv _ _ _ _
  have e : ((m.bind fun r => some (Lp.rt r)).map (Lp.fl enc)) = m.map .rt := by cases m <;> rfl
  rw [e]
  exact sv_ret h
theorem sx_retOwnL {j : Rep K α} {i : Nat} {xs : List α} {enc : S → Env K} (h : es[i]? = some (.own j xs)) : Sx (RN j) (Lp.fl enc) (tSeq (tRet (tVar i)) tz) es (some (.rt xs)) := sv_retOwn h
theorem sx_if [GoodR R] {mc : Option Bool} {M1 M2 : Option X} (hc : EvT tc es mc) (h1 : Sx R φ (tSeq t tz) es M1) (h2 : Sx R φ (tSeq u tz) es M2) : Sx R φ (tSeq (tIfS tc t u) tz) es (mc.bind fun b => if b = true then M1 else M2) := by
  show Sv _ _ _ _
  rw [map_bind_]
  have e : (fun (b : Bool) => (if b = true then M1 else M2).map φ) = fun b => if b = true then M1.map φ else M2.map φ := funext fun b => map_ite_
  rw [e]
  exact sv_if hc h1 h2
theorem sx_ifJ [GoodR R] {mc : Option Bool} {m1 m2 : Option S} {enc : S → Env K} {k : S → Option X} (hc : EvT tc es mc) (h1 : Sx R (fun s => .nx (enc s)) t es m1) (h2 : Sx R (fun s => .nx (enc s)) u es m2)
    (hk : ∀ s, Sx R φ tz (enc s) (k s)) : Sx R φ (tSeq (tIfS tc t u) tz) es ((mc.bind fun b => if b = true then m1 else m2).bind k) := by
  show Sv _ _ _ _
  rw [map_bind_]
  exact sv_ifJ hc h1 h2 hk
theorem sx_end {enc : S → Env K} {s : S} (w : Wk es (enc s)) : Sx R (fun s => .nx (enc s)) tNext es (some s) := sv_end w
theorem sx_endL {enc : S → Env K} {s : S} (w : Wk es (enc s)) : Sx R (Lp.fl (ρ := ρ) enc) tNext es (some (.nx s)) := sv_end w
theorem sx_cont {enc : S → Env K} {s : S} (w : Wk es (enc s)) : Sx R (Lp.fl (ρ := ρ) enc) (tSeq tCont tz) es (some (.ct s)) := sv_cont w
theorem sx_break {enc : S → Env K} {s : S} (w : Wk es (enc s)) : Sx R (Lp.fl (ρ := ρ) enc) (tSeq tBreak tz) es (some (.bk s)) := sv_break w
theorem sx_assoc {m : Option X} (h : Sx R φ (tSeq t (tSeq u tz)) es m) : Sx R φ (tSeq (tSeq t u) tz) es m := h
theorem sx_skip {m : Option X} (h : Sx R φ tz es m) : Sx R φ (tSeq tNext tz) es m := h
theorem sx_fz [GoodR R] {j : Rep K α} (i : Nat) {xs : List α} {m : Option X} (h : es[i]? = some (.own j xs)) (hs : Sx R φ t (es.set i (.val (@repList K α j) xs)) m) : Sx R φ t es m := sv_fz i h hs
theorem sx_forget [GoodR R] {m : Option X} (w : Wk es es1) (hs : Sx R φ t es1 m) : Sx R φ t es m := sv_forget w hs
theorem sx_is {m m' : Option X} (h : Sx R φ t es m) (e : m = m') : Sx R φ t es m' := e ▸ h
variable {wi : TI} {g : TG} {tgt : List Nat} {m : Option (List α)} {bind : α → Env K → Env K} {enc : S → Env K}
theorem sx_for [GoodR R] {s0 : S} {step : S → α → Option S} {k : S → Option X} (hI : EvI wi g tgt es m bind) (he : es = enc s0) (hb : ∀ s x, Sx R (fun s => .nx (enc s)) tb (bind x (enc s)) (step s x))
    (hk : ∀ s, Sx R φ tz (enc s) (k s)) : Sx R φ (tSeq (tFor wi g tb) tz) es ((m.bind fun xs => forS step xs s0).bind k) := by
  show Sv _ _ _ _
  rw [map_bind_]
  exact sv_for hI he hb hk
theorem sx_while [GoodR R] {s0 : S} (n : Nat) {c : S → Option Bool} {b : S → Option S} {k : S → Option X} (he : es = enc s0) (hc : ∀ s, EvT tc (enc s) (c s)) (hb : ∀ s, Sx R (fun s => .nx (enc s)) tb (enc s) (b s))
    (hk : ∀ s, Sx R φ tz (enc s) (k s)) : Sx R φ (tSeq (tWhile tc tb) tz) es ((whileS c b n s0).bind k) := by
  show Sv _ _ _ _
  rw [map_bind_]
  exact sv_while n he hc hb hk
theorem sx_forR [GoodR R] {s0 : S} {step : S → α → Option (Lp S ρ)} {k : S → Option ρ} (hI : EvI wi g tgt es m bind) (he : es = enc s0) (hb : ∀ s x, Sx R (Lp.fl enc) tb (bind x (enc s)) (step s x))
    (hk : ∀ s, Sx R .rt tz (enc s) (k s)) : Sx R (.rt (K := K)) (tSeq (tFor wi g tb) tz) es ((m.bind fun xs => forL step xs s0).bind fun l => l.els k some) := sv_forR hI he hb hk
theorem sx_forP [GoodR R] {S2 : Type} {enc2 : S2 → Env K} {s0 : S} {step : S → α → Option (Lp S ρ)} {k : S → Option (Lp S2 ρ)} (hI : EvI wi g tgt es m bind) (he : es = enc s0) (hb : ∀ s x, Sx R (Lp.fl enc) tb (bind x (enc s)) (step s x))
    (hk : ∀ s, Sx R (Lp.fl enc2) tz (enc s) (k s)) : Sx R (Lp.fl enc2) (tSeq (tFor wi g tb) tz) es ((m.bind fun xs => forL step xs s0).bind fun l => l.els k fun q => some (.rt q)) := sv_forP hI he hb hk
theorem sx_whileR [GoodR R] {s0 : S} (n : Nat) {c : S → Option Bool} {b : S → Option (Lp S ρ)} {k : S → Option ρ} (he : es = enc s0) (hc : ∀ s, EvT tc (enc s) (c s)) (hb : ∀ s, Sx R (Lp.fl enc) tb (enc s) (b s))
    (hk : ∀ s, Sx R .rt tz (enc s) (k s)) : Sx R (.rt (K := K)) (tSeq (tWhile tc tb) tz) es ((whileL c b n s0).bind fun l => l.els k some) := sv_whileR n he hc hb hk
theorem sx_whileP [GoodR R] {S2 : Type} {enc2 : S2 → Env K} {s0 : S} (n : Nat) {c : S → Option Bool} {b : S → Option (Lp S ρ)} {k : S → Option (Lp S2 ρ)} (he : es = enc s0) (hc : ∀ s, EvT tc (enc s) (c s)) (hb : ∀ s, Sx R (Lp.fl enc) tb (enc s) (b s))
    (hk : ∀ s, Sx R (Lp.fl enc2) tz (enc s) (k s)) : Sx R (Lp.fl enc2) (tSeq (tWhile tc tb) tz) es ((whileL c b n s0).bind fun l => l.els k fun q => some (.rt q)) := sv_whileP n he hc hb hk
theorem sx_app [GoodR R] {j : Rep K α} {i : Nat} {xs : List α} {m : Option α} {k : List α → Option X} (h : es[i]? = some (.own j xs)) (he : Ev (i := j) te es m) (h2 : ∀ ys, Sx R φ tz (es.set i (.own j ys)) (k ys)) :
    Sx R φ (tSeq (tDrop (tBM K "list" rAppend (tVar i) (tCons te tNil))) tz) es ((m.bind fun x => appO xs x).bind k) := by
  show Sv _ _ _ _
  rw [map_bind_]
  exact sv_app h he h2
theorem sx_ext [GoodR R] {j : Rep K α} {i : Nat} {xs : List α} {m : Option (List α)} {k : List α → Option X} (h : es[i]? = some (.own j xs)) (he : EvL (i := j) te es m) (h2 : ∀ ys, Sx R φ tz (es.set i (.own j ys)) (k ys)) :
    Sx R φ (tSeq (tDrop (tBM K "list" rExtend (tVar i) (tCons te tNil))) tz) es ((m.bind fun ys => extO xs ys).bind k) := by
  show Sv _ _ _ _
  rw [map_bind_]
  exact sv_ext h he h2
theorem sx_set [GoodR R] {j : Rep K α} {i : Nat} {xs : List α} {m : Option α} {mi : Option Int} {k : List α → Option X} (h : es[i]? = some (.own j xs)) (he : Ev (i := j) te es m) (hi : Ev ti es mi) (h2 : ∀ ys, Sx R φ tz (es.set i (.own j ys)) (k ys)) :
    Sx R φ (tSeq (tAsg te (gSub (tVar i) ti rSetL)) tz) es ((m.bind fun x => mi.bind fun n => setO xs n x).bind k) := by
  show Sv _ _ _ _
  rw [map_bind_]
  exact sv_set h he hi h2
theorem sx_popAt [GoodR R] {j : Rep K α} {i l : Nat} {xs : List α} {mi : Option Int} {k : α × List α → Option X} (h : es[i]? = some (.own j xs)) (hi : Ev ti es mi) (h2 : ∀ y, Sx R φ tz ((es.set i (.own j y.2)).set l (.val j y.1)) (k y)) :
    Sx R φ (tSeq (tAsg (tBM K "list" rPopAt (tVar i) (tCons ti tNil)) (gName l)) tz) es ((mi.bind fun n => popAtO xs n).bind k) := by
  show Sv _ _ _ _
  rw [map_bind_]
  exact sv_popAt h hi h2
theorem sx_ins [GoodR R] {j : Rep K α} {i : Nat} {xs : List α} {m : Option α} {mi : Option Int} {k : List α → Option X} (h : es[i]? = some (.own j xs)) (hi : Ev ti es mi) (he : Ev (i := j) te es m) (h2 : ∀ ys, Sx R φ tz (es.set i (.own j ys)) (k ys)) :
    Sx R φ (tSeq (tDrop (tBM K "list" (fun x vs H Q => ∃ (l : Addr) (xs : List V) (i : Int) (y : V), x = .ref l ∧ vs = [.int i, y] ∧ H l = some (.lst xs) ∧ xs.length < sizeLine ∧ 0 ≤ i ∧ i < 2 ^ 63 ∧
    Q .non (L2.upd H l (.lst (xs.take i.toNat ++ [y] ++ xs.drop i.toNat)))) (tVar i) (tCons ti (tCons te tNil)))) tz) es ((mi.bind fun n => m.bind fun x => insO xs n x).bind k) := by
  show Sv _ _ _ _
  rw [map_bind_]
  exact sv_ins h hi he h2
theorem sx_aug [GoodR R] {i : Nat} {f : Int → Int → Int} {a : Int} {m : Option Int} {k : Int → Option X} (h : es[i]? = some (.val repInt a)) (he : Ev te es m) (h2 : ∀ y, Sx R φ tz (es.set i (.val repInt y)) (k y)) :
    Sx R φ (tSeq (tAug i te (ipI f)) tz) es ((m.bind fun b => some (f a b)).bind k) := by
  show Sv _ _ _ _
  rw [map_bind_]
  exact sv_aug h he h2
theorem sx_par [GoodR R] [j : Rep K α] [l : Rep K β] {i n : Nat} {ma : Option α} {mb : Option β} {ta tb : TE} {k : α → β → Option X} (ha : Ev ta es ma) (hb : Ev tb es mb) (h2 : ∀ x y, Sx R φ tz ((es.set i (.val j x)).set n (.val l y)) (k x y)) :
    Sx R φ (tSeq (tPar i n (tCons ta (tCons tb tNil))) tz) es (ma.bind fun a => mb.bind fun b => k a b) := by
  show Sv _ _ _ _
  rw [map_bind_]
  have e : (fun a => (mb.bind fun b => k a b).map φ) = fun a => mb.bind fun b => (k a b).map φ := funext fun a => map_bind_
  rw [e]
  exact sv_par ha hb h2
theorem sx_unp [GoodR R] [j : Rep K α] [l : Rep K β] {i n : Nat} {m : Option (α × β)} {k : α × β → Option X} (ha : Ev te es m) (h2 : ∀ x, Sx R φ tz ((es.set i (.val j x.1)).set n (.val l x.2)) (k x)) :
    Sx R φ (tSeq (tAsg te (gTup K 2 (gCons (gName i) (gCons (gName n) gNil)))) tz) es (m.bind k) := by
  show Sv _ _ _ _
  rw [map_bind_]
  exact sv_unp ha h2
end

/-! ### a def that can be called -/
structure Cal (P : Program) (w : World) (K : Fg) (mg : Str → Option Value) (base : Heap) (k : Nat) (x : Str) (ps : List Str) (sp : Sp) : Type where
  f : Addr
  fd : FuncData
  ok : FnOk P w K mg base CX0 k f fd ps sp
  kp : PySem.W.keepIn K (.ref f) = true
  b : Binds K fd ps []
  g : mg x = some (.ref f)
theorem pe_cal {X : Cx} {k k' : Nat} {x : Str} {ps : List Str} {sp : Sp} {p pos : Pos} {e : Expr} {es : List Expr} {t : TA} (C : Cal X.prog X.w X.K X.mg X.base k x ps sp) (hr : Room k' X.A) (hk : k ≤ k') (hg : Gl X x) (ha : PA X (e :: es) t)
    (hdb : (x == ("__debug__" : Str)) = false := by decide) (he : starEach (e :: es) X.env = (false, eval e X.env) :: starEach es X.env := by rfl) (hpl : (backTo pos (starEach es X.env)).any (·.1) = false := by rfl) :
    PE X (.Call (.Name x p) (e :: es) [] pos) (tCall sp [] E0 t) := pe_call C.ok (hr.mono hk) hg C.g C.kp C.b .nil pass0 ha hdb he hpl
structure DefIn (K : Fg) (mg : Str → Option Value) (x : Str) (st : Stmt) (n : Nat) : Type where
  f : Addr
  fd : FuncData
  F : Fun K x x st f fd
  g : mg x = some (.ref f)
  b : ∀ ps : List Str, ps.length = n → Binds K fd ps []
theorem fn_okB {P : Program} {w : World} {K : Fg} {mg : Str → Option Value} {base : Heap} {k : Nat} {x : Str} {st : Stmt} {fa : Addr} {fd : FuncData} {N ps : List Str} {ι ρ : Type} {R : RR ρ} [GoodR R] {enc : ι → Env K} {f : ι → Option ρ}
    (Fn : Fun K x x st fa fd) (S : FnScope N ps (defScope st)) (hl : ∀ x, (enc x).length = ps.length)
    (hb : ∀ (cdv : Value) (A : Around) (outer : List PySem.Env) (s : Shared) (H : Hp) (E : XK), Room k (A.deeper (envOfC x (defScope st) s.heap.objs.size fa cdv)) →
      ∃ t, PSs (cxOf CX0 P w K mg base N x (defScope st) fa cdv A outer s H E).nox (defBody st) t ∧ ∀ x, Sx R .rt t (enc x ++ List.replicate (N.length - ps.length) .no) (f x)) :
    FnOk P w K mg base CX0 (k + 1) fa fd ps (SpF enc f R) :=
  fn_ok Fn S hl fun cdv A outer s H E hr => let ⟨t, h1, h2⟩ := hb cdv A outer s H E hr; ⟨t, h1, h2⟩
end Tf
set_option Elab.async false
set_option linter.all false
set_option maxRecDepth 100000
set_option maxHeartbeats 4000000
namespace Tf
open PySem PySem.Spec L2 PyProof.Rows

/-! ### // of any size -/
structure FdR (prog : Program) (A : Around) (stack : List PySem.Env) (base : Heap) : Prop where
  seer : base.NoSeer
  tree : prog.given.tree = none
  top : ∃ env l, stack = env :: l ∧ env.scope.isGenerator = false ∧ env.scope.isCoroutine = false ∧ env.builtins = builtinsNs ∧ env.globals = mainGlobals
  depth : A.depth + Builtin.pylongFrames < recursionLimit
theorem depth_of {A : Around} {k : Nat} (h : Room k A) (hk : 40 ≤ k) : A.depth + Builtin.pylongFrames < recursionLimit := by
  have h1 := h.dp
  have h2 : Builtin.pylongFrames = 100 := rfl
  omega
theorem hu_65 {A : Around} {k : Nat} (h : Room k A) : A.units + 65 < cLine := by
  have := h.un
  omega
def CNz (_ j : Int) : Prop := j ≠ 0
theorem op_fdivP {X : Cx} (h : FdR X.prog X.A X.stack X.base) : OpR X (binaryOp .FloorDiv) (rI CNz fun i j => .int (i.fdiv j)) := by
  intro pins s σ H x y v u Q I rx ry q
  obtain ⟨i, j, rfl, rfl, hc, q⟩ := q
  obtain ⟨t, rfl⟩ := rx
  obtain ⟨t', rfl⟩ := ry
  obtain ⟨env, l, hst, hg, hco, hb, hgl⟩ := h.top
  refine floordiv_int hc ⟨.int _, H, I.tok _, ⟨_, rfl⟩, q⟩ (.inr (PySem.PylongRoom.of I.nolimit h.depth ?_))
  exact PySem.SeerAt.of (h.seer.keeps fun b o e => I.bk b o e) h.tree (I.ok.frames.trans (by rw [hst])) hg hco hb hgl
section
variable {K : Fg} {es : Env K} {ta tb te : TE} {ma mb : Option Int} {α β γ : Type}
theorem ev_fdiv (ha : Ev ta es ma) (hb : Ev tb es mb) : Ev (tOp (rI CNz fun i j => .int (i.fdiv j)) ta tb) es (ma.bind fun a => mb.bind fun b => fdivO a b) :=
  ev_op2 ha hb fun a b _ _ _ _ _ _ _ _ s x y => fun c hc => by
    rw [fdivO_eq] at hc
    unfold fdivO_d at hc
    by_cases h : b = 0
    · rw [if_pos h] at hc
      cases hc
    · rw [if_neg h] at hc
      exact ops_I (i := repInt (K := K)) s x y h rfl c hc
theorem ev_modP {n : Int} (ha : Ev ta es ma) (hb : Ev tb es (some n)) (hn : 0 < n) : Ev (tOp (rI (fun _ j => 0 < j) fun i j => .int (i % j)) ta tb) es (ma.bind fun a => some (a % n)) :=
  ev_op2 (mb := some n) (k := fun a b => some (a % b)) ha hb fun _ _ _ _ _ _ _ _ _ e s x y => ops_I s x y (by cases e; exact hn) rfl
abbrev RVt (K : Fg) (α : Type) [i : Rep K α] : RR α := RV i
abbrev RNt (K : Fg) (α : Type) [i : Rep K α] : RR (List α) := RN i
/-! wider types -/
theorem ev_some [i : Rep K α] {m : Option α} (h : Ev te es m) : Ev te es (m.bind fun a => some (some a)) := fun c hc F H ad σ rs Q q => by
  obtain ⟨a, ea, hc⟩ := bind_some hc
  cases hc
  exact h a ea F H ad σ rs Q q
theorem ev_inl [i : Rep K α] [j : Rep K β] {m : Option α} (h : Ev te es m) : Ev te es (m.bind fun a => some (Sum.inl a : α ⊕ β)) := fun c hc F H ad σ rs Q q => by
  obtain ⟨a, ea, hc⟩ := bind_some hc
  cases hc
  exact h a ea F H ad σ rs Q q
theorem ev_inr [i : Rep K α] [j : Rep K β] {m : Option β} (h : Ev te es m) : Ev te es (m.bind fun a => some (Sum.inr a : α ⊕ β)) := fun c hc F H ad σ rs Q q => by
  obtain ⟨a, ea, hc⟩ := bind_some hc
  cases hc
  exact h a ea F H ad σ rs Q q
theorem ev_deopt [i : Rep K α] {m : Option (Option α)} (h : Ev te es m) : Ev te es (m.bind fun a => a) := fun c hc F H ad σ rs Q q => by
  obtain ⟨a, ea, hc⟩ := bind_some hc
  cases hc
  exact h _ ea F H ad σ rs Q q
end
/-! ### statements whose mirrors begin with a value -/
section
variable {K : Fg} {ρ X : Type} {R : RR ρ} {φ : X → Fl K ρ} {es es1 : Env K} {t u tz tb : TS} {te ti : TE} {tc : TT} {α β S : Type}
theorem ei_is {wi : TI} {g : TG} {tgt : List Nat} {m m' : Option (List α)} {bind : α → Env K → Env K} (h : EvI wi g tgt es m bind) (e : m = m') : EvI wi g tgt es m' bind := e ▸ h
theorem sx_ifP [GoodR R] {c : Bool} {M1 M2 : Option X} (hc : EvT tc es (some c)) (h1 : Sx R φ (tSeq t tz) es M1) (h2 : Sx R φ (tSeq u tz) es M2) : Sx R φ (tSeq (tIfS tc t u) tz) es (if c = true then M1 else M2) := sx_if hc h1 h2
theorem sx_ifJP [GoodR R] {c : Bool} {m1 m2 : Option S} {enc : S → Env K} {k : S → Option X} (hc : EvT tc es (some c)) (h1 : Sx R (fun s => .nx (enc s)) t es m1) (h2 : Sx R (fun s => .nx (enc s)) u es m2)
    (hk : ∀ s, Sx R φ tz (enc s) (k s)) : Sx R φ (tSeq (tIfS tc t u) tz) es ((if c = true then m1 else m2).bind k) := sx_ifJ hc h1 h2 hk
theorem sx_appP [GoodR R] {j : Rep K α} {i : Nat} {xs : List α} {x : α} {k : List α → Option X} (h : es[i]? = some (.own j xs)) (he : Ev (i := j) te es (some x)) (h2 : ∀ ys, Sx R φ tz (es.set i (.own j ys)) (k ys)) :
    Sx R φ (tSeq (tDrop (tBM K "list" rAppend (tVar i) (tCons te tNil))) tz) es ((appO xs x).bind k) := sx_app h he h2
theorem sx_extP [GoodR R] {j : Rep K α} {i : Nat} {xs ys : List α} {k : List α → Option X} (h : es[i]? = some (.own j xs)) (he : EvL (i := j) te es (some ys)) (h2 : ∀ ys, Sx R φ tz (es.set i (.own j ys)) (k ys)) :
    Sx R φ (tSeq (tDrop (tBM K "list" rExtend (tVar i) (tCons te tNil))) tz) es ((extO xs ys).bind k) := sx_ext h he h2
theorem sx_setP [GoodR R] {j : Rep K α} {i : Nat} {xs : List α} {x : α} {n : Int} {k : List α → Option X} (h : es[i]? = some (.own j xs)) (he : Ev (i := j) te es (some x)) (hi : Ev ti es (some n)) (h2 : ∀ ys, Sx R φ tz (es.set i (.own j ys)) (k ys)) :
    Sx R φ (tSeq (tAsg te (gSub (tVar i) ti rSetL)) tz) es ((setO xs n x).bind k) := sx_set h he hi h2
theorem sx_popAtP [GoodR R] {j : Rep K α} {i l : Nat} {xs : List α} {n : Int} {k : α × List α → Option X} (h : es[i]? = some (.own j xs)) (hi : Ev ti es (some n)) (h2 : ∀ y, Sx R φ tz ((es.set i (.own j y.2)).set l (.val j y.1)) (k y)) :
    Sx R φ (tSeq (tAsg (tBM K "list" rPopAt (tVar i) (tCons ti tNil)) (gName l)) tz) es ((popAtO xs n).bind k) := sx_popAt h hi h2
theorem sx_insP [GoodR R] {j : Rep K α} {i : Nat} {xs : List α} {x : α} {n : Int} {k : List α → Option X} (h : es[i]? = some (.own j xs)) (hi : Ev ti es (some n)) (he : Ev (i := j) te es (some x)) (h2 : ∀ ys, Sx R φ tz (es.set i (.own j ys)) (k ys)) :
    Sx R φ (tSeq (tDrop (tBM K "list" (fun x vs H Q => ∃ (l : Addr) (xs : List V) (i : Int) (y : V), x = .ref l ∧ vs = [.int i, y] ∧ H l = some (.lst xs) ∧ xs.length < sizeLine ∧ 0 ≤ i ∧ i < 2 ^ 63 ∧
    Q .non (L2.upd H l (.lst (xs.take i.toNat ++ [y] ++ xs.drop i.toNat)))) (tVar i) (tCons ti (tCons te tNil)))) tz) es ((insO xs n x).bind k) := sx_ins h hi he h2
theorem sx_augP [GoodR R] {i : Nat} {f : Int → Int → Int} {a b : Int} {k : Int → Option X} (h : es[i]? = some (.val repInt a)) (he : Ev te es (some b)) (h2 : ∀ y, Sx R φ tz (es.set i (.val repInt y)) (k y)) :
    Sx R φ (tSeq (tAug i te (ipI f)) tz) es ((some (f a b)).bind k) := sx_aug h he h2
variable {wi : TI} {g : TG} {tgt : List Nat} {xs : List α} {bind : α → Env K → Env K} {enc : S → Env K}
theorem sx_forQ [GoodR R] {s0 : S} {step : S → α → Option S} {k : S → Option X} (hI : EvI wi g tgt es (some xs) bind) (he : es = enc s0) (hb : ∀ s x, Sx R (fun s => .nx (enc s)) tb (bind x (enc s)) (step s x))
    (hk : ∀ s, Sx R φ tz (enc s) (k s)) : Sx R φ (tSeq (tFor wi g tb) tz) es ((forS step xs s0).bind k) := sx_for hI he hb hk
theorem sx_forRQ [GoodR R] {s0 : S} {step : S → α → Option (Lp S ρ)} {k : S → Option ρ} (hI : EvI wi g tgt es (some xs) bind) (he : es = enc s0) (hb : ∀ s x, Sx R (Lp.fl enc) tb (bind x (enc s)) (step s x))
    (hk : ∀ s, Sx R .rt tz (enc s) (k s)) : Sx R (.rt (K := K)) (tSeq (tFor wi g tb) tz) es ((forL step xs s0).bind fun l => l.els k some) := sx_forR hI he hb hk
theorem sx_forPQ [GoodR R] {S2 : Type} {enc2 : S2 → Env K} {s0 : S} {step : S → α → Option (Lp S ρ)} {k : S → Option (Lp S2 ρ)} (hI : EvI wi g tgt es (some xs) bind) (he : es = enc s0) (hb : ∀ s x, Sx R (Lp.fl enc) tb (bind x (enc s)) (step s x))
    (hk : ∀ s, Sx R (Lp.fl enc2) tz (enc s) (k s)) : Sx R (Lp.fl enc2) (tSeq (tFor wi g tb) tz) es ((forL step xs s0).bind fun l => l.els k fun q => some (.rt q)) := sx_forP hI he hb hk
end

/-! ### a law's end, with what the top knows of _pylong -/
/-- the abstract heap at a law's entry: the script at most -/
structure EntryHp (P : Program) (w : World) (K : Fg) (h : Heap) (a : Addr) (ns : List Int) (H : Hp) : Prop where
  only : Only H
  script : SqL K H a (ns.map V.int)
  held : HOk P w H h
  one : ∀ b u, H b = some u → b = a ∧ K.lookup a = none ∧ ∃ ob xs, u = .frz ob (.lst xs)
theorem entry_hp {P : Program} {w : World} {K : Fg} {h : Heap} {a : Addr} {vs : List Value} {ns : List Int} (KX : K.In h) (ha : h.get? a = some { cls := .type "list", data := .seq vs.toArray }) (hi : IntsAre vs ns) (hl : ns.length ≤ sizeLine) :
    ∃ H, EntryHp P w K h a ns H := by
  have hv := vals_ints hi
  cases hk : K.lookup a with
  | some o =>
    have e : o = { cls := .type "list", data := .seq vs.toArray } := Option.some.inj ((KX a o hk).symm.trans ha)
    subst e
    exact ⟨fun _ => none, fun _ => .inl rfl, .inr ⟨_, vs.toArray, _, hk, rfl, rfl, rfl, by simpa [hi.length] using hl, by simpa using hv⟩, fun _ _ z => (nomatch z), fun _ _ z => (nomatch z)⟩
  | none =>
    let S : HO := .frz { cls := .type "list", data := .seq vs.toArray } (.lst (ns.map V.int))
    have at_a : ∀ b u, (fun b => if b = a then some S else none) b = some u → b = a ∧ u = S := fun b u z => by
      by_cases hb : b = a
      · exact ⟨hb, by simpa [hb] using z.symm⟩
      · simp [hb] at z
    refine ⟨fun b => if b = a then some S else none, fun b => ?_, .inl (.inr ⟨_, if_pos rfl⟩), fun b u z => ?_, fun b u z => ?_⟩
    · by_cases hb : b = a
      · exact .inr ⟨_, _, if_pos hb⟩
      · exact .inl (if_neg hb)
    · obtain ⟨rfl, rfl⟩ := at_a b u z
      exact ⟨ha, by simpa using hl, vs, 0, hv, ha⟩
    · obtain ⟨rfl, rfl⟩ := at_a b u z
      exact ⟨rfl, hk, _, _, rfl⟩
section
variable {P : Program} {w : World} {K : Fg} {h : Heap} {a : Addr} {vs : List Value} {ns : List Int} {H : Hp}
theorem EntryHp.untracked (e : EntryHp P w K h a ns H) (ha : h.get? a = some { cls := .type "list", data := .seq vs.toArray }) {b : Addr} {o : Obj} (hb : h.get? b = some o) (hd : o.data ≠ .seq vs.toArray ∨ o.cls ≠ .type "list" ∨ K.lookup b = some o) : (hidT h H).get? b = some o := by
  refine hidT_get hb ?_
  cases q : H b with
  | none => rfl
  | some u =>
    obtain ⟨rfl, hk, _⟩ := e.one b u q
    have eo : o = { cls := .type "list", data := .seq vs.toArray } := Option.some.inj (hb.symm.trans ha)
    subst eo
    rcases hd with z | z | z
    · exact (z rfl).elim
    · exact (z rfl).elim
    · rw [hk] at z
      cases z
theorem EntryHp.nsp (e : EntryHp P w K h a ns H) (ha : h.get? a = some { cls := .type "list", data := .seq vs.toArray }) {b : Addr} {m : Str → Option Value} : h.Ns b m → (hidT h H).Ns b m := fun ⟨o, es, ep, ho, hd, r⟩ =>
  ⟨o, es, ep, e.untracked ha ho (.inl (by rw [hd]; exact fun z => nomatch z)), hd, r⟩
theorem EntryHp.seer (e : EntryHp P w K h a ns H) (ha : h.get? a = some { cls := .type "list", data := .seq vs.toArray }) (hN : h.NoSeer) : (hidT h H).NoSeer := by
  obtain ⟨⟨mc, x1, x2⟩, ⟨mm, y1, y2⟩, ⟨mb, z1, z2⟩, ⟨mg, bm, ob, u1, u2, u3, u4, u5⟩⟩ := hN
  refine ⟨⟨mc, e.nsp ha x1, x2⟩, ⟨mm, e.nsp ha y1, y2⟩, ⟨mb, e.nsp ha z1, z2⟩, ⟨mg, bm, ob, e.nsp ha u1, u2, e.untracked ha u3 (.inr (.inl ?_)), u4, u5⟩⟩
  rw [u4]
  exact fun z => absurd (Value.type.inj z) (by decide)
end
theorem law_callS {P : Program} {w : World} {K : Fg} {mg mb : Str → Option Value} {k : Nat} {fa a : Addr} {fd : FuncData} {x : Str} {sp : Sp} {s : Shared} {vs : List Value} {ns : List Int}
    (KX : K.In s.heap) (g : s.heap.Ns mainGlobals mg) (b : s.heap.Ns builtinsNs mb) (bb : ∀ x : Str, x ≠ "__name__" → mb x = bootBuiltins x) (lim : s.heap.NoLimit) (hN : s.heap.NoSeer) (hg : s.gens = #[])
    (ha : s.heap.get? a = some { cls := .type "list", data := .seq vs.toArray }) (hi : IntsAre vs ns) (hl : ns.length ≤ sizeLine) (hr : Room k callerA)
    (F : ∀ base : Heap, K.In base → base.Ns mainGlobals mg → base.NoSeer → FnOk P w K mg base CX0 k fa fd [x] sp) (hbind : ∀ (s : Shared) (u : Value), BindsTo s fd ⟨[u], []⟩ [(x, u)])
    (hsp : ∀ H : Hp, Only H → SqL K H a (ns.map V.int) → sp [.ref a] H (fun v _ => v = .bl true) fun _ _ _ => False) :
    codeAny (model P w) callerA (.call (.ref fa) ⟨[.ref a], []⟩) (fun r s' => r = .ok (.ret (.bool true)) ∧ OldK s.heap s'.heap ∧ s'.os = s.os ∧ AllBare s'.gens) s := by
  obtain ⟨H, E⟩ := entry_hp (P := P) (w := w) KX ha hi hl
  have kin : K.In (hidT s.heap H) := fun c o hc => E.untracked ha (KX c o hc) (.inr (.inr hc))
  have gb := E.nsp ha g
  obtain ⟨mc, l1, l2⟩ := lim
  have e0 : Env0 P w K mg (hidT s.heap H) callerA [] s H :=
    { frames := rfl, mod := ⟨kin, gb, ⟨mb, E.nsp ha b, bb⟩, ⟨mc, E.nsp ha l1, l2⟩⟩, bs := fun _ _ q => of_hidT q, bsz := Nat.le_of_eq (hidT_size _ _), funs := trivial, frf := fun _ q => (nomatch q), hok := E.held, bare := .of_eq hg }
  have run := (F _ kin gb (E.seer ha hN)).run callerA [] s H ⟨[.ref a], []⟩ [.ref a] [.ref a] _ _ hr e0 (hbind s (.ref a)) (.cons rfl .nil) (hsp H E.only E.script)
  refine codeAny_mono run fun r s' out => ?_
  match r, out with
  | .error _, out => exact out.elim
  | .ok .next, out => exact False.elim out
  | .ok .brk, out => exact False.elim out
  | .ok .cont, out => exact False.elim out
  | .ok (.ret u), ⟨v, H', os, bare, un, hok', rv, hv⟩ =>
    have hv : v = .bl true := hv
    subst hv
    have hu : u = Value.bool true := rv
    subst hu
    refine ⟨rfl, OldK.of_keep fun c o hc => ?_, os, bare⟩
    cases q : H c with
    | none => exact un.keep c o hc q (fun z => nomatch z) (fun z => nomatch z)
    | some t =>
      obtain ⟨_, _, ob, xs, rfl⟩ := E.one c t q
      have h1 := (E.held c _ q).1
      have h2 := (hok' c _ (un.frzs c ob _ q)).1
      rw [hc] at h1
      rw [h2, ← h1]
theorem walk_ofS {l : PySem.W.OpenLaw} {n k : Nat} {q : Program} {loose : List Str} {XP : (Str → Option Value) → Heap → Prop} {YP : World → Heap → Prop} {d : DefRec} {K : Params → Fg} {sp : World → Sp} {x : Str}
    (hn : l.most = some n) (hn2 : n ≤ sizeLine) (hdf : d.params.defaults = []) (hr : Room k callerA) (hI : importsNone q = true) (hY : ∀ (w : World) (h : Heap), YP w h → (K w.params).In h)
    (F : ∀ (w : World) (mg : Str → Option Value) (fa : Addr) (h : Heap), (K w.params).In h → h.Ns mainGlobals mg → mg d.name = some (.ref fa) → ∃ fd : FuncData, (∀ (s : Shared) (u : Value), BindsTo s fd ⟨[u], []⟩ [(x, u)]) ∧
      ∀ base : Heap, (K w.params).In base → base.Ns mainGlobals mg → base.NoSeer → FnOk l.prog w (K w.params) mg base CX0 k fa fd [x] (sp w))
    (hsp : ∀ (w : World) (H : Hp) (a : Addr) (ns : List Int), ns.length ≤ n → (∀ z ∈ ns, Builtin.Int.intBits z ≤ 1048576) → SqL (K w.params) H a (ns.map V.int) → sp w [.ref a] H (fun v _ => v = .bl true) fun _ _ _ => False) :
    PySem.W.WalkO q loose XP YP l.row.toRowW d [] (fun f vs => PySem.call f vs) :=
  Att.attach_callB hn hdf fun w _ s mg mb fa _ _ _ _ a _ ns G Y _ _ _ hmg hobj hints hlen hbits hg =>
    let ⟨_, hb, hF⟩ := F w mg fa _ (hY w _ Y) G.T.g hmg
    law_callS (hY w _ Y) G.T.g G.T.b G.T.builtins G.T.nolimit (G.T.seer hI) hg hobj hints (Nat.le_trans hlen hn2) hr hF hb fun H _ hS => hsp w H a ns hlen hbits hS
end Tf
set_option Elab.async false
set_option linter.all false
set_option maxRecDepth 100000
set_option maxHeartbeats 4000000
namespace Tf
open PySem PySem.Spec L2 PyProof.Rows

/-! ### in, not in -/
def memB {α : Type} [DecidableEq α] (x : α) (xs : List α) : Bool := decide (x ∈ xs)
theorem memB_eq {α : Type} [DecidableEq α] (x : α) (xs : List α) [Decidable (x ∈ xs)] : memB x xs = decide (x ∈ xs) := by
  unfold memB
  congr
section
variable {K : Fg} {es : Env K} {ta tb te : TE} {α β γ : Type}
theorem any_eqv [DecidableEq α] {f : α → PyData} (h : ∀ a b, PyData.eqv (f a) (f b) = true ↔ a = b) (a : α) : ∀ xs : List α, ((xs.map f).any fun z => PyData.eqv z (f a)) = memB a xs
  | [] => by simp [memB]
  | y :: r => by
    rw [List.map_cons, List.any_cons, any_eqv h a r, eqv_dec h]
    unfold memB
    by_cases q : a = y
    · simp [q]
    · simp [q, Ne.symm q, fun z : y = a => q z.symm]
theorem ev_in [i : Rep K α] [d : RepD K α] [DecidableEq α] {R1 : RR α} {R2 : RR (List α)} [GoodR R1] [GoodR R2] [DpR K R1 d.toD] [DpR K R2 (dList (K := K) (α := α)).toD] {ma : Option α} {mb : Option (List α)} (ha : EvG R1 ta es ma) (hb : EvG R2 tb es mb) (hd : d.dn ≤ 63 := by exact Nat.le_of_ble_eq_true rfl) :
    Ev (tOp (rInP K) ta tb) es (ma.bind fun a => mb.bind fun b => some (memB a b)) :=
  ev_op2 ha hb fun a b x y _ _ F H _ _ s hx hy => ops_pure s (.bl (memB a b)) rfl fun Q q => ⟨d.toD a, b.map d.toD, DpR.dpr s hx, .inl (DpR.dpr (f := (dList (K := K) (α := α)).toD) s hy), d.lay a, lay_all d.lay b, by have := d.dep a; omega, by rw [any_eqv d.inj]; exact q⟩
theorem ev_notIn [i : Rep K α] [d : RepD K α] [DecidableEq α] {R1 : RR α} {R2 : RR (List α)} [GoodR R1] [GoodR R2] [DpR K R1 d.toD] [DpR K R2 (dList (K := K) (α := α)).toD] {ma : Option α} {mb : Option (List α)} (ha : EvG R1 ta es ma) (hb : EvG R2 tb es mb) (hd : d.dn ≤ 63 := by exact Nat.le_of_ble_eq_true rfl) :
    Ev (tOp (rNotInP K) ta tb) es (ma.bind fun a => mb.bind fun b => some (!memB a b)) :=
  ev_op2 ha hb fun a b x y _ _ F H _ _ s hx hy => ops_pure s (.bl (!memB a b)) rfl fun Q q => ⟨d.toD a, b.map d.toD, DpR.dpr s hx, .inl (DpR.dpr (f := (dList (K := K) (α := α)).toD) s hy), d.lay a, lay_all d.lay b, by have := d.dep a; omega, by rw [any_eqv d.inj]; exact q⟩
theorem ev_inT [i : Rep K α] [d : RepD K α] [DecidableEq α] {R1 : RR α} [GoodR R1] [DpR K R1 d.toD] {ma : Option α} {mb : Option (Tup α)} (ha : EvG R1 ta es ma) (hb : Ev tb es mb) (hd : d.dn ≤ 63 := by exact Nat.le_of_ble_eq_true rfl) :
    Ev (tOp (rInP K) ta tb) es (ma.bind fun a => mb.bind fun b => some (memB (α := α) a b)) :=
  ev_op2 ha hb fun a (b : List α) x y _ _ F H _ _ s hx hy => ops_pure s (.bl (memB a b)) rfl fun Q q => ⟨d.toD a, b.map d.toD, DpR.dpr s hx, .inr (dp_same s ((dTup (K := K) (α := α)).dp hy)), d.lay a, lay_all d.lay b, by have := d.dep a; omega, by rw [any_eqv d.inj]; exact q⟩
theorem ev_notInT [i : Rep K α] [d : RepD K α] [DecidableEq α] {R1 : RR α} [GoodR R1] [DpR K R1 d.toD] {ma : Option α} {mb : Option (Tup α)} (ha : EvG R1 ta es ma) (hb : Ev tb es mb) (hd : d.dn ≤ 63 := by exact Nat.le_of_ble_eq_true rfl) :
    Ev (tOp (rNotInP K) ta tb) es (ma.bind fun a => mb.bind fun b => some (!memB (α := α) a b)) :=
  ev_op2 ha hb fun a (b : List α) x y _ _ F H _ _ s hx hy => ops_pure s (.bl (!memB a b)) rfl fun Q q => ⟨d.toD a, b.map d.toD, DpR.dpr s hx, .inr (dp_same s ((dTup (K := K) (α := α)).dp hy)), d.lay a, lay_all d.lay b, by have := d.dep a; omega, by rw [any_eqv d.inj]; exact q⟩
/-! is None -/
class NNon (K : Fg) (α : Type) [i : Rep K α] : Prop where
  nn : ∀ {F : Hp} {v : V} {a : α}, i.At F v a → v ≠ .non
instance nnInt : NNon K Int := ⟨fun h => by cases h; exact fun z => nomatch z⟩
instance nnBool : NNon K Bool := ⟨fun h => by cases h; exact fun z => nomatch z⟩
instance nnStr : NNon K Str := ⟨fun h => by cases h; exact fun z => nomatch z⟩
instance nnList [i : Rep K α] : NNon K (List α) := ⟨fun ⟨p, vs, e, _⟩ => by subst e; exact fun z => nomatch z⟩
instance nnTup [i : Rep K α] : NNon K (Tup α) := ⟨fun ⟨p, vs, e, _⟩ => by subst e; exact fun z => nomatch z⟩
instance nnT1 [i : Rep K α] : NNon K (T1 α) := ⟨fun ⟨p, _, e, _⟩ => by subst e; exact fun z => nomatch z⟩
instance nnProd [i : Rep K α] [j : Rep K β] : NNon K (α × β) := ⟨fun ⟨p, _, _, e, _⟩ => by subst e; exact fun z => nomatch z⟩
instance nnT3 [i : Rep K α] [j : Rep K β] [k : Rep K γ] : NNon K (T3 α β γ) := ⟨fun ⟨p, _, _, _, e, _⟩ => by subst e; exact fun z => nomatch z⟩
theorem ev_isN [i : Rep K α] [n : NNon K α] {ma : Option (Option α)} (ha : Ev ta es ma) : Ev (tOp (fun x y H Q => y = .non ∧ Q (.bl (decide (x = .non))) H) ta (tC .non)) es (ma.bind fun a => some (Option.isNone a)) :=
  ev_op2 (mb := some ()) (k := fun a _ => some (Option.isNone a)) ha ev_non fun a b x y _ _ F H _ _ s hx hy => ops_pure s (.bl (Option.isNone a)) rfl fun Q q => ⟨hy, by
    cases a with
    | none =>
      have e : x = .non := hx
      rw [decide_eq_true e]
      exact q
    | some a =>
      have e : x ≠ .non := n.nn (F := F) (a := a) hx
      rw [decide_eq_false e]
      exact q⟩
theorem ev_notN [i : Rep K α] [n : NNon K α] {ma : Option (Option α)} (ha : Ev ta es ma) : Ev (tOp (fun x y H Q => y = .non ∧ Q (.bl (!decide (x = .non))) H) ta (tC .non)) es (ma.bind fun a => some (Option.isSome a)) :=
  ev_op2 (mb := some ()) (k := fun a _ => some (Option.isSome a)) ha ev_non fun a b x y _ _ F H _ _ s hx hy => ops_pure s (.bl (Option.isSome a)) rfl fun Q q => ⟨hy, by
    cases a with
    | none =>
      have e : x = .non := hx
      rw [decide_eq_true e]
      exact q
    | some a =>
      have e : x ≠ .non := n.nn (F := F) (a := a) hx
      rw [decide_eq_false e]
      exact q⟩
end
/-! ### tuple * int -/
theorem tuple_mul1 (l : Addr) (items : Array Value) (n : Nat) (dd : Option Addr) (sl : Array (Option Value)) (u : Tok) :
    Meets (Builtin.«tuple.__mul__» ⟨[.ref l, .int 1 u], []⟩) (fun _ R s => s.heap.get? l = some { cls := .type "tuple", dict := dd, data := .seq items n, slots := sl } ∧ R (.ok (.ret (Value.ref l))) s) :=
  .of_wp fun prog w A R s h => by
    obtain ⟨hp, g, d, tk, os⟩ := s
    obtain ⟨hl, h⟩ := h
    have f1 := AutoSeq1.idx_int
    have c1 : (items.isEmpty || (1 : Int) == 1) = true := by simp
    wp_walk using wpAny_loadPart' hl
    repeat (first
      | (refine wpAny_ite_false (decide_eq_false (by decide)) ?_; wp_walk using wpAny_loadPart' hl)
      | (refine wpAny_ite_true (decide_eq_true (by rw [c1])) ?_; wp_walk using wpAny_loadPart' hl))
    exact ⟨_, rfl, h⟩
def rRepA (K : Fg) : R2 := fun x y H Q => ∃ l k xs, x = .ref l ∧ y = .int k ∧ SqT K H l xs ∧ xs ≠ [] ∧ 1 ≤ k ∧ k ≤ 1000 ∧ xs.length ≤ 1000 ∧ (k = 1 → Q (.ref l) H) ∧ (k ≠ 1 → ∀ p, H p = none → Q (.ref p) (L2.upd H p (.tup (List.replicate k.toNat xs).flatten)))
theorem op_repA {X : Cx} : OpR X (binaryOp .Mult) (rRepA X.K) := by
  intro pins s σ H x y v u Q I rx ry h
  obtain ⟨l, k, xs, rfl, rfl, hT, hne, h1, h2, hz, q1, q2⟩ := h
  by_cases hk : k = 1
  · subst hk
    cases rx
    obtain ⟨t, rfl⟩ := ry
    obtain ⟨its, r, ⟨⟨cls, dd, data, sl⟩, ho, hc, n, hd⟩, hs⟩ := I.tuple hT
    simp only at hc hd
    subst hc hd
    refine wpAny_binaryOp_repeat_ref (T := "tuple") (U := "int") (by decide) ⟨_, ho, rfl⟩ (fun s' => typeIs_int s' 1 t) noFill_tuple_mul F.fills_int_mul F.slot_int_rmul repeat_tuple F.slot_int_index.lookup
      (call_meets F.slot_int_rmul (typeIs_int s 1 t) F.entry_int_rmul (F.args_int_rmul_2 _ _) (int_rmul_tuple 1 t l its.toArray n dd sl)
        ⟨ho, rfl, ⟨_, ho, rfl⟩, call_meets F.slot_tuple_mul ⟨_, ho, rfl⟩ F.entry_tuple_mul (F.args_tuple_mul_2 _ _) (tuple_mul1 l its.toArray n dd sl t) ⟨ho, ?_⟩⟩)
    exact ⟨.ref l, H, I, rfl, q1 rfl⟩
  · exact op_repT pins s σ H _ _ v u Q I rx ry ⟨l, k, xs, rfl, rfl, hT, hne, by omega, h2, hz, q2 hk⟩
section
variable {K : Fg} {es : Env K} {ta tb te : TE} {α β γ : Type}
def repO_d {α : Type} (xs : List α) (k : Int) : Option (List α) := if xs ≠ [] ∧ 1 ≤ k ∧ k ≤ 1000 ∧ xs.length ≤ 1000 then some (List.replicate k.toNat xs).flatten else none
theorem repO_ex (α : Type) : ∃ f : List α → Int → Option (List α), f = fun xs k => @ite _ (xs ≠ [] ∧ 1 ≤ k ∧ k ≤ 1000 ∧ xs.length ≤ 1000) (Classical.propDecidable _) (some (List.replicate k.toNat xs).flatten) none := ⟨_, rfl⟩
noncomputable def repO {α : Type} : List α → Int → Option (List α) := Classical.choose (repO_ex α)
theorem repO_eq {α : Type} (xs : List α) (k : Int) : repO xs k = @ite _ (xs ≠ [] ∧ 1 ≤ k ∧ k ≤ 1000 ∧ xs.length ≤ 1000) (Classical.propDecidable _) (some (List.replicate k.toNat xs).flatten) none := by
  have h := Classical.choose_spec (repO_ex α)
  show Classical.choose (repO_ex α) xs k = _
  rw [h]
theorem repO_some {α : Type} {xs : List α} {k : Int} (h : xs ≠ []) (h2 : 1 ≤ k) (h3 : k ≤ 1000) (h4 : xs.length ≤ 1000) : repO xs k = some (List.replicate k.toNat xs).flatten := by
  rw [repO_eq]
  exact if_pos ⟨h, h2, h3, h4⟩
theorem paired_rep {P : V → α → Prop} {vs : List V} {xs : List α} (h : Paired P vs xs) : ∀ n, Paired P (List.replicate n vs).flatten (List.replicate n xs).flatten
  | 0 => .nil
  | n + 1 => by
    rw [List.replicate_succ, List.replicate_succ, List.flatten_cons, List.flatten_cons]
    exact paired_append h (paired_rep h n)
theorem ev_repT [i : Rep K α] {ma : Option (Tup α)} {mb : Option Int} (ha : Ev ta es ma) (hb : Ev tb es mb) : EvG (α := Tup α) (RV (repTup (K := K))) (tOp (rRepA K) ta tb) es (ma.bind fun a => mb.bind fun b => repO (α := α) a b) :=
  ev_op2 ha hb fun (a : List α) b x y _ _ F H _ _ s ⟨p, vs, e, h, hl, pr⟩ hy => by
    rw [repO_eq]
    refine @ops_if _ _ _ _ _ _ (Classical.propDecidable _) _ fun hz => fun c hc Q q => ?_
    cases hc
    obtain ⟨h1, h2, h3, h4⟩ := hz
    have l1 := Paired.length pr
    have hne : vs ≠ [] := fun e => h1 (List.length_eq_zero_iff.mp (by rw [← l1, e]; rfl))
    refine ⟨p, b, vs, e, hy, same_t s h, hne, h2, h3, by omega, fun hb1 => ?_, fun _ r hr => ?_⟩
    · subst hb1
      have e1 : (List.replicate (1 : Int).toNat a).flatten = a := by
        show (List.replicate 1 a).flatten = a
        simp
      rw [e1] at q
      exact q (.ref p) F H (Grow.refl s) ⟨p, vs, rfl, h, hl, pr⟩
    · have n := same_new (o := .tup (List.replicate b.toNat vs).flatten) (s.free hr)
      refine q _ _ _ (Grow.lay s hr) ⟨r, _, rfl, upd_same, ?_, paired_rep (pmono pr fun _ _ z => i.mono n z) _⟩
      rw [PyProof.Rows.lm_len_rep_flat, sizeLine_eq]
      have a1 : b.toNat * vs.length ≤ 1000 * 1000 := Nat.mul_le_mul (by omega) (by omega)
      omega
end
end Tf
set_option Elab.async false
set_option linter.all false
set_option maxRecDepth 100000
set_option maxHeartbeats 4000000
namespace Tf
open PySem PySem.Spec L2 PyProof.Rows

/-! ### own lists that are walked and stay own -/
@[reducible] def repRaw {K : Fg} : Rep K V := ⟨fun _ v a => v = a, fun _ h => h⟩
abbrev raw {K : Fg} (p : Addr) : Ent K := .val repRaw (V.ref p)
section
variable {K : Fg} {F H F1 H1 : Hp} {ad : Nat → Addr → Prop} {σ : L2.St} {es : Env K} {α : Type} {i : Nat} {xs : List α} {j : Rep K α}
theorem getset_self {α : Type u} {l : List α} {i : Nat} {a b : α} (h : l[i]? = some b) : (l.set i a)[i]? = some a := List.getElem?_set_self (List.getElem?_eq_some_iff.mp h).1
theorem set_self {α : Type u} : ∀ {l : List α} {i : Nat} {a : α}, l[i]? = some a → l.set i a = l
  | [], _, _, h => by cases h
  | x :: l, 0, a, h => by
    cases h
    rfl
  | x :: l, i + 1, a, h => congrArg (x :: ·) (set_self (l := l) (i := i) h)
theorem set_twice {α : Type u} : ∀ {l : List α} {i : Nat} {a b : α}, (l.set i a).set i b = l.set i b
  | [], _, _, _ => rfl
  | x :: l, 0, a, b => rfl
  | x :: l, i + 1, a, b => congrArg (x :: ·) (set_twice (l := l) (i := i))
theorem RSt.toRaw {p : Addr} (r : RSt K F H ad σ es) (h0 : σ[i]? = some (some (.ref p))) : RSt K F H ad σ (es.set i (raw p)) := by
  have e : σ.set i (some (.ref p)) = σ := set_self h0
  have z := r.setVal (i := i) (j := repRaw) (v := .ref p) (a := .ref p) rfl
  rw [e] at z
  exact z
theorem RSt.fromRaw {p : Addr} (r : RSt K F H ad σ (es.set i (raw p))) (h : es[i]? = some (.own j xs)) (hf : F p = none) (ho : OwnL j F H p xs) (hn : ∀ q, OwA (es.set i (raw p)) ad q → q ≠ p) : RSt K F H (adSet ad i (· = p)) σ es := by
  have z := r.setOwn (i := i) hf ho hn
  have h1 := r.ent i _ (getset_self h)
  obtain ⟨v, h2, h3⟩ := h1
  have h3 : v = V.ref p := h3
  subst h3
  rw [set_self h2, set_twice, set_self h] at z
  exact z
theorem own_raw {p q : Addr} (h : OwA (es.set i (raw p)) ad q) : OwA es ad q := own_setVal h
theorem own_raw_ne {p0 : Addr} (r : RSt K F H ad σ es) (h : es[i]? = some (.own j xs)) (h0 : ∀ q, ad i q ↔ q = p0) {p q : Addr} (hq : OwA (es.set i (raw p)) ad q) : q ≠ p0 := by
  obtain ⟨k, e, hk, he, hp⟩ := hq
  rcases getset hk with ⟨rfl, _, rfl⟩ | ⟨hn, hk⟩
  · cases he
  · intro z
    exact hn (r.inj k i _ _ hk h he rfl q hp ((h0 q).mpr z))
theorem Adv.more {ow ow1 : Addr → Prop} (a : Adv ow F H F1 H1) (h : ∀ p, ow p → ow1 p) : Adv ow1 F H F1 H1 :=
  ⟨a.ff, fun p o q n => a.hh p o q fun z => n (h p z), a.dm, fun p o q n f => by
    rcases a.fr p o q n f with z | z
    · exact .inl (h p z)
    · exact .inr z⟩
/-- what a target does with an item -/
structure TgOk (K : Fg) {α : Type} (j : Rep K α) (g : TG) (bind : α → Env K → Env K) : Prop where
  go : ∀ F H ad σ es v x (Q : L2.St → Hp → Prop), RSt K F H ad σ es → j.At F v x → (∀ F' H' σ', Grow F H F' H' → RSt K F' H' ad σ' (bind x es) → Q σ' H') → g v σ H Q
  bo : ∀ x es ad p, OwA (bind x es) ad p → OwA es ad p
theorem tg1 {j : Rep K α} {l : Nat} : TgOk K j (gName l) (fun x es => es.set l (.val j x)) :=
  ⟨fun F H ad σ es v x Q r h q => tg_name (i := j) r h fun F' H' σ' g r' _ _ => q F' H' σ' g r', fun _ _ _ _ z => own_setVal z⟩
theorem tg2 {β : Type} [j : Rep K α] [k : Rep K β] {l m : Nat} : TgOk K (repProd (K := K) (α := α) (β := β)) (gTup K 2 (gCons (gName l) (gCons (gName m) gNil))) (fun x es => (es.set l (.val j x.1)).set m (.val k x.2)) :=
  ⟨fun F H ad σ es v x Q r ⟨p, a, b, e, hs, ha, hb⟩ q => by
    subst e
    exact tg_pair r (same_t r.ex hs) ha hb fun F' H' σ' g r' _ _ => q F' H' σ' g r', fun _ _ _ _ z => own_set2 z⟩
variable {ρ S X : Type} {R : RR ρ} {tb tz : TS} {g : TG} {enc : S → Env K} {bind : α → Env K → Env K}
theorem sv_lend0 [GoodR R] (tg : TgOk K j g bind) {s0 : S} {step : S → α → Option (Lp S ρ)} (he : ∀ s, (enc s)[i]? = some (.own j xs)) (hb : ∀ p s x, Sv R tb (bind x ((enc s).set i (raw p))) ((step s x).map (Lp.fl fun s => (enc s).set i (raw p)))) :
    Sv R (tFor (iList K (tVar i)) g tb) (enc s0) ((forL step xs s0).map (Lp.fl enc)) := by
  intro fl hfl F H ad σ D rs fo
  obtain ⟨lp, hf, hfl⟩ := map_some hfl
  subst hfl
  obtain ⟨p0, q0, q1, q2, vs, q3, q4, q5⟩ := rs.ent i _ (he s0)
  have lv := Paired.length q5
  -- the walk's own env: the list's name holds its address only
  have up : ∀ {q : Addr} {p : Addr}, OwA ((enc s0).set i (raw p)) ad q → OwA (enc s0) ad q := fun z => own_raw z
  have ne : ∀ {q : Addr}, OwA ((enc s0).set i (raw p0)) ad q → q ≠ p0 := fun z => own_raw_ne rs (he s0) q0 z
  have back : ∀ F' H' ad' σ' s, Adv (OwA ((enc s0).set i (raw p0)) ad) F H F' H' → (∀ p, OwA ((enc s).set i (raw p0)) ad' p → OwA ((enc s0).set i (raw p0)) ad p ∨ H p = none) → RSt K F' H' ad' σ' ((enc s).set i (raw p0)) →
      RSt K F' H' (adSet ad' i (· = p0)) σ' (enc s) ∧ Adv (OwA (enc s0) ad) F H F' H' ∧ (∀ p, OwA (enc s) (adSet ad' i (· = p0)) p → OwA (enc s0) ad p ∨ H p = none) := by
    intro F' H' ad' σ' s a sb r
    have h1 : H' p0 = some (.lst vs) := a.hh _ _ q3 fun z => ne z rfl
    have h2 : F' p0 = none := by
      rcases a.fr _ _ q3 lst_flat q2 with z | z
      · exact absurd rfl (ne z)
      · exact z
    have hn : ∀ q, OwA ((enc s).set i (raw p0)) ad' q → q ≠ p0 := fun q hq e => by
      subst e
      rcases sb _ hq with z | z
      · exact ne z rfl
      · rw [q3] at z
        cases z
    refine ⟨r.fromRaw (he s) h2 ⟨vs, h1, q4, pmono q5 fun _ _ z => j.mono a.ff z⟩ hn, a.more fun p z => up z, fun p hp => ?_⟩
    obtain ⟨k, e, hk, hw, hp⟩ := hp
    by_cases hki : k = i
    · rw [hki, adSet_self] at hp
      exact .inl ⟨i, _, he s0, rfl, (q0 p).mpr hp⟩
    · rw [adSet_ne hki] at hp
      rcases sb p ⟨k, e, by rw [List.getElem?_set_ne fun z => hki z.symm]; exact hk, hw, hp⟩ with z | z
      · exact .inl (up z)
      · exact .inr z
  refine ⟨.ref p0, q1, p0, rfl, ⟨vs, .inl (.inl q3)⟩, ?_⟩
  refine ⟨fun n m σ' H' => n ≤ xs.length ∧ m = xs.length - n ∧ ∃ F' ad' s, Adv (OwA ((enc s0).set i (raw p0)) ad) F H F' H' ∧ (∀ p, OwA ((enc s).set i (raw p0)) ad' p → OwA ((enc s0).set i (raw p0)) ad p ∨ H p = none) ∧ RSt K F' H' ad' σ' ((enc s).set i (raw p0)) ∧ forL step (xs.drop n) s = some lp,
    ⟨xs.length, Nat.zero_le _, rfl, F, ad, s0, Adv.refl, fun p z => .inl z, rs.toRaw q1, hf⟩, ?_⟩
  rintro n m σ' H' ⟨hi, rfl, F', ad', s, a, sb, r, hd⟩
  have h1 : H' p0 = some (.lst vs) := a.hh _ _ q3 fun z => ne z rfl
  rcases Nat.lt_or_ge n xs.length with hlt | hge
  · have hx : xs[n]? = some xs[n] := List.getElem?_eq_getElem hlt
    obtain ⟨u, hu, pu⟩ := paired_of_get q5 hx
    refine .inr ⟨⟨vs, u, .inl (.inl h1), hu⟩, fun σ2 H2 => ∃ F2 ad2 s2, Adv (OwA ((enc s0).set i (raw p0)) ad) F H F2 H2 ∧ (∀ p, OwA ((enc s2).set i (raw p0)) ad2 p → OwA ((enc s0).set i (raw p0)) ad p ∨ H p = none) ∧ RSt K F2 H2 ad2 σ2 ((enc s2).set i (raw p0)) ∧ forL step (xs.drop (n + 1)) s2 = some lp,
      fun σ2 H2 h2 => ⟨xs.length - (n + 1), by omega, hlt, rfl, h2⟩, fun v H2 hy => ?_⟩
    obtain ⟨e2, hv⟩ := hy
    subst e2
    have e3 := hv vs (.inl (.inl h1))
    rw [hu] at e3
    cases e3
    refine tg.go F' _ ad' σ' _ _ xs[n] _ r (j.mono a.ff pu) fun F3 H3 σ3 g3 r3 => ?_
    rw [drop_cons hx] at hd
    obtain ⟨l, hl, hd⟩ := bind_some (show (step s xs[n]).bind _ = some lp from hd)
    have sb3 : ∀ p, OwA (bind xs[n] ((enc s).set i (raw p0))) ad' p → OwA ((enc s0).set i (raw p0)) ad p ∨ H p = none := fun p z => sb p (tg.bo _ _ _ _ z)
    have a3 : Adv (OwA ((enc s0).set i (raw p0)) ad) F H F3 H3 := a.trans (ow1 := OwA ((enc s).set i (raw p0)) ad') sb g3.adv
    refine hb p0 s xs[n] (l.fl fun s => (enc s).set i (raw p0)) (by rw [hl]; rfl) F3 H3 ad' σ3 _ r3 ?_
    cases l with
    | nx s2 => exact fun F4 H4 ad4 σ4 b sb4 r4 => ⟨F4, ad4, s2, a3.trans sb3 b, fun p z => sub_trans a3 sb3 (sb4 p z), r4, hd⟩
    | ct s2 => exact fun F4 H4 ad4 σ4 b sb4 r4 => ⟨F4, ad4, s2, a3.trans sb3 b, fun p z => sub_trans a3 sb3 (sb4 p z), r4, hd⟩
    | bk s2 =>
      have hd : some (Lp.nx s2) = some lp := hd
      cases hd
      intro F4 H4 ad4 σ4 b sb4 r4
      obtain ⟨k1, k2, k3⟩ := back F4 H4 ad4 σ4 s2 (a3.trans sb3 b) (fun p z => sub_trans a3 sb3 (sb4 p z)) r4
      exact fo F4 H4 _ σ4 k2 k3 k1
    | rt q =>
      have hd : some (Lp.rt q) = some lp := hd
      cases hd
      exact fun F4 H4 w b ex x => fo F4 H4 w ((a3.trans sb3 b).more fun p z => up z) ex (GoodR.weak (fun p z => by
        rcases sub_trans a3 sb3 z with y | y
        · exact .inl (up y)
        · exact .inr y) x)
  · have e : n = xs.length := Nat.le_antisymm hi hge
    subst e
    rw [List.drop_length] at hd
    have hd : some (Lp.nx s) = some lp := hd
    cases hd
    obtain ⟨k1, k2, k3⟩ := back F' H' ad' σ' s a sb r
    exact .inl ⟨⟨vs, .inl (.inl h1), by rw [lv]; exact Nat.le_refl _⟩, fo F' H' _ σ' k2 k3 k1⟩
theorem sx_lend [GoodR R] {φ : X → Fl K ρ} (i : Nat) {j : Rep K α} {xs : List α} (tg : TgOk K j g bind) {s0 : S} {step : S → α → Option S} {k : S → Option X} (he : es = enc s0) (hi : ∀ s, (enc s)[i]? = some (.own j xs)) (hb : ∀ p s x, Sx R (fun s => .nx ((enc s).set i (raw p))) tb (bind x ((enc s).set i (raw p))) (step s x))
    (hk : ∀ s, Sx R φ tz (enc s) (k s)) : Sx R φ (tSeq (tFor (iList K (tVar i)) g tb) tz) es ((forS step xs s0).bind k) := by
  subst he
  show Sv _ _ _ _
  rw [map_bind_]
  refine sv_seq (enc := enc) ?_ hk
  have h := sv_lend0 (R := R) (tb := tb) (s0 := s0) (step := fun s x => (step s x).map .nx) tg hi fun p s x => by
    rw [map_nx]
    exact hb p s x
  rw [forL_map, map_nx] at h
  exact h
theorem sx_lendR [GoodR R] (i : Nat) {j : Rep K α} {xs : List α} (tg : TgOk K j g bind) {s0 : S} {step : S → α → Option (Lp S ρ)} {k : S → Option ρ} (he : es = enc s0) (hi : ∀ s, (enc s)[i]? = some (.own j xs)) (hb : ∀ p s x, Sx R (Lp.fl fun s => (enc s).set i (raw p)) tb (bind x ((enc s).set i (raw p))) (step s x))
    (hk : ∀ s, Sx R .rt tz (enc s) (k s)) : Sx R (.rt (K := K)) (tSeq (tFor (iList K (tVar i)) g tb) tz) es ((forL step xs s0).bind fun l => l.els k some) := by
  subst he
  show Sv _ _ _ _
  rw [els_rt]
  exact seq_els (sv_lend0 tg hi hb) hk
theorem sx_lendP [GoodR R] {S2 : Type} {enc2 : S2 → Env K} (i : Nat) {j : Rep K α} {xs : List α} (tg : TgOk K j g bind) {s0 : S} {step : S → α → Option (Lp S ρ)} {k : S → Option (Lp S2 ρ)} (he : es = enc s0) (hi : ∀ s, (enc s)[i]? = some (.own j xs)) (hb : ∀ p s x, Sx R (Lp.fl fun s => (enc s).set i (raw p)) tb (bind x ((enc s).set i (raw p))) (step s x))
    (hk : ∀ s, Sx R (Lp.fl enc2) tz (enc s) (k s)) : Sx R (Lp.fl enc2) (tSeq (tFor (iList K (tVar i)) g tb) tz) es ((forL step xs s0).bind fun l => l.els k fun q => some (.rt q)) := by
  subst he
  show Sv _ _ _ _
  rw [els_lp]
  exact seq_els (sv_lend0 tg hi hb) hk
/-! ### x.append(None), behind which nothing looks at x -/
theorem RSt.recast {e0 e1 : Ent K} (r : RSt K F H ad σ es) (h : es[i]? = some e0) (hw : e0.isOwn = true) (h1 : EntAt F H (ad i) (σ[i]?) e1) : RSt K F H ad σ (es.set i e1) := by
  refine ⟨r.ex, by rw [List.length_set]; exact r.len, fun k e hk => ?_, fun k l e u hk hl he hu p eq1 eq2 => ?_⟩
  · rcases getset hk with ⟨rfl, _, rfl⟩ | ⟨hn, hk⟩
    · exact h1
    · exact r.ent k e hk
  · rcases getset hk with ⟨rfl, _, _⟩ | ⟨hn, hk'⟩
    · rcases getset hl with ⟨rfl, _, _⟩ | ⟨hm, hl'⟩
      · rfl
      · exact r.inj _ _ _ _ h hl' hw hu p eq1 eq2
    · rcases getset hl with ⟨rfl, _, _⟩ | ⟨hm, hl'⟩
      · exact r.inj _ _ _ _ hk' h he hw p eq1 eq2
      · exact r.inj k l e u hk' hl' he hu p eq1 eq2
theorem RSt.ownOpt (r : RSt K F H ad σ es) (h : es[i]? = some (.own j xs)) : RSt K F H ad σ (es.set i (.own (@repOption K α j) (xs.map some))) := by
  obtain ⟨p0, q0, q1, q2, vs, q3, q4, q5⟩ := r.ent i _ h
  have po : Paired ((@repOption K α j).At F) vs (xs.map some) := by
    clear q3 q4 h
    induction q5 with
    | nil => exact .nil
    | cons a _ ih => exact .cons a ih
  exact r.recast h rfl ⟨p0, q0, q1, q2, vs, q3, q4, po⟩
theorem own_opt {q : Addr} {β : Type} {b : Rep K β} {ys : List β} (h : es[i]? = some (.own j xs)) (hq : OwA (es.set i (.own b ys)) ad q) : OwA es ad q := by
  obtain ⟨k, e, hk, he, hp⟩ := hq
  rcases getset hk with ⟨rfl, _, _⟩ | ⟨hn, hk⟩
  · exact ⟨_, _, h, rfl, hp⟩
  · exact ⟨k, e, hk, he, hp⟩
theorem sv_weak {es1 : Env K} {t : TS} {M : Option (Fl K ρ)} [GoodR R] (hl : es1.length = es.length) (g : ∀ (i : Nat) (e : Ent K), es1[i]? = some e → e = .no ∨ es[i]? = some e) (hs : Sv R t es1 M) : Sv R t es M := fun fl hfl F H ad σ D rs fo =>
  hs fl hfl F H ad σ D (rs.wk hl g) (fo.trans Adv.refl fun p z => .inl (own_wk g z))
theorem sx_appNone [GoodR R] {φ : X → Fl K ρ} {m : Option X} (h : es[i]? = some (.own j xs)) (h2 : Sx R φ tz (es.set i .no) m) :
    Sx R φ (tSeq (tDrop (tBM K "list" rAppend (tVar i) (tCons (tC .non) tNil))) tz) es ((appO (xs.map some) none).bind fun _ => m) := by
  have k := sx_app (R := R) (φ := φ) (tz := tz) (j := @repOption K α j) (es := es.set i (.own (@repOption K α j) (xs.map some))) (k := fun _ => m) (getset_self h) (ev_none (K := K)) fun ys => by
    rw [set_twice]
    refine sv_weak (es1 := es.set i .no) (by rw [List.length_set, List.length_set]) (fun n e hn => ?_) h2
    rcases getset hn with ⟨rfl, _, rfl⟩ | ⟨hm, hn⟩
    · exact .inl rfl
    · exact .inr (by rw [List.getElem?_set_ne fun z => hm z.symm]; exact hn)
  intro fl hfl F H ad σ D rs fo
  exact k fl hfl F H ad σ D (rs.ownOpt h) (fo.trans Adv.refl fun p z => .inl (own_opt h z))
end
section
variable {K : Fg} {es : Env K} {ta : TE} {α : Type}
theorem ev_isiL [i : Rep K α] {U : String} {b : Bool} (hk : ∀ K : Fg, PySem.W.kitOne K (.type "list") (.type U) = some b) {ma : Option (List α)} (ha : EvL ta es ma) : Ev (tCB (rIsi K) (tCons ta (tCons (tC (.ty U)) tNil))) es (ma.bind fun _ => some b) := fun c hc F H ad σ rs Q q => by
  obtain ⟨a, ea, hc⟩ := bind_some hc
  cases hc
  refine ha a ea F H ad σ rs _ fun v F1 H1 g1 ⟨p, vs, e, h, _⟩ => ⟨v, .ty U, .type "list", .type U, b, rfl, .ty U, by subst e; exact .base (.lst h), hk K, q _ F1 H1 g1 rfl⟩
end
section
variable {K : Fg} {es : Env K} {α : Type} {i : Nat} {xs : List α} {j : Rep K α} {ρ X : Type} {R : RR ρ} {tz : TS}
theorem sx_appNoneO [GoodR R] {φ : X → Fl K ρ} {k : List (Option α) → Option X} (h : es[i]? = some (.own j xs)) (h2 : ∀ ys, Sx R φ tz (es.set i (.own (@repOption K α j) ys)) (k ys)) :
    Sx R φ (tSeq (tDrop (tBM K "list" rAppend (tVar i) (tCons (tC .non) tNil))) tz) es ((appO (xs.map some) none).bind k) := by
  have q := sx_app (R := R) (φ := φ) (tz := tz) (j := @repOption K α j) (es := es.set i (.own (@repOption K α j) (xs.map some))) (k := k) (getset_self h) (ev_none (K := K)) fun ys => by
    rw [set_twice]
    exact h2 ys
  intro fl hfl F H ad σ D rs fo
  exact q fl hfl F H ad σ D (rs.ownOpt h) (fo.trans Adv.refl fun p z => .inl (own_opt h z))
theorem paired_some {F : Hp} [i : Rep K α] {vs : List V} {xs : List α} (pr : Paired (i.At F) vs xs) : Paired ((@repOption K α i).At F) vs (xs.map some) := by
  induction pr with
  | nil => exact .nil
  | cons a _ ih => exact .cons a ih
theorem ev_mapSome [i : Rep K α] {te : TE} {m : Option (List α)} (h : EvL te es m) : EvL te es (m.bind fun a => some (a.map some)) := fun c hc F H ad σ rs Q q => by
  obtain ⟨a, ea, hc⟩ := bind_some hc
  cases hc
  refine h a ea F H ad σ rs Q fun v F' H' g ⟨p, vs, e, hp, hl, pr⟩ => q v F' H' g ⟨p, vs, e, hp, hl, paired_some pr⟩
end
/-! ### an own list gets another name -/
section
variable {K : Fg} {F H : Hp} {ad : Nat → Addr → Prop} {σ : L2.St} {es : Env K} {α : Type} {i k : Nat} {xs : List α} {j : Rep K α} {ρ X : Type} {R : RR ρ} {tz : TS} {φ : X → Fl K ρ}
theorem no_get {l : List (Ent K)} : ∀ (n : Nat) (e : Ent K), (l.set k .no)[n]? = some e → e = .no ∨ l[n]? = some e := fun n e hn => by
  rcases getset hn with ⟨rfl, _, rfl⟩ | ⟨hm, hn⟩
  · exact .inl rfl
  · exact .inr hn
theorem sx_move [GoodR R] {m : Option X} (i k : Nat) (h : es[k]? = some (.own j xs)) (h2 : Sx R φ tz ((es.set k .no).set i (.own j xs)) m) : Sx R φ (tSeq (tAsg (tVar k) (gName i)) tz) es m := by
  intro fl hfl F H ad σ D rs fo
  obtain ⟨p0, q0, q1, q2, q3⟩ := rs.ent k _ h
  have r1 := rs.wk (es1 := es.set k .no) (by rw [List.length_set]) no_get
  have hn : ∀ q, OwA (es.set k .no) ad q → q ≠ p0 := fun q ⟨n, e, hk, he, hp⟩ z => by
    rcases getset hk with ⟨rfl, _, rfl⟩ | ⟨hm, hk⟩
    · cases he
    · exact hm (rs.inj n k _ _ hk h he rfl q hp ((q0 q).mpr z))
  have r2 := r1.setOwn (i := i) q2 q3 hn
  refine ⟨_, q1, ?_⟩
  exact h2 fl hfl F H _ _ D r2 (fo.trans Adv.refl fun p z => by
    rcases own_setOwn z with y | y
    · exact .inl (own_wk no_get y)
    · exact .inl ⟨k, _, h, rfl, (q0 p).mpr y⟩)
end
/-! ### rules that name the frozen part, within a comprehension -/
theorem opK {K : Fg} {X : Cx} {f : Value → Value → Sem Value} {r : Fg → R2} (h : OpR X f (r X.K)) (e : X.K = K) : OpR X f (r K) := e ▸ h
theorem ixK {K : Fg} {X : Cx} {r : Fg → R2} (h : IxR X (r X.K)) (e : X.K = K) : IxR X (r K) := e ▸ h
theorem slK {K : Fg} {X : Cx} {r : Fg → V → Option Int → Option Int → Hp → VK → Prop} (h : L2.SlR X (r X.K)) (e : X.K = K) : L2.SlR X (r K) := e ▸ h
theorem caK {K : Fg} {X : Cx} {f : Value} {r : Fg → List V → Hp → VK → Prop} (h : CallR X f (r X.K)) (e : X.K = K) : CallR X f (r K) := e ▸ h
theorem piK {τ : Type} {K : Fg} {X : Cx} {tg l : Expr} {w : Fg → τ → TI} {tl : τ} (h : PI X tg l (w X.K tl)) (e : X.K = K) : PI X tg l (w K tl) := e ▸ h
theorem pgK {τ : Type} {K : Fg} {X : Cx} {tg : Expr} {n : Nat} {w : Fg → Nat → τ → TG} {gs : τ} (h : PG X tg (w X.K n gs)) (e : X.K = K) : PG X tg (w K n gs) := e ▸ h
/-! ### tuples' operations, by type -/
noncomputable abbrev catT {α : Type} (a b : Tup α) : Option (Tup α) := catO (α := α) a b
noncomputable abbrev repT {α : Type} (a : Tup α) (k : Int) : Option (Tup α) := repO (α := α) a k
noncomputable abbrev cutT {α : Type} (a : Tup α) (l u : Option Int) : Tup α := cutL (α := α) a l u
/-! lists of two, three, four kinds, frozen -/
structure H2 (α β : Type) where
  a : α
  b : β
  deriving DecidableEq
structure H3 (α β γ : Type) where
  a : α
  b : β
  c : γ
  deriving DecidableEq
structure H4 (α β γ δ : Type) where
  a : α
  b : β
  c : γ
  d : δ
  deriving DecidableEq
section
variable {K : Fg} {es : Env K} {ta tb tc td te : TE} {α β γ δ : Type}
instance repH2 [i : Rep K α] [j : Rep K β] : Rep K (H2 α β) :=
  ⟨fun F v x => ∃ p v0 v1, v = .ref p ∧ F p = some (.lst [v0, v1]) ∧ i.At F v0 x.a ∧ j.At F v1 x.b,
   fun s ⟨p, v0, v1, e, h, h0, h1⟩ => ⟨p, v0, v1, e, s _ _ h, i.mono s h0, j.mono s h1⟩⟩
theorem ev_h2 [i : Rep K α] [j : Rep K β] {ma : Option α} {mb : Option β} (ha : Ev ta es ma) (hb : Ev tb es mb) : Ev (tLst (tCons ta (tCons tb tNil))) es (ma.bind fun a => mb.bind fun b => some (H2.mk a b)) := fun x hx F H ad σ rs Q q => by
  obtain ⟨a, ea, hx⟩ := bind_some hx
  obtain ⟨b, eb, hx⟩ := bind_some hx
  cases hx
  refine ha a ea F H ad σ rs _ fun v0 F1 H1 g1 q1 => ?_
  refine hb b eb F1 H1 ad σ (rs.grow g1) _ fun v1 F2 H2 g2 q2 => ?_
  refine ⟨by show 2 ≤ sizeLine; decide, fun p hp => ?_⟩
  have n := same_new (o := .lst [v0, v1]) (g2.ex.free hp)
  exact q (.ref p) _ _ ((g1.trans g2).trans (Grow.lay g2.ex hp)) ⟨p, v0, v1, rfl, upd_same, i.mono (g2.ff.trans n) q1, j.mono n q2⟩
theorem ev_h2a [i : Rep K α] [j : Rep K β] {m : Option (H2 α β)} (h : Ev te es m) : Ev (tOp (rIxL K) te (tC (.int 0))) es (m.bind fun a => some a.a) := fun x hx F H ad σ rs Q q => by
  obtain ⟨a, ea, hx⟩ := bind_some hx
  cases hx
  exact h a ea F H ad σ rs _ fun v F1 H1 g1 ⟨p, v0, v1, e, hs, h0, h1⟩ => ⟨p, _, 0, v0, e, rfl, sqL_of g1.ex hs, by rfl, q v0 F1 H1 g1 h0⟩
theorem ev_h2b [i : Rep K α] [j : Rep K β] {m : Option (H2 α β)} (h : Ev te es m) : Ev (tOp (rIxL K) te (tC (.int 1))) es (m.bind fun a => some a.b) := fun x hx F H ad σ rs Q q => by
  obtain ⟨a, ea, hx⟩ := bind_some hx
  cases hx
  exact h a ea F H ad σ rs _ fun v F1 H1 g1 ⟨p, v0, v1, e, hs, h0, h1⟩ => ⟨p, _, 1, v1, e, rfl, sqL_of g1.ex hs, by rfl, q v1 F1 H1 g1 h1⟩
instance dH2 [i : Rep K α] [da : RepD K α] [j : Rep K β] [db : RepD K β] : RepD K (H2 α β) :=
  ⟨fun x => .list [da.toD x.a, db.toD x.b], fun ⟨p, v0, v1, z, h, h0, h1⟩ => by subst z; exact .lst (.inl (.inl h)) (.cons (da.dp h0) (.cons (db.dp h1) .nil)), fun x => by simp [PyData.plain, PyData.plainAll, da.lay, db.lay], max (da.dn) db.dn + 1, fun x => by
    have h0 := da.dep x.a
    have h1 := db.dep x.b
    simp only [PyData.depth, PyData.depthAll]
    omega, fun a b => by
    cases a; cases b
    simp [PyData.eqv, PyData.eqvAll, da.inj, db.inj]⟩
instance isH2 [i : Rep K α] [j : Rep K β] : IsTy K (H2 α β) "list" := ⟨fun ⟨p, _, _, e, h, _⟩ => by subst e; exact .base (.lst h)⟩
instance repH3 [i : Rep K α] [j : Rep K β] [k : Rep K γ] : Rep K (H3 α β γ) :=
  ⟨fun F v x => ∃ p v0 v1 v2, v = .ref p ∧ F p = some (.lst [v0, v1, v2]) ∧ i.At F v0 x.a ∧ j.At F v1 x.b ∧ k.At F v2 x.c,
   fun s ⟨p, v0, v1, v2, e, h, h0, h1, h2⟩ => ⟨p, v0, v1, v2, e, s _ _ h, i.mono s h0, j.mono s h1, k.mono s h2⟩⟩
theorem ev_h3 [i : Rep K α] [j : Rep K β] [k : Rep K γ] {ma : Option α} {mb : Option β} {mc : Option γ} (ha : Ev ta es ma) (hb : Ev tb es mb) (hc : Ev tc es mc) : Ev (tLst (tCons ta (tCons tb (tCons tc tNil)))) es (ma.bind fun a => mb.bind fun b => mc.bind fun c => some (H3.mk a b c)) := fun x hx F H ad σ rs Q q => by
  obtain ⟨a, ea, hx⟩ := bind_some hx
  obtain ⟨b, eb, hx⟩ := bind_some hx
  obtain ⟨c, ec, hx⟩ := bind_some hx
  cases hx
  refine ha a ea F H ad σ rs _ fun v0 F1 H1 g1 q1 => ?_
  refine hb b eb F1 H1 ad σ (rs.grow g1) _ fun v1 F2 H2 g2 q2 => ?_
  refine hc c ec F2 H2 ad σ ((rs.grow g1).grow g2) _ fun v2 F3 H3 g3 q3 => ?_
  refine ⟨by show 3 ≤ sizeLine; decide, fun p hp => ?_⟩
  have n := same_new (o := .lst [v0, v1, v2]) (g3.ex.free hp)
  exact q (.ref p) _ _ (((g1.trans g2).trans g3).trans (Grow.lay g3.ex hp)) ⟨p, v0, v1, v2, rfl, upd_same, i.mono ((g2.ff.trans g3.ff).trans n) q1, j.mono (g3.ff.trans n) q2, k.mono n q3⟩
theorem ev_h3a [i : Rep K α] [j : Rep K β] [k : Rep K γ] {m : Option (H3 α β γ)} (h : Ev te es m) : Ev (tOp (rIxL K) te (tC (.int 0))) es (m.bind fun a => some a.a) := fun x hx F H ad σ rs Q q => by
  obtain ⟨a, ea, hx⟩ := bind_some hx
  cases hx
  exact h a ea F H ad σ rs _ fun v F1 H1 g1 ⟨p, v0, v1, v2, e, hs, h0, h1, h2⟩ => ⟨p, _, 0, v0, e, rfl, sqL_of g1.ex hs, by rfl, q v0 F1 H1 g1 h0⟩
theorem ev_h3b [i : Rep K α] [j : Rep K β] [k : Rep K γ] {m : Option (H3 α β γ)} (h : Ev te es m) : Ev (tOp (rIxL K) te (tC (.int 1))) es (m.bind fun a => some a.b) := fun x hx F H ad σ rs Q q => by
  obtain ⟨a, ea, hx⟩ := bind_some hx
  cases hx
  exact h a ea F H ad σ rs _ fun v F1 H1 g1 ⟨p, v0, v1, v2, e, hs, h0, h1, h2⟩ => ⟨p, _, 1, v1, e, rfl, sqL_of g1.ex hs, by rfl, q v1 F1 H1 g1 h1⟩
theorem ev_h3c [i : Rep K α] [j : Rep K β] [k : Rep K γ] {m : Option (H3 α β γ)} (h : Ev te es m) : Ev (tOp (rIxL K) te (tC (.int 2))) es (m.bind fun a => some a.c) := fun x hx F H ad σ rs Q q => by
  obtain ⟨a, ea, hx⟩ := bind_some hx
  cases hx
  exact h a ea F H ad σ rs _ fun v F1 H1 g1 ⟨p, v0, v1, v2, e, hs, h0, h1, h2⟩ => ⟨p, _, 2, v2, e, rfl, sqL_of g1.ex hs, by rfl, q v2 F1 H1 g1 h2⟩
instance dH3 [i : Rep K α] [da : RepD K α] [j : Rep K β] [db : RepD K β] [k : Rep K γ] [dc : RepD K γ] : RepD K (H3 α β γ) :=
  ⟨fun x => .list [da.toD x.a, db.toD x.b, dc.toD x.c], fun ⟨p, v0, v1, v2, z, h, h0, h1, h2⟩ => by subst z; exact .lst (.inl (.inl h)) (.cons (da.dp h0) (.cons (db.dp h1) (.cons (dc.dp h2) .nil))), fun x => by simp [PyData.plain, PyData.plainAll, da.lay, db.lay, dc.lay], max (max (da.dn) db.dn) dc.dn + 1, fun x => by
    have h0 := da.dep x.a
    have h1 := db.dep x.b
    have h2 := dc.dep x.c
    simp only [PyData.depth, PyData.depthAll]
    omega, fun a b => by
    cases a; cases b
    simp [PyData.eqv, PyData.eqvAll, da.inj, db.inj, dc.inj]⟩
instance isH3 [i : Rep K α] [j : Rep K β] [k : Rep K γ] : IsTy K (H3 α β γ) "list" := ⟨fun ⟨p, _, _, _, e, h, _⟩ => by subst e; exact .base (.lst h)⟩
instance repH4 [i : Rep K α] [j : Rep K β] [k : Rep K γ] [l : Rep K δ] : Rep K (H4 α β γ δ) :=
  ⟨fun F v x => ∃ p v0 v1 v2 v3, v = .ref p ∧ F p = some (.lst [v0, v1, v2, v3]) ∧ i.At F v0 x.a ∧ j.At F v1 x.b ∧ k.At F v2 x.c ∧ l.At F v3 x.d,
   fun s ⟨p, v0, v1, v2, v3, e, h, h0, h1, h2, h3⟩ => ⟨p, v0, v1, v2, v3, e, s _ _ h, i.mono s h0, j.mono s h1, k.mono s h2, l.mono s h3⟩⟩
theorem ev_h4 [i : Rep K α] [j : Rep K β] [k : Rep K γ] [l : Rep K δ] {ma : Option α} {mb : Option β} {mc : Option γ} {md : Option δ} (ha : Ev ta es ma) (hb : Ev tb es mb) (hc : Ev tc es mc) (hd : Ev td es md) : Ev (tLst (tCons ta (tCons tb (tCons tc (tCons td tNil))))) es (ma.bind fun a => mb.bind fun b => mc.bind fun c => md.bind fun d => some (H4.mk a b c d)) := fun x hx F H ad σ rs Q q => by
  obtain ⟨a, ea, hx⟩ := bind_some hx
  obtain ⟨b, eb, hx⟩ := bind_some hx
  obtain ⟨c, ec, hx⟩ := bind_some hx
  obtain ⟨d, ed, hx⟩ := bind_some hx
  cases hx
  refine ha a ea F H ad σ rs _ fun v0 F1 H1 g1 q1 => ?_
  refine hb b eb F1 H1 ad σ (rs.grow g1) _ fun v1 F2 H2 g2 q2 => ?_
  refine hc c ec F2 H2 ad σ ((rs.grow g1).grow g2) _ fun v2 F3 H3 g3 q3 => ?_
  refine hd d ed F3 H3 ad σ (((rs.grow g1).grow g2).grow g3) _ fun v3 F4 H4 g4 q4 => ?_
  refine ⟨by show 4 ≤ sizeLine; decide, fun p hp => ?_⟩
  have n := same_new (o := .lst [v0, v1, v2, v3]) (g4.ex.free hp)
  exact q (.ref p) _ _ ((((g1.trans g2).trans g3).trans g4).trans (Grow.lay g4.ex hp)) ⟨p, v0, v1, v2, v3, rfl, upd_same, i.mono (((g2.ff.trans g3.ff).trans g4.ff).trans n) q1, j.mono ((g3.ff.trans g4.ff).trans n) q2, k.mono (g4.ff.trans n) q3, l.mono n q4⟩
theorem ev_h4a [i : Rep K α] [j : Rep K β] [k : Rep K γ] [l : Rep K δ] {m : Option (H4 α β γ δ)} (h : Ev te es m) : Ev (tOp (rIxL K) te (tC (.int 0))) es (m.bind fun a => some a.a) := fun x hx F H ad σ rs Q q => by
  obtain ⟨a, ea, hx⟩ := bind_some hx
  cases hx
  exact h a ea F H ad σ rs _ fun v F1 H1 g1 ⟨p, v0, v1, v2, v3, e, hs, h0, h1, h2, h3⟩ => ⟨p, _, 0, v0, e, rfl, sqL_of g1.ex hs, by rfl, q v0 F1 H1 g1 h0⟩
theorem ev_h4b [i : Rep K α] [j : Rep K β] [k : Rep K γ] [l : Rep K δ] {m : Option (H4 α β γ δ)} (h : Ev te es m) : Ev (tOp (rIxL K) te (tC (.int 1))) es (m.bind fun a => some a.b) := fun x hx F H ad σ rs Q q => by
  obtain ⟨a, ea, hx⟩ := bind_some hx
  cases hx
  exact h a ea F H ad σ rs _ fun v F1 H1 g1 ⟨p, v0, v1, v2, v3, e, hs, h0, h1, h2, h3⟩ => ⟨p, _, 1, v1, e, rfl, sqL_of g1.ex hs, by rfl, q v1 F1 H1 g1 h1⟩
theorem ev_h4c [i : Rep K α] [j : Rep K β] [k : Rep K γ] [l : Rep K δ] {m : Option (H4 α β γ δ)} (h : Ev te es m) : Ev (tOp (rIxL K) te (tC (.int 2))) es (m.bind fun a => some a.c) := fun x hx F H ad σ rs Q q => by
  obtain ⟨a, ea, hx⟩ := bind_some hx
  cases hx
  exact h a ea F H ad σ rs _ fun v F1 H1 g1 ⟨p, v0, v1, v2, v3, e, hs, h0, h1, h2, h3⟩ => ⟨p, _, 2, v2, e, rfl, sqL_of g1.ex hs, by rfl, q v2 F1 H1 g1 h2⟩
theorem ev_h4d [i : Rep K α] [j : Rep K β] [k : Rep K γ] [l : Rep K δ] {m : Option (H4 α β γ δ)} (h : Ev te es m) : Ev (tOp (rIxL K) te (tC (.int 3))) es (m.bind fun a => some a.d) := fun x hx F H ad σ rs Q q => by
  obtain ⟨a, ea, hx⟩ := bind_some hx
  cases hx
  exact h a ea F H ad σ rs _ fun v F1 H1 g1 ⟨p, v0, v1, v2, v3, e, hs, h0, h1, h2, h3⟩ => ⟨p, _, 3, v3, e, rfl, sqL_of g1.ex hs, by rfl, q v3 F1 H1 g1 h3⟩
instance dH4 [i : Rep K α] [da : RepD K α] [j : Rep K β] [db : RepD K β] [k : Rep K γ] [dc : RepD K γ] [l : Rep K δ] [dd : RepD K δ] : RepD K (H4 α β γ δ) :=
  ⟨fun x => .list [da.toD x.a, db.toD x.b, dc.toD x.c, dd.toD x.d], fun ⟨p, v0, v1, v2, v3, z, h, h0, h1, h2, h3⟩ => by subst z; exact .lst (.inl (.inl h)) (.cons (da.dp h0) (.cons (db.dp h1) (.cons (dc.dp h2) (.cons (dd.dp h3) .nil)))), fun x => by simp [PyData.plain, PyData.plainAll, da.lay, db.lay, dc.lay, dd.lay], max (max (max (da.dn) db.dn) dc.dn) dd.dn + 1, fun x => by
    have h0 := da.dep x.a
    have h1 := db.dep x.b
    have h2 := dc.dep x.c
    have h3 := dd.dep x.d
    simp only [PyData.depth, PyData.depthAll]
    omega, fun a b => by
    cases a; cases b
    simp [PyData.eqv, PyData.eqvAll, da.inj, db.inj, dc.inj, dd.inj]⟩
instance isH4 [i : Rep K α] [j : Rep K β] [k : Rep K γ] [l : Rep K δ] : IsTy K (H4 α β γ δ) "list" := ⟨fun ⟨p, _, _, _, _, e, h, _⟩ => by subst e; exact .base (.lst h)⟩
end
end Tf
set_option Elab.async false
set_option linter.all false
set_option maxRecDepth 100000
set_option maxHeartbeats 4000000
namespace Tf
open PySem PySem.Spec L2 PyProof.Rows

/-! ### sorted: lists of tuples of ints, any number of them -/
section
variable {prog : Program} {w : World} {A : Around} {s : Shared}
theorem tups_sortable {h₁ : Heap} {a : Addr} {vs : List Value} {d : Nat} {B : Int} (hd : 1 ≤ d) (h2 : 2 ≤ vs.length) (x : TS.TupsOk s.heap d B vs) (keep : ∀ b o, s.heap.get? b = some o → b ≠ a ∧ h₁.get? b = some o) :
    SrtO.SortableO prog w A { s with heap := h₁ } a vs (fun v u => decide (TS.code B (TS.intsOf s.heap v) < TS.code B (TS.intsOf s.heap u))) := by
  intro h' k'
  have kp : ∀ b o, s.heap.get? b = some o → o.cls = .type "tuple" → h'.get? b = some o := fun b o e _ => k' b o (keep b o e).1 (keep b o e).2
  have x' : TS.TupsOk h' d B vs := x.keeps kp
  obtain ⟨fs, k, hl, hi⟩ := TS.firsts_of hd vs x'
  refine ⟨_, fun Q E hq => PySem.W.kat_kind (T := Value.type "int") k (by omega) (fun f hf => ?_) rfl hq, ?_⟩
  · obtain ⟨n, t, rfl⟩ := hi f hf
    exact PySem.W.Looks.of_pure rfl
  · intro p q hp hq
    obtain ⟨ns, tp0, _⟩ := x _ hp
    obtain ⟨ms, tq0, _⟩ := x _ hq
    obtain ⟨ns', tp, lp, bp⟩ := x' _ hp
    obtain ⟨ms', tq, lq, bq⟩ := x' _ hq
    have e1 : ns = ns' := (tp0.keeps kp).ints.symm.trans tp.ints
    have e2 : ms = ms' := (tq0.keeps kp).ints.symm.trans tq.ints
    subst e1
    subst e2
    have ep : TS.intsOf s.heap p.1 = ns := tp0.ints
    have eq2 : TS.intsOf s.heap q.1 = ms := tq0.ints
    show wpAny _ _ (keyLt' _ p.1 q.1) (fun r s' => s' = _ ∧ r = decide (TS.code B (TS.intsOf s.heap p.1) < TS.code B (TS.intsOf s.heap q.1))) _ _
    rw [ep, eq2]
    obtain ⟨a', xs, e1, ⟨o, ho, hc, n, hdt⟩, i⟩ := tp
    obtain ⟨a'', ys, e2, ⟨o', ho', hc', n', hdt'⟩, i'⟩ := tq
    rw [e1, e2]
    refine PySem.W.kat_lt ho hdt ho' hdt' ?_
    have sz : decide (xs.size < ys.size) = false := by
      have l1 := i.length
      have l2 := i'.length
      rw [Array.length_toList] at l1 l2
      exact decide_eq_false (by omega)
    rw [sz]
    exact TS.lex_ints 0 i i' (by omega) bp bq ⟨rfl, rfl⟩
theorem swo_code (r : Value → Int) : SrtO.Swo (fun v u => decide (r v < r u)) := by
  refine ⟨fun x y h => ?_, fun x y z h1 h2 => ?_⟩
  · have a := of_decide_eq_true (p := r x < r y) h
    exact decide_eq_false (p := r y < r x) (by omega)
  · have a := of_decide_eq_false (p := r y < r x) h1
    have b := of_decide_eq_false (p := r z < r y) h2
    exact decide_eq_false (p := r z < r x) (by omega)
end
section
variable {X : Cx}
def rSortUO (K : Fg) (d : Nat) (B : Int) : List V → Hp → VK → Prop := fun vs H Q => ∃ (a : Addr) (xs : List V), vs = [V.ref a] ∧ SqL K H a xs ∧ (∀ x ∈ xs, ∃ ns, TupI K H x ns ∧ ns.length = d ∧ TS.Bd B ns) ∧
  ∀ (ys : List V) (p : Addr), ys.Perm xs → ys.Pairwise (fun x y => ∀ n m, TupI K H x n → TupI K H y m → TS.code B n ≤ TS.code B m) → H p = none → Q (.ref p) (upd H p (.lst ys))
theorem cr_sortUO {d : Nat} {B : Int} (hd : 1 ≤ d) : CallR X (.builtin "sorted") (rSortUO X.K d B) := by
  intro pins s σ H vs us Q I r h
  obtain ⟨a, xs, rfl, hs, hx, q⟩ := h
  obtain ⟨its, rv, hl, hz⟩ := I.list hs
  rw [Vals.ref1 r]
  obtain ⟨e1, e2⟩ := bkV_refs rv fun x m => by
    obtain ⟨ns, ⟨t, e, _⟩, _⟩ := hx x m
    exact ⟨t, e⟩
  have ok : TS.TupsOk s.heap d B its := fun v hv => by
    obtain ⟨t, rfl⟩ := e2 v hv
    have hm : V.ref t ∈ xs := by
      rw [e1]
      exact List.mem_map.mpr ⟨_, hv, rfl⟩
    obtain ⟨ns, ⟨t', e, ht⟩, hn, hb⟩ := hx _ hm
    cases e
    exact ⟨ns, tupI_raw I ht, hn, hb⟩
  refine SrtO.sorted_ord (swo_code fun v => TS.code B (TS.intsOf s.heap v)) hl.isList (by rw [← rv.length]; exact hz) (fun h2 h₁ a' _ keep => tups_sortable hd h2 ok keep) fun out h1 h2 => ?_
  obtain ⟨ep, he'⟩ := PyProof.Rows.sortedAll_at s.heap its out.toArray
  have h3 : ∀ u ∈ out, ∃ a, u = Value.ref a := fun u hu => e2 u (h2.perm.mem_iff.mp hu)
  have hp : (out.map bkV).Perm xs := by
    rw [e1]
    exact h2.perm.map bkV
  have hlen : (out.map bkV).length ≤ sizeLine := by
    rw [hp.length_eq]
    exact hz
  refine ⟨.ref _, upd H (s.heap.objs.size + 1) (.lst (out.map bkV)), I.laid (t' := s.toks) (fun _ _ => PyProof.Rows.sortedAll_old) (Nat.le_succ _) ⟨hlen, out, ep, bkV_vals h3, he'⟩, rfl, q _ _ hp ?_ (I.hok.fresh (Nat.le_succ _))⟩
  rw [List.pairwise_map]
  refine List.Pairwise.imp (fun {u v} huv n m hn hm => ?_) h1
  obtain ⟨t, et, ht⟩ := hn
  obtain ⟨t', et', ht'⟩ := hm
  have eu := bkV_ref et
  have ev := bkV_ref et'
  have i1 : TS.intsOf s.heap u = n := by
    rw [eu]
    exact (tupI_raw I ht).ints
  have i2 : TS.intsOf s.heap v = m := by
    rw [ev]
    exact (tupI_raw I ht').ints
  have huv : decide (TS.code B (TS.intsOf s.heap v) < TS.code B (TS.intsOf s.heap u)) = false := huv
  rw [i1, i2] at huv
  exact Int.not_lt.mp (of_decide_eq_false huv)
end
theorem paired_perm0 {P : V → α → Prop} {vs vs' : List V} (h : vs.Perm vs') : ∀ {xs : List α}, Paired P vs xs → ∃ xs', xs'.Perm xs ∧ Paired P vs' xs' := by
  induction h with
  | nil => intro xs p; exact ⟨xs, List.Perm.refl _, p⟩
  | cons x _ ih =>
    intro xs p
    cases p with
    | cons a p =>
      obtain ⟨ys, e, q⟩ := ih p
      exact ⟨_ :: ys, e.cons _, .cons a q⟩
  | swap x y l =>
    intro xs p
    cases p with
    | cons a p =>
      cases p with
      | cons b p => exact ⟨_ :: _ :: _, List.Perm.swap _ _ _, .cons b (.cons a p)⟩
  | trans _ _ ih1 ih2 =>
    intro xs p
    obtain ⟨ys, e, q⟩ := ih1 p
    obtain ⟨zs, e2, q2⟩ := ih2 q
    exact ⟨zs, e2.trans e, q2⟩
theorem paired_perm {P : V → α → Prop} {vs vs' : List V} (h : vs'.Perm vs) {xs : List α} (p : Paired P vs xs) : ∃ xs', xs'.Perm xs ∧ Paired P vs' xs' := paired_perm0 h.symm p
theorem paired_memL {P : V → α → Prop} {vs : List V} {xs : List α} (h : Paired P vs xs) {v : V} (hv : v ∈ vs) : ∃ x, x ∈ xs ∧ P v x := by
  induction h with
  | nil => cases hv
  | cons a _ ih =>
    rcases List.mem_cons.mp hv with e | hv
    · subst e
      exact ⟨_, List.mem_cons_self, a⟩
    · obtain ⟨x, hx, p⟩ := ih hv
      exact ⟨x, List.mem_cons_of_mem _ hx, p⟩
theorem paired_memR {P : V → α → Prop} {vs : List V} {xs : List α} (h : Paired P vs xs) {x : α} (hx : x ∈ xs) : ∃ v, v ∈ vs ∧ P v x := by
  induction h with
  | nil => cases hx
  | cons a _ ih =>
    rcases List.mem_cons.mp hx with e | hx
    · subst e
      exact ⟨_, List.mem_cons_self, a⟩
    · obtain ⟨v, hv, p⟩ := ih hx
      exact ⟨v, List.mem_cons_of_mem _ hv, p⟩
theorem paired_pw {P : V → α → Prop} {R : V → V → Prop} {S : α → α → Prop} (f : ∀ v u a b, R v u → P v a → P u b → S a b) {vs : List V} {xs : List α} (h : Paired P vs xs) (w : vs.Pairwise R) : xs.Pairwise S := by
  induction h with
  | nil => exact List.Pairwise.nil
  | cons a p ih =>
    rw [List.pairwise_cons] at w ⊢
    refine ⟨fun b hb => ?_, ih w.2⟩
    obtain ⟨u, hu, q⟩ := paired_memR p hb
    exact f _ _ _ _ (w.1 u hu) a q
def codeT (x : List Int) : Int := TS.code 1000 x
theorem codeT_inj : ∀ {n m : List Int}, n.length = m.length → TS.Bd 1000 n → TS.Bd 1000 m → codeT n = codeT m → n = m
  | [], [], _, _, _, _ => rfl
  | [], b :: m, h, _, _, _ => by simp at h
  | a :: n, [], h, _, _, _ => by simp at h
  | a :: n, b :: m, h, h1, h2, e => by
    have hl : n.length = m.length := by simpa using h
    rcases Int.lt_trichotomy a b with c | c | c
    · have := TS.code_lt hl h1.tail h2.tail c
      unfold codeT at e
      omega
    · subst c
      have e2 : codeT n = codeT m := by
        rcases Int.lt_trichotomy (codeT n) (codeT m) with q | q | q
        · have := (TS.code_same (B := 1000) (d := a) hl).mpr q
          unfold codeT at e
          omega
        · exact q
        · have := (TS.code_same (B := 1000) (d := a) hl.symm).mpr q
          unfold codeT at e
          omega
      rw [codeT_inj hl h1.tail h2.tail e2]
    · have := TS.code_lt hl.symm h2.tail h1.tail c
      unfold codeT at e
      omega
def SortOk (xs : List (List Int)) : Prop := ∃ d, 1 ≤ d ∧ ∀ x ∈ xs, x.length = d ∧ TS.Bd 1000 x
def srtT (xs : List (List Int)) : List (List Int) := xs.mergeSort fun a b => decide (codeT a ≤ codeT b)
theorem srtT_perm (xs : List (List Int)) : (srtT xs).Perm xs := List.mergeSort_perm _ _
theorem srtT_pw (xs : List (List Int)) : (srtT xs).Pairwise fun a b => codeT a ≤ codeT b := by
  have h := List.pairwise_mergeSort (le := fun a b => decide (codeT a ≤ codeT b)) (fun a b c h1 h2 => by
    have := of_decide_eq_true h1
    have := of_decide_eq_true h2
    exact decide_eq_true (by omega)) (fun a b => by
    rw [Bool.or_eq_true, decide_eq_true_eq, decide_eq_true_eq]
    omega) xs
  exact h.imp fun h => of_decide_eq_true h
theorem srtT_uniq {xs ys : List (List Int)} (ok : SortOk xs) (p : ys.Perm xs) (w : ys.Pairwise fun a b => codeT a ≤ codeT b) : ys = srtT xs := by
  obtain ⟨d, _, h⟩ := ok
  refine List.Perm.eq_of_pairwise (le := fun a b => codeT a ≤ codeT b) (fun a b ha hb h1 h2 => ?_) w (srtT_pw xs) (p.trans (srtT_perm xs).symm)
  have k1 := h a (p.mem_iff.mp ha)
  have k2 := h b ((srtT_perm xs).mem_iff.mp hb)
  exact codeT_inj (by omega) k1.2 k2.2 (by omega)
theorem sortTO_ex : ∃ f : List (List Int) → Option (List (List Int)), f = fun xs => @ite _ (SortOk xs) (Classical.propDecidable _) (some (srtT xs)) none := ⟨_, rfl⟩
noncomputable def sortTO : List (List Int) → Option (List (List Int)) := Classical.choose sortTO_ex
theorem sortTO_eq (xs : List (List Int)) : sortTO xs = @ite _ (SortOk xs) (Classical.propDecidable _) (some (srtT xs)) none := by
  have h := Classical.choose_spec sortTO_ex
  show Classical.choose sortTO_ex xs = _
  rw [h]
theorem sortTO_some {xs : List (List Int)} (h : SortOk xs) : sortTO xs = some (srtT xs) := by
  rw [sortTO_eq]
  exact if_pos h
section
variable {K : Fg} {es : Env K} {ta tb te : TE} {α β γ : Type}
/-- the rule, its length and bound found where it is used -/
def rSortAny (K : Fg) : List V → Hp → VK → Prop := fun vs H Q => ∃ d B, 1 ≤ d ∧ rSortUO K d B vs H Q
theorem cr_sortAny {X : Cx} : CallR X (.builtin "sorted") (rSortAny X.K) := fun pins s σ H vs us Q I r ⟨d, B, hd, h⟩ => cr_sortUO hd pins s σ H vs us Q I r h
noncomputable abbrev sortTT (xs : List (Tup Int)) : Option (List (Tup Int)) := sortTO xs
theorem ev_sortT {m : Option (List (Tup Int))} (h : EvL ta es m) : EvN (α := Tup Int) (tCB (rSortAny K) (tCons ta tNil)) es (m.bind fun a => sortTT a) :=
  ev_cb1 h fun (xs : List (List Int)) x _ F H _ s ⟨p, vs, e, hp, hl, pr⟩ => fun c hc Q q => by
    have hc : sortTO xs = some c := hc
    rw [sortTO_eq] at hc
    by_cases ok : SortOk xs
    · rw [if_pos ok] at hc
      cases hc
      obtain ⟨d, hd, hx⟩ := ok
      have tup : ∀ {v : V} {x : List Int}, (repTup (K := K) (α := Int)).At F v x → TupI K H v x := fun ⟨t, us, e, ht, _, pu⟩ => by
        have := ints_of_paired pu
        subst this
        exact ⟨t, e, same_t s ht⟩
      refine ⟨d, 1000, hd, p, vs, by rw [e], .inl (.inl hp), fun v hv => ?_, fun ys r hperm hpw hr => ?_⟩
      · obtain ⟨y, hy, ay⟩ := paired_memL pr hv
        exact ⟨y, tup ay, (hx y hy).1, (hx y hy).2⟩
      · obtain ⟨zs, ez, pz⟩ := paired_perm hperm pr
        have hz : zs.Pairwise fun a b => codeT a ≤ codeT b := paired_pw (fun v u a b hR ha hb => hR a b (tup ha) (tup hb)) pz hpw
        have e2 := srtT_uniq ⟨d, hd, hx⟩ ez hz
        subst e2
        refine q (.ref r) F _ (Grow.make s hr) ⟨r, rfl, hr, s.free hr, ys, upd_same, ?_, pz⟩
        rw [hperm.length_eq]
        exact hl
    · rw [if_neg ok] at hc
      cases hc
/-! sorted: ints -/
def sortI (xs : List Int) : List Int := xs.mergeSort fun a b => decide (a ≤ b)
theorem sortI_perm (xs : List Int) : (sortI xs).Perm xs := List.mergeSort_perm _ _
theorem sortI_pw (xs : List Int) : (sortI xs).Pairwise (· ≤ ·) := by
  have h := List.pairwise_mergeSort (le := fun a b : Int => decide (a ≤ b)) (fun a b c h1 h2 => by
    have := of_decide_eq_true h1
    have := of_decide_eq_true h2
    exact decide_eq_true (by omega)) (fun a b => by
    rw [Bool.or_eq_true, decide_eq_true_eq, decide_eq_true_eq]
    omega) xs
  exact h.imp fun h => of_decide_eq_true h
theorem sortI_uniq {xs ys : List Int} (p : ys.Perm xs) (w : ys.Pairwise (· ≤ ·)) : ys = sortI xs :=
  List.Perm.eq_of_pairwise (le := fun a b => a ≤ b) (fun a b _ _ h1 h2 => by omega) w (sortI_pw xs) (p.trans (sortI_perm xs).symm)
theorem ev_sortI {m : Option (List Int)} (h : EvL ta es m) : EvN (tCB (rSortedI K) (tCons ta tNil)) es (m.bind fun a => some (sortI a)) :=
  ev_cb1 h fun xs x _ F H _ s ⟨p, vs, e, hp, hl, pr⟩ => fun c hc Q q => by
    cases hc
    have := ints_of_paired pr
    subst this
    refine ⟨p, xs, by rw [e], .inl (.inl hp), fun ns r hperm hpw hr => ?_⟩
    have e2 := sortI_uniq hperm hpw
    rw [← e2] at q
    refine q (.ref r) F _ (Grow.make s hr) ⟨r, rfl, hr, s.free hr, _, upd_same, ?_, paired_ints ns⟩
    rw [List.length_map, hperm.length_eq, ← List.length_map (f := V.int)]
    exact hl
end
/-! ### targets of three, four names -/
section
variable {K : Fg} {ρ X : Type} {R : RR ρ} {φ : X → Fl K ρ} {es : Env K} {tz : TS} {te : TE} {α β γ δ : Type}
theorem own_set3 [i : Rep K α] [j : Rep K β] [k : Rep K γ] {ad : Nat → Addr → Prop} {a b c : Nat} {x : α} {y : β} {z : γ} {p : Addr} (h : OwA (((es.set a (.val i x)).set b (.val j y)).set c (.val k z)) ad p) : OwA es ad p := own_setVal (own_setVal (own_setVal h))
theorem sx_unp3 [GoodR R] [i : Rep K α] [j : Rep K β] [k : Rep K γ] {a b c : Nat} {m : Option (T3 α β γ)} {f : T3 α β γ → Option X} (ha : Ev te es m) (h2 : ∀ x, Sx R φ tz (((es.set a (.val i x.a)).set b (.val j x.b)).set c (.val k x.c)) (f x)) :
    Sx R φ (tSeq (tAsg te (gTup K 3 (gCons (gName a) (gCons (gName b) (gCons (gName c) gNil))))) tz) es (m.bind f) := by
  show Sv _ _ _ _
  rw [map_bind_]
  intro fl hfl F H ad σ D rs fo
  obtain ⟨x, ex, hk⟩ := bind_some hfl
  refine ha x ex F H ad σ rs _ fun v F1 H1 g1 ⟨p, u, w, z, ev, hs, au, aw, az⟩ => ?_
  subst ev
  have r := (((rs.grow g1).setVal (i := a) au).setVal (i := b) aw).setVal (i := c) az
  exact ⟨p, [u, w, z], rfl, same_t g1.ex hs, rfl, u, [w, z], rfl, w, [z], rfl, z, [], rfl, rfl, h2 x fl hk F1 H1 ad _ D r (fo.trans g1.adv fun p z => .inl (own_setVal (own_setVal (own_setVal z))))⟩
theorem sx_unp4 [GoodR R] [i : Rep K α] [j : Rep K β] [k : Rep K γ] [l : Rep K δ] {a b c d : Nat} {m : Option (T4 α β γ δ)} {f : T4 α β γ δ → Option X} (ha : Ev te es m) (h2 : ∀ x, Sx R φ tz ((((es.set a (.val i x.a)).set b (.val j x.b)).set c (.val k x.c)).set d (.val l x.d)) (f x)) :
    Sx R φ (tSeq (tAsg te (gTup K 4 (gCons (gName a) (gCons (gName b) (gCons (gName c) (gCons (gName d) gNil)))))) tz) es (m.bind f) := by
  show Sv _ _ _ _
  rw [map_bind_]
  intro fl hfl F H ad σ D rs fo
  obtain ⟨x, ex, hk⟩ := bind_some hfl
  refine ha x ex F H ad σ rs _ fun v F1 H1 g1 ⟨p, u, w, z, y, ev, hs, au, aw, az, ay⟩ => ?_
  subst ev
  have r := ((((rs.grow g1).setVal (i := a) au).setVal (i := b) aw).setVal (i := c) az).setVal (i := d) ay
  exact ⟨p, [u, w, z, y], rfl, same_t g1.ex hs, rfl, u, [w, z, y], rfl, w, [z, y], rfl, z, [y], rfl, y, [], rfl, rfl, h2 x fl hk F1 H1 ad _ D r (fo.trans g1.adv fun p z => .inl (own_setVal (own_setVal (own_setVal (own_setVal z)))))⟩
end
/-! ### min, max of a list -/
def minO : List Int → Option Int
  | [] => none
  | x :: r => some (r.foldl min x)
def maxO : List Int → Option Int
  | [] => none
  | x :: r => some (r.foldl max x)
theorem foldl_min : ∀ (r : List Int) (x : Int), (r.foldl min x = x ∨ r.foldl min x ∈ r) ∧ r.foldl min x ≤ x ∧ ∀ y ∈ r, r.foldl min x ≤ y
  | [], x => ⟨.inl rfl, Int.le_refl _, fun _ h => nomatch h⟩
  | y :: r, x => by
    obtain ⟨h1, h2, h3⟩ := foldl_min r (min x y)
    rw [List.foldl_cons]
    refine ⟨?_, by omega, fun z hz => ?_⟩
    · rcases h1 with h | h
      · rw [h]
        by_cases q : x ≤ y
        · exact .inl (by omega)
        · exact .inr (by rw [show min x y = y by omega]; exact List.mem_cons_self)
      · exact .inr (List.mem_cons_of_mem _ h)
    · rcases List.mem_cons.mp hz with e | hz
      · omega
      · exact h3 z hz
theorem foldl_max : ∀ (r : List Int) (x : Int), (r.foldl max x = x ∨ r.foldl max x ∈ r) ∧ x ≤ r.foldl max x ∧ ∀ y ∈ r, y ≤ r.foldl max x
  | [], x => ⟨.inl rfl, Int.le_refl _, fun _ h => nomatch h⟩
  | y :: r, x => by
    obtain ⟨h1, h2, h3⟩ := foldl_max r (max x y)
    rw [List.foldl_cons]
    refine ⟨?_, by omega, fun z hz => ?_⟩
    · rcases h1 with h | h
      · rw [h]
        by_cases q : y ≤ x
        · exact .inl (by omega)
        · exact .inr (by rw [show max x y = y by omega]; exact List.mem_cons_self)
      · exact .inr (List.mem_cons_of_mem _ h)
    · rcases List.mem_cons.mp hz with e | hz
      · omega
      · exact h3 z hz
theorem minO_spec {xs : List Int} {m : Int} (h : minO xs = some m) : m ∈ xs ∧ ∀ y ∈ xs, m ≤ y := by
  cases xs with
  | nil => cases h
  | cons x r =>
    have h : some (r.foldl min x) = some m := h
    cases h
    obtain ⟨h1, h2, h3⟩ := foldl_min r x
    refine ⟨?_, fun y hy => ?_⟩
    · rcases h1 with h | h
      · rw [h]; exact List.mem_cons_self
      · exact List.mem_cons_of_mem _ h
    · rcases List.mem_cons.mp hy with e | hy
      · rw [e]; exact h2
      · exact h3 y hy
theorem maxO_spec {xs : List Int} {m : Int} (h : maxO xs = some m) : m ∈ xs ∧ ∀ y ∈ xs, y ≤ m := by
  cases xs with
  | nil => cases h
  | cons x r =>
    have h : some (r.foldl max x) = some m := h
    cases h
    obtain ⟨h1, h2, h3⟩ := foldl_max r x
    refine ⟨?_, fun y hy => ?_⟩
    · rcases h1 with h | h
      · rw [h]; exact List.mem_cons_self
      · exact List.mem_cons_of_mem _ h
    · rcases List.mem_cons.mp hy with e | hy
      · rw [e]; exact h2
      · exact h3 y hy
theorem minO_some {xs : List Int} (h : xs ≠ []) : ∃ m, minO xs = some m := by
  cases xs with
  | nil => exact (h rfl).elim
  | cons x r => exact ⟨_, rfl⟩
theorem maxO_some {xs : List Int} (h : xs ≠ []) : ∃ m, maxO xs = some m := by
  cases xs with
  | nil => exact (h rfl).elim
  | cons x r => exact ⟨_, rfl⟩
section
variable {K : Fg} {es : Env K} {ta tb te : TE} {α β γ : Type}
theorem ev_minL {ma : Option (List Int)} (ha : EvL ta es ma) : Ev (tCB (rMin K) (tCons ta tNil)) es (ma.bind fun a => minO a) :=
  ev_cb1 ha fun a x _ F H _ s ⟨p, vs, e, h, hl, pr⟩ => fun c hc Q q => by
    have := ints_of_paired pr
    subst this
    obtain ⟨h1, h2⟩ := minO_spec hc
    refine ⟨p, a, by rw [e], .inl (.inl h), List.length_pos_of_mem h1, fun m hm hy => ?_⟩
    have e2 : m = c := by
      have := hy c h1
      have := h2 m hm
      omega
    rw [e2]
    exact q _ F H (Grow.refl s) rfl
theorem ev_maxL {ma : Option (List Int)} (ha : EvL ta es ma) : Ev (tCB (rMax K) (tCons ta tNil)) es (ma.bind fun a => maxO a) :=
  ev_cb1 ha fun a x _ F H _ s ⟨p, vs, e, h, hl, pr⟩ => fun c hc Q q => by
    have := ints_of_paired pr
    subst this
    obtain ⟨h1, h2⟩ := maxO_spec hc
    refine ⟨p, a, by rw [e], .inl (.inl h), List.length_pos_of_mem h1, fun m hm hy => ?_⟩
    have e2 : m = c := by
      have := hy c h1
      have := h2 m hm
      omega
    rw [e2]
    exact q _ F H (Grow.refl s) rfl
/-! ### tuples of two kinds -/
instance isSum [i : Rep K α] [j : Rep K β] {T : String} [a : IsTy K α T] [b : IsTy K β T] : IsTy K (α ⊕ β) T := ⟨fun {F v x} h => by
  cases x with
  | inl y => exact a.ty (F := F) (a := y) h
  | inr y => exact b.ty (F := F) (a := y) h⟩
/-- a tuple of n items, its item k is get -/
class Fld (K : Fg) (α : Type) [i : Rep K α] (k : Nat) {γ : outParam Type} [j : outParam (Rep K γ)] (n : outParam Nat) (get : outParam (α → γ)) : Prop where
  at_ : ∀ {F : Hp} {v : V} {a : α}, i.At F v a → ∃ p vs u, v = .ref p ∧ SqT K F p vs ∧ vs.length = n ∧ vs[k]? = some u ∧ j.At F u (get a)
variable {δ ε : Type}
instance fld10 [i : Rep K α] : Fld K (T1 α) 0 (γ := α) 1 (fun x => x.a) := ⟨fun ⟨p, u, e, h, q⟩ => ⟨p, _, u, e, h, rfl, rfl, q⟩⟩
instance fld20 [i : Rep K α] [j : Rep K β] : Fld K (α × β) 0 (γ := α) 2 (fun x => x.1) := ⟨fun ⟨p, u, w, e, h, q, r⟩ => ⟨p, _, u, e, h, rfl, rfl, q⟩⟩
instance fld21 [i : Rep K α] [j : Rep K β] : Fld K (α × β) 1 (γ := β) 2 (fun x => x.2) := ⟨fun ⟨p, u, w, e, h, q, r⟩ => ⟨p, _, w, e, h, rfl, rfl, r⟩⟩
instance fld30 [i : Rep K α] [j : Rep K β] [k : Rep K γ] : Fld K (T3 α β γ) 0 (γ := α) 3 (fun x => x.a) := ⟨fun ⟨p, u, w, z, e, h, q, r, t⟩ => ⟨p, _, u, e, h, rfl, rfl, q⟩⟩
instance fld31 [i : Rep K α] [j : Rep K β] [k : Rep K γ] : Fld K (T3 α β γ) 1 (γ := β) 3 (fun x => x.b) := ⟨fun ⟨p, u, w, z, e, h, q, r, t⟩ => ⟨p, _, w, e, h, rfl, rfl, r⟩⟩
instance fld32 [i : Rep K α] [j : Rep K β] [k : Rep K γ] : Fld K (T3 α β γ) 2 (γ := γ) 3 (fun x => x.c) := ⟨fun ⟨p, u, w, z, e, h, q, r, t⟩ => ⟨p, _, z, e, h, rfl, rfl, t⟩⟩
instance fld40 [i : Rep K α] [j : Rep K β] [k : Rep K γ] [l : Rep K δ] : Fld K (T4 α β γ δ) 0 (γ := α) 4 (fun x => x.a) := ⟨fun ⟨p, u, w, z, y, e, h, q, r, t, s⟩ => ⟨p, _, u, e, h, rfl, rfl, q⟩⟩
instance fld41 [i : Rep K α] [j : Rep K β] [k : Rep K γ] [l : Rep K δ] : Fld K (T4 α β γ δ) 1 (γ := β) 4 (fun x => x.b) := ⟨fun ⟨p, u, w, z, y, e, h, q, r, t, s⟩ => ⟨p, _, w, e, h, rfl, rfl, r⟩⟩
instance fld42 [i : Rep K α] [j : Rep K β] [k : Rep K γ] [l : Rep K δ] : Fld K (T4 α β γ δ) 2 (γ := γ) 4 (fun x => x.c) := ⟨fun ⟨p, u, w, z, y, e, h, q, r, t, s⟩ => ⟨p, _, z, e, h, rfl, rfl, t⟩⟩
instance fld43 [i : Rep K α] [j : Rep K β] [k : Rep K γ] [l : Rep K δ] : Fld K (T4 α β γ δ) 3 (γ := δ) 4 (fun x => x.d) := ⟨fun ⟨p, u, w, z, y, e, h, q, r, t, s⟩ => ⟨p, _, y, e, h, rfl, rfl, s⟩⟩
theorem at_nat {vs : List V} {k : Nat} {u : V} (h : vs[k]? = some u) : atI vs (k : Int) = some u := by
  obtain ⟨hl, e⟩ := List.getElem?_eq_some_iff.mp h
  unfold atI ixN
  rw [if_pos (by omega), if_pos (by omega)]
  show vs[(k : Int).toNat]? = _
  rw [Int.toNat_natCast]
  exact h
/-- item k of what is one of two tuples -/
theorem ev_fldB [i : Rep K α] [j : Rep K β] [l : Rep K γ] {k m n : Nat} {f : α → γ} {g : β → γ} [a : Fld K α k m f] [b : Fld K β k n g] {ma : Option (α ⊕ β)} (ha : Ev te es ma) {kI : Int} (hk : kI = (k : Int) := by rfl) : Ev (tOp (rIxT K) te (tC (.int kI))) es (ma.bind fun s => some (Sum.elim f g s)) := fun x hx F H ad σ rs Q q => by
  obtain ⟨s, es, hx⟩ := bind_some hx
  cases hx
  subst hk
  refine ha s es F H ad σ rs _ fun v F1 H1 g1 h1 => ?_
  cases s with
  | inl y =>
    obtain ⟨p, vs, u, e, ht, _, hu, hq⟩ := a.at_ (F := F1) (a := y) h1
    exact ⟨p, vs, _, u, e, rfl, same_t g1.ex ht, at_nat hu, q u F1 H1 g1 hq⟩
  | inr y =>
    obtain ⟨p, vs, u, e, ht, _, hu, hq⟩ := b.at_ (F := F1) (a := y) h1
    exact ⟨p, vs, _, u, e, rfl, same_t g1.ex ht, at_nat hu, q u F1 H1 g1 hq⟩
theorem ev_fldL [i : Rep K α] [j : Rep K β] [l : Rep K γ] {k m : Nat} {f : α → γ} [a : Fld K α k m f] {ma : Option (α ⊕ β)} (ha : Ev te es ma) {kI : Int} (hk : kI = (k : Int) := by rfl) : Ev (tOp (rIxT K) te (tC (.int kI))) es (ma.bind fun s => Sum.elim (fun x => some (f x)) (fun _ => none) s) := fun x hx F H ad σ rs Q q => by
  obtain ⟨s, es, hx⟩ := bind_some hx
  subst hk
  refine ha s es F H ad σ rs _ fun v F1 H1 g1 h1 => ?_
  cases s with
  | inl y =>
    cases hx
    obtain ⟨p, vs, u, e, ht, _, hu, hq⟩ := a.at_ (F := F1) (a := y) h1
    exact ⟨p, vs, _, u, e, rfl, same_t g1.ex ht, at_nat hu, q u F1 H1 g1 hq⟩
  | inr y => cases hx
theorem ev_fldR [i : Rep K α] [j : Rep K β] [l : Rep K γ] {k n : Nat} {g : β → γ} [b : Fld K β k n g] {ma : Option (α ⊕ β)} (ha : Ev te es ma) {kI : Int} (hk : kI = (k : Int) := by rfl) : Ev (tOp (rIxT K) te (tC (.int kI))) es (ma.bind fun s => Sum.elim (fun _ => none) (fun x => some (g x)) s) := fun x hx F H ad σ rs Q q => by
  obtain ⟨s, es, hx⟩ := bind_some hx
  subst hk
  refine ha s es F H ad σ rs _ fun v F1 H1 g1 h1 => ?_
  cases s with
  | inl y => cases hx
  | inr y =>
    cases hx
    obtain ⟨p, vs, u, e, ht, _, hu, hq⟩ := b.at_ (F := F1) (a := y) h1
    exact ⟨p, vs, _, u, e, rfl, same_t g1.ex ht, at_nat hu, q u F1 H1 g1 hq⟩
theorem ev_lenB [i : Rep K α] [j : Rep K β] {γ' : Type} [l : Rep K γ] [l' : Rep K γ'] {m n : Nat} {f : α → γ} {g : β → γ'} [a : Fld K α 0 m f] [b : Fld K β 0 n g] {ma : Option (α ⊕ β)} (ha : Ev ta es ma) : Ev (tCB (fun xs H Q => ∃ p ys, xs = [.ref p] ∧ (SqL K H p ys ∨ SqT K H p ys) ∧ Q (.int ys.length) H) (tCons ta tNil)) es (ma.bind fun s => some (Sum.elim (fun _ => (m : Int)) (fun _ => (n : Int)) s)) :=
  ev_cb1 ha fun s x _ F H _ sm hs => by
    cases s with
    | inl y =>
      obtain ⟨p, vs, u, e, ht, hl, _, _⟩ := a.at_ (F := F) (a := y) hs
      exact ops_pure sm (.int vs.length) (by rw [hl]; rfl) fun Q q => ⟨p, vs, by rw [e], .inr (same_t sm ht), q⟩
    | inr y =>
      obtain ⟨p, vs, u, e, ht, hl, _, _⟩ := b.at_ (F := F) (a := y) hs
      exact ops_pure sm (.int vs.length) (by rw [hl]; rfl) fun Q q => ⟨p, vs, by rw [e], .inr (same_t sm ht), q⟩
end
/-! ### range as a value, range with a step -/
section
variable {K : Fg} {es : Env K} {ta tb tc te : TE} {α β γ : Type}
theorem rgV_eq (a b : Int) : rgV a b = (rng a b).map V.int := by
  unfold rgV rng
  rw [List.map_map]
  rfl
theorem ev_listRg1 {m : Option Int} (h : Ev ta es m) : EvN (tLstRg (tRg1 ta)) es (m.bind fun n => rngO 0 n) := fun xs hx F H ad σ rs Q q => by
  obtain ⟨n, en, hx⟩ := bind_some hx
  rw [rngO_eq] at hx
  unfold rngO_d at hx
  split at hx
  · rename_i hc
    cases hx
    have hlim : lim = 16777216 := rfl
    refine h n en F H ad σ rs _ fun v F1 H1 g1 hv => ⟨n, hv, ⟨by decide, by decide, hc.2.2.2.1, hc.2.1, by omega⟩, fun r hr => ?_⟩
    rw [rgV_eq]
    refine q (.ref r) F1 _ (g1.trans (Grow.make g1.ex hr)) ⟨r, rfl, g1.hh.free hr, g1.ex.free hr, _, upd_same, ?_, paired_ints _⟩
    rw [List.length_map, rng_len]
    exact le_lim (by omega)
  · cases hx
theorem ev_listRg2 {ma mb : Option Int} (ha : Ev ta es ma) (hb : Ev tb es mb) : EvN (tLstRg (tRg2 ta tb)) es (ma.bind fun a => mb.bind fun b => rngO a b) := fun xs hx F H ad σ rs Q q => by
  obtain ⟨a, ea, hx⟩ := bind_some hx
  obtain ⟨b, eb, hx⟩ := bind_some hx
  rw [rngO_eq] at hx
  unfold rngO_d at hx
  split at hx
  · rename_i hc
    cases hx
    have hlim : lim = 16777216 := rfl
    refine ha a ea F H ad σ rs _ fun v F1 H1 g1 hv => ?_
    refine hb b eb F1 H1 ad σ (rs.grow g1) _ fun w F2 H2 g2 hw => ⟨a, b, hv, hw, ⟨hc.1, hc.2.2.1, hc.2.2.2.1, hc.2.1, by omega⟩, fun r hr => ?_⟩
    rw [rgV_eq]
    refine q (.ref r) F2 _ ((g1.trans g2).trans (Grow.make g2.ex hr)) ⟨r, rfl, (g1.trans g2).hh.free hr, g2.ex.free hr, _, upd_same, ?_, paired_ints _⟩
    rw [List.length_map, rng_len]
    exact le_lim (by omega)
  · cases hx
theorem ev_tupRg1 {m : Option Int} (h : Ev ta es m) : EvG (α := Tup Int) (RV (repTup (K := K))) (tTupRg (tRg1 ta)) es (m.bind fun n => rngO 0 n) := fun xs hx F H ad σ rs Q q => by
  obtain ⟨n, en, hx⟩ := bind_some hx
  rw [rngO_eq] at hx
  unfold rngO_d at hx
  split at hx
  · rename_i hc
    cases hx
    have hlim : lim = 16777216 := rfl
    refine h n en F H ad σ rs _ fun v F1 H1 g1 hv => ⟨n, hv, ⟨by decide, by decide, hc.2.2.2.1, hc.2.1, by omega⟩, fun r hr => ?_⟩
    rw [rgV_eq]
    refine q (.ref r) _ _ (g1.trans (Grow.lay g1.ex hr)) ⟨r, _, rfl, upd_same, ?_, paired_ints _⟩
    rw [List.length_map, rng_len]
    exact le_lim (by omega)
  · cases hx
noncomputable abbrev rngT (a b : Int) : Option (Tup Int) := rngO a b
theorem ei_rng3 {j : Nat} {ma mb mc : Option Int} (ha : Ev ta es ma) (hb : Ev tb es mb) (hc : Ev tc es mc) : EvI (iRng3 (tCons ta (tCons tb (tCons tc tNil)))) (gName j) [j] es (ma.bind fun a => mb.bind fun b => mc.bind fun c => rng3O a b c) (fun x es => es.set j (.val repInt x)) := fun xs hx F H ad σ rs Rk q => by
  obtain ⟨a, ea, hx⟩ := bind_some hx
  obtain ⟨b, eb, hx⟩ := bind_some hx
  obtain ⟨c, ec, hx⟩ := bind_some hx
  rw [rng3O_eq] at hx
  unfold rng3O_d at hx
  split at hx
  · rename_i hz
    cases hx
    have hlim : lim = 16777216 := rfl
    refine ha a ea F H ad σ rs _ fun v F1 H1 g1 hv => ?_
    refine hb b eb F1 H1 ad σ (rs.grow g1) _ fun w F2 H2 g2 hw => ?_
    refine hc c ec F2 H2 ad σ ((rs.grow g1).grow g2) _ fun u F3 H3 g3 hu => ?_
    have hsz : Builtin.Range.rangeSize a b c = (((b - a + c - 1) / c).toNat : Int) := by
      unfold Builtin.Range.rangeSize
      rw [if_pos hz.2.2.2.1]
      have h0 : 0 ≤ (b - a + c - 1) / c := Int.ediv_nonneg (by omega) (by omega)
      by_cases hab : a < b
      · rw [if_pos hab, show b - a + c - 1 = (b - a - 1) + c * 1 by omega, Int.add_mul_ediv_left _ _ (by omega : c ≠ 0)]
        have h1 : 0 ≤ (b - a - 1) / c := Int.ediv_nonneg (by omega) (by omega)
        omega
      · rw [if_neg hab, show b - a + c - 1 = c - 1 by omega, Int.ediv_eq_zero_of_lt (by omega) (by omega)]
        rfl
    have hle : (b - a + c - 1) / c ≤ b - a := by
      have h1 : (b - a) * 1 ≤ (b - a) * c := Int.mul_le_mul_of_nonneg_left (by omega) (by omega)
      have h2 : (b - a + c - 1) / c < b - a + 1 := Int.ediv_lt_of_lt_mul hz.2.2.2.1 (by rw [Int.add_mul]; omega)
      omega
    have hsm : Builtin.Range.small a b c = true := by
      unfold Builtin.Range.small
      rw [hsz]
      simp only [Builtin.Range.rangeFitsLong, Bool.and_eq_true, Bool.or_eq_true, decide_eq_true_eq, beq_iff_eq, show c > 0 from hz.2.2.2.1, if_true]
      refine ⟨?_, ?_⟩ <;> first | omega | (split <;> omega)
    refine ⟨a, b, c, ((b - a + c - 1) / c).toNat, by rw [show v = V.int a from hv, show w = V.int b from hw, show u = V.int c from hu], ⟨by omega, by omega, hsm, hsz⟩, ?_⟩
    refine q _ F3 H3 ((g1.trans g2).trans g3) ⟨?_, fun k x hk H2 s => ?_, fun H2 s => ?_, fun x es ad p z => own_setVal z, fun k x hk F2 H2 v2 H3 s s2 hy ad2 σ2 es2 r2 Q2 q2 => ?_⟩
    · rw [List.length_map, List.length_range]
      exact le_lim (by omega)
    · obtain ⟨hl, _⟩ := List.getElem?_eq_some_iff.mp hk
      rw [List.length_map, List.length_range] at hl
      exact hl
    · rw [List.length_map, List.length_range]
      exact Nat.le_refl _
    · obtain ⟨e2, hv2⟩ := hy
      subst e2
      obtain ⟨hl, e3⟩ := List.getElem?_eq_some_iff.mp hk
      rw [List.getElem_map, List.getElem_range] at e3
      rw [hv2, e3]
      exact tg_name r2 rfl q2
  · cases hx
theorem ev_flatN {α β : Type} [i : Rep K α] [Flat K α] {j : Rep K β} {xs : List β} {m : Option (List α)} (k : Nat) (h : es[k]? = some (.own j xs)) (he : EvN te (es.set k (.val (@repList K β j) xs)) m) : EvN te es m := by
  intro a ha F H ad σ rs Q q
  obtain ⟨p0, vs, h0, h3, h2, r2⟩ := rs.freeze h
  refine he a ha _ H ad σ r2 Q fun v F' H' g ⟨p, ev, hp, _, ws, k1, k2, k3⟩ => q v F H' ⟨Same.refl F, g.hh, rs.ex.trans g.hh, fun p o z _ f => f⟩ ⟨p, ev, hp, rs.ex.free hp, ws, k1, k2, pmono k3 fun u b z => Flat.flat (K := K) (show i.At F' u b from z)⟩
/-! ### a statement that is never reached -/
def tNever : TS := fun _ _ _ => False
theorem ps_never {X : Cx} {st : Stmt} : PS X st tNever := ⟨fun _ _ _ _ _ _ h => h.elim⟩
theorem sx_never {ρ X : Type} {R : RR ρ} {φ : X → Fl K ρ} {t : TS} : Sx R φ t es none := fun _ h => nomatch h
end
/-! ### built-in functions within a comprehension -/
theorem call_lenK {K : Fg} {X : Cx} (e : X.K = K) : CallR X (.builtin "len") (fun xs H Q => ∃ p ys, xs = [.ref p] ∧ (SqL K H p ys ∨ SqT K H p ys) ∧ Q (.int ys.length) H) := e ▸ call_len_seq
theorem call_listK {K : Fg} {X : Cx} (e : X.K = K) : CallR X (.type "list") (fun xs H Q => ∃ p ys, xs = [.ref p] ∧ (SqL K H p ys ∨ SqT K H p ys) ∧ ∀ l, H l = none → Q (.ref l) (L2.upd H l (.lst ys))) := e ▸ call_list_of
theorem call_tupleK {K : Fg} {X : Cx} (e : X.K = K) : CallR X (.type "tuple") (fun xs H Q => ∃ p ys, xs = [.ref p] ∧ ((SqL K H p ys ∧ ∀ l, H l = none → Q (.ref l) (L2.upd H l (.tup ys))) ∨ (SqT K H p ys ∧ Q (.ref p) H))) := e ▸ call_tuple_of
end Tf
set_option Elab.async false
set_option linter.all false
set_option maxRecDepth 100000
set_option maxHeartbeats 4000000
namespace Tf
open PySem PySem.Spec L2 PyProof.Rows

/-! ### lists of one's own lists -/
theorem pmemL {α β : Type} {P Q : α → β → Prop} {xs : List α} {ys : List β} (h : Paired P xs ys) (f : ∀ x y, x ∈ xs → P x y → Q x y) : Paired Q xs ys := by
  induction h with
  | nil => exact .nil
  | cons a _ ih => exact .cons (f _ _ (List.mem_cons.mpr (.inl rfl)) a) (ih fun x y hx p => f x y (List.mem_cons.mpr (.inr hx)) p)
theorem pmemR {α β : Type} {P : α → β → Prop} {xs : List α} {ys : List β} (h : Paired P xs ys) : ∀ x ∈ xs, ∃ y, P x y := by
  induction h with
  | nil => intro x hx; cases hx
  | cons a _ ih =>
    intro x hx
    rcases List.mem_cons.mp hx with e | e
    · subst e; exact ⟨_, a⟩
    · exact ih x e
theorem pmapL {α β γ : Type} {f : γ → α} {P : α → β → Prop} {xs : List γ} {ys : List β} (h : Paired (fun q y => P (f q) y) xs ys) : Paired P (xs.map f) ys := by
  induction h with
  | nil => exact .nil
  | cons a _ ih => exact .cons a ih
theorem psetL {α β : Type} {P : α → β → Prop} {vs : List α} {xs : List β} (h : Paired P vs xs) : ∀ (n : Nat) (v : α) (x : β), vs[n]? = some v → P v x → Paired P vs (xs.set n x) := by
  induction h with
  | nil => intro n v x hv; cases n <;> cases hv
  | cons a t ih =>
    intro n v x hv p
    cases n with
    | zero =>
      cases hv
      exact .cons p t
    | succ n => exact .cons a (ih n v x hv p)
section
variable {K : Fg} {α : Type}
def O2 (i : Rep K α) (F H : Hp) (v : V) (S : Addr → Prop) (xss : List (List α)) : Prop :=
  ∃ p ps, v = .ref p ∧ (∀ q, S q ↔ q = p ∨ q ∈ ps) ∧ F p = none ∧ p ∉ ps ∧ ps.Nodup ∧ H p = some (.lst (ps.map V.ref)) ∧ ps.length ≤ sizeLine ∧ Paired (fun q xs => F q = none ∧ OwnL i F H q xs) ps xss
theorem O2.move {i : Rep K α} {F H F' H' : Hp} {v : V} {S : Addr → Prop} {xss : List (List α)} (h : O2 i F H v S xss) (ff : Same F F') (hh : ∀ p, S p → H' p = H p) (fr : ∀ p, S p → F' p = none) : O2 i F' H' v S xss := by
  obtain ⟨p, ps, e, hS, hp, hn, hd, hl, hz, pr⟩ := h
  refine ⟨p, ps, e, hS, fr p ((hS p).mpr (.inl rfl)), hn, hd, by rw [hh p ((hS p).mpr (.inl rfl))]; exact hl, hz, pmemL pr fun q xs hq ⟨_, ho⟩ => ?_⟩
  have hq2 := (hS q).mpr (.inr hq)
  exact ⟨fr q hq2, ho.grow ff (hh q hq2).symm⟩
theorem O2.out {i : Rep K α} {F H : Hp} {v : V} {S : Addr → Prop} {xss : List (List α)} (h : O2 i F H v S xss) : ∀ p, S p → F p = none ∧ ∃ o, H p = some o ∧ ¬ NumT o := by
  obtain ⟨p, ps, e, hS, hp, hn, hd, hl, hz, pr⟩ := h
  intro q hq
  rcases (hS q).mp hq with z | z
  · subst z; exact ⟨hp, _, hl, lst_flat⟩
  · obtain ⟨y, hf, vs, hv, _⟩ := pmemR pr q z
    exact ⟨hf, _, hv, lst_flat⟩
@[reducible] def o2 (i : Rep K α) : ORep K (List (List α)) := ⟨O2 i, fun h => h.move, fun h => h.out⟩
abbrev ow2 [i : Rep K α] (a : List (List α)) : Ent K := .obj (o2 i) a
def RO {β : Type} (r : ORep K β) : RR β := fun fr F H v a => ∃ S, r.At F H v S a ∧ ∀ p, S p → fr p
instance goodRO {β : Type} {r : ORep K β} : GoodR (RO r) := ⟨fun g ⟨S, h, f⟩ => ⟨S, r.move h g.ff (fun p hp => by
    obtain ⟨_, o, ho, _⟩ := r.out h p hp
    rw [ho, g.hh p o ho]) (fun p hp => by
    obtain ⟨hf, o, ho, nf⟩ := r.out h p hp
    exact g.fr p o ho nf hf), f⟩, fun w ⟨S, h, f⟩ => ⟨S, h, fun p hp => w p (f p hp)⟩⟩
abbrev RO2t (K : Fg) (α : Type) [i : Rep K α] : RR (List (List α)) := RO (o2 i)
/-! freezing: all, the rows alone -/
theorem O2.frz {i : Rep K α} {F H : Hp} {v : V} {S : Addr → Prop} {xss : List (List α)} (h : O2 i F H v S xss) (s : Same F H) :
    ∃ G, Same F G ∧ Same G H ∧ (∀ p o, G p = some o → F p = none → S p) ∧ (@repList K _ (@repList K α i)).At G v xss := by
  obtain ⟨p, ps, e, hS, hp, hn, hd, hl, hz, pr⟩ := h
  have hq : ∀ q, q = p ∨ q ∈ ps → F q = none := fun q z => by
    rcases z with z | z
    · subst z; exact hp
    · obtain ⟨_, f, _⟩ := pmemR pr q z
      exact f
  have fg : Same F (fun q => if q = p ∨ q ∈ ps then H q else F q) := fun b x z => by
    show (if b = p ∨ b ∈ ps then H b else F b) = some x
    by_cases c : b = p ∨ b ∈ ps
    · rw [hq b c] at z
      cases z
    · rw [if_neg c]; exact z
  refine ⟨fun q => if q = p ∨ q ∈ ps then H q else F q, fg, fun b x z => ?_, fun b o z f => ?_, p, ps.map V.ref, e, ?_, by rw [List.length_map]; exact hz, pmapL (pmemL pr fun q xs hm ⟨_, vs, h1, h2, h3⟩ => ⟨q, vs, rfl, ?_, h2, pmono h3 fun _ _ z => i.mono fg z⟩)⟩
  · have z : (if b = p ∨ b ∈ ps then H b else F b) = some x := z
    by_cases c : b = p ∨ b ∈ ps
    · rw [if_pos c] at z; exact z
    · rw [if_neg c] at z; exact s _ _ z
  · have z : (if b = p ∨ b ∈ ps then H b else F b) = some o := z
    by_cases c : b = p ∨ b ∈ ps
    · exact (hS b).mpr c
    · rw [if_neg c, f] at z; cases z
  · show (if p = p ∨ p ∈ ps then H p else F p) = _
    rw [if_pos (.inl rfl)]; exact hl
  · show (if q = p ∨ q ∈ ps then H q else F q) = _
    rw [if_pos (.inr hm)]; exact h1
theorem O2.frzi {i : Rep K α} {F H : Hp} {v : V} {S : Addr → Prop} {xss : List (List α)} (h : O2 i F H v S xss) (s : Same F H) :
    ∃ p G, v = .ref p ∧ S p ∧ Same F G ∧ Same G H ∧ (∀ p o, G p = some o → F p = none → S p) ∧ G p = none ∧ OwnL (@repList K α i) G H p xss := by
  obtain ⟨p, ps, e, hS, hp, hn, hd, hl, hz, pr⟩ := h
  have fg : Same F (fun q => if q ∈ ps then H q else F q) := fun b x z => by
    show (if b ∈ ps then H b else F b) = some x
    by_cases c : b ∈ ps
    · obtain ⟨_, f, _⟩ := pmemR pr b c
      rw [f] at z
      cases z
    · rw [if_neg c]; exact z
  refine ⟨p, fun q => if q ∈ ps then H q else F q, e, (hS p).mpr (.inl rfl), fg, fun b x z => ?_, fun b o z f => ?_, ?_, ps.map V.ref, hl, by rw [List.length_map]; exact hz, pmapL (pmemL pr fun q xs hm ⟨_, vs, h1, h2, h3⟩ => ⟨q, vs, rfl, ?_, h2, pmono h3 fun _ _ z => i.mono fg z⟩)⟩
  · have z : (if b ∈ ps then H b else F b) = some x := z
    by_cases c : b ∈ ps
    · rw [if_pos c] at z; exact z
    · rw [if_neg c] at z; exact s _ _ z
  · have z : (if b ∈ ps then H b else F b) = some o := z
    by_cases c : b ∈ ps
    · exact (hS b).mpr (.inr c)
    · rw [if_neg c, f] at z; cases z
  · show (if p ∈ ps then H p else F p) = none
    rw [if_neg hn]; exact hp
  · show (if q ∈ ps then H q else F q) = _
    rw [if_pos hm]; exact h1
end
section
variable {K : Fg} {ρ X : Type} {R : RR ρ} {φ : X → Fl K ρ} {es : Env K} {t tz : TS} {te ti tj : TE} {α β : Type} {F H : Hp} {ad : Nat → Addr → Prop} {σ : L2.St} {j : Rep K α} {xss : List (List α)}
theorem RSt.regrow {e0 e1 : Ent K} {G : Hp} {i : Nat} {S : Addr → Prop} (r : RSt K F H ad σ es) (h : es[i]? = some e0) (hw : e0.isOwn = true) (hg : Same F G) (hG : Same G H)
    (hS : ∀ p o, G p = some o → F p = none → ad i p) (h1 : EntAt G H S (σ[i]?) e1) (hS1 : ∀ p, S p → ad i p) : RSt K G H (adSet ad i S) σ (es.set i e1) := by
  have out : ∀ k e, es[k]? = some e → e.isOwn = true → k ≠ i → ∀ p, ad k p → F p = none → G p = none := fun k e hk he hne p hp hf => by
    cases hg2 : G p with
    | none => rfl
    | some o => exact absurd (r.inj k i _ _ hk h he hw p hp (hS p o hg2 hf)) hne
  refine ⟨hG, by rw [List.length_set]; exact r.len, fun k e hk => ?_, fun k l e u hk hl he hu p e1 e2 => ?_⟩
  · rcases getset hk with ⟨rfl, hl, rfl⟩ | ⟨hne, hk⟩
    · rw [adSet_self]; exact h1
    · rw [adSet_ne hne]
      have x := r.ent k e hk
      have o2 := out k e hk
      cases e with
      | no => trivial
      | val j2 a =>
        obtain ⟨v, x1, x2⟩ := x
        exact ⟨v, x1, j2.mono hg x2⟩
      | own j2 ys =>
        obtain ⟨q, x0, x1, x2, ws, x3, x4, x5⟩ := x
        exact ⟨q, x0, x1, o2 rfl hne q ((x0 q).mpr rfl) x2, ws, x3, x4, pmono x5 fun _ _ z => j2.mono hg z⟩
      | obj j2 b =>
        obtain ⟨v, x1, x2⟩ := x
        exact ⟨v, x1, j2.move x2 hg (fun _ _ => rfl) fun p hp => o2 rfl hne p hp (j2.out x2 p hp).1⟩
  · rcases getset hk with ⟨hki, _, _⟩ | ⟨hne, hk'⟩
    · rcases getset hl with ⟨hli, _, _⟩ | ⟨hm, hl'⟩
      · rw [hki, hli]
      · rw [hki, adSet_self] at e1
        rw [adSet_ne hm] at e2
        exact absurd (r.inj l i _ _ hl' h hu hw p e2 (hS1 p e1)) hm
    · rcases getset hl with ⟨hli, _, _⟩ | ⟨hm, hl'⟩
      · rw [hli, adSet_self] at e2
        rw [adSet_ne hne] at e1
        exact absurd (r.inj k i _ _ hk' h he hw p e1 (hS1 p e2)) hne
      · rw [adSet_ne hne] at e1
        rw [adSet_ne hm] at e2
        exact r.inj k l e u hk' hl' he hu p e1 e2
theorem sv_fz2 (i : Nat) {M : Option (Fl K ρ)} [GoodR R] (h : es[i]? = some (.obj (o2 j) xss)) (hs : Sv R t (es.set i (.val (@repList K _ (@repList K α j)) xss)) M) : Sv R t es M := by
  intro fl hfl F H ad σ D rs fo
  obtain ⟨v, hv, ho⟩ := rs.ent i _ h
  obtain ⟨G, g1, g2, g3, g4⟩ := O2.frz ho rs.ex
  exact hs fl hfl _ H ad σ D (rs.frzObj h rfl hv g1 g2 g3 g4) (fo.trans (adv_frz h rfl g1 g3) fun p z => .inl (own_setVal z))
theorem sx_fz2 [GoodR R] (i : Nat) {m : Option X} (h : es[i]? = some (.obj (o2 j) xss)) (hs : Sx R φ t (es.set i (.val (@repList K _ (@repList K α j)) xss)) m) : Sx R φ t es m := sv_fz2 i h hs
theorem sx_fzi [GoodR R] (i : Nat) {m : Option X} (h : es[i]? = some (.obj (o2 j) xss)) (hs : Sx R φ t (es.set i (.own (@repList K α j) xss)) m) : Sx R φ t es m := by
  intro fl hfl F H ad σ D rs fo
  obtain ⟨v, hv, ho⟩ := rs.ent i _ h
  obtain ⟨p, G, e, g0, g1, g2, g3, g4, g5⟩ := O2.frzi ho rs.ex
  subst e
  refine hs fl hfl _ H _ σ D (rs.regrow (S := (· = p)) h rfl g1 g2 g3 ⟨p, fun _ => Iff.rfl, hv, g4, g5⟩ fun q z => by rw [z]; exact g0) (fo.trans (adv_frz h rfl g1 g3) fun q z => ?_)
  rcases own_setObj z with z | z
  · exact .inl z
  · exact .inl ⟨i, _, h, rfl, by rw [show q = p from z]; exact g0⟩
theorem ev_flat2 [i : Rep K β] [Flat K β] {m : Option β} (k : Nat) (h : es[k]? = some (.obj (o2 j) xss)) (he : Ev te (es.set k (.val (@repList K _ (@repList K α j)) xss)) m) : Ev te es m := by
  intro a ha F H ad σ rs Q q
  obtain ⟨v, hv, ho⟩ := rs.ent k _ h
  obtain ⟨G, g1, g2, g3, g4⟩ := O2.frz ho rs.ex
  refine he a ha _ H ad σ (rs.frzObj h rfl hv g1 g2 g3 g4) Q fun v F' H' g x => q v F H' ⟨Same.refl F, g.hh, rs.ex.trans g.hh, fun p o z _ f => f⟩ (Flat.flat (K := K) (show i.At F' v a from x))
theorem et_flat2 {m : Option Bool} {tt : TT} (k : Nat) (h : es[k]? = some (.obj (o2 j) xss)) (he : EvT tt (es.set k (.val (@repList K _ (@repList K α j)) xss)) m) : EvT tt es m := by
  intro a ha F H ad σ rs Q q
  obtain ⟨v, hv, ho⟩ := rs.ent k _ h
  obtain ⟨G, g1, g2, g3, g4⟩ := O2.frz ho rs.ex
  exact he a ha _ H ad σ (rs.frzObj h rfl hv g1 g2 g3 g4) Q fun F' H' g => q F H' ⟨Same.refl F, g.hh, rs.ex.trans g.hh, fun p o z _ f => f⟩
theorem ev_flatN2 [i : Rep K β] [Flat K β] {m : Option (List β)} (k : Nat) (h : es[k]? = some (.obj (o2 j) xss)) (he : EvN te (es.set k (.val (@repList K _ (@repList K α j)) xss)) m) : EvN te es m := by
  intro a ha F H ad σ rs Q q
  obtain ⟨v, hv, ho⟩ := rs.ent k _ h
  obtain ⟨G, g1, g2, g3, g4⟩ := O2.frz ho rs.ex
  refine he a ha _ H ad σ (rs.frzObj h rfl hv g1 g2 g3 g4) Q fun v F' H' g ⟨p, ev, hp, _, ws, k1, k2, k3⟩ => q v F H' ⟨Same.refl F, g.hh, rs.ex.trans g.hh, fun p o z _ f => f⟩ ⟨p, ev, hp, rs.ex.free hp, ws, k1, k2, pmono k3 fun u b z => Flat.flat (K := K) (show i.At F' u b from z)⟩
/-! assignment, return -/
theorem sx_asgO [GoodR R] {r : ORep K β} {i : Nat} {m : Option β} {k : β → Option X} (h : EvG (RO r) te es m) (h2 : ∀ a, Sx R φ tz (es.set i (.obj r a)) (k a)) : Sx R φ (tSeq (tAsg te (gName i)) tz) es (m.bind k) := by
  show Sv _ _ _ _
  rw [map_bind_]
  intro fl hfl F H ad σ D rs fo
  obtain ⟨a, ea, hk⟩ := bind_some hfl
  refine h a ea F H ad σ rs _ fun v F' H' g ⟨S, ho, hS⟩ => ?_
  refine h2 a fl hk F' H' _ _ D ((rs.grow g).setObj (e0 := .obj r a) (S := S) ⟨v, rfl, ho⟩ fun q hq e => ?_) (fo.trans g.adv fun q z => ?_)
  · obtain ⟨o, z⟩ := rs.ownThere hq
    have y : H q = none := hS q e
    rw [y] at z
    cases z
  · rcases own_setObj z with y | y
    · exact .inl y
    · exact .inr (hS q y)
theorem sv_retO {r : ORep K β} {i : Nat} {a : β} (h : es[i]? = some (.obj r a)) : Sv (RO r) (tSeq (tRet (tVar i)) tz) es (some (.rt a)) := by
  intro fl hfl F H ad σ D rs fo
  cases hfl
  obtain ⟨v, h1, h2⟩ := rs.ent i _ h
  exact ⟨v, h1, fo F H v Adv.refl rs.ex ⟨ad i, h2, fun p hp => .inl ⟨i, _, h, rfl, hp⟩⟩⟩
theorem sx_retO {r : ORep K β} {i : Nat} {a : β} (h : es[i]? = some (.obj r a)) : Sx (RO r) (.rt (K := K)) (tSeq (tRet (tVar i)) tz) es (some a) := sv_retO h
theorem sx_retOL {S : Type} {r : ORep K β} {i : Nat} {a : β} {enc : S → Env K} (h : es[i]? = some (.obj r a)) : Sx (RO r) (Lp.fl enc) (tSeq (tRet (tVar i)) tz) es (some (.rt a)) := sv_retO h
theorem ev_n21 {m : Option (List (List α))} (h : EvG (RO (o2 j)) te es m) : EvN te es m := fun a ha F H ad σ rs Q q =>
  h a ha F H ad σ rs Q fun v F' H' g ⟨S, ho, hS⟩ => by
    obtain ⟨p, G, e, g0, g1, g2, g3, g4, g5⟩ := O2.frzi ho g.ex
    refine q v G H' ⟨g.ff.trans g1, g.hh, g2, fun b o z n f => ?_⟩ ⟨p, e, hS p g0, g4, g5⟩
    cases hg : G b with
    | none => rfl
    | some u =>
      have y : H b = none := hS b (g3 b u hg (g.fr b o z n f))
      rw [y] at z
      cases z
/-! new ones -/
theorem ev_nil2 [j : Rep K α] : EvG (RO (o2 j)) (tLst tNil) es (some ([] : List (List α))) := fun a ha F H ad σ rs Q q => by
  cases ha
  refine ⟨by decide, fun p hp => ?_⟩
  have hf := rs.ex.free hp
  exact q (.ref p) F _ (Grow.make rs.ex hp) ⟨(· = p), ⟨p, [], rfl, fun q => ⟨fun z => .inl z, fun z => z.resolve_right fun y => by cases y⟩, hf, (fun z => by cases z), List.nodup_nil, upd_same, (by decide), .nil⟩, fun q z => by rw [show q = p from z]; exact hp⟩
theorem ev_one2 [j : Rep K α] {m : Option (List α)} (h : EvN te es m) : EvG (RO (o2 j)) (tLst (tCons te tNil)) es (m.bind fun x => some [x]) := fun a ha F H ad σ rs Q q => by
  obtain ⟨x, hx, ha⟩ := bind_some ha
  cases ha
  refine h x hx F H ad σ rs _ fun v F1 H1 g ⟨r, e, hr, fr, vs, h1, h2, h3⟩ => ?_
  refine ⟨by show 1 ≤ sizeLine; decide, fun p hp => ?_⟩
  subst e
  have hf := g.ex.free hp
  have ne : r ≠ p := fun z => by
    subst z
    rw [hp] at h1
    cases h1
  refine q (.ref p) F1 _ (g.trans (Grow.make g.ex hp)) ⟨fun q => q = p ∨ q ∈ [r], ⟨p, [r], rfl, fun _ => Iff.rfl, hf, fun z => ne (List.mem_singleton.mp z).symm, List.nodup_cons.mpr ⟨(fun z => by cases z), List.nodup_nil⟩, upd_same, by show 1 ≤ sizeLine; decide, .cons ⟨fr, vs, by rw [upd_ne ne]; exact h1, h2, h3⟩ .nil⟩, fun q z => ?_⟩
  rcases z with z | z
  · subst z; exact g.hh.free hp
  · rw [List.mem_singleton.mp z]; exact hr
theorem ev_cat2 {ta tb : TE} {ma mb : Option (List (List α))} (ha : EvG (RO (o2 j)) ta es ma) (hb : EvG (RO (o2 j)) tb es mb) : EvG (RO (o2 j)) (tOp rCat ta tb) es (ma.bind fun a => mb.bind fun b => catO a b) := fun c hc F H ad σ rs Q q => by
  obtain ⟨a, ea, hc⟩ := bind_some hc
  obtain ⟨b, eb, hc⟩ := bind_some hc
  rw [catO_eq] at hc
  unfold catO_d at hc
  split at hc
  · rename_i hz
    cases hc
    refine ha a ea F H ad σ rs _ fun v F1 H1 g1 k1 => ?_
    refine hb b eb F1 H1 ad σ (rs.grow g1) _ fun w F2 H2 g2 ⟨S2, o2', f2⟩ => ?_
    obtain ⟨S1, o1, f1⟩ := (goodRO (r := o2 j)).mono g2 k1
    have th1 : ∀ q, S1 q → ∃ o, H1 q = some o := fun q hq => by
      obtain ⟨S1', o1', f1'⟩ := k1
      obtain ⟨p, ps, e, hS, _, _, _, hl, _, pr⟩ := o1
      obtain ⟨p', ps', e', hS', _, _, _, hl', _, pr'⟩ := o1'
      subst e
      cases e'
      have z := g2.hh _ _ hl'
      rw [hl] at z
      have z2 : ps.map V.ref = ps'.map V.ref := by
        injection z with z
        injection z
      have z3 : ps = ps' := (List.map_inj_right (fun _ _ y => V.ref.inj y)).mp z2
      subst z3
      rcases (hS q).mp hq with y | y
      · subst y; exact ⟨_, hl'⟩
      · obtain ⟨_, _, vs, y2, _⟩ := pmemR pr' q y
        exact ⟨_, y2⟩
    obtain ⟨p, ps, e, hS, hp, hn, hd, hl, hz1, pr⟩ := o1
    obtain ⟨p2, ps2, e2, hS2, hp2, hn2, hd2, hl2, hz2, pr2⟩ := o2'
    have L1 := Paired.length pr
    have L2 := Paired.length pr2
    subst e e2
    have lz : (ps.map V.ref).length + (ps2.map V.ref).length ≤ sizeLine := by
      rw [List.length_map, List.length_map]
      exact le_lim (by omega)
    refine ⟨p, p2, _, _, rfl, rfl, hl, hl2, lz, fun r hr => ?_⟩
    have dis : ∀ q ∈ ps, q ∉ ps2 := fun q hq hq2 => by
      obtain ⟨o, z⟩ := th1 q ((hS q).mpr (.inr hq))
      have y : H1 q = none := f2 q ((hS2 q).mpr (.inr hq2))
      rw [y] at z
      cases z
    have th : ∀ q ∈ ps ++ ps2, q ≠ r := fun q hq z => by
      subst z
      rcases List.mem_append.mp hq with y | y
      · obtain ⟨_, _, vs, y2, _⟩ := pmemR pr q y
        rw [hr] at y2
        cases y2
      · obtain ⟨_, _, vs, y2, _⟩ := pmemR pr2 q y
        rw [hr] at y2
        cases y2
    have g := (g1.trans g2).trans (Grow.make (o := .lst (ps.map V.ref ++ ps2.map V.ref)) g2.ex hr)
    refine q (.ref r) F2 _ g ⟨fun q => q = r ∨ q ∈ ps ++ ps2, ⟨r, ps ++ ps2, rfl, fun _ => Iff.rfl, g2.ex.free hr, fun z => th r z rfl, ?_, by rw [List.map_append]; exact upd_same, by rw [List.length_append]; rw [List.length_map, List.length_map] at lz; exact lz, paired_append ?_ ?_⟩, fun q z => ?_⟩
    · rw [List.nodup_append]
      exact ⟨hd, hd2, fun a ha b hb e => dis a ha (e ▸ hb)⟩
    · refine pmemL pr fun q xs hq ⟨y1, vs, y2, y3⟩ => ⟨y1, vs, ?_, y3⟩
      rw [upd_ne (th q (List.mem_append.mpr (.inl hq)))]
      exact y2
    · refine pmemL pr2 fun q xs hq ⟨y1, vs, y2, y3⟩ => ⟨y1, vs, ?_, y3⟩
      rw [upd_ne (th q (List.mem_append.mpr (.inr hq)))]
      exact y2
    · rcases z with z | z
      · subst z; exact (g1.trans g2).hh.free hr
      · rcases List.mem_append.mp z with y | y
        · exact f1 q ((hS q).mpr (.inr y))
        · exact g1.hh.free (f2 q ((hS2 q).mpr (.inr y)))
  · cases hc
end
end Tf
set_option Elab.async false
set_option linter.all false
set_option maxRecDepth 100000
set_option maxHeartbeats 4000000
namespace Tf
open PySem PySem.Spec L2 PyProof.Rows

theorem psetN {α β : Type} {P Q : α → β → Prop} {ps : List α} {xs : List β} (h : Paired P ps xs) : ∀ (n : Nat) (q : α) (r : β), ps.Nodup → ps[n]? = some q → Q q r → (∀ q' x, q' ∈ ps → q' ≠ q → P q' x → Q q' x) → Paired Q ps (xs.set n r) := by
  induction h with
  | nil => intro n q r _ hv; cases n <;> cases hv
  | @cons a b as bs p t ih =>
    intro n q r nd hv hq f
    obtain ⟨na, nd⟩ := List.nodup_cons.mp nd
    cases n with
    | zero =>
      cases hv
      exact .cons hq (pmemL t fun x y hx pxy => f x y (List.mem_cons.mpr (.inr hx)) (fun e => na (e ▸ hx)) pxy)
    | succ n =>
      have hm : q ∈ as := List.mem_of_getElem? hv
      exact .cons (f a b (List.mem_cons.mpr (.inl rfl)) (fun e => na (e ▸ hm)) p) (ih n q r nd hv hq fun q' x hx ne pxy => f q' x (List.mem_cons.mpr (.inr hx)) ne pxy)
section
variable {K : Fg} {ρ X : Type} {R : RR ρ} {φ : X → Fl K ρ} {es : Env K} {t tz : TS} {te ti tj : TE} {α β : Type} {F H F' H' : Hp} {ad : Nat → Addr → Prop} {σ : L2.St} {j : Rep K α} {xss : List (List α)}
theorem O2.grow {v : V} {S : Addr → Prop} (h : O2 j F H v S xss) (g : Grow F H F' H') : O2 j F' H' v S xss :=
  h.move g.ff (fun p hp => by
    obtain ⟨_, o, ho, _⟩ := h.out p hp
    rw [ho, g.hh p o ho]) fun p hp => by
    obtain ⟨hf, o, ho, nf⟩ := h.out p hp
    exact g.fr p o ho nf hf
theorem RSt.updObj2 {e0 e1 : Ent K} {i : Nat} {S : Addr → Prop} {H' : Hp} {v : V} (r : RSt K F H ad σ es) (h : es[i]? = some e0) (hw : e0.isOwn = true) (hv : σ[i]? = some (some v)) (h1 : EntAt F H' S (some (some v)) e1) (hx : Same F H')
    (hh : ∀ p o, H p = some o → ¬ ad i p → H' p = some o) (hS : ∀ p, S p → ad i p ∨ ¬ OwA es ad p) : RSt K F H' (adSet ad i S) σ (es.set i e1) := by
  have ne : ∀ {k : Nat} {e : Ent K}, es[k]? = some e → e.isOwn = true → k ≠ i → ∀ p, ad k p → ¬ ad i p := fun {k e} hk he hn p a b => hn (r.inj k i _ _ hk h he hw p a b)
  refine ⟨hx, by rw [List.length_set]; exact r.len, fun k e hk => ?_, fun k l e u hk hl he hu p e1 e2 => ?_⟩
  · rcases getset hk with ⟨rfl, hl2, rfl⟩ | ⟨hne, hk⟩
    · rw [adSet_self, hv]
      exact h1
    · rw [adSet_ne hne]
      have x := r.ent k e hk
      cases e with
      | no => trivial
      | val j2 a => exact x
      | own j2 zs =>
        obtain ⟨q, x0, x1, x2, us, x3, x4, x5⟩ := x
        exact ⟨q, x0, x1, x2, us, hh q _ x3 (ne hk rfl hne q ((x0 q).mpr rfl)), x4, x5⟩
      | obj j2 b =>
        obtain ⟨w, x1, x2⟩ := x
        exact ⟨w, x1, j2.move x2 (Same.refl F) (fun p hp => by
          obtain ⟨_, o, ho, _⟩ := j2.out x2 p hp
          rw [ho, hh p o ho (ne hk rfl hne p hp)]) fun p hp => (j2.out x2 p hp).1⟩
  · have cl : ∀ {k : Nat} {e : Ent K}, es[k]? = some e → e.isOwn = true → k ≠ i → ad k p → ¬ S p := fun {k e} hk he hn a b => by
      rcases hS p b with z | z
      · exact ne hk he hn p a z
      · exact z ⟨k, e, hk, he, a⟩
    rcases getset hk with ⟨hki, _, _⟩ | ⟨hne, hk'⟩
    · rcases getset hl with ⟨hli, _, _⟩ | ⟨hm, hl'⟩
      · rw [hki, hli]
      · rw [hki, adSet_self] at e1
        rw [adSet_ne hm] at e2
        exact absurd e1 (cl hl' hu hm e2)
    · rcases getset hl with ⟨hli, _, _⟩ | ⟨hm, hl'⟩
      · rw [hli, adSet_self] at e2
        rw [adSet_ne hne] at e1
        exact absurd e2 (cl hk' he hne e1)
      · rw [adSet_ne hne] at e1
        rw [adSet_ne hm] at e2
        exact r.inj k l e u hk' hl' he hu p e1 e2
/-- what one owns changes, new parts join it -/
theorem sv_obj2 [GoodR R] {e0 e1 : Ent K} {i : Nat} {S : Addr → Prop} {H2 : Hp} {v : V} {M : Option (Fl K ρ)} {fl : Fl K ρ} {D : Ends} (hs : Sv R tz (es.set i e1) M) (hfl : M = some fl) (rs : RSt K F H ad σ es) (g : Grow F H F' H') (h : es[i]? = some e0) (hw : e0.isOwn = true) (hv : σ[i]? = some (some v)) (h1 : EntAt F' H2 S (some (some v)) e1) (hx : Same F' H2)
    (hh : ∀ p o, H' p = some o → ¬ ad i p → H2 p = some o) (dm : ∀ p o, H' p = some o → ∃ u, H2 p = some u) (hS : ∀ p, S p → ad i p ∨ H p = none) (fo : FlOk R (OwA es ad) F H D fl) : tz D σ H2 := by
  have hS2 : ∀ p, S p → ad i p ∨ ¬ OwA es ad p := fun p z => (hS p z).imp_right fun y w => by
    obtain ⟨o, ho⟩ := rs.ownThere w
    rw [y] at ho
    cases ho
  refine hs fl hfl F' _ _ σ D ((rs.grow g).updObj2 h hw hv h1 hx hh hS2) (fo.trans (g.adv.trans (ow1 := OwA es ad) (fun p z => .inl z) (adv_obj (es := es) h hw hh dm)) fun p z => ?_)
  rcases own_setObj z with z | z
  · exact .inl z
  · rcases hS p z with y | y
    · exact .inl ⟨i, _, h, hw, y⟩
    · exact .inr y
theorem sx_app2 [GoodR R] {i : Nat} {m : Option (List α)} {k : List (List α) → Option X} (h : es[i]? = some (.obj (o2 j) xss)) (he : EvN (i := j) te es m) (h2 : ∀ ys, Sx R φ tz (es.set i (.obj (o2 j) ys)) (k ys)) :
    Sx R φ (tSeq (tDrop (tBM K "list" rAppend (tVar i) (tCons te tNil))) tz) es ((m.bind fun x => appO xss x).bind k) := by
  show Sv _ _ _ _
  rw [map_bind_]
  intro fl hfl F H ad σ D rs fo
  obtain ⟨ys, hy, hk⟩ := bind_some hfl
  obtain ⟨x, hx, hy⟩ := bind_some hy
  rw [appO_eq] at hy
  unfold appO_d at hy
  split at hy
  · rename_i hz
    cases hy
    obtain ⟨v, hv, ho⟩ := rs.ent i _ h
    obtain ⟨p, ps, e, _, _, _, _, hl0, _, _⟩ := id ho
    subst e
    refine ⟨_, hv, .inl ⟨rfl, _, .inl (.inl hl0)⟩, ?_⟩
    refine he x hx F H ad σ rs _ fun w F1 H1 g ⟨q, e, hq, fq, ws, k1, k2, k3⟩ => ?_
    obtain ⟨p', ps', e', hS, hp, hn, hd, hl, hz2, pr⟩ := ho.grow g
    cases e'
    subst e
    have ll := Paired.length pr
    have nq : q ∉ p :: ps' := fun z => by
      have y : H q = none := hq
      obtain ⟨_, o, ho2, _⟩ := ho.out q ((hS q).mpr (List.mem_cons.mp z))
      rw [y] at ho2
      cases ho2
    have qp : q ≠ p := fun z => nq (by rw [z]; exact List.mem_cons.mpr (.inl rfl))
    have qs : q ∉ ps' := fun z => nq (List.mem_cons.mpr (.inr z))
    have zz := lt_lim hz
    refine ⟨_, ps'.map V.ref, .ref q, rfl, rfl, hl, by rw [List.length_map]; omega, ?_⟩
    refine sv_obj2 (D := D) (R := R) (e1 := .obj (o2 j) (xss ++ [x])) (S := fun a => a = p ∨ a ∈ ps' ++ [q]) (h2 _) hk rs g h rfl hv ⟨_, rfl, p, ps' ++ [q], rfl, fun _ => Iff.rfl, hp, ?_, ?_, ?_, ?_, ?_⟩ (upd_same_ g.ex hp) (fun a u e n => ?_) upd_dm (fun a z => ?_) fo
    · intro z
      rcases List.mem_append.mp z with z | z
      · exact hn z
      · exact qp (List.mem_singleton.mp z).symm
    · rw [List.nodup_append]
      exact ⟨hd, List.nodup_cons.mpr ⟨(fun z => by cases z), List.nodup_nil⟩, fun a ha b hb e => qs (by rw [← List.mem_singleton.mp hb, ← e]; exact ha)⟩
    · rw [List.map_append]
      exact upd_same
    · rw [List.length_append]
      simp only [List.length_cons, List.length_nil]
      omega
    · refine paired_snoc (pmemL pr fun a xs ha ⟨y1, vs, y2, y3⟩ => ⟨y1, vs, ?_, y3⟩) ⟨fq, ws, ?_, k2, k3⟩
      · rw [upd_ne fun z => hn (by rw [← z]; exact ha)]
        exact y2
      · rw [upd_ne qp]
        exact k1
    · rw [upd_ne fun z => n ((hS a).mpr (.inl z))]
      exact e
    · rcases z with z | z
      · exact .inl ((hS a).mpr (.inl z))
      · rcases List.mem_append.mp z with z | z
        · exact .inl ((hS a).mpr (.inr z))
        · rw [List.mem_singleton.mp z]
          exact .inr hq
  · cases hy
/-! a row changes -/
theorem O2.row {S : Addr → Prop} {n : Nat} {p q : Addr} {ps : List Addr} {r : List α} {ws : List V} (hS : ∀ q, S q ↔ q = p ∨ q ∈ ps) (hp : F p = none) (hn : p ∉ ps) (hd : ps.Nodup) (hl : H p = some (.lst (ps.map V.ref))) (hz : ps.length ≤ sizeLine) (pr : Paired (fun q xs => F q = none ∧ OwnL j F H q xs) ps xss)
    (hq : ps[n]? = some q) (hw : ws.length ≤ sizeLine) (pw : Paired (j.At F) ws r) : O2 j F (L2.upd H q (.lst ws)) (.ref p) S (xss.set n r) := by
  have hm : q ∈ ps := List.mem_of_getElem? hq
  obtain ⟨_, fq, _⟩ := pmemR pr q hm
  refine ⟨p, ps, rfl, hS, hp, hn, hd, ?_, hz, psetN pr n q r hd hq ⟨fq, ws, upd_same, hw, pw⟩ fun q' x hx ne ⟨y1, vs, y2, y3⟩ => ⟨y1, vs, ?_, y3⟩⟩
  · rw [upd_ne fun z => hn (by rw [z]; exact hm)]
    exact hl
  · rw [upd_ne ne]
    exact y2
def set2O (xss : List (List α)) (a b : Int) (x : α) : Option (List (List α)) := (ixN xss.length a).bind fun n => (xss[n]?).bind fun r => (setO r b x).map fun r' => xss.set n r'
noncomputable def app2O (xss : List (List α)) (a : Int) (x : α) : Option (List (List α)) := (ixN xss.length a).bind fun n => (xss[n]?).bind fun r => (appO r x).map fun r' => xss.set n r'
theorem sx_set2 [GoodR R] {i : Nat} {m : Option α} {ma mb : Option Int} {k : List (List α) → Option X} (h : es[i]? = some (.obj (o2 j) xss)) (he : Ev (i := j) te es m) (ha : Ev ti es ma) (hb : Ev tj es mb) (h2 : ∀ ys, Sx R φ tz (es.set i (.obj (o2 j) ys)) (k ys)) :
    Sx R φ (tSeq (tAsg te (gSub (tOp (rIxL K) (tVar i) ti) tj rSetL)) tz) es ((m.bind fun x => ma.bind fun a => mb.bind fun b => set2O xss a b x).bind k) := by
  show Sv _ _ _ _
  rw [map_bind_]
  intro fl hfl F H ad σ D rs fo
  obtain ⟨ys, hy, hk⟩ := bind_some hfl
  obtain ⟨x, hx, hy⟩ := bind_some hy
  obtain ⟨a, hxa, hy⟩ := bind_some hy
  obtain ⟨b, hxb, hy⟩ := bind_some hy
  obtain ⟨n, hn0, hy⟩ := bind_some hy
  obtain ⟨r, hr, hy⟩ := bind_some hy
  obtain ⟨r', hr', hy⟩ := map_some hy
  subst hy
  obtain ⟨kk, hkk, hr'⟩ := map_some hr'
  subst hr'
  refine he x hx F H ad σ rs _ fun v F1 H1 g1 av => ?_
  have r1 := rs.grow g1
  obtain ⟨w0, hv, ho⟩ := rs.ent i _ h
  refine ⟨_, hv, ?_⟩
  refine ha a hxa F1 H1 ad σ r1 _ fun w F2 H2 g2 aw => ?_
  obtain ⟨p, ps, e, hS, hp, hn, hd, hl, hz, pr⟩ := ho.grow (g1.trans g2)
  subst e
  have ll := Paired.length pr
  obtain ⟨q, hq, fq0, vs, hvs, hzv, pv⟩ := paired_of_get pr hr
  refine ⟨p, ps.map V.ref, a, .ref q, rfl, aw, .inl (.inl hl), ?_, ?_⟩
  · unfold atI
    rw [List.length_map, ll, hn0]
    show (ps.map V.ref)[n]? = _
    rw [List.getElem?_map, hq]
    rfl
  refine hb b hxb F2 H2 ad σ (r1.grow g2) _ fun u F3 H3 g3 au => ?_
  have g := (g1.trans g2).trans g3
  obtain ⟨p', ps', e', hS3, hp3, hn3, hd3, hl3, hz3, pr3⟩ := ho.grow g
  cases e'
  have pe : ps' = ps := by
    have z := g3.hh _ _ hl
    rw [hl3] at z
    have z2 : ps'.map V.ref = ps.map V.ref := by
      injection z with z
      injection z
    exact (List.map_inj_right (fun _ _ y => V.ref.inj y)).mp z2
  subst pe
  have pv3 : Paired (j.At F3) vs r := pmono pv fun _ _ z => j.mono g3.ff z
  have hvs3 : H3 q = some (.lst vs) := g3.hh _ _ hvs
  refine ⟨q, vs, b, kk, rfl, au, hvs3, by rw [Paired.length pv]; exact hkk, ?_⟩
  have hm : q ∈ ps' := List.mem_of_getElem? hq
  obtain ⟨_, fq, _⟩ := pmemR pr3 q hm
  refine sv_obj2 (D := D) (R := R) (e1 := .obj (o2 j) (xss.set n (r.set kk x))) (S := ad i) (h2 _) hk rs g h rfl hv ⟨_, rfl, O2.row hS3 hp3 hn3 hd3 hl3 hz3 pr3 hq (by rw [List.length_set]; exact hzv) (paired_set pv3 (j.mono (g2.ff.trans g3.ff) av) kk)⟩ (upd_same_ g.ex fq) (fun c u e n => ?_) upd_dm (fun c z => .inl z) fo
  rw [upd_ne fun z => n ((hS3 c).mpr (.inr (by rw [z]; exact hm)))]
  exact e
theorem sx_appR [GoodR R] {i : Nat} {m : Option α} {ma : Option Int} {k : List (List α) → Option X} (h : es[i]? = some (.obj (o2 j) xss)) (ha : Ev ti es ma) (he : Ev (i := j) te es m) (h2 : ∀ ys, Sx R φ tz (es.set i (.obj (o2 j) ys)) (k ys)) :
    Sx R φ (tSeq (tDrop (tBM K "list" rAppend (tOp (rIxL K) (tVar i) ti) (tCons te tNil))) tz) es ((ma.bind fun a => m.bind fun x => app2O xss a x).bind k) := by
  show Sv _ _ _ _
  rw [map_bind_]
  intro fl hfl F H ad σ D rs fo
  obtain ⟨ys, hy, hk⟩ := bind_some hfl
  obtain ⟨a, hxa, hy⟩ := bind_some hy
  obtain ⟨x, hx, hy⟩ := bind_some hy
  obtain ⟨n, hn0, hy⟩ := bind_some hy
  obtain ⟨r, hr, hy⟩ := bind_some hy
  obtain ⟨r', hr', hy⟩ := map_some hy
  subst hy
  rw [appO_eq] at hr'
  unfold appO_d at hr'
  split at hr'
  · rename_i hzz
    cases hr'
    obtain ⟨w0, hv, ho⟩ := rs.ent i _ h
    refine ⟨_, hv, ?_⟩
    refine ha a hxa F H ad σ rs _ fun w F2 H2 g2 aw => ?_
    obtain ⟨p, ps, e, hS, hp, hn, hd, hl, hz, pr⟩ := ho.grow g2
    subst e
    have ll := Paired.length pr
    obtain ⟨q, hq, fq0, vs, hvs, hzv, pv⟩ := paired_of_get pr hr
    refine ⟨p, ps.map V.ref, a, .ref q, rfl, aw, .inl (.inl hl), ?_, ?_⟩
    · unfold atI
      rw [List.length_map, ll, hn0]
      show (ps.map V.ref)[n]? = _
      rw [List.getElem?_map, hq]
      rfl
    refine ⟨.inl ⟨rfl, vs, .inl (.inl hvs)⟩, ?_⟩
    refine he x hx F2 H2 ad σ (rs.grow g2) _ fun u F3 H3 g3 au => ?_
    have g := g2.trans g3
    obtain ⟨p', ps', e', hS3, hp3, hn3, hd3, hl3, hz3, pr3⟩ := ho.grow g
    cases e'
    have pe : ps' = ps := by
      have z := g3.hh _ _ hl
      rw [hl3] at z
      have z2 : ps'.map V.ref = ps.map V.ref := by
        injection z with z
        injection z
      exact (List.map_inj_right (fun _ _ y => V.ref.inj y)).mp z2
    subst pe
    have pv3 : Paired (j.At F3) vs r := pmono pv fun _ _ z => j.mono g3.ff z
    have hvs3 : H3 q = some (.lst vs) := g3.hh _ _ hvs
    have lv := Paired.length pv
    have l2 := lt_lim hzz
    refine ⟨q, vs, u, rfl, rfl, hvs3, by omega, ?_⟩
    have hm : q ∈ ps' := List.mem_of_getElem? hq
    obtain ⟨_, fq, _⟩ := pmemR pr3 q hm
    refine sv_obj2 (D := D) (R := R) (e1 := .obj (o2 j) (xss.set n (r ++ [x]))) (S := ad i) (h2 _) hk rs g h rfl hv ⟨_, rfl, O2.row hS3 hp3 hn3 hd3 hl3 hz3 pr3 hq (by rw [List.length_append]; simp only [List.length_cons, List.length_nil]; omega) (paired_snoc pv3 au)⟩ (upd_same_ g.ex fq) (fun c u e n => ?_) upd_dm (fun c z => .inl z) fo
    rw [upd_ne fun z => n ((hS3 c).mpr (.inr (by rw [z]; exact hm)))]
    exact e
  · cases hr'
theorem O2.opt {v : V} {S : Addr → Prop} (h : O2 j F H v S xss) : O2 (@repOption K α j) F H v S (xss.map (List.map some)) := by
  obtain ⟨p, ps, e, hS, hp, hn, hd, hl, hz, pr⟩ := h
  refine ⟨p, ps, e, hS, hp, hn, hd, hl, hz, ?_⟩
  clear hS hn hd hl hz
  induction pr with
  | nil => exact .nil
  | cons a _ ih =>
    obtain ⟨y1, vs, y2, y3, y4⟩ := a
    exact .cons ⟨y1, vs, y2, y3, paired_some (i := j) y4⟩ ih
theorem sx_opt2 [GoodR R] (i : Nat) {m : Option X} (h : es[i]? = some (.obj (o2 j) xss)) (hs : Sx R φ t (es.set i (.obj (o2 (@repOption K α j)) (xss.map (List.map some)))) m) : Sx R φ t es m := by
  intro fl hfl F H ad σ D rs fo
  obtain ⟨v, hv, ho⟩ := rs.ent i _ h
  refine hs fl hfl F H ad σ D (rs.recast h rfl ⟨v, hv, ho.opt⟩) (fo.trans Adv.refl fun p ⟨k, e, hk, he, hp⟩ => ?_)
  rcases getset hk with ⟨rfl, _, _⟩ | ⟨hn, hk⟩
  · exact .inl ⟨_, _, h, rfl, hp⟩
  · exact .inl ⟨k, e, hk, he, hp⟩
/-! comprehensions whose items are new lists -/
theorem ev_comp2 {γ : Type} [j : Rep K β] {wi : TI} {g : TG} {tgt : List Nat} {tt : TT} {vs : List Nat} {m : Option (List γ)} {bind : γ → Env K → Env K} {p : γ → Option Bool} {f : γ → Option (List β)}
    (hI : EvI wi g tgt es m bind) (hv : ∀ k, k ∈ tgt → k ∈ vs) (hI2 : bind = bind) (ht : ∀ x, EvT tt (bind x (wipeE es vs)) (p x)) (he : ∀ x, EvN te (bind x (wipeE es vs)) (f x)) : EvG (RO (o2 j)) (tLc wi g tt te vs) es (m.bind fun xs => compO p f xs) := by
  intro ys hys F H ad σ rs Q q
  obtain ⟨xs, hm, hc⟩ := bind_some hys
  refine hI xs hm F H ad σ rs _ fun J F1 H1 g1 ok => ?_
  intro D hD
  have hDH : H D = none := g1.hh.free hD
  have fin : ∀ {F' H' : Hp} {ps : List Addr}, Grow F1 H1 F' H' → F' D = none → H' D = some (.lst (ps.map V.ref)) → ps.Nodup → D ∉ ps → (∀ q ∈ ps, H q = none) → Paired (fun q xs => F' q = none ∧ OwnL j F' H' q xs) ps ys → Q (.ref D) H' := fun {F' H' ps} g2 f2 h2 nd nD fr pr =>
    q (.ref D) F' H' (g1.trans g2) ⟨fun q => q = D ∨ q ∈ ps, ⟨D, ps, rfl, fun _ => Iff.rfl, f2, nD, nd, h2, by
      have e := Paired.length pr
      have := compO_len hc
      have := ok.sz
      omega, pr⟩, fun q z => by
      rcases z with z | z
      · rw [z]; exact hDH
      · exact fr q z⟩
  refine ⟨fun i n H' => i ≤ xs.length ∧ n = xs.length - i ∧ ∃ F' ps done rest, Grow F1 H1 F' H' ∧ F' D = none ∧ H' D = some (.lst (ps.map V.ref)) ∧ (ps.Nodup ∧ D ∉ ps ∧ (∀ q ∈ ps, H q = none)) ∧ Paired (fun q xs => F' q = none ∧ OwnL j F' H' q xs) ps done ∧ done.length ≤ i ∧ compO p f (xs.drop i) = some rest ∧ done ++ rest = ys,
    ⟨xs.length, Nat.zero_le _, rfl, F1, [], [], ys, Grow.make (rs.grow g1).ex hD, (rs.grow g1).ex.free hD, upd_same, ⟨List.nodup_nil, (fun z => by cases z), fun q z => by cases z⟩, .nil, Nat.le_refl _, hc, rfl⟩, ?_⟩
  rintro i n H' ⟨hi, rfl, F', ps, done, rest, g2, f2, h2, ⟨nd, nD, fr⟩, pr, hl, hr, hd⟩
  rcases Nat.lt_or_ge i xs.length with hlt | hge
  · have hx : xs[i]? = some xs[i] := List.getElem?_eq_getElem hlt
    refine .inr ⟨ok.go i _ hx H' (g2.ff.trans g2.ex), fun H2 => ∃ F' ps done rest, Grow F1 H1 F' H2 ∧ F' D = none ∧ H2 D = some (.lst (ps.map V.ref)) ∧ (ps.Nodup ∧ D ∉ ps ∧ (∀ q ∈ ps, H q = none)) ∧ Paired (fun q xs => F' q = none ∧ OwnL j F' H2 q xs) ps done ∧ done.length ≤ i + 1 ∧ compO p f (xs.drop (i + 1)) = some rest ∧ done ++ rest = ys,
      fun H2 h => ⟨xs.length - (i + 1), by omega, hlt, rfl, h⟩, fun v H2 hy => ?_⟩
    have r' : RSt K F' H' ad (L2.wipe σ vs) (wipeE es vs) := ((rs.grow g1).grow g2).wipe vs
    refine ok.it i _ hx F' H' v H2 g2.ff g2.ex hy ad _ _ r' _ fun F3 H3 σ3 g3 r3 hk hlen => ?_
    refine ⟨?_, ?_⟩
    · rw [wipe_ext hlen fun k hk2 => hk k fun z => hk2 (hv k z), wipe_idem]
    rw [drop_cons hx] at hr
    obtain ⟨b, hb, hr⟩ := bind_some (show (p xs[i]).bind _ = some rest from hr)
    refine ht xs[i] b hb F3 H3 ad σ3 r3 _ fun F4 H4 g4 => ?_
    have g34 := (g2.trans g3).trans g4
    have k4 : H4 D = some (.lst (ps.map V.ref)) := g4.hh _ _ (g3.hh _ _ h2)
    have n4 : F4 D = none := g4.fr _ _ (g3.hh _ _ h2) lst_flat (g3.fr _ _ h2 lst_flat f2)
    have pr4 : Paired (fun q xs => F4 q = none ∧ OwnL j F4 H4 q xs) ps done := pmemL pr fun a b _ ⟨y1, vs, y2, y3, y4⟩ => ⟨g4.fr _ _ (g3.hh _ _ y2) lst_flat (g3.fr _ _ y2 lst_flat y1), vs, g4.hh _ _ (g3.hh _ _ y2), y3, pmono y4 fun _ _ z => j.mono (g3.ff.trans g4.ff) z⟩
    cases b with
    | true =>
      rw [if_pos rfl] at hr
      rw [if_pos rfl]
      obtain ⟨y, hy2, hr⟩ := bind_some hr
      obtain ⟨rest2, hr2, hr⟩ := bind_some hr
      cases hr
      refine he xs[i] y hy2 F4 H4 ad σ3 (r3.grow g4) _ fun w F5 H5 g5 ⟨r, ew, hq, fq, ws, w1, w2, w3⟩ => ?_
      subst ew
      have hq : H4 r = none := hq
      have k5 : H5 D = some (.lst (ps.map V.ref)) := g5.hh _ _ k4
      have n5 : F5 D = none := g5.fr _ _ k4 lst_flat n4
      have g35 := g34.trans g5
      have rD : r ≠ D := fun z => by
        rw [z, k4] at hq
        cases hq
      have rps : r ∉ ps := fun z => by
        obtain ⟨_, _, vs, y2, _⟩ := pmemR pr4 r z
        rw [hq] at y2
        cases y2
      have e := Paired.length pr
      have sz := ok.sz
      refine ⟨ps.map V.ref, k5, ?_, F5, ps ++ [r], done ++ [y], rest2, ⟨g35.ff, fun b x z => ?_, fun b x z => ?_, g35.fr⟩, n5, by rw [List.map_append]; exact upd_same, ⟨?_, ?_, ?_⟩, paired_snoc (pmemL pr4 fun a b ha ⟨y1, vs, y2, y3, y4⟩ => ⟨g5.fr _ _ y2 lst_flat y1, vs, ?_, y3, pmono y4 fun _ _ z => j.mono g5.ff z⟩) ⟨fq, ws, ?_, w2, w3⟩, ?_, hr2, ?_⟩
      · rw [List.length_map]
        omega
      · rw [upd_ne (ne_of_none z hD)]
        exact g35.hh _ _ z
      · rw [upd_ne (ne_of_none z n5)]
        exact g35.ex _ _ z
      · rw [List.nodup_append]
        exact ⟨nd, List.nodup_cons.mpr ⟨(fun z => by cases z), List.nodup_nil⟩, fun a ha b hb e => rps (by rw [← List.mem_singleton.mp hb, ← e]; exact ha)⟩
      · intro z
        rcases List.mem_append.mp z with z | z
        · exact nD z
        · exact rD (List.mem_singleton.mp z).symm
      · intro a z
        rcases List.mem_append.mp z with z | z
        · exact fr a z
        · rw [List.mem_singleton.mp z]
          exact (g1.hh.trans g34.hh).free hq
      · rw [upd_ne fun z => nD (by rw [← z]; exact ha)]
        exact g5.hh _ _ y2
      · rw [upd_ne rD]
        exact w1
      · rw [List.length_append]
        exact Nat.add_le_add_right hl 1
      · rw [List.append_assoc]
        exact hd
    | false =>
      rw [if_neg Bool.false_ne_true] at hr
      rw [if_neg Bool.false_ne_true]
      exact ⟨F4, ps, done, rest, g34, n4, k4, ⟨nd, nD, fr⟩, pr4, Nat.le_succ_of_le hl, hr, hd⟩
  · have e : i = xs.length := Nat.le_antisymm hi hge
    subst e
    rw [List.drop_length] at hr
    cases hr
    rw [List.append_nil] at hd
    subst hd
    exact .inl ⟨ok.st H' (g2.ff.trans g2.ex), fin g2 f2 h2 nd nD fr pr⟩
theorem ev_lc2 {γ : Type} [j : Rep K β] {wi : TI} {g : TG} {tgt : List Nat} {vs : List Nat} {m : Option (List γ)} {bind : γ → Env K → Env K} {f : γ → Option (List β)}
    (hI : EvI wi g tgt es m bind) (hv : ∀ k, k ∈ tgt → k ∈ vs) (he : ∀ x, EvN te (bind x (wipeE es vs)) (f x)) : EvG (RO (o2 j)) (tLc wi g tYes te vs) es (m.bind fun xs => mapO f xs) := by
  have h := ev_comp2 (p := fun _ => some true) hI hv rfl (fun x => et_yes) he
  have e : (m.bind fun xs => compO (fun _ => some true) f xs) = m.bind fun xs => mapO f xs := by
    cases m with
    | none => rfl
    | some xs => exact compO_map f xs
  rw [← e]
  exact h
/-! list * int -/
def repLO_d {α : Type} (a : List α) (k : Int) : Option (List α) := if -(2 ^ 63) ≤ k ∧ k < 2 ^ 63 ∧ a.length * k.toNat ≤ lim then some (List.replicate k.toNat a).flatten else none
theorem repLO_ex (α : Type) : ∃ f : List α → Int → Option (List α), f = repLO_d := ⟨_, rfl⟩
noncomputable def repLO {α : Type} : List α → Int → Option (List α) := Classical.choose (repLO_ex α)
theorem repLO_eq {α : Type} (a : List α) (k : Int) : repLO a k = repLO_d a k := by
  have h : @repLO α = repLO_d := Classical.choose_spec (repLO_ex α)
  rw [h]
theorem paired_repL {γ δ : Type} {P : γ → δ → Prop} {xs : List γ} {ys : List δ} (h : Paired P xs ys) : ∀ n, Paired P (List.replicate n xs).flatten (List.replicate n ys).flatten
  | 0 => .nil
  | n + 1 => by
    rw [List.replicate_succ, List.replicate_succ, List.flatten_cons, List.flatten_cons]
    exact paired_append h (paired_repL h n)
theorem ev_rep {ta tb : TE} {γ : Type} [i : Rep K γ] {ma : Option (List γ)} {mb : Option Int} (ha : EvL ta es ma) (hb : Ev tb es mb) : EvN (tOp rRep ta tb) es (ma.bind fun a => mb.bind fun b => repLO a b) :=
  ev_op2 ha hb fun a b x y _ _ F H _ _ s ⟨p, vs, e, h, hl, pr⟩ hy => by
    rw [repLO_eq]
    refine ops_if fun hz => ?_
    have l1 := Paired.length pr
    have pr2 := paired_repL pr b.toNat
    have l2 : (List.replicate b.toNat vs).flatten.length = vs.length * b.toNat := by
      rw [List.length_flatten, List.map_replicate, List.sum_replicate_nat, Nat.mul_comm]
    have l3 : vs.length * b.toNat ≤ sizeLine := le_lim (by rw [l1]; exact hz.2.2)
    exact ops_new s (.lst (List.replicate b.toNat vs).flatten) (fun Q q => ⟨p, b, vs, e, hy, h, hz.1, hz.2.1, l3, q⟩) fun r hr => ⟨F, Grow.make s hr, r, rfl, hr, s.free hr, _, upd_same, by rw [l2]; exact l3, pr2⟩
/-! is True -/
theorem ev_isB {ta tb : TE} {ma mb : Option Bool} (ha : Ev ta es ma) (hb : Ev tb es mb) : Ev (tOp (fun x y H Q => ∃ a b, x = .bl a ∧ y = .bl b ∧ Q (.bl (decide (a = b))) H) ta tb) es (ma.bind fun a => mb.bind fun b => some (decide (a = b))) :=
  ev_op2 ha hb fun a b x y _ _ F H _ _ s hx hy => ops_pure s (.bl (decide (a = b))) rfl fun Q q => ⟨a, b, hx, hy, q⟩
theorem ev_isnotB {ta tb : TE} {ma mb : Option Bool} (ha : Ev ta es ma) (hb : Ev tb es mb) : Ev (tOp (fun x y H Q => ∃ a b, x = .bl a ∧ y = .bl b ∧ Q (.bl (!decide (a = b))) H) ta tb) es (ma.bind fun a => mb.bind fun b => some (!decide (a = b))) :=
  ev_op2 ha hb fun a b x y _ _ F H _ _ s hx hy => ops_pure s (.bl (!decide (a = b))) rfl fun Q q => ⟨a, b, hx, hy, q⟩
end
end Tf
set_option Elab.async false
set_option linter.all false
set_option maxRecDepth 100000
set_option maxHeartbeats 4000000
namespace Tf
open PySem PySem.Spec L2 PyProof.Rows

/-! ### a def that is never reached -/
theorem fn_void {K : Fg} {P : Program} {w : World} {mg : Str → Option Value} {base : Heap} {k : Nat} {x qual : Str} {st : Stmt} {fa : Addr} {fd : FuncData} {N ps : List Str} {ι ρ : Type} {R : RR ρ} {enc : ι → Env K}
    (Fn : Fun K x qual st fa fd) (S : FnScope N ps (defScope st)) : FnOk P w K mg base CX0 (k + 1) fa fd ps (SpF enc (fun _ => (none : Option ρ)) R) := by
  refine Fn.ok S (fun vs H Q E h => ?_) (fun cdv A outer s H vs Q E hr h => ?_)
  · obtain ⟨F, x, r, _, _, hf, _⟩ := h
    cases hf
  · obtain ⟨F, x, r, _, _, hf, _⟩ := h
    cases hf
/-! ### a list of one's own at a given place; a name that only points -/
section
variable {K : Fg} {α : Type}
@[reducible] def oPtr (K : Fg) (p : Addr) : ORep K Unit := ⟨fun _ _ v S _ => v = .ref p ∧ ∀ a, ¬ S a, fun ⟨e, h⟩ _ _ _ => ⟨e, h⟩, fun ⟨_, h⟩ p z => absurd z (h p)⟩
def AtQ (j : Rep K α) (q : Addr) (F H : Hp) (v : V) (S : Addr → Prop) (xs : List α) : Prop := v = .ref q ∧ (∀ a, S a ↔ a = q) ∧ F q = none ∧ OwnL j F H q xs
theorem AtQ.move {j : Rep K α} {q : Addr} {F H F' H' : Hp} {v : V} {S : Addr → Prop} {xs : List α} (h : AtQ j q F H v S xs) (ff : Same F F') (hh : ∀ p, S p → H' p = H p) (fr : ∀ p, S p → F' p = none) : AtQ j q F' H' v S xs := by
  obtain ⟨e, hS, hf, ho⟩ := h
  exact ⟨e, hS, fr q ((hS q).mpr rfl), ho.grow ff (hh q ((hS q).mpr rfl)).symm⟩
theorem AtQ.out {j : Rep K α} {q : Addr} {F H : Hp} {v : V} {S : Addr → Prop} {xs : List α} (h : AtQ j q F H v S xs) : ∀ p, S p → F p = none ∧ ∃ o, H p = some o ∧ ¬ NumT o := by
  obtain ⟨e, hS, hf, vs, ho, _⟩ := h
  intro p hp
  rw [(hS p).mp hp]
  exact ⟨hf, _, ho, lst_flat⟩
@[reducible] def oAt (j : Rep K α) (q : Addr) : ORep K (List α) := ⟨AtQ j q, fun h => h.move, fun h => h.out⟩
abbrev ptr (p : Addr) : Ent K := .obj (oPtr K p) ()
abbrev owq [j : Rep K α] (q : Addr) (xs : List α) : Ent K := .obj (oAt j q) xs
end
def Lp.pre {α S ρ : Type} (d : List α) : Lp (List α × S) ρ → Lp (List α × S) ρ
  | .nx r => .nx (d ++ r.1, r.2)
  | .ct r => .ct (d ++ r.1, r.2)
  | .bk r => .bk (d ++ r.1, r.2)
  | .rt q => .rt q
def walk2 {α S ρ : Type} (step : S → List α → Option (Lp (List α × S) ρ)) : List (List α) → S → Option (Lp (List (List α) × S) ρ)
  | [], s => some (.nx ([], s))
  | x :: xs, s => (step s x).bind fun
    | .nx t => (walk2 step xs t.2).map (Lp.pre [t.1])
    | .ct t => (walk2 step xs t.2).map (Lp.pre [t.1])
    | .bk _ => none
    | .rt r => some (.rt r)
theorem Lp.pre_pre {α S ρ : Type} (d e : List α) (l : Lp (List α × S) ρ) : (l.pre e).pre d = l.pre (d ++ e) := by
  cases l <;> simp only [Lp.pre, List.append_assoc]
section
variable {K : Fg} {ρ X : Type} {R : RR ρ} {φ : X → Fl K ρ} {es : Env K} {t tz tb : TS} {te ti tj : TE} {α β S : Type} {F H F' H' : Hp} {ad : Nat → Addr → Prop} {σ : L2.St} {j : Rep K α} {xs : List α} {xss : List (List α)} {q : Addr}
theorem AtQ.frz {v : V} {S : Addr → Prop} (h : AtQ j q F H v S xs) (s : Same F H) : ∃ G, Same F G ∧ Same G H ∧ (∀ p o, G p = some o → F p = none → S p) ∧ (@repList K α j).At G v xs := by
  obtain ⟨e, hS, hf, vs, h1, h2, h3⟩ := h
  have fg : Same F (upd F q (.lst vs)) := same_new hf
  refine ⟨upd F q (.lst vs), fg, fun b x z => ?_, fun b o z f => ?_, q, vs, e, upd_same, h2, pmono h3 fun _ _ z => j.mono fg z⟩
  · by_cases c : b = q
    · rw [c, upd_same] at z
      cases z
      rw [c]; exact h1
    · rw [upd_ne c] at z
      exact s _ _ z
  · by_cases c : b = q
    · exact (hS b).mpr c
    · rw [upd_ne c, f] at z
      cases z
theorem ev_flatQ [i : Rep K β] [Flat K β] {m : Option β} (k : Nat) (h : es[k]? = some (.obj (oAt j q) xs)) (he : Ev te (es.set k (.val (@repList K α j) xs)) m) : Ev te es m := by
  intro a ha F H ad σ rs Q w
  obtain ⟨v, hv, ho⟩ := rs.ent k _ h
  obtain ⟨G, g1, g2, g3, g4⟩ := AtQ.frz ho rs.ex
  refine he a ha _ H ad σ (rs.frzObj h rfl hv g1 g2 g3 g4) Q fun v F' H' g x => w v F H' ⟨Same.refl F, g.hh, rs.ex.trans g.hh, fun p o z _ f => f⟩ (Flat.flat (K := K) (show i.At F' v a from x))
theorem et_flatQ {m : Option Bool} {tt : TT} (k : Nat) (h : es[k]? = some (.obj (oAt j q) xs)) (he : EvT tt (es.set k (.val (@repList K α j) xs)) m) : EvT tt es m := by
  intro a ha F H ad σ rs Q w
  obtain ⟨v, hv, ho⟩ := rs.ent k _ h
  obtain ⟨G, g1, g2, g3, g4⟩ := AtQ.frz ho rs.ex
  exact he a ha _ H ad σ (rs.frzObj h rfl hv g1 g2 g3 g4) Q fun F' H' g => w F H' ⟨Same.refl F, g.hh, rs.ex.trans g.hh, fun p o z _ f => f⟩
theorem ev_flatNQ [i : Rep K β] [Flat K β] {m : Option (List β)} (k : Nat) (h : es[k]? = some (.obj (oAt j q) xs)) (he : EvN te (es.set k (.val (@repList K α j) xs)) m) : EvN te es m := by
  intro a ha F H ad σ rs Q w
  obtain ⟨v, hv, ho⟩ := rs.ent k _ h
  obtain ⟨G, g1, g2, g3, g4⟩ := AtQ.frz ho rs.ex
  refine he a ha _ H ad σ (rs.frzObj h rfl hv g1 g2 g3 g4) Q fun v F' H' g ⟨p, ev, hp, _, ws, k1, k2, k3⟩ => w v F H' ⟨Same.refl F, g.hh, rs.ex.trans g.hh, fun p o z _ f => f⟩ ⟨p, ev, hp, rs.ex.free hp, ws, k1, k2, pmono k3 fun u b z => Flat.flat (K := K) (show i.At F' u b from z)⟩
theorem ev_varQ {i : Nat} [j : Rep K α] {xs : List α} (h : es[i]? = some (.obj (oAt j q) xs)) : EvL (tVar i) es (some xs) := by
  intro c hc F H ad σ rs Q w
  cases hc
  obtain ⟨v, h1, e, hS, hf, vs, h3, h4, h5⟩ := rs.ent i _ h
  subst e
  exact ⟨_, h1, w _ F H (Grow.refl rs.ex) ⟨_, vs, rfl, h3, h4, h5⟩⟩
theorem sx_appQ [GoodR R] {i : Nat} {m : Option α} {k : List α → Option X} (h : es[i]? = some (.obj (oAt j q) xs)) (he : Ev (i := j) te es m) (h2 : ∀ ys, Sx R φ tz (es.set i (.obj (oAt j q) ys)) (k ys)) :
    Sx R φ (tSeq (tDrop (tBM K "list" rAppend (tVar i) (tCons te tNil))) tz) es ((m.bind fun x => appO xs x).bind k) := by
  show Sv _ _ _ _
  rw [map_bind_]
  intro fl hfl F H ad σ D rs fo
  obtain ⟨ys, hy, hk⟩ := bind_some hfl
  obtain ⟨x, hx, hy⟩ := bind_some hy
  rw [appO_eq] at hy
  unfold appO_d at hy
  split at hy
  · rename_i hz
    cases hy
    obtain ⟨v, hv, e, hS, hf, vs, h3, h4, h5⟩ := rs.ent i _ h
    subst e
    refine ⟨_, hv, .inl ⟨rfl, vs, .inl (.inl h3)⟩, ?_⟩
    refine he x hx F H ad σ rs _ fun w F1 H1 g aw => ?_
    have hl := Paired.length h5
    have hz2 := lt_lim hz
    have f1 := g.fr _ _ h3 lst_flat hf
    refine ⟨_, vs, w, rfl, rfl, g.hh _ _ h3, by omega, ?_⟩
    refine sv_obj2 (D := D) (R := R) (e1 := .obj (oAt j q) (xs ++ [x])) (S := ad i) (h2 _) hk rs g h rfl hv ⟨_, rfl, rfl, hS, f1, vs ++ [w], upd_same, by rw [List.length_append]; simp only [List.length_cons, List.length_nil]; omega, paired_snoc (pmono h5 fun _ _ z => j.mono g.ff z) aw⟩ (upd_same_ g.ex f1) (fun a u e n => ?_) upd_dm (fun a z => .inl z) fo
    rw [upd_ne fun z => n ((hS a).mpr z)]
    exact e
  · cases hy
/-! a loop over one's own rows that may grow -/
theorem set_mid {γ : Type} {d r : List γ} {x y : γ} {n : Nat} (h : d.length = n) : (d ++ x :: r).set n y = d ++ [y] ++ r := by
  subst h
  induction d with
  | nil => rfl
  | cons a d ih =>
    show a :: ((d ++ x :: r).set d.length y) = a :: (d ++ [y] ++ r)
    rw [ih]
theorem wk_set {e0 : Ent K} {k : Nat} {l : Env K} (h : l[k]? = some .no) : ∀ (n : Nat) (e : Ent K), l[n]? = some e → e = .no ∨ (l.set k e0)[n]? = some e := fun n e he => by
  by_cases hn : k = n
  · subst hn
    rw [h] at he
    cases he
    exact .inl rfl
  · exact .inr (by rw [List.getElem?_set_ne hn]; exact he)
theorem sv_for2 [GoodR R] {i r : Nat} {enc : S → Env K} {s0 : S} {step : S → List α → Option (Lp (List α × S) ρ)} (hir : i ≠ r) (hi : ∀ s, i < (enc s).length) (hr : ∀ s, (enc s)[r]? = some .no)
    (hb : ∀ p q s x, Sv R tb (((enc s).set i (ptr p)).set r (.obj (oAt j q) x)) ((step s x).map (Lp.fl fun t : List α × S => ((enc t.2).set i (ptr p)).set r (.obj (oAt j q) t.1)))) :
    Sv R (tFor (iList K (tVar i)) (gName r) tb) ((enc s0).set i (.obj (o2 j) xss)) ((walk2 step xss s0).map (Lp.fl fun t : List (List α) × S => (enc t.2).set i (.obj (o2 j) t.1))) := by
  intro fl hfl F1 H1 ad σ D rs fo
  obtain ⟨lp, hlp, hfl⟩ := map_some hfl
  subst hfl
  have hes : ((enc s0).set i (.obj (o2 j) xss))[i]? = some (.obj (o2 j) xss) := List.getElem?_set_self (hi s0)
  obtain ⟨v, hv, p, ps, e, hS, hp, hn, hd, hl, hz, pr⟩ := rs.ent i _ hes
  subst e
  have ln := Paired.length pr
  have inOw : ∀ a, a = p ∨ a ∈ ps → OwA ((enc s0).set i (.obj (o2 j) xss)) ad a := fun a z => ⟨i, _, hes, rfl, (hS a).mpr z⟩
  refine ⟨_, hv, p, rfl, ⟨_, .inl (.inl hl)⟩, ?_⟩
  refine ⟨fun n m σ' H' => n ≤ xss.length ∧ m = xss.length - n ∧ ∃ F' ad' s done, Adv (OwA ((enc s0).set i (.obj (o2 j) xss)) ad) F1 H1 F' H' ∧ (∀ a, OwA ((enc s).set i (ptr p)) ad' a → OwA ((enc s0).set i (.obj (o2 j) xss)) ad a ∨ H1 a = none) ∧ (∀ a, a = p ∨ a ∈ ps → ¬ OwA ((enc s).set i (ptr p)) ad' a) ∧ RSt K F' H' ad' σ' ((enc s).set i (ptr p)) ∧ (F' p = none ∧ H' p = some (.lst (ps.map V.ref))) ∧ done.length = n ∧ Paired (fun q xs => F' q = none ∧ OwnL j F' H' q xs) ps (done ++ xss.drop n) ∧ (walk2 step (xss.drop n) s).map (Lp.pre done) = some lp,
    ⟨xss.length, Nat.zero_le _, rfl, F1, adSet ad i (fun _ => False), s0, [], Adv.refl, fun a z => ?_, fun a ha z => ?_, ?_, ⟨hp, hl⟩, rfl, pr, ?_⟩, ?_⟩
  · obtain ⟨k, e, hk, he, hk2⟩ := z
    rcases getset hk with ⟨hki, _, _⟩ | ⟨hne, hk'⟩
    · rw [hki, adSet_self] at hk2
      exact hk2.elim
    · rw [adSet_ne hne] at hk2
      exact .inl ⟨k, e, by rw [List.getElem?_set_ne fun z => hne z.symm]; exact hk', he, hk2⟩
  · obtain ⟨k, e, hk, he, hk2⟩ := z
    rcases getset hk with ⟨hki, _, _⟩ | ⟨hne, hk'⟩
    · rw [hki, adSet_self] at hk2
      exact hk2
    · rw [adSet_ne hne] at hk2
      exact hne (rs.inj k i e _ (by rw [List.getElem?_set_ne fun z => hne z.symm]; exact hk') hes he rfl a hk2 ((hS a).mpr ha))
  · have u := rs.updObj2 (e1 := ptr p) (S := fun _ => False) hes rfl hv ⟨_, rfl, rfl, fun _ z => z⟩ rs.ex (fun _ _ z _ => z) (fun _ z => z.elim)
    rw [List.set_set] at u
    exact u
  · show (walk2 step xss s0).map (Lp.pre []) = some lp
    rw [hlp]
    show some (lp.pre []) = some lp
    congr 1
    cases lp <;> rfl
  rintro n m σ' H' ⟨hn2, rfl, F', ad', s, done, a, sb, ap, rr, ⟨hp', hl'⟩, hdl, pr', hd'⟩
  rcases Nat.lt_or_ge n xss.length with hlt | hge
  · have hx : xss[n]? = some xss[n] := List.getElem?_eq_getElem hlt
    have hq : ps[n]? = some ps[n] := List.getElem?_eq_getElem (by omega)
    generalize hqe : ps[n]'(by omega) = q at hq
    have hqm : q ∈ ps := List.mem_of_getElem? hq
    have ev : (ps.map V.ref)[n]? = some (V.ref q) := by rw [List.getElem?_map, hq]; rfl
    have sq : SqL K H' p (ps.map V.ref) := .inl (.inl hl')
    refine .inr ⟨⟨_, _, sq, ev⟩, fun σ2 H2 => ∃ F2 ad2 s2 done2, Adv (OwA ((enc s0).set i (.obj (o2 j) xss)) ad) F1 H1 F2 H2 ∧ (∀ a, OwA ((enc s2).set i (ptr p)) ad2 a → OwA ((enc s0).set i (.obj (o2 j) xss)) ad a ∨ H1 a = none) ∧ (∀ a, a = p ∨ a ∈ ps → ¬ OwA ((enc s2).set i (ptr p)) ad2 a) ∧ RSt K F2 H2 ad2 σ2 ((enc s2).set i (ptr p)) ∧ (F2 p = none ∧ H2 p = some (.lst (ps.map V.ref))) ∧ done2.length = n + 1 ∧ Paired (fun q xs => F2 q = none ∧ OwnL j F2 H2 q xs) ps (done2 ++ xss.drop (n + 1)) ∧ (walk2 step (xss.drop (n + 1)) s2).map (Lp.pre done2) = some lp,
      fun σ2 H2 h2 => ⟨xss.length - (n + 1), by omega, hlt, rfl, h2⟩, fun v2 H2 hy => ?_⟩
    obtain ⟨eH, hv2⟩ := hy
    subst eH
    have e3 := hv2 _ sq
    rw [ev] at e3
    cases e3
    rw [drop_cons hx] at hd' pr'
    obtain ⟨q2, hq2, fq, oq⟩ := paired_of_get pr' (i := n) (y := xss[n]) (by rw [List.getElem?_append_right (by omega), hdl, Nat.sub_self]; rfl)
    rw [hq] at hq2
    cases hq2
    have r2 := rr.setObj (i := r) (v := .ref q) (S := fun a => a = q) (e0 := .obj (oAt j q) xss[n]) ⟨_, rfl, rfl, fun _ => Iff.rfl, fq, oq⟩ (fun a ha z => ap a (.inr (by rw [show a = q from z]; exact hqm)) ha)
    have thereAll : ∀ a, a = p ∨ a ∈ ps → ∃ o, H2 a = some o := fun a z => by
      rcases z with z | z
      · rw [z]; exact ⟨_, hl'⟩
      · obtain ⟨_, _, vs, y, _⟩ := pmemR pr' a z
        exact ⟨_, y⟩
    have sbE : ∀ a, OwA ((((enc s).set i (ptr p))).set r (.obj (oAt j q) xss[n])) (adSet ad' r fun a => a = q) a → OwA ((enc s0).set i (.obj (o2 j) xss)) ad a ∨ H1 a = none := fun a z => by
      rcases own_setObj z with z | z
      · exact sb a z
      · exact .inl (inOw a (.inr (by rw [show a = q from z]; exact hqm)))
    have notE : ∀ a, a = p ∨ a ∈ ps → a ≠ q → ¬ OwA ((((enc s).set i (ptr p))).set r (.obj (oAt j q) xss[n])) (adSet ad' r fun a => a = q) a := fun a ha ne z => by
      rcases own_setObj z with z | z
      · exact ap a ha z
      · exact ne z
    obtain ⟨l0, hl0, hl1⟩ := map_some hd'
    obtain ⟨l, hst, hl0⟩ := bind_some (show (step s xss[n]).bind _ = some l0 from hl0)
    show tb _ (σ'.set r (some (.ref q))) H2
    refine hb p q s xss[n] (l.fl fun t : List α × S => ((enc t.2).set i (ptr p)).set r (.obj (oAt j q) t.1)) (by rw [hst]; rfl) F' H2 _ _ _ r2 ?_
    have nxt : ∀ t : List α × S, (walk2 step (xss.drop (n + 1)) t.2).map (Lp.pre [t.1]) = some l0 → ∀ F4 H4 ad4 σ4, Adv (OwA ((((enc s).set i (ptr p))).set r (.obj (oAt j q) xss[n])) (adSet ad' r fun a => a = q)) F' H2 F4 H4 → (∀ a, OwA (((enc t.2).set i (ptr p)).set r (.obj (oAt j q) t.1)) ad4 a → OwA ((((enc s).set i (ptr p))).set r (.obj (oAt j q) xss[n])) (adSet ad' r fun a => a = q) a ∨ H2 a = none) → RSt K F4 H4 ad4 σ4 (((enc t.2).set i (ptr p)).set r (.obj (oAt j q) t.1)) →
        ∃ F2 ad2 s2 done2, Adv (OwA ((enc s0).set i (.obj (o2 j) xss)) ad) F1 H1 F2 H4 ∧ (∀ a, OwA ((enc s2).set i (ptr p)) ad2 a → OwA ((enc s0).set i (.obj (o2 j) xss)) ad a ∨ H1 a = none) ∧ (∀ a, a = p ∨ a ∈ ps → ¬ OwA ((enc s2).set i (ptr p)) ad2 a) ∧ RSt K F2 H4 ad2 σ4 ((enc s2).set i (ptr p)) ∧ (F2 p = none ∧ H4 p = some (.lst (ps.map V.ref))) ∧ done2.length = n + 1 ∧ Paired (fun q xs => F2 q = none ∧ OwnL j F2 H4 q xs) ps (done2 ++ xss.drop (n + 1)) ∧ (walk2 step (xss.drop (n + 1)) s2).map (Lp.pre done2) = some lp := fun t ht F4 H4 ad4 σ4 b sb4 r4 => by
      have hr2 : ((enc t.2).set i (ptr p))[r]? = some .no := by rw [List.getElem?_set_ne hir]; exact hr t.2
      have hr4 : (((enc t.2).set i (ptr p)).set r (.obj (oAt j q) t.1))[r]? = some (.obj (oAt j q) t.1) := List.getElem?_set_self (by
        have := (List.getElem?_eq_some_iff.mp hr2).1
        exact this)
      obtain ⟨v4, _, ev4, hS4, fq4, oq4⟩ := r4.ent r _ hr4
      have wk : ∀ (n : Nat) (e : Ent K), ((enc t.2).set i (ptr p))[n]? = some e → e = .no ∨ (((enc t.2).set i (ptr p)).set r (.obj (oAt j q) t.1))[n]? = some e := wk_set hr2
      have r5 := r4.wk (es1 := (enc t.2).set i (ptr p)) (by rw [List.length_set, List.length_set, List.length_set]) wk
      have ow5 : ∀ a, OwA ((enc t.2).set i (ptr p)) ad4 a → OwA (((enc t.2).set i (ptr p)).set r (.obj (oAt j q) t.1)) ad4 a := fun a z => own_wk wk z
      have nq : ¬ OwA ((enc t.2).set i (ptr p)) ad4 q := fun ⟨k, e, hk, he, hk2⟩ => by
        have hkr : k ≠ r := fun z => by
          rw [z, hr2] at hk
          cases hk
          cases he
        refine hkr (r4.inj k r e _ ?_ hr4 he rfl q hk2 ((hS4 q).mpr rfl))
        rw [List.getElem?_set_ne fun z => hkr z.symm]
        exact hk
      have keep : ∀ a, a = p ∨ a ∈ ps → a ≠ q → ∀ o, H2 a = some o → H4 a = some o := fun a ha ne o ho => b.hh a o ho (notE a ha ne)
      have pq : p ≠ q := fun z => hn (by rw [z]; exact hqm)
      refine ⟨F4, ad4, t.2, done ++ [t.1], a.trans sbE b, fun c z => sub_trans a sbE (sb4 c (ow5 c z)), fun c hc z => ?_, r5, ⟨?_, keep p (.inl rfl) pq _ hl'⟩, by rw [List.length_append, hdl]; rfl, ?_, ?_⟩
      · by_cases hcq : c = q
        · rw [hcq] at z
          exact nq z
        · rcases sb4 c (ow5 c z) with y | y
          · exact notE c hc hcq y
          · obtain ⟨o, ho⟩ := thereAll c hc
            rw [y] at ho
            cases ho
      · exact (b.fr p _ hl' lst_flat hp').resolve_left (notE p (.inl rfl) pq)
      · have := psetN (Q := fun q xs => F4 q = none ∧ OwnL j F4 H4 q xs) pr' n q t.1 hd hq ⟨fq4, oq4⟩ fun q' x hq' ne ⟨y1, vs, y2, y3⟩ => ⟨(b.fr q' _ y2 lst_flat y1).resolve_left (notE q' (.inr hq') ne), vs, keep q' (.inr hq') ne _ y2, y3.1, pmono y3.2 fun _ _ z => j.mono b.ff z⟩
        rw [set_mid hdl] at this
        exact this
      · obtain ⟨l2, h2, h3⟩ := map_some ht
        rw [h2]
        show some (l2.pre (done ++ [t.1])) = some lp
        rw [← Lp.pre_pre, h3, hl1]
    cases l with
    | nx t => exact fun F4 H4 ad4 σ4 b sb4 r4 => nxt t hl0 F4 H4 ad4 σ4 b sb4 r4
    | ct t => exact fun F4 H4 ad4 σ4 b sb4 r4 => nxt t hl0 F4 H4 ad4 σ4 b sb4 r4
    | bk t => cases hl0
    | rt w =>
      have hl0 : some (Lp.rt w) = some l0 := hl0
      cases hl0
      cases hl1
      exact fun F4 H4 w b ex x => fo F4 H4 w (a.trans sbE b) ex (GoodR.weak (fun p z => sub_trans a sbE z) x)
  · have e : n = xss.length := Nat.le_antisymm hn2 hge
    subst e
    rw [List.drop_length] at hd' pr'
    rw [List.append_nil] at pr'
    obtain ⟨l0, hl0, hl1⟩ := map_some hd'
    have hl0 : some (Lp.nx (([] : List (List α)), s)) = some l0 := hl0
    cases hl0
    cases hl1
    refine .inl ⟨⟨_, .inl (.inl hl'), by rw [List.length_map]; omega⟩, ?_⟩
    have hp2 : ((enc s).set i (ptr p))[i]? = some (ptr p) := List.getElem?_set_self (hi s)
    obtain ⟨v5, hv5, ev5, hS5⟩ := rr.ent i _ hp2
    subst ev5
    have u := rr.updObj2 (e1 := .obj (o2 j) (done ++ [])) (S := fun a => a = p ∨ a ∈ ps) hp2 rfl hv5 ⟨_, rfl, p, ps, rfl, fun _ => Iff.rfl, hp', hn, hd, hl', hz, by rw [List.append_nil]; exact pr'⟩ rr.ex (fun _ _ z _ => z) (fun c z => .inr (ap c z))
    rw [List.set_set] at u
    refine fo F' H' _ σ' a (fun c z => ?_) u
    have z2 : OwA (((enc s).set i (ptr p)).set i (.obj (o2 j) (done ++ []))) (adSet ad' i fun a => a = p ∨ a ∈ ps) c := by rw [List.set_set]; exact z
    rcases own_setObj z2 with y | y
    · exact sb c y
    · exact .inl (inOw c y)
theorem sx_for2R [GoodR R] {i r : Nat} {enc : S → Env K} {s0 : S} {step : S → List α → Option (Lp (List α × S) ρ)} {k : List (List α) × S → Option ρ} (he : es = (enc s0).set i (.obj (o2 j) xss)) (hir : i ≠ r) (hi : ∀ s, i < (enc s).length) (hr : ∀ s, (enc s)[r]? = some .no)
    (hb : ∀ p q s x, Sx R (Lp.fl fun t : List α × S => ((enc t.2).set i (ptr p)).set r (.obj (oAt j q) t.1)) tb (((enc s).set i (ptr p)).set r (.obj (oAt j q) x)) (step s x)) (hk : ∀ t, Sx R .rt tz ((enc t.2).set i (.obj (o2 j) t.1)) (k t)) :
    Sx R (.rt (K := K)) (tSeq (tFor (iList K (tVar i)) (gName r) tb) tz) es ((walk2 step xss s0).bind fun l => l.els k some) := by
  subst he
  show Sv _ _ _ _
  rw [els_rt]
  exact seq_els (sv_for2 hir hi hr hb) hk
theorem sx_for2P [GoodR R] {S2 : Type} {enc2 : S2 → Env K} {i r : Nat} {enc : S → Env K} {s0 : S} {step : S → List α → Option (Lp (List α × S) ρ)} {k : List (List α) × S → Option (Lp S2 ρ)} (he : es = (enc s0).set i (.obj (o2 j) xss)) (hir : i ≠ r) (hi : ∀ s, i < (enc s).length) (hr : ∀ s, (enc s)[r]? = some .no)
    (hb : ∀ p q s x, Sx R (Lp.fl fun t : List α × S => ((enc t.2).set i (ptr p)).set r (.obj (oAt j q) t.1)) tb (((enc s).set i (ptr p)).set r (.obj (oAt j q) x)) (step s x)) (hk : ∀ t, Sx R (Lp.fl enc2) tz ((enc t.2).set i (.obj (o2 j) t.1)) (k t)) :
    Sx R (Lp.fl enc2) (tSeq (tFor (iList K (tVar i)) (gName r) tb) tz) es ((walk2 step xss s0).bind fun l => l.els k fun q => some (.rt q)) := by
  subst he
  show Sv _ _ _ _
  rw [els_lp]
  exact seq_els (sv_for2 hir hi hr hb) hk
end
/-! tuples or texts -/
section
variable {K : Fg} {α β : Type} {es : Env K} {ta : TE}
instance apTS : Apart (dTup (K := K) (α := Int)).toD (dStr (K := K)).toD := ⟨fun _ _ => ⟨by simp [RepD.toD, PyData.eqv], by simp [RepD.toD, PyData.eqv]⟩⟩
instance ap32 {γ δ ε : Type} [i : Rep K α] [d : RepD K α] [j : Rep K β] [e : RepD K β] [k : Rep K γ] [f : RepD K γ] [l : Rep K δ] [g : RepD K δ] [m : Rep K ε] [h : RepD K ε] : Apart (dT3 (K := K) (α := α) (β := β) (γ := γ)).toD (dProd (K := K) (α := δ) (β := ε)).toD := ⟨fun _ _ => ⟨by simp [RepD.toD, PyData.eqv, PyData.eqvAll], by simp [RepD.toD, PyData.eqv, PyData.eqvAll]⟩⟩
theorem ev_isiS [i : Rep K α] [j : Rep K β] {T T2 : String} [IsTy K α T] [IsTy K β T2] {U : String} {b b2 : Bool} (hk : ∀ K : Fg, PySem.W.kitOne K (.type T) (.type U) = some b) (hk2 : ∀ K : Fg, PySem.W.kitOne K (.type T2) (.type U) = some b2) {ma : Option (α ⊕ β)} (ha : Ev ta es ma) :
    Ev (tCB (rIsi K) (tCons ta (tCons (tC (.ty U)) tNil))) es (ma.bind fun x => some (Sum.elim (fun _ => b) (fun _ => b2) x)) := fun c hc F H ad σ rs Q q => by
  obtain ⟨a, ea, hc⟩ := bind_some hc
  cases hc
  refine ha a ea F H ad σ rs _ fun v F1 H1 g1 h1 => ?_
  cases a with
  | inl a => exact ⟨v, .ty U, .type T, .type U, b, rfl, .ty U, tyx_same g1.ex (IsTy.ty (show i.At F1 v a from h1)), hk K, q _ F1 H1 g1 rfl⟩
  | inr a => exact ⟨v, .ty U, .type T2, .type U, b2, rfl, .ty U, tyx_same g1.ex (IsTy.ty (show j.At F1 v a from h1)), hk2 K, q _ F1 H1 g1 rfl⟩
end
/-! a list of two, unpacked -/
def unpL2 {α : Type} : List α → Option (α × α)
  | [a, b] => some (a, b)
  | _ => none
section
variable {K : Fg} {ρ X : Type} {R : RR ρ} {φ : X → Fl K ρ} {es : Env K} {tz : TS} {te : TE} {α : Type}
theorem sx_unpL [GoodR R] [j : Rep K α] {i n : Nat} {m : Option (List α)} {k : α × α → Option X} (ha : EvL te es m) (h2 : ∀ x, Sx R φ tz ((es.set i (.val j x.1)).set n (.val j x.2)) (k x)) :
    Sx R φ (tSeq (tAsg te (gUnl K 2 (gCons (gName i) (gCons (gName n) gNil)))) tz) es ((m.bind unpL2).bind k) := by
  show Sv _ _ _ _
  rw [map_bind_]
  intro fl hfl F H ad σ D rs fo
  obtain ⟨x, hx, hk⟩ := bind_some hfl
  obtain ⟨xs, ex, hx⟩ := bind_some hx
  refine ha xs ex F H ad σ rs _ fun v F1 H1 g1 ⟨p, vs, ev, hl, hz, pr⟩ => ?_
  subst ev
  match xs, hx, pr with
  | [a, b], hx, pr =>
    cases hx
    cases pr with
    | cons pa pr =>
      cases pr with
      | cons pb pr =>
        cases pr
        rename_i u w
        have r1 := rs.grow g1
        refine ⟨p, [u, w], rfl, .inl (.inl hl), rfl, u, [w], rfl, w, [], rfl, rfl, ?_⟩
        exact h2 (a, b) fl hk F1 H1 ad _ D ((r1.setVal pa).setVal pb) (fo.trans g1.adv fun p z => .inl (own_set2 z))
end
/-! a pair of a text and a list of one's own -/
section
variable {K : Fg} {α : Type}
def AtP (j : Rep K α) (F H : Hp) (v : V) (S : Addr → Prop) (a : Str × List α) : Prop := ∃ t q, v = .ref t ∧ (∀ x, S x ↔ x = t ∨ x = q) ∧ t ≠ q ∧ F t = none ∧ F q = none ∧ H t = some (.tup [.str a.1, .ref q]) ∧ OwnL j F H q a.2
theorem AtP.move {j : Rep K α} {F H F' H' : Hp} {v : V} {S : Addr → Prop} {a : Str × List α} (h : AtP j F H v S a) (ff : Same F F') (hh : ∀ p, S p → H' p = H p) (fr : ∀ p, S p → F' p = none) : AtP j F' H' v S a := by
  obtain ⟨t, q, e, hS, hn, ft, fq, ht, ho⟩ := h
  have st := (hS t).mpr (.inl rfl)
  have sq := (hS q).mpr (.inr rfl)
  exact ⟨t, q, e, hS, hn, fr t st, fr q sq, by rw [hh t st]; exact ht, ho.grow ff (hh q sq).symm⟩
theorem AtP.out {j : Rep K α} {F H : Hp} {v : V} {S : Addr → Prop} {a : Str × List α} (h : AtP j F H v S a) : ∀ p, S p → F p = none ∧ ∃ o, H p = some o ∧ ¬ NumT o := by
  obtain ⟨t, q, e, hS, hn, ft, fq, ht, vs, hq, _⟩ := h
  intro p hp
  rcases (hS p).mp hp with z | z
  · rw [z]; exact ⟨ft, _, ht, ref_flat (p := q) (by simp)⟩
  · rw [z]; exact ⟨fq, _, hq, lst_flat⟩
@[reducible] def oP (j : Rep K α) : ORep K (Str × List α) := ⟨AtP j, fun h => h.move, fun h => h.out⟩
abbrev owp [j : Rep K α] (a : Str × List α) : Ent K := .obj (oP j) a
abbrev ROPt (K : Fg) (α : Type) [i : Rep K α] : RR (Str × List α) := RO (oP i)
end
section
variable {K : Fg} {ρ X : Type} {R : RR ρ} {φ : X → Fl K ρ} {es : Env K} {t tz : TS} {te : TE} {α β : Type} {F H : Hp} {ad : Nat → Addr → Prop} {σ : L2.St} {j : Rep K α} {a : Str × List α}
theorem AtP.frz {v : V} {S : Addr → Prop} (h : AtP j F H v S a) (s : Same F H) : ∃ G, Same F G ∧ Same G H ∧ (∀ p o, G p = some o → F p = none → S p) ∧ (@repProd K Str (List α) _ (@repList K α j)).At G v a := by
  obtain ⟨t, q, e, hS, hn, ft, fq, ht, vs, hq, h2, h3⟩ := h
  have g1 : Same F (upd F q (.lst vs)) := same_new fq
  have t2 : (upd F q (.lst vs)) t = none := by rw [upd_ne hn]; exact ft
  have g2 : Same (upd F q (.lst vs)) (upd (upd F q (.lst vs)) t (.tup [.str a.1, .ref q])) := same_new t2
  have gq : (upd (upd F q (.lst vs)) t (.tup [.str a.1, .ref q])) q = some (.lst vs) := by rw [upd_ne (Ne.symm hn)]; exact upd_same
  refine ⟨upd (upd F q (.lst vs)) t (.tup [.str a.1, .ref q]), g1.trans g2, fun b x z => ?_, fun b o z f => ?_, t, .str a.1, .ref q, e, .inl (.inl upd_same), rfl, q, vs, rfl, gq, h2, pmono h3 fun _ _ z => j.mono (g1.trans g2) z⟩
  · by_cases c : b = t
    · rw [c, upd_same] at z
      cases z
      rw [c]; exact ht
    · rw [upd_ne c] at z
      by_cases d : b = q
      · rw [d, upd_same] at z
        cases z
        rw [d]; exact hq
      · rw [upd_ne d] at z
        exact s _ _ z
  · by_cases c : b = t
    · exact (hS b).mpr (.inl c)
    · rw [upd_ne c] at z
      by_cases d : b = q
      · exact (hS b).mpr (.inr d)
      · rw [upd_ne d, f] at z
        cases z
theorem ev_flatP [i : Rep K β] [Flat K β] {m : Option β} (k : Nat) (h : es[k]? = some (.obj (oP j) a)) (he : Ev te (es.set k (.val (@repProd K Str (List α) _ (@repList K α j)) a)) m) : Ev te es m := by
  intro c hc F H ad σ rs Q w
  obtain ⟨v, hv, ho⟩ := rs.ent k _ h
  obtain ⟨G, g1, g2, g3, g4⟩ := AtP.frz ho rs.ex
  refine he c hc _ H ad σ (rs.frzObj h rfl hv g1 g2 g3 g4) Q fun v F' H' g x => w v F H' ⟨Same.refl F, g.hh, rs.ex.trans g.hh, fun p o z _ f => f⟩ (Flat.flat (K := K) (show i.At F' v c from x))
theorem et_flatP {m : Option Bool} {tt : TT} (k : Nat) (h : es[k]? = some (.obj (oP j) a)) (he : EvT tt (es.set k (.val (@repProd K Str (List α) _ (@repList K α j)) a)) m) : EvT tt es m := by
  intro c hc F H ad σ rs Q w
  obtain ⟨v, hv, ho⟩ := rs.ent k _ h
  obtain ⟨G, g1, g2, g3, g4⟩ := AtP.frz ho rs.ex
  exact he c hc _ H ad σ (rs.frzObj h rfl hv g1 g2 g3 g4) Q fun F' H' g => w F H' ⟨Same.refl F, g.hh, rs.ex.trans g.hh, fun p o z _ f => f⟩
theorem ev_newP {s : Str} {m : Option (List α)} (h : EvN (i := j) te es m) : EvG (RO (oP j)) (tTup (tCons (tC (.str s)) (tCons te tNil))) es (m.bind fun xs => some (s, xs)) := fun c hc F H ad σ rs Q w => by
  obtain ⟨xs, hx, hc⟩ := bind_some hc
  cases hc
  refine h xs hx F H ad σ rs _ fun v F1 H1 g ⟨q, e, hq, fq, vs, k1, k2, k3⟩ => ⟨by show 2 ≤ sizeLine; decide, fun t ht => ?_⟩
  subst e
  have ne : t ≠ q := fun z => by
    rw [z, k1] at ht
    cases ht
  refine w (.ref t) F1 _ (g.trans (Grow.make g.ex ht)) ⟨fun x => x = t ∨ x = q, ⟨t, q, rfl, fun _ => Iff.rfl, ne, g.ex.free ht, fq, upd_same, vs, by rw [upd_ne (Ne.symm ne)]; exact k1, k2, k3⟩, fun x hx => ?_⟩
  rcases hx with z | z
  · rw [z]; exact g.hh.free ht
  · rw [z]; exact hq
theorem sv_retP {s : Str} {i : Nat} {xs : List α} (h : es[i]? = some (.own j xs)) : Sv (RO (oP j)) (tSeq (tRet (tTup (tCons (tC (.str s)) (tCons (tVar i) tNil)))) tz) es (some (.rt (s, xs))) := by
  intro fl hfl F H ad σ D rs fo
  cases hfl
  obtain ⟨q, h0, h1, fq, vs, k1, k2, k3⟩ := rs.ent i _ h
  refine ⟨_, h1, by show 2 ≤ sizeLine; decide, fun t ht => ?_⟩
  have ne : t ≠ q := fun z => by
    rw [z, k1] at ht
    cases ht
  refine fo F _ (.ref t) (Grow.make rs.ex ht).adv (rs.ex.trans (same_new ht)) ⟨fun x => x = t ∨ x = q, ⟨t, q, rfl, fun _ => Iff.rfl, ne, rs.ex.free ht, fq, upd_same, vs, by rw [upd_ne (Ne.symm ne)]; exact k1, k2, k3⟩, fun x hx => ?_⟩
  rcases hx with z | z
  · rw [z]; exact .inr ht
  · rw [z]; exact .inl ⟨i, _, h, rfl, (h0 q).mpr rfl⟩
theorem sx_retP {s : Str} {i : Nat} {xs : List α} (h : es[i]? = some (.own j xs)) : Sx (RO (oP j)) (.rt (K := K)) (tSeq (tRet (tTup (tCons (tC (.str s)) (tCons (tVar i) tNil)))) tz) es (some (s, xs)) := sv_retP h
theorem sx_appPr [GoodR R] {i : Nat} {m : Option X} (h : es[i]? = some (.obj (oP j) a)) (h2 : Sx R φ tz (es.set i .no) m) :
    Sx R φ (tSeq (tDrop (tBM K "list" rAppend (tOp (rIxT K) (tVar i) (tC (.int 1))) (tCons (tC .non) tNil))) tz) es ((appO (a.2.map some) none).bind fun _ => m) := by
  show Sv _ _ _ _
  rw [map_bind_]
  intro fl hfl F H ad σ D rs fo
  obtain ⟨ys, hy, hk⟩ := bind_some hfl
  rw [appO_eq] at hy
  unfold appO_d at hy
  split at hy
  · rename_i hz
    obtain ⟨v, hv, t, q, e, hS, hn, ft, fq, ht, vs, k1, k2, k3⟩ := rs.ent i _ h
    subst e
    have hl := Paired.length k3
    rw [List.length_map] at hz
    have hz2 := lt_lim hz
    refine ⟨_, hv, t, _, 1, .ref q, rfl, rfl, .inl (.inl ht), rfl, .inl ⟨rfl, vs, .inl (.inl k1)⟩, ?_⟩
    refine ⟨q, vs, .non, rfl, rfl, k1, by omega, ?_⟩
    refine sv_obj2 (D := D) (R := R) (e1 := .no) (S := ad i) h2 hk rs (Grow.refl rs.ex) h rfl hv trivial (upd_same_ rs.ex fq) (fun c u e n => ?_) upd_dm (fun c z => .inl z) fo
    rw [upd_ne fun z => n ((hS c).mpr (.inr z))]
    exact e
  · cases hy
end
end Tf
set_option Elab.async false
set_option linter.all false
set_option maxRecDepth 100000
set_option maxHeartbeats 4000000
namespace Tf
open PySem PySem.Spec L2 PyProof.Rows
/-! ### enumerate of a tuple -/
theorem meets_enum_one {v : Value} {o : Obj} {H : Heap → Prop} (B : Begins v o H) :
    Meets (Builtin.«enumerate.__new__» ⟨[.type "enumerate", v], []⟩) (fun _ R s => H s.heap ∧
      R (.ok (.ret (.ref (s.heap.push o).objs.size))) { s with heap := (s.heap.push o).push { cls := .type "enumerate", data := .fields #[.none, .bool false, .ref s.heap.objs.size, rawInt 0, .none, .none] } }) :=
  .of_wp fun prog w A R s h => by
    obtain ⟨hp, g, d, tk, os⟩ := s
    obtain ⟨h1, h⟩ := h
    have hsub := sub_enumerate
    have q1 : ∀ {A' : Around} {E : Value → Shared → Prop} {Q : Value → Shared → Prop}, Q (.ref hp.objs.size) ⟨hp.push o, g, d, tk, os⟩ → wpAny (model prog w) A' (pyIter v) Q E ⟨hp, g, d, tk, os⟩ :=
      fun q => B.iter prog w _ _ ⟨hp, g, d, tk, os⟩ _ h1 q
    wp_walk using q1
    refine wpAny_stack_any fun st => wpAny_pure ?_
    split
    · rename_i c _ _ _ _ _
      cases (c == Value.type "enumerate")
      · wp_walk using q1
        exact ⟨_, rfl, h⟩
      · wp_walk using q1
        exact ⟨_, rfl, h⟩
    · wp_walk using q1
      exact ⟨_, rfl, h⟩
theorem call_enum_tup {prog : Program} {w : World} {A : Around} {E : Value → Shared → Prop} {s : Shared} {l : Addr} {items : Array Value} {Q : Value → Shared → Prop} (hL : s.heap.IsTuple l items)
    (h : ∀ h', IsEnum h' (s.heap.objs.size + 1) s.heap.objs.size 0 .none → h'.IsTupleIter s.heap.objs.size l 0 → h'.objs.size = s.heap.objs.size + 2 →
      (∀ b o, s.heap.get? b = some o → h'.get? b = some o) → Q (.ref (s.heap.objs.size + 1)) { s with heap := h' }) :
    wpAny (model prog w) A (call (.type "enumerate") [.ref l]) Q E s := by
  refine callType_new F.called_enumerate (by decide) (F.typeCall_enumerate_1 _) (F.newCall_enumerate_1 _) (fun obj => F.args_object_init_2 obj _) F.entry_enumerate_new
    (meets_enum_one (begins_tuple l items)) ⟨hL, ?_⟩
  have hz : (s.heap.push { cls := .type "tuple_iterator", data := .fields #[.ref l, .int 0 0] }).objs.size = s.heap.objs.size + 1 := Heap.size_push ..
  show _ ∧ _
  rw [hz]
  have he : IsEnum ((s.heap.push { cls := .type "tuple_iterator", data := .fields #[.ref l, .int 0 0] }).push
      { cls := .type "enumerate", data := .fields #[.none, .bool false, .ref s.heap.objs.size, rawInt 0, .none, .none] }) (s.heap.objs.size + 1) s.heap.objs.size 0 .none := by
    have := Heap.get?_push_size (s.heap.push { cls := .type "tuple_iterator", data := .fields #[.ref l, .int 0 0] })
      (o := { cls := .type "enumerate", data := .fields #[.none, .bool false, .ref s.heap.objs.size, rawInt 0, .none, .none] }) rfl
    rw [hz] at this; exact this
  refine ⟨⟨_, he, rfl⟩, h _ he ⟨_, Heap.get?_push_of_some _ (Heap.get?_push_size _ rfl), rfl, rfl⟩ (by rw [Heap.size_push, hz]) fun b o x => Heap.get?_push_of_some _ (Heap.get?_push_of_some _ x)⟩
def IteT (K : PySem.W.Frag) (a : Addr) (n : Nat) : It :=
  ⟨fun i H => ∃ (xs : List V) (x : V), SqT K H a xs ∧ xs.length = n ∧ xs[i]? = some x, fun i H v H' => ∃ T x, v = .ref T ∧ H T = none ∧ H' = upd H T (.tup [.int (i : Nat), x]) ∧ ∀ xs, SqT K H a xs → xs[i]? = some x, fun i H => ∃ xs : List V, SqT K H a xs ∧ xs.length = n ∧ n ≤ i⟩
theorem turn_enumT {P : Program} {w : World} {K : PySem.W.Frag} {elts : List Expr} {kk : Nat} {tpos : Pos} (a e it : Addr) (n : Nat) :
    Turn P w K (.Tuple elts kk tpos) (IteT K a n) [e, it] e (fun i h => (∃ old, IsEnum h e it ((i : Nat) : Int) old) ∧ h.IsTupleIter it a i ∧ e ≠ it ∧ a ≠ e ∧ a ≠ it ∧ i ≤ n) where
  mem := by simp
  obj := fun i h st b hb => by
    obtain ⟨⟨old, he⟩, ⟨o, ho, hc, hd⟩, _⟩ := st
    have e' : b = e ∨ b = it := by simpa using hb
    rcases e' with z | z
    · rw [z]; exact ⟨_, he, fun v q => nomatch q⟩
    · rw [z]; exact ⟨o, ho, fun v q => by rw [hd] at q; cases q⟩
  keep := fun i h h' st k => let ⟨⟨old, he⟩, hi, hne⟩ := st; ⟨⟨old, k e (by simp) _ he⟩, hi.at fun o q => k it (by simp) o q, hne⟩
  item := by
    intro X hP hw hK hc i pins s σ H E I hf st hg
    subst hP hw hK
    obtain ⟨⟨old, he⟩, hit, hne, hae, hai, hin⟩ := st
    obtain ⟨xs, x, hq, hn, hx⟩ := hg
    obtain ⟨its, rv, p, _⟩ := I.tuple hq
    obtain ⟨u, hu, ru⟩ := rv.get hx
    have hlen := rv.length
    have hlt : i < its.toArray.size := by
      have := (List.getElem?_eq_some_iff.mp hu).1
      simpa using this
    have hel : e < s.heap.objs.size := Heap.lt_size he
    have hil : it < s.heap.objs.size := by obtain ⟨_, q, _⟩ := hit; exact Heap.lt_size q
    refine wpAny_pyNext_enum_itemD (Draws.tuple (prog := X.prog) (w := X.w) (A := X.A.in1) (show X.A.in1.handled = none from I.ok.hd hc) it a hai its.toArray) he ⟨hit, p⟩ hlt hne (by simp [hne, hae.symm]) fun x2 h' tk hP2 ho hst' hT hsz hk => ?_
    have ex : x2 = u := by
      have hP2 : its.toArray[i]? = some x2 := hP2
      have h3 : its.toArray[i]? = some u := by simpa using hu
      rw [h3] at hP2
      exact (Option.some.inj hP2).symm
    subst ex
    refine ⟨_, rfl, wpAny_letOwnedTupleGo_enum (s := { s with heap := h', toks := tk + 1 }) ho fun h'' he' sb => ?_⟩
    have hT2 : h''.get? s.heap.objs.size = some { cls := .type "tuple", data := .seq #[.int i tk, x2] } := (sb.2 _ (Nat.ne_of_gt hel)).trans hT
    have new : ObjOk X.prog X.w (upd H s.heap.objs.size (.tup [.int (i : Nat), x])) h'' s.heap.objs.size (.tup [.int (i : Nat), x]) :=
      ⟨by show 2 ≤ sizeLine; decide, [.int i tk, x2], .cons ⟨_, rfl⟩ (.cons ru .nil), ⟨_, hT2, rfl, _, rfl⟩⟩
    have I1 : Inv X pins σ (upd H s.heap.objs.size (.tup [.int (i : Nat), x])) { s with heap := h'', toks := tk + 1 } :=
      I.turnedNew (ch := [e, it]) (fun b ob hb q => (sb.2 b (fun z => hb (by simp [z]))).trans (hk b ob (fun z => hb (by simp [z])) (fun z => hb (by simp [z])) q)) hf (Nat.le_refl _) new
    refine ⟨.ref s.heap.objs.size, _, I1, rfl, ⟨_, x, rfl, I.hok.fresh (Nat.le_refl _), rfl, fun ys hy => by rw [I.tuple_inj hy hq]; exact hx⟩, ⟨⟨x2, ?_⟩, hst'.1.at fun o q => (sb.2 it (Ne.symm hne)).trans q, hne, hae, hai, ?_⟩, fun b hb => ?_⟩
    · have e1 : ((i + 1 : Nat) : Int) = (i : Int) + 1 := by omega
      rw [e1]; exact he'
    · have := (List.getElem?_eq_some_iff.mp hx).1
      omega
    · have hb' : b < s.heap.objs.size := by
        have e' : b = e ∨ b = it := by simpa using hb
        rcases e' with z | z
        · rw [z]; exact hel
        · rw [z]; exact hil
      rw [upd_ne (Nat.ne_of_lt hb')]
      exact (hf b hb).1
  done := by
    intro X hP hw hK hc i pins s σ H E I hf st hg
    subst hP hw hK
    obtain ⟨⟨old, he⟩, hit, hne, hae, hai, hin⟩ := st
    obtain ⟨xs, hq, hn, hx⟩ := hg
    obtain ⟨its, rv, p, _⟩ := I.tuple hq
    obtain ⟨f0, f1, f2, f3, f4, f5⟩ := hf it (by simp)
    have hl := rv.length
    have ei : i = its.toArray.size := by simp; omega
    subst ei
    exact wpAny_pyNext_enum_endD (Draws.tuple (prog := X.prog) (w := X.w) (A := X.A.in1) (show X.A.in1.handled = none from I.ok.hd hc) it a hai its.toArray) he ⟨hit, p⟩ fun h' eb => ⟨rfl, I.turned (t' := s.toks) (fun b o hb q => eb b o hb q) f0 f1 f3 f4 f5⟩
  self := fun A i s Q E st h => let ⟨⟨_, he⟩, _⟩ := st; wpAny_pyIter_enum he h
def iEnumT (K : PySem.W.Frag) (ta : TA) : TI := fun σ H R => ta σ H fun vs H1 => ∃ a xs, vs = [.ref a] ∧ SqT K H1 a xs ∧ R (IteT K a xs.length) H1
theorem pi_enumT {X : Cx} {e : Expr} {ta : TA} {p pos tpos : Pos} {elts : List Expr} {kk : Nat} (hg : Gl X "enumerate") (hm : X.mg "enumerate" = none) (ha : PA X [e] ta) (hs : starEach [e] X.env = [(false, eval e X.env)] := by rfl) :
    PI X (.Tuple elts kk tpos) (.Call (.Name "enumerate" p) [e] [] pos) (iEnumT X.K ta) := by
  refine ⟨fun pins s σ H R I h => ?_⟩
  refine Call_ (ld_blt I hg hm boot_enumerate (PyProof.Rows.callWith_type1 (thn (ha.run pos pins s σ H _ I h) fun us s1 ⟨vs, H1, I1, r1, q1⟩ => ?_) hs rfl))
  obtain ⟨a, xs, ex, hq, q⟩ := q1
  subst ex
  cases r1 with
  | cons r rr =>
    cases rr
    cases r
    obtain ⟨its, rv, p', _⟩ := I1.tuple hq
    obtain ⟨o1, ho1, _⟩ := id p'
    have hlt : a < s1.heap.objs.size := Heap.lt_size ho1
    refine call_enum_tup (show s1.heap.IsTuple a its.toArray from p') fun h' he hit hsz hk => wpAny_pyIter_enum he ?_
    have I2 : Inv X pins σ H1 { s1 with heap := h' } := I1.kept (t' := s1.toks) hk
    refine ⟨s1.heap.objs.size + 1, [s1.heap.objs.size + 1, s1.heap.objs.size], _, _, H1, rfl, I2, turn_enumT a (s1.heap.objs.size + 1) s1.heap.objs.size xs.length, ⟨⟨.none, he⟩, hit, Nat.succ_ne_self _, Nat.ne_of_lt (Nat.lt_succ_of_lt hlt), Nat.ne_of_lt hlt, Nat.zero_le _⟩, fun b hb => ?_, q⟩
    have e' : b = s1.heap.objs.size + 1 ∨ b = s1.heap.objs.size := by simpa using hb
    have hle : s1.heap.objs.size ≤ b := by
      rcases e' with z | z
      · rw [z]; exact Nat.le_add_right _ _
      · rw [z]; exact Nat.le_refl _
    exact I1.fpOk hle (I1.hok.fresh hle)
section
variable {K : Fg} {α : Type} {es : Env K} {ta : TE}
theorem ei_enumT [i : Rep K α] {k l : Nat} {ma : Option (Tup α)} (ha : Ev ta es ma) :
    EvI (iEnumT K (tCons ta tNil)) (gTup K 2 (gCons (gName k) (gCons (gName l) gNil))) [k, l] es (ma.bind fun (a : List α) => some (enumI a)) (fun x es => (es.set k (.val repInt x.1)).set l (.val i x.2)) := fun xs hx F H ad σ rs Rk q => by
  obtain ⟨(a : List α), ea, hx⟩ := bind_some hx
  cases hx
  refine ha a ea F H ad σ rs _ fun v F1 H1 g1 ⟨p, vs, e, hp, hl, pr⟩ => ?_
  subst e
  refine ⟨p, vs, rfl, same_t g1.ex hp, q _ F1 H1 g1 ⟨?_, fun n x hn H3 s => ?_, fun H3 s => ?_, fun x es ad p z => own_set2 z, fun n x hn F3 H3 v3 H4 s s2 hy ad2 σ2 es2 r2 Q2 q2 => ?_⟩⟩
  · rw [enum_len, ← Paired.length pr]
    exact hl
  · obtain ⟨h1, h2⟩ := enum_get hn
    obtain ⟨w, hw, _⟩ := paired_of_get pr h2
    exact ⟨vs, w, same_t s hp, rfl, hw⟩
  · refine ⟨vs, same_t s hp, rfl, ?_⟩
    rw [enum_len, Paired.length pr]
    exact Nat.le_refl _
  · obtain ⟨T, w, e3, nT, e4, f1⟩ := hy
    subst e3 e4
    obtain ⟨h1, h2⟩ := enum_get hn
    obtain ⟨w', hw, pw⟩ := paired_of_get pr h2
    have z1 := f1 vs (same_t (s.trans s2) hp)
    rw [hw] at z1
    cases z1
    have gT := Grow.make (o := .tup [.int (n : Nat), w]) s2 nT
    refine tg_pair (r2.grow gT) (.inl (.inl upd_same)) ?_ (i.mono s pw) fun F' H' σ' g r => q2 F' H' σ' (gT.trans g) r
    show V.int (n : Int) = V.int x.1
    rw [h1]
end
end Tf
set_option Elab.async false
set_option linter.all false
set_option maxRecDepth 100000
set_option maxHeartbeats 4000000
namespace Tf
open PySem PySem.Spec L2 PyProof.Rows
/-! ### setdefault, the keys tuples -/
section
variable {X : Cx} {pins : List (Addr × Obj)} {σ : L2.St} {H : Hp} {s : Shared} {a b : Addr} {r : Value} {d : V} {k : List Key} {A : Around} {E : Value → Shared → Prop}
theorem d_setdT {kvs : List (List Key × V)} {Q : Value → Shared → Prop} (hu : A.units + 1 < cLine) (I : Inv X pins σ H s) (e : H a = some (.dT kvs)) (eb : H b = some (.tup (k.map kV))) (rd : RelV d r) (hl : kvs.length < sizeLine)
    (h1 : ∀ v, valV kvs k = some v → ∀ (w' : Value) (s' : Shared), Inv X pins σ H s' → RelV v w' → Q w' s') (h2 : valV kvs k = none → ∀ (w' : Value) (s' : Shared), Inv X pins σ (upd H a (.dT (putK kvs k d))) s' → RelV d w' → Q w' s') :
    wpAny (model X.prog X.w) A (call (.builtin "dict.setdefault") [.ref a, .ref b, r]) Q E s := by
  obtain ⟨z, hd, xs, rel, dd⟩ := dt_of I.hok e
  have hz : xs.length ≤ sizeLine := by rw [← Paired.length rel]; exact z
  have hl2 : (putK kvs k d).length ≤ sizeLine := by have := length_putK kvs k d; omega
  refine call_setdefault_heap (hsz := hz) (tupleKind_room_in1 hu) (key_of I.hok eb) hd dd (fun p hp => ?_) fun hn h' dd' hs => ?_
  · have q := rel.val k
    rw [hp] at q
    cases q0 : valV kvs k with
    | none =>
      rw [q0] at q
      exact (show False from q).elim
    | some v0 =>
      rw [q0] at q
      exact h1 v0 q0 _ _ (I.tok _) q
  · have q := rel.val k
    rw [hn] at q
    cases q0 : valV kvs k with
    | some v0 =>
      rw [q0] at q
      exact (show False from q).elim
    | none =>
      obtain ⟨o, es, ep, ho, g2, g3, g4, _, g5⟩ := dd'
      refine h2 q0 _ _ (d_write I (by rw [e]; exact True.intro) hs ⟨o, ho⟩ ⟨hl2, hd, _, (rel.put k eb rd).keeps fun c ys ec => ?_, o, es, ep, ho, g2, g3, g4, g5⟩) rd
      rw [upd_ne (ne_of ec e (fun z => nomatch z))]
      exact ec
end
def tDSetdT (td ty tx : TE) : TE := fun σ H Q => td σ H fun x H1 => ∃ a, x = .ref a ∧ IsD H1 a ∧ ty σ H1 fun y H2 => tx σ H2 fun z H3 => ∃ (kvs : List (List Key × V)) (k : List Key) (b : Addr), H3 a = some (.dT kvs) ∧ y = .ref b ∧ H3 b = some (.tup (k.map kV)) ∧ kvs.length < sizeLine ∧
  (∀ v, valV kvs k = some v → Q v H3) ∧ (valV kvs k = none → Q z (upd H3 a (.dT (putK kvs k z))))
theorem pe_dsetdT {X : Cx} {o e f : Expr} {td ty tx : TE} {apos cpos : Pos} (hu : X.A.units + 1 < cLine) (ho : PE X o td) (he : PE X e ty) (hf : PE X f tx) (m : M2 X o "setdefault" apos e f cpos) : PE X (.Call (.Attribute o "setdefault" apos) [e, f] [] cpos) (tDSetdT td ty tx) := by
  refine ⟨fun pins s σ H Q I h => ?_⟩
  refine wpAny_Call_method m.base m.few m.line PySem.F.plainAttrs_dict PySem.F.slot_dict_setdefault PySem.F.type_dict_setdefault (thn (ho.run pins s σ H _ I h) fun u s1 ⟨x, H1, I1, rx, a, ex, d, q1⟩ => ?_)
  subst ex
  obtain rfl : u = Value.ref a := rx
  obtain ⟨t1, t2, _⟩ := isD_at I1 d
  refine ⟨t1, t2, ?_⟩
  rw [m.trees]
  refine Calls.callWith_builtin rfl (Calls.evalArgs_plain (Calls.spliced_cons (thn (he.run pins s1 σ H1 _ I1 q1) fun iv s2 ⟨y, H2, I2, ry, q2⟩ =>
    Calls.spliced_cons (thn (hf.run pins s2 σ H2 _ I2 q2) fun fv s3 ⟨z, H3, I3, rz, kvs, k, b, ea, ey, eb, hl, q3, q4⟩ => Calls.spliced_nil ?_))))
  subst ey
  obtain rfl : iv = Value.ref b := ry
  exact d_setdT hu I3 ea eb rz hl (fun v hv w' s4 I4 rw' => ⟨v, _, I4, rw', q3 v hv⟩) fun hn w' s4 I4 rw' => ⟨z, _, I4, rw', q4 hn⟩
/-! ### a dict of one's own, its keys tuples of whole numbers -/
def keyI (k : List Int) : List Key := k.map Sum.inl
theorem keyI_V : ∀ k : List Int, (keyI k).map kV = k.map V.int
  | [] => rfl
  | x :: k => by
    show V.int x :: (keyI k).map kV = _
    rw [keyI_V k]
    rfl
theorem keyI_inj : ∀ {a b : List Int}, keyI a = keyI b → a = b
  | [], [], _ => rfl
  | [], _ :: _, h => nomatch h
  | _ :: _, [], h => nomatch h
  | x :: a, y :: b, h => by
    injection h with h1 h2
    injection h1 with h1
    rw [h1, keyI_inj h2]
def dval {β : Type} (d : List (List Int × β)) (k : List Int) : Option β := (d.find? fun p => decide (p.1 = k)).map (·.2)
def dput {β : Type} (d : List (List Int × β)) (k : List Int) (v : β) : List (List Int × β) := if (d.any fun p => decide (p.1 = k)) = true then d.map (fun p => if p.1 = k then (p.1, v) else p) else d ++ [(k, v)]
section
variable {K : Fg} {β : Type}
abbrev PD (j : Rep K β) (F : Hp) : List (List Key × V) → List (List Int × β) → Prop := Paired fun x y => x.1 = keyI y.1 ∧ j.At F x.2 y.2
theorem PD.val {j : Rep K β} {F : Hp} {vs : List (List Key × V)} {d : List (List Int × β)} (h : PD j F vs d) (k : List Int) : (dval d k = none ∧ valV vs (keyI k) = none) ∨ ∃ b u, dval d k = some b ∧ valV vs (keyI k) = some u ∧ j.At F u b := by
  induction h with
  | nil => exact .inl ⟨rfl, rfl⟩
  | @cons x y xs ys hxy _ ih =>
    obtain ⟨h1, h2⟩ := hxy
    by_cases e : y.1 = k
    · refine .inr ⟨y.2, x.2, ?_, valV_pos (by rw [h1, e]), h2⟩
      simp [dval, List.find?_cons, e]
    · have e2 : dval (y :: ys) k = dval ys k := by
        simp [dval, List.find?_cons, e]
      rw [e2, valV_neg (fun z => e (keyI_inj (h1.symm.trans z)))]
      exact ih
theorem PD.any {j : Rep K β} {F : Hp} {vs : List (List Key × V)} {d : List (List Int × β)} (h : PD j F vs d) (k : List Int) : (vs.any fun p => decide (p.1 = keyI k)) = d.any fun p => decide (p.1 = k) := by
  induction h with
  | nil => rfl
  | @cons x y xs ys hxy _ ih =>
    rw [List.any_cons, List.any_cons, ih]
    congr 1
    apply decide_eq_decide.mpr
    rw [hxy.1]
    exact ⟨fun z => keyI_inj z, fun z => by rw [z]⟩
theorem PD.repl {j : Rep K β} {F : Hp} {vs : List (List Key × V)} {d : List (List Int × β)} (h : PD j F vs d) (k : List Int) {u : V} {b : β} (hu : j.At F u b) : PD j F (vs.map fun kv => if kv.1 = keyI k then (kv.1, u) else kv) (d.map fun p => if p.1 = k then (p.1, b) else p) := by
  induction h with
  | nil => exact .nil
  | @cons x y xs ys hxy _ ih =>
    rw [List.map_cons, List.map_cons]
    refine .cons ?_ ih
    obtain ⟨h1, h2⟩ := hxy
    by_cases e : y.1 = k
    · rw [if_pos e, if_pos (by rw [h1, e])]
      exact ⟨h1, hu⟩
    · rw [if_neg e, if_neg (fun z => e (keyI_inj (h1.symm.trans z)))]
      exact ⟨h1, h2⟩
theorem PD.put {j : Rep K β} {F : Hp} {vs : List (List Key × V)} {d : List (List Int × β)} (h : PD j F vs d) (k : List Int) {u : V} {b : β} (hu : j.At F u b) : PD j F (putK vs (keyI k) u) (dput d k b) := by
  unfold putK dput
  rw [h.any k]
  split
  · exact h.repl k hu
  · exact paired_snoc h ⟨rfl, hu⟩
theorem dput_len (d : List (List Int × β)) (k : List Int) (v : β) : (dput d k v).length ≤ d.length + 1 := by
  unfold dput
  split
  · rw [List.length_map]; omega
  · rw [List.length_append]; exact Nat.le_refl _
def AtD (j : Rep K β) (F H : Hp) (v : V) (S : Addr → Prop) (d : List (List Int × β)) : Prop := ∃ p vs, v = .ref p ∧ (∀ a, S a ↔ a = p) ∧ F p = none ∧ H p = some (.dT vs) ∧ vs.length ≤ sizeLine ∧ PD j F vs d
theorem AtD.move {j : Rep K β} {F H F' H' : Hp} {v : V} {S : Addr → Prop} {d : List (List Int × β)} (h : AtD j F H v S d) (ff : Same F F') (hh : ∀ p, S p → H' p = H p) (fr : ∀ p, S p → F' p = none) : AtD j F' H' v S d := by
  obtain ⟨p, vs, e, hS, hf, hp, hl, pr⟩ := h
  refine ⟨p, vs, e, hS, fr p ((hS p).mpr rfl), (hh p ((hS p).mpr rfl)).trans hp, hl, Paired.mapP pr fun _ _ z => ⟨z.1, j.mono ff z.2⟩⟩
theorem AtD.out {j : Rep K β} {F H : Hp} {v : V} {S : Addr → Prop} {d : List (List Int × β)} (h : AtD j F H v S d) : ∀ p, S p → F p = none ∧ ∃ o, H p = some o ∧ ¬ NumT o := by
  obtain ⟨p, vs, e, hS, hf, hp, hl, pr⟩ := h
  intro q hq
  rw [(hS q).mp hq]
  exact ⟨hf, _, hp, fun ⟨_, e⟩ => nomatch e⟩
@[reducible] def oD (j : Rep K β) : ORep K (List (List Int × β)) := ⟨AtD j, fun h => h.move, fun h => h.out⟩
abbrev owd [j : Rep K β] (d : List (List Int × β)) : Ent K := .obj (oD j) d
end
def setdO {β : Type} (d : List (List Int × β)) (k : List Int) (v : β) : Option (List (List Int × β) × β) := if d.length < lim then some (match dval d k with | some x => (d, x) | none => (dput d k v, v)) else none
section
variable {K : Fg} {ρ X : Type} {R : RR ρ} {φ : X → Fl K ρ} {es : Env K} {t u tz : TS} {te tk tv tb : TE} {β : Type}
theorem ev_newD [j : Rep K β] : EvG (RO (oD j)) tDNewT es (some ([] : List (List Int × β))) := fun a ha F H ad σ rs Q q => by
  cases ha
  intro p hp
  have hf := rs.ex.free hp
  exact q (.ref p) F _ (Grow.make rs.ex hp) ⟨(· = p), ⟨p, [], rfl, fun _ => Iff.rfl, hf, upd_same, (by decide), .nil⟩, fun q z => by rw [show q = p from z]; exact hp⟩
theorem key_at {F H : Hp} {y : V} {k : List Int} (hx : Same F H) (h : (repTup (K := K) (α := Int)).At F y k) : ∃ b, y = .ref b ∧ H b = some (.tup ((keyI k).map kV)) := by
  obtain ⟨b, vs, e, hb, hl, pr⟩ := h
  refine ⟨b, e, ?_⟩
  rw [hx _ _ hb, keyI_V, ints_of_paired pr]
def EvTU [j : Rep K β] (tc : TT) (i : Nat) (es : Env K) (m : Option (List (List Int × β) × Bool)) : Prop :=
  ∀ r, m = some r → ∀ F H ad σ, RSt K F H ad σ es → ∀ Q : Bool → Hp → Prop, (∀ F' H' ad', Adv (OwA es ad) F H F' H' → (∀ p, OwA (es.set i (.obj (oD j) r.1)) ad' p → OwA es ad p ∨ H p = none) → RSt K F' H' ad' σ (es.set i (.obj (oD j) r.1)) → Q r.2 H') → tc σ H Q
theorem hu_1 {A : Around} (h : A.units + 64 < cLine) : A.units + 1 < cLine := by omega
def ifD {Y : Type} (r : List (List Int × β) × Bool) (f g : List (List Int × β) → Option Y) : Option Y := if r.2 = true then f r.1 else g r.1
theorem sx_ifU [GoodR R] [j : Rep K β] {tc : TT} {i : Nat} {m : Option (List (List Int × β) × Bool)} {M1 M2 : List (List Int × β) → Option X} (hc : EvTU (j := j) tc i es m) (h1 : ∀ d, Sx R φ (tSeq t tz) (es.set i (.obj (oD j) d)) (M1 d)) (h2 : ∀ d, Sx R φ (tSeq u tz) (es.set i (.obj (oD j) d)) (M2 d)) :
    Sx R φ (tSeq (tIfS tc t u) tz) es (m.bind fun r => ifD r M1 M2) := by
  show Sv _ _ _ _
  intro fl hfl F H ad σ D rs fo
  obtain ⟨x, hx, hfl⟩ := map_some hfl
  obtain ⟨⟨d, b⟩, er, hx⟩ := bind_some hx
  unfold ifD at hx
  refine hc ⟨d, b⟩ er F H ad σ rs _ fun F' H' ad' a sb r => ?_
  subst hfl
  cases b with
  | true =>
    rw [if_pos rfl] at hx
    show if true = true then _ else _
    rw [if_pos rfl]
    exact h1 d (φ x) (by rw [hx]; rfl) F' H' ad' σ D r (fo.trans a sb)
  | false =>
    rw [if_neg Bool.false_ne_true] at hx
    show if false = true then _ else _
    rw [if_neg Bool.false_ne_true]
    exact h2 d (φ x) (by rw [hx]; rfl) F' H' ad' σ D r (fo.trans a sb)
theorem et_setd {i : Nat} {d : List (List Int × Int)} {mk : Option (Tup Int)} {mv mb : Option Int} (h : es[i]? = some (.obj (oD (repInt (K := K))) d)) (hk : Ev tk es mk) (hv : Ev tv es mv)
    (hb : ∀ d' : List (List Int × Int), Ev tb (es.set i (.obj (oD (repInt (K := K))) d')) mb) :
    EvTU (j := repInt (K := K)) (tTest (tOp (rNeP K) (tDSetdT (tVar i) tk tv) tb)) i es (mk.bind fun k => mv.bind fun v => mb.bind fun w => (setdO d k v).bind fun r => some (r.1, !decide (r.2 = w))) := by
  intro x hx F H ad σ rs Q q
  obtain ⟨k, ek, hx⟩ := bind_some hx
  obtain ⟨w, ev, hx⟩ := bind_some hx
  obtain ⟨y, eb, hx⟩ := bind_some hx
  obtain ⟨r, er, hx⟩ := bind_some hx
  cases hx
  unfold setdO at er
  split at er
  rotate_left
  · cases er
  rename_i hz
  obtain ⟨v0, hv0, p, vs, e, hS, hf, hp, hl, pr⟩ := rs.ent i _ h
  subst e
  refine ⟨_, hv0, p, rfl, .inr ⟨vs, .inl hp⟩, ?_⟩
  refine hk k ek F H ad σ rs _ fun yk F1 H1 g1 ak => ?_
  refine hv w ev F1 H1 ad σ (rs.grow g1) _ fun yv F2 H2 g2 av => ?_
  have g := g1.trans g2
  obtain ⟨b, eyk, hkb⟩ := key_at g2.ex ((repTup (K := K) (α := Int)).mono g2.ff ak)
  have rs2 := rs.grow g
  have hf2 : F2 p = none := g.fr p _ hp (fun ⟨_, e⟩ => nomatch e) hf
  have hp2 := g.hh p _ hp
  have pr2 : PD (repInt (K := K)) F2 vs d := Paired.mapP pr fun _ _ z => z
  have hlen := Paired.length pr
  have hlt : vs.length < sizeLine := lt_lim (by omega)
  have av : yv = .int w := av
  have fin : ∀ (d' : List (List Int × Int)) (vs' : List (List Key × V)) (b0 : Int), PD (repInt (K := K)) F2 vs' d' → vs'.length ≤ sizeLine → r = (d', b0) → ∀ H3, H3 = upd H2 p (.dT vs') → tb σ H3 fun zv H4 => rNeP K (.int b0) zv H4 fun c H5 => ∃ c0, c = .bl c0 ∧ Q c0 H5 := by
    intro d' vs' b0 pd' hl' er H3 eH
    subst eH er
    have hh : ∀ a o, H2 a = some o → ¬ ad i a → upd H2 p (.dT vs') a = some o := fun a o ho hn => by
      rw [upd_ne fun z => hn ((hS a).mpr z)]
      exact ho
    have hx3 : Same F2 (upd H2 p (.dT vs')) := fun a o ho => by
      rw [upd_ne fun z => by rw [z, hf2] at ho; cases ho]
      exact g2.ex _ _ ho
    have rs3 : RSt K F2 (upd H2 p (.dT vs')) (adSet ad i (· = p)) σ (es.set i (.obj (oD (repInt (K := K))) d')) := rs2.updObj2 h rfl hv0 ⟨_, rfl, p, vs', rfl, fun _ => Iff.rfl, hf2, upd_same, hl', pd'⟩ hx3 hh fun a z => .inl ((hS a).mpr z)
    have dm : ∀ a o, H2 a = some o → ∃ u, upd H2 p (.dT vs') a = some u := fun a o ho => by
      by_cases c : a = p
      · rw [c, upd_same]; exact ⟨_, rfl⟩
      · rw [upd_ne c]; exact ⟨_, ho⟩
    have a1 : Adv (OwA es ad) F H F2 (upd H2 p (.dT vs')) := g.adv.trans (ow1 := OwA es ad) (fun p z => .inl z) (adv_obj (es := es) h rfl hh dm)
    refine hb d' y eb F2 _ _ σ rs3 _ fun zv F4 H4 g4 az => ?_
    have az : zv = .int y := az
    subst az
    refine ⟨.int b0, .int y, .int _, .int _, rfl, rfl, by simp [PyData.depth], _, rfl, ?_⟩
    have sb : ∀ a, OwA (es.set i (.obj (oD (repInt (K := K))) d')) (adSet ad i (· = p)) a → OwA es ad a := fun a z => by
      rcases own_setObj z with z | z
      · exact z
      · exact ⟨i, _, h, rfl, (hS a).mpr z⟩
    have ee : PyData.eqv (.int b0) (.int y) = decide (b0 = y) := eqv_dec (f := PyData.int) (RepD.inj (K := K) (α := Int)) b0 y
    rw [ee]
    refine q F4 H4 _ (a1.trans (fun a z => .inl (sb a z)) g4.adv) (fun a z => .inl (sb a z)) (rs3.grow g4)
  refine ⟨vs, keyI k, b, hp2, eyk, hkb, hlt, fun v hval => ?_, fun hn => ?_⟩
  · rcases pr2.val k with ⟨_, z⟩ | ⟨b0, u0, z1, z2, z3⟩
    · rw [z] at hval; cases hval
    · rw [z2] at hval
      cases hval
      have z3 : v = V.int b0 := z3
      subst z3
      rw [z1] at er
      refine fin d vs b0 pr2 hl (by cases er; rfl) H2 ?_
      funext a
      by_cases c : a = p
      · rw [c, upd_same]; exact hp2
      · rw [upd_ne c]
  · rcases pr2.val k with ⟨z, _⟩ | ⟨b0, u0, z1, z2, z3⟩
    · rw [z] at er
      subst av
      exact fin (dput d k w) _ w (pr2.put k rfl) (by have := length_putK vs (keyI k) (.int w); omega) (by cases er; rfl) _ rfl
    · rw [z2] at hn; cases hn
end
/-! ### a list of one's own joins a list of such -/
section
variable {K : Fg} {ρ X : Type} {R : RR ρ} {φ : X → Fl K ρ} {es : Env K} {tz : TS} {α : Type} {j : Rep K α}
theorem sx_app2V [GoodR R] {i r : Nat} {xss : List (List α)} {xs : List α} {k : List (List α) → Option X} (hne : i ≠ r) (h : es[i]? = some (.obj (o2 j) xss)) (hr : es[r]? = some (.own j xs)) (h2 : ∀ ys, Sx R φ tz ((es.set r .no).set i (.obj (o2 j) ys)) (k ys)) :
    Sx R φ (tSeq (tDrop (tBM K "list" rAppend (tVar i) (tCons (tVar r) tNil))) tz) es ((appO xss xs).bind k) := by
  show Sv _ _ _ _
  rw [map_bind_]
  intro fl hfl F H ad σ D rs fo
  obtain ⟨ys, hy, hk⟩ := bind_some hfl
  rw [appO_eq] at hy
  unfold appO_d at hy
  split at hy
  rotate_left
  · cases hy
  rename_i hz
  cases hy
  obtain ⟨v, hv, p, ps, e, hS, hp, hn, hd, hl, hz2, pr⟩ := rs.ent i _ h
  subst e
  obtain ⟨q, q0, q1, fq, ws, k1, k2, k3⟩ := rs.ent r _ hr
  have nq : ∀ a, a = p ∨ a ∈ ps → a ≠ q := fun a z e => hne (rs.inj i r _ _ h hr rfl rfl a ((hS a).mpr z) ((q0 a).mpr e))
  have r1 := rs.wk (es1 := es.set r .no) (by rw [List.length_set]) no_get
  have h1 : (es.set r .no)[i]? = some (.obj (o2 j) xss) := by rw [List.getElem?_set_ne hne.symm]; exact h
  have ll := Paired.length pr
  have zz := lt_lim hz
  refine ⟨_, hv, .inl ⟨rfl, _, .inl (.inl hl)⟩, ?_⟩
  refine ⟨_, q1, ?_⟩
  refine ⟨_, ps.map V.ref, .ref q, rfl, rfl, hl, by rw [List.length_map]; omega, ?_⟩
  have hh : ∀ a o, H a = some o → ¬ ad i a → L2.upd H p (.lst (ps.map V.ref ++ [.ref q])) a = some o := fun a o ho n => by
    rw [upd_ne fun z => n ((hS a).mpr (.inl z))]
    exact ho
  have own : ∀ a, a = p ∨ a ∈ ps ++ [q] → OwA es ad a := fun a z => by
    rcases z with z | z
    · exact ⟨i, _, h, rfl, (hS a).mpr (.inl z)⟩
    · rcases List.mem_append.mp z with z | z
      · exact ⟨i, _, h, rfl, (hS a).mpr (.inr z)⟩
      · exact ⟨r, _, hr, rfl, (q0 a).mpr (List.mem_singleton.mp z)⟩
  have rs2 := r1.updObj2 (e1 := .obj (o2 j) (xss ++ [xs])) (S := fun a => a = p ∨ a ∈ ps ++ [q]) h1 rfl hv ⟨_, rfl, p, ps ++ [q], rfl, fun _ => Iff.rfl, hp, fun z => by
    rcases List.mem_append.mp z with z | z
    · exact hn z
    · exact nq p (.inl rfl) (List.mem_singleton.mp z), by
    rw [List.nodup_append]
    exact ⟨hd, List.nodup_cons.mpr ⟨(fun z => by cases z), List.nodup_nil⟩, fun a ha b hb e => nq a (.inr ha) (by rw [e]; exact List.mem_singleton.mp hb)⟩, by
    rw [List.map_append]
    exact upd_same, by
    rw [List.length_append]
    show _ + 1 ≤ _
    omega, by
    refine paired_snoc (pmemL pr fun a xs ha ⟨z1, z2⟩ => ⟨z1, ?_⟩) ⟨fq, ws, ?_, k2, k3⟩
    · obtain ⟨us, y1, y2, y3⟩ := z2
      exact ⟨us, by rw [upd_ne fun z => hn (by rw [← z]; exact ha)]; exact y1, y2, y3⟩
    · rw [upd_ne fun z => nq p (.inl rfl) z.symm]
      exact k1⟩ (upd_same_ rs.ex hp) hh (fun a z => by
    rcases z with z | z
    · exact .inl ((hS a).mpr (.inl z))
    · rcases List.mem_append.mp z with z | z
      · exact .inl ((hS a).mpr (.inr z))
      · refine .inr fun ⟨n, e, hk2, he, ha⟩ => ?_
        rcases getset hk2 with ⟨_, _, ee⟩ | ⟨hm, hk3⟩
        · rw [ee] at he
          cases he
        · exact hm (rs.inj n r _ _ hk3 hr he rfl a ha ((q0 a).mpr (List.mem_singleton.mp z))))
  refine h2 (xss ++ [xs]) fl hk F _ _ σ D rs2 (fo.trans (adv_obj (es := es) h rfl hh upd_dm) fun a z => .inl ?_)
  rcases own_setObj z with y | y
  · exact own_wk no_get y
  · exact own a y
end
/-! ### xs[::-1] -/
theorem paired_rev {α β : Type} {P : α → β → Prop} {xs : List α} {ys : List β} (h : Paired P xs ys) : Paired P xs.reverse ys.reverse := by
  induction h with
  | nil => exact .nil
  | cons a _ ih => rw [List.reverse_cons, List.reverse_cons]; exact paired_snoc ih a
section
variable {K : PySem.W.Frag} {α : Type} {te : TE} {es : Env K}
theorem ev_revL [i : Rep K α] {m : Option (List α)} (h : EvL te es m) : EvN (tRevL K te) es (m.bind fun xs => some xs.reverse) := fun c hc F H ad σ rs Q q => by
  obtain ⟨xs, ex, hc⟩ := bind_some hc
  cases hc
  refine h xs ex F H ad σ rs _ fun v F1 H1 g1 x1 => ?_
  obtain ⟨p, vs, e, hp, hl, pr⟩ := x1
  refine ⟨p, vs, e, .inl (.inl hp), fun r hr => ?_⟩
  refine q (.ref r) F1 _ (g1.trans (Grow.make g1.ex hr)) ⟨r, rfl, g1.hh.free hr, g1.ex.free hr, _, upd_same, ?_, paired_rev pr⟩
  rw [List.length_reverse]
  exact hl
end
end Tf
set_option Elab.async false
set_option linter.all false
set_option maxRecDepth 100000
set_option maxHeartbeats 4000000
namespace Tf
open PySem PySem.Spec L2 PyProof.Rows
/-- a tuple and a list as they stand at each turn, their items in a new pair -/
def ItM (K : Fg) (l1 l2 : Addr) (n1 n2 : Nat) : It :=
  ⟨fun i H => ∃ (xs1 xs2 : List V) (x1 x2 : V), SqT K H l1 xs1 ∧ xs1.length = n1 ∧ xs1[i]? = some x1 ∧ SqL K H l2 xs2 ∧ xs2.length = n2 ∧ xs2[i]? = some x2,
    fun i H v H' => ∃ T x1 x2, v = .ref T ∧ H T = none ∧ H' = upd H T (.tup [x1, x2]) ∧ (∀ xs, SqT K H l1 xs → xs[i]? = some x1) ∧ (∀ xs, SqL K H l2 xs → xs[i]? = some x2),
    fun i H => ∃ (xs1 xs2 : List V), SqT K H l1 xs1 ∧ xs1.length = n1 ∧ SqL K H l2 xs2 ∧ xs2.length = n2 ∧ (n1 ≤ i ∨ n2 ≤ i)⟩
theorem turnM {P : Program} {w : World} {K : Fg} {elts : List Expr} {kk : Nat} {tpos : Pos} {l1 l2 z TI TO i1 i2 : Addr} (n1 n2 : Nat) (S : ZipSep2 z TI TO i1 i2 [i1, l1] [i2, l2]) (e1 : l1 ≠ i1) (e2 : l2 ≠ i2) :
    Turn P w K (.Tuple elts kk tpos) (ItM K l1 l2 n1 n2) [z, TI, TO, i1, i2] z (fun i h => IsZip h z TI TO .none ∧ IsTupOf2 h TI (.ref i1) (.ref i2) ∧ (∃ a1 a2, IsTupOf2 h TO a1 a2) ∧ h.IsTupleIter i1 l1 i ∧ h.IsListIter i2 l2 i ∧ i ≤ n1 ∧ i ≤ n2) where
  mem := by simp
  obj := fun i h st c hc => by
    obtain ⟨hz, hTI, ⟨a1, a2, hTO⟩, ⟨o1, f1, _, d1⟩, ⟨o2, f2, _, d2⟩, _⟩ := st
    have e' : c = z ∨ c = TI ∨ c = TO ∨ c = i1 ∨ c = i2 := by simpa using hc
    rcases e' with q | q | q | q | q
    · rw [q]; exact ⟨_, hz, fun v q => nomatch q⟩
    · rw [q]; exact ⟨_, hTI, fun v q => nomatch q⟩
    · rw [q]; exact ⟨_, hTO, fun v q => nomatch q⟩
    · rw [q]; exact ⟨o1, f1, fun v q => by rw [d1] at q; cases q⟩
    · rw [q]; exact ⟨o2, f2, fun v q => by rw [d2] at q; cases q⟩
  keep := fun i h h' st k => by
    obtain ⟨hz, hTI, ⟨a1, a2, hTO⟩, h1, h2, m1, m2⟩ := st
    exact ⟨k z (by simp) _ hz, k TI (by simp) _ hTI, ⟨a1, a2, k TO (by simp) _ hTO⟩, h1.at fun o q => k i1 (by simp) o q, h2.at fun o q => k i2 (by simp) o q, m1, m2⟩
  item := by
    intro X hP hw hK hc i pins s σ H E I hf st hg
    subst hP hw hK
    obtain ⟨hz, hTI, ⟨a1, a2, hTO⟩, h1, h2, m1, m2⟩ := st
    obtain ⟨xs1, xs2, x1, x2, q1, k1, g1, q2, k2, g2⟩ := hg
    obtain ⟨its1, rv1, p1, _⟩ := I.tuple q1
    obtain ⟨u1, hu1, ru1⟩ := rv1.get g1
    have hlt1 : i < its1.toArray.size := by
      have := (List.getElem?_eq_some_iff.mp hu1).1
      simpa using this
    obtain ⟨its2, rv2, p2, _⟩ := I.list q2
    obtain ⟨u2, hu2, ru2⟩ := rv2.get g2
    have hlt2 : i < its2.toArray.size := by
      have := (List.getElem?_eq_some_iff.mp hu2).1
      simpa using this
    have hzl : z < s.heap.objs.size := Heap.lt_size hz
    have hh : X.A.in1.handled = none := I.ok.hd hc
    refine wpAny_pyNext_zipD2_item S (Draws.tuple (prog := X.prog) (w := X.w) (A := X.A.in1) hh i1 l1 e1 its1.toArray) (Draws.list (prog := X.prog) (w := X.w) (A := X.A.in1) hh i2 l2 e2 its2.toArray) hz hTI hTO ⟨h1, p1⟩ ⟨h2, p2.isList⟩ hlt1 hlt2 fun v1 v2 h' tk w1 w2 hz1 hT1 s1 s2 hT hsz hk => ?_
    have ev1 : v1 = u1 := by
      have w1 : its1.toArray[i]? = some v1 := w1
      have y : its1.toArray[i]? = some u1 := by simpa using hu1
      rw [y] at w1
      exact (Option.some.inj w1).symm
    subst ev1
    have ev2 : v2 = u2 := by
      have w2 : its2.toArray[i]? = some v2 := w2
      have y : its2.toArray[i]? = some u2 := by simpa using hu2
      rw [y] at w2
      exact (Option.some.inj w2).symm
    subst ev2
    refine ⟨_, rfl, wpAny_letOwnedTupleGo_zip (s := { s with heap := h', toks := tk }) hz1 fun h'' z'' sb => ?_⟩
    have hT2 : h''.get? s.heap.objs.size = some { cls := .type "tuple", data := .seq #[v1, v2] } := (sb.2 _ (Nat.ne_of_gt hzl)).trans hT
    have new : ObjOk X.prog X.w (upd H s.heap.objs.size (.tup [x1, x2])) h'' s.heap.objs.size (.tup [x1, x2]) :=
      ⟨by show 2 ≤ sizeLine; decide, [v1, v2], .cons ru1 (.cons ru2 .nil), ⟨_, hT2, rfl, _, rfl⟩⟩
    have I1 : Inv X pins σ (upd H s.heap.objs.size (.tup [x1, x2])) { s with heap := h'', toks := tk } :=
      I.turnedNew (t' := tk) (ch := [z, TI, TO, i1, i2]) (fun c o hb q => (sb.2 c (fun q' => hb (by simp [q']))).trans (hk c o (fun q' => hb (by simp [q'])) (fun q' => hb (by simp [q'])) (fun q' => hb (by simp [q'])) (fun q' => hb (by simp [q'])) q)) hf (Nat.le_refl _) new
    refine ⟨.ref s.heap.objs.size, _, I1, rfl, ⟨_, x1, x2, rfl, I.hok.fresh (Nat.le_refl _), rfl, fun l hl => by rw [I.tuple_inj hl q1]; exact g1, fun l hl => by rw [I.list_inj hl q2]; exact g2⟩, ⟨z'', ?_, ⟨v1, v2, ?_⟩, ?_, ?_, ?_, ?_⟩, fun c hcm => ?_⟩
    · exact (sb.2 _ S.TIz).trans (hk _ _ S.TIz S.TITO S.TIi1 S.TIi2 hTI)
    · exact (sb.2 _ S.TOz).trans hT1
    · exact s1.1.at fun o q => (sb.2 _ (fun e => S.zf1 (e ▸ S.mem1))).trans q
    · exact s2.1.at fun o q => (sb.2 _ (fun e => S.zf2 (e ▸ S.mem2))).trans q
    · have := (List.getElem?_eq_some_iff.mp g1).1
      omega
    · have := (List.getElem?_eq_some_iff.mp g2).1
      omega
    · have hlt : c < s.heap.objs.size := by
        have e' : c = z ∨ c = TI ∨ c = TO ∨ c = i1 ∨ c = i2 := by simpa using hcm
        rcases e' with q | q | q | q | q
        · rw [q]; exact hzl
        · rw [q]; exact Heap.lt_size hTI
        · rw [q]; exact Heap.lt_size hTO
        · rw [q]; obtain ⟨_, f, _⟩ := h1; exact Heap.lt_size f
        · rw [q]; obtain ⟨_, f, _⟩ := h2; exact Heap.lt_size f
      rw [upd_ne (Nat.ne_of_lt hlt)]
      exact (hf c hcm).1
  done := by
    intro X hP hw hK hc i pins s σ H E I hf st hg
    subst hP hw hK
    obtain ⟨hz, hTI, ⟨a1, a2, hTO⟩, h1, h2, m1, m2⟩ := st
    obtain ⟨xs1, xs2, q1, k1, q2, k2, hend⟩ := hg
    obtain ⟨its1, rv1, p1, _⟩ := I.tuple q1
    have r1 := rv1.length
    have c1 : its1.toArray.size = n1 := by simp; omega
    obtain ⟨its2, rv2, p2, _⟩ := I.list q2
    have r2 := rv2.length
    have c2 : its2.toArray.size = n2 := by simp; omega
    have hh : X.A.in1.handled = none := I.ok.hd hc
    refine wpAny_pyNext_zipD2_end S (Draws.tuple (prog := X.prog) (w := X.w) (A := X.A.in1) hh i1 l1 e1 its1.toArray) (Draws.list (prog := X.prog) (w := X.w) (A := X.A.in1) hh i2 l2 e2 its2.toArray) hz hTI hTO ⟨h1, p1⟩ ⟨h2, p2.isList⟩ (by omega) (by omega) (by omega) fun h' tk hk => ⟨rfl, I.turnedL (t' := tk) (ch := [z, TI, TO, i1, i2]) (fun c o hb q =>
      hk c o (fun q' => hb (by simp [q'])) (fun q' => hb (by simp [q'])) (fun q' => hb (by simp [q'])) (fun q' => hb (by simp [q'])) q) hf⟩
  self := fun A i s Q E st h => wpAny_pyIter_zip st.1 h
def iZipM (K : Fg) (ta : TA) : TI := fun σ H R => ta σ H fun vs H1 => ∃ l1 l2 xs1 xs2, vs = [.ref l1, .ref l2] ∧ SqT K H1 l1 xs1 ∧ SqL K H1 l2 xs2 ∧ R (ItM K l1 l2 xs1.length xs2.length) H1
theorem farM {l N : Nat} (k : Nat) (h : l < N) : N + k ≠ l := by omega
theorem farMN {N : Nat} (k m : Nat) (h : k ≠ m) : N + k ≠ N + m := by omega
theorem notinM {c i l : Nat} (h1 : c ≠ i) (h2 : c ≠ l) : c ∉ [i, l] := by simp [h1, h2]
theorem pi_zipM {X : Cx} {e1 e2 : Expr} {ta : TA} {p pos tpos : Pos} {elts : List Expr} {kk : Nat} (hg : Gl X "zip") (hm : X.mg "zip" = none) (ha : PA X [e1, e2] ta)
    (hs : starEach [e1, e2] X.env = (false, eval e1 X.env) :: starEach [e2] X.env := by rfl) (hpl : (backTo pos (starEach [e2] X.env)).any (·.1) = false := by rfl) :
    PI X (.Tuple elts kk tpos) (.Call (.Name "zip" p) [e1, e2] [] pos) (iZipM X.K ta) := by
  refine ⟨fun pins s σ H R I h => ?_⟩
  refine Call_ (ld_blt I hg hm PyProof.Rows.boot_zip (PyProof.Rows.callWith_type1 (thn (ha.run pos pins s σ H _ I h) fun us s1 ⟨vs, H1, I1, r1, q1⟩ => ?_) hs hpl))
  obtain ⟨l1, l2, xs1, xs2, ex, q1, q2, q⟩ := q1
  subst ex
  obtain ⟨us1, rfl, r2⟩ : ∃ us1, us = .ref l1 :: us1 ∧ Vals [.ref l2] us1 := by cases r1 with | cons r rr => cases r; exact ⟨_, rfl, rr⟩
  obtain rfl : us1 = [.ref l2] := by cases r2 with | cons r rr => cases r; cases rr; rfl
  obtain ⟨its1, rv1, p1, _⟩ := I1.tuple q1
  have b1 : l1 < s1.heap.objs.size := by obtain ⟨_, f, _⟩ := p1; exact Heap.lt_size f
  obtain ⟨its2, rv2, p2, _⟩ := I1.list q2
  have b2 : l2 < s1.heap.objs.size := p2.lt
  refine zip_begins2 (begins_tuple l1 its1.toArray) (begins_list l2 its2.toArray) p1 p2.isList fun h' hz hTI hTO f1 f2 hsz hk => wpAny_pyIter_zip hz ?_
  have I2 : Inv X pins σ H1 { s1 with heap := h' } := I1.kept (t' := s1.toks) hk
  generalize hN : s1.heap.objs.size = N at *
  refine ⟨N + 4, [N + 4, N + 2, N + 3, N, N + 1], _, _, H1, rfl, I2, turnM xs1.length xs2.length ⟨farMN 2 4 (by decide), farMN 3 4 (by decide), farMN 2 3 (by decide), farMN 2 0 (by decide), by simp, notinM (farMN 4 0 (by decide)) (farM 4 b1), notinM (farMN 3 0 (by decide)) (farM 3 b1), farMN 2 1 (by decide), by simp, notinM (farMN 4 1 (by decide)) (farM 4 b2), notinM (farMN 3 1 (by decide)) (farM 3 b2), notinM (farMN 0 1 (by decide)) (farM 0 b2), notinM (farMN 1 0 (by decide)) (farM 1 b1)⟩ (farM 0 b1).symm (farM 1 b2).symm, ⟨hz, hTI, ⟨_, _, hTO⟩, ⟨_, f1, rfl, rfl⟩, ⟨_, f2, rfl, rfl⟩, Nat.zero_le _, Nat.zero_le _⟩, fun c hcm => ?_, q⟩
  have hle : N ≤ c := by
    have e' : c = N + 4 ∨ c = N + 2 ∨ c = N + 3 ∨ c = N ∨ c = N + 1 := by simpa using hcm
    rcases e' with z | z | z | z | z
    · rw [z]; exact Nat.le_add_right _ _
    · rw [z]; exact Nat.le_add_right _ _
    · rw [z]; exact Nat.le_add_right _ _
    · rw [z]; exact Nat.le_refl _
    · rw [z]; exact Nat.le_add_right _ _
  rw [← hN] at hle
  exact I1.fpOk hle (I1.hok.fresh hle)
section
variable {K : Fg} {α β : Type} {es : Env K} {ta tb : TE}
theorem ei_zipM [i : Rep K α] [j : Rep K β] {k l : Nat} {ma : Option (Tup α)} {mb : Option (List β)} (ha : Ev ta es ma) (hb : Ev tb es mb) :
    EvI (iZipM K (tCons ta (tCons tb tNil))) (gTup K 2 (gCons (gName k) (gCons (gName l) gNil))) [k, l] es (ma.bind fun (a : List α) => mb.bind fun b => some (a.zip b)) (fun x es => (es.set k (.val i x.1)).set l (.val j x.2)) := fun xs hx F H ad σ rs Rk q => by
  obtain ⟨(a : List α), ea, hx⟩ := bind_some hx
  obtain ⟨b, eb, hx⟩ := bind_some hx
  cases hx
  refine ha a ea F H ad σ rs _ fun v F1 H1 g1 hv => ?_
  refine hb b eb F1 H1 ad σ (rs.grow g1) _ fun w F2 H2 g2 ⟨p2, vs2, e2, hp2, hl2, pr2⟩ => ?_
  obtain ⟨p, vs, e, hp, hl, pr⟩ := (repTup (K := K) (α := α)).mono g2.ff hv
  subst e e2
  have q1 := Paired.length pr
  have q2 := Paired.length pr2
  refine ⟨p, p2, vs, vs2, rfl, same_t g2.ex hp, sqL_of g2.ex hp2, q _ F2 H2 (g1.trans g2) ⟨?_, fun n x hn H3 s => ?_, fun H3 s => ?_, fun x es ad p z => own_set2 z, fun n x hn F3 H3 v3 H4 s s2 hy ad2 σ2 es2 r2 Q2 q2 => ?_⟩⟩
  · rw [List.length_zip, ← q1]
    omega
  · obtain ⟨h1, h2⟩ := zip_get hn
    obtain ⟨u, hu, _⟩ := paired_of_get pr h1
    obtain ⟨w, hw, _⟩ := paired_of_get pr2 h2
    exact ⟨vs, vs2, u, w, same_t s hp, rfl, hu, sqL_of s hp2, rfl, hw⟩
  · refine ⟨vs, vs2, same_t s hp, rfl, sqL_of s hp2, rfl, ?_⟩
    rw [List.length_zip, q1, q2]
    omega
  · obtain ⟨T, u, w, e3, nT, e4, f1, f2⟩ := hy
    subst e3 e4
    obtain ⟨h1, h2⟩ := zip_get hn
    obtain ⟨u', hu, pu⟩ := paired_of_get pr h1
    obtain ⟨w', hw, pw⟩ := paired_of_get pr2 h2
    have z1 := f1 vs (same_t (s.trans s2) hp)
    have z2 := f2 vs2 (sqL_of (s.trans s2) hp2)
    rw [hu] at z1
    rw [hw] at z2
    cases z1
    cases z2
    have gT := Grow.make (o := .tup [u, w]) s2 nT
    exact tg_pair (r2.grow gT) (.inl (.inl upd_same)) (i.mono s pu) (j.mono s pw) fun F' H' σ' g r => q2 F' H' σ' (gT.trans g) r
end
end Tf
set_option Elab.async false
set_option linter.all false
set_option maxRecDepth 100000
set_option maxHeartbeats 4000000
namespace Tf
open PySem PySem.Spec L2 PyProof.Rows
/-! ### tuples of four as data -/
section
variable {K : Fg} {α β γ δ ε : Type}
instance dT4 [i : Rep K α] [d : RepD K α] [j : Rep K β] [e : RepD K β] [k : Rep K γ] [f : RepD K γ] [l : Rep K δ] [g : RepD K δ] : RepD K (T4 α β γ δ) :=
  ⟨fun x => .tuple [d.toD x.a, e.toD x.b, f.toD x.c, g.toD x.d], fun ⟨p, a, b, c, c4, z, h, q, r, t, u⟩ => by subst z; exact .tup h (.cons (d.dp q) (.cons (e.dp r) (.cons (f.dp t) (.cons (g.dp u) .nil)))), fun x => by simp [PyData.plain, PyData.plainAll, d.lay, e.lay, f.lay, g.lay], max (max d.dn e.dn) (max f.dn g.dn) + 1, fun x => by
    have h1 := d.dep x.a
    have h2 := e.dep x.b
    have h3 := f.dep x.c
    have h4 := g.dep x.d
    simp only [PyData.depth, PyData.depthAll]
    omega, fun a b => by
    cases a; cases b
    simp [PyData.eqv, PyData.eqvAll, d.inj, e.inj, f.inj, g.inj]⟩
variable [i : Rep K α] [d : RepD K α] [j : Rep K β] [e : RepD K β] [k : Rep K γ] [f : RepD K γ] [l : Rep K δ] [g : RepD K δ] [m : Rep K ε] [h : RepD K ε]
instance ap14 : Apart (dT1 (K := K) (α := ε)).toD (dT4 (K := K) (α := α) (β := β) (γ := γ) (δ := δ)).toD := ⟨fun _ _ => ⟨by simp [RepD.toD, PyData.eqv, PyData.eqvAll], by simp [RepD.toD, PyData.eqv, PyData.eqvAll]⟩⟩
instance ap41 : Apart (dT4 (K := K) (α := α) (β := β) (γ := γ) (δ := δ)).toD (dT1 (K := K) (α := ε)).toD := ⟨fun _ _ => ⟨by simp [RepD.toD, PyData.eqv, PyData.eqvAll], by simp [RepD.toD, PyData.eqv, PyData.eqvAll]⟩⟩
end
/-! ### the items of a locked dict, its keys tuples -/
section
variable {X : Cx} {pins : List (Addr × Obj)} {σ : L2.St} {H : Hp} {s : Shared} {d : Addr} {o : Obj}
theorem frzTV {kvs : List (List Key × V)} (I : Inv X pins σ H s) (h : H d = some (.frz o (.dT kvs))) :
    (d == sysModules) = false ∧ s.heap.get? d = some o ∧ o.ExactDict ∧ ∃ (es : Array DictEntry) (ep : Nat), o.data = .dict es ep ∧ es.size = kvs.length ∧
      ∀ (i : Nat) (k : List Key) (v : V), kvs[i]? = some (k, v) → ∃ (en : DictEntry) (q : Addr), es[i]? = some en ∧ en.key = .ref q ∧ H q = some (.tup (k.map kV)) ∧ RelV v en.val := by
  obtain ⟨hd, z, hs, xs, pr, o', es, ep, ho, hx, hdt, he, _⟩ := I.hok d _ h
  rw [hd] at ho
  cases ho
  refine ⟨hs, hd, hx, es, ep, hdt, ?_, fun i k v e => ?_⟩
  · have l1 : es.size = xs.length := size_of_entries he
    have l2 : kvs.length = xs.length := Paired.length pr
    omega
  · obtain ⟨b, hb, e1, e2, e3⟩ := paired_get pr e
    have q := entry_at he i
    rw [hb] at q
    exact ⟨_, b.2.1, q, rfl, e2, e3⟩
end
/-- the pairs, each a new tuple with the key's own tuple -/
def ItiT (d : Addr) (o : Obj) (kvs : List (List Key × V)) : It :=
  ⟨fun i H => H d = some (.frz o (.dT kvs)) ∧ i < kvs.length, fun i H x H' => ∃ T k v q, kvs[i]? = some (k, v) ∧ x = .ref T ∧ H T = none ∧ H q = some (.tup (k.map kV)) ∧ k.length ≤ sizeLine ∧ H' = upd H T (.tup [.ref q, v]), fun i H => H d = some (.frz o (.dT kvs)) ∧ kvs.length ≤ i⟩
section
variable {P : Program} {w : World} {K : Fg} {d : Addr} {o : Obj} {es : Array DictEntry} {ep : Nat}
theorem turn_itemsT {kvs : List (List Key × V)} {elts : List Expr} {kk : Nat} {tpos : Pos} (it : Addr) (hod : o.data = .dict es ep) :
    Turn P w K (.Tuple elts kk tpos) (ItiT d o kvs) [it] it (fun i h => ∃ ok ov, IsItemIter h it d i kvs.length ep ok ov) where
  mem := by simp
  obj := fun i h st b hb => by
    have e : b = it := by simpa using hb
    subst e
    obtain ⟨ok, ov, e⟩ := st
    exact ⟨_, e, fun v z => nomatch z⟩
  keep := fun i h h' st k => let ⟨ok, ov, e⟩ := st; ⟨ok, ov, k it (by simp) _ e⟩
  item := by
    intro X hP hw hK hc i pins s σ H E I hf st hg
    subst hP hw hK
    obtain ⟨hd, hi⟩ := hg
    obtain ⟨hs, hgd, hx, es', ep', hdt, hsz, ent⟩ := frzTV I hd
    obtain ⟨rfl, rfl⟩ := dict_ep hod hdt
    obtain ⟨⟨k, v⟩, hkv⟩ : ∃ p, kvs[i]? = some p := ⟨kvs[i], List.getElem?_eq_getElem hi⟩
    obtain ⟨en, q, hen, hkey, hq, rv⟩ := ent i k v hkv
    obtain ⟨ok, ov, he⟩ := st
    rw [← hsz] at he
    have hie : i < es'.size := by omega
    have hei : es'[i] = en := by
      rw [Array.getElem?_eq_getElem hie] at hen
      exact Option.some.inj hen
    have hlt : it < s.heap.objs.size := Heap.lt_size he
    refine DT.nextI he ⟨_, hgd, hx, hdt⟩ hie fun h' ho hT hz hk => ?_
    rw [hei] at ho hT
    refine ⟨_, rfl, wpAny_letOwnedTupleGo_items (s := { s with heap := h' }) ho fun h'' he' sb => ?_⟩
    have hT2 : h''.get? s.heap.objs.size = some { cls := .type "tuple", data := .seq #[en.key, en.val] } := (sb.2 _ (Nat.ne_of_gt hlt)).trans hT
    have new : ObjOk X.prog X.w (upd H s.heap.objs.size (.tup [.ref q, v])) h'' s.heap.objs.size (.tup [.ref q, v]) :=
      ⟨by show 2 ≤ sizeLine; decide, [en.key, en.val], .cons hkey (.cons rv .nil), ⟨_, hT2, rfl, _, rfl⟩⟩
    have I1 : Inv X pins σ (upd H s.heap.objs.size (.tup [.ref q, v])) { s with heap := h'' } :=
      I.turnedNew (t' := s.toks) (ch := [it]) (fun b ob hb e => (sb.2 b (by simpa using hb)).trans (hk b ob (by simpa using hb) e)) hf (Nat.le_refl _) new
    refine ⟨.ref s.heap.objs.size, _, I1, rfl, ⟨_, k, v, q, hkv, rfl, I.hok.fresh (Nat.le_refl _), hq, (by have z := (I.hok q _ hq).1; rw [List.length_map] at z; exact z), rfl⟩, ⟨en.key, en.val, ?_⟩, fun b hb => ?_⟩
    · rw [← hsz]; exact he'
    · have e : b = it := by simpa using hb
      rw [e, upd_ne (Nat.ne_of_lt hlt)]
      exact (hf it (by simp)).1
  done := by
    intro X hP hw hK hc i pins s σ H E I hf st hg
    subst hP hw hK
    obtain ⟨hd, hi⟩ := hg
    obtain ⟨f0, f1, f2, f3, f4, f5⟩ := hf it (by simp)
    obtain ⟨hs, hgd, hx, es', ep', hdt, hsz, ent⟩ := frzTV I hd
    obtain ⟨rfl, rfl⟩ := dict_ep hod hdt
    obtain ⟨ok, ov, he⟩ := st
    rw [← hsz] at he
    exact DT.endI (I.ok.hd hc) he ⟨_, hgd, hx, hdt⟩ (by omega) fun h' eb => ⟨rfl, I.turned (t' := s.toks) (fun b ob hb e => eb b ob hb e) f0 f1 f3 f4 f5⟩
  self := fun A i s Q E st h => let ⟨_, _, e⟩ := st; PySem.W.kcp_self e h
end
def iItemsT (td : TE) : TI := fun σ H R => td σ H fun x H1 => ∃ d o kvs, x = .ref d ∧ H1 d = some (.frz o (.dT kvs)) ∧ R (ItiT d o kvs) H1
section
variable {X : Cx} {e : Expr} {td : TE} {apos cpos : Pos}
theorem pi_itemsT {elts : List Expr} {kk : Nat} {tpos : Pos} (he : PE X e td) (hbase : attributeBase e "items" X.env (eval e X.env) = eval e X.env := by rfl) (hline : (apos.endLine == cpos.line) = true := by rfl) :
    PI X (.Tuple elts kk tpos) (.Call (.Attribute e "items" apos) [] [] cpos) (iItemsT td) := by
  refine ⟨fun pins s σ H R I h => ?_⟩
  refine wpAny_Call_method (T := "dict") (id := "dict.items") hbase rfl hline F.plainAttrs_dict F.slot_dict_items F.type_dict_items (thn (he.run pins s σ H _ I h) fun u s1 ⟨x, H1, I1, rx, d, o, kvs, ex, hd, q⟩ => ?_)
  subst ex
  obtain rfl : u = Value.ref d := rx
  obtain ⟨hs, hgd, hx, es, ep, hdt, hsz, ent⟩ := frzTV I1 hd
  have hm : DT.Raw s1.heap d es ep := ⟨_, hgd, hx, hdt⟩
  refine ⟨hm.typeIs, ?_, ?_⟩
  · obtain ⟨t1, t2, _⟩ := isD_at I1 (.inr ⟨kvs, .inr ⟨o, hd⟩⟩ : IsD H1 d)
    exact t2
  have I2 : Inv X pins σ H1 { s1 with heap := s1.heap.push { cls := .type "dict_items", data := .fields #[.ref d] } } := I1.kept (t' := s1.toks) fun b ob q => Heap.get?_push_of_some _ q
  have fin : wpAny (model X.prog X.w) X.A (pyIter (.ref s1.heap.objs.size)) (PIE X pins σ (.Tuple elts kk tpos) R) X.xe { s1 with heap := s1.heap.push { cls := .type "dict_items", data := .fields #[.ref d] } } := by
    refine DT.iterI (d := d) (es := es) (ep := ep) ⟨_, Heap.get?_push_size _ rfl, rfl, rfl⟩ (hm.push _) (pi_one (tk := s1.toks) I2 _ (turn_itemsT _ hdt) ⟨.none, .none, ?_⟩ q)
    rw [hsz]
    exact Heap.get?_push_size _ rfl
  show wpAny _ _ (callWith cpos (.builtin "dict.items") [.ref d] [] []) _ X.xe s1
  exact method_meetsIn F.slot_dict_items F.entry_dict_items rfl (PySem.evalArgs_none ⟨rfl, hm.typeIs, F.args_dict_items_1 _, _, DT.meetsItems (es := es) (ep := ep) hs, hm, fin⟩)
end

/-! ### reading a dict of one's own -/
def dputO {β : Type} (d : List (List Int × β)) (k : List Int) (v : β) : Option (List (List Int × β)) := if d.length < lim then some (dput d k v) else none
section
variable {K : Fg} {β : Type}
def IsDct (j : Rep K β) (e : Ent K) (d : List (List Int × β)) : Prop := ∀ F H S s, EntAt F H S s e → ∃ p vs, s = some (some (.ref p)) ∧ Rd H p (.dT vs) ∧ vs.length ≤ sizeLine ∧ PD j F vs d
/-- locked, while one walks it -/
def AtL (j : Rep K β) (od : Obj) (p : Addr) (vs : List (List Key × V)) (F H : Hp) (v : V) (S : Addr → Prop) (d : List (List Int × β)) : Prop := v = .ref p ∧ (∀ a, S a ↔ a = p) ∧ F p = none ∧ H p = some (.frz od (.dT vs)) ∧ vs.length ≤ sizeLine ∧ PD j F vs d
theorem frz_num {od : Obj} {u : HO} : ¬ NumT (.frz od u) := fun ⟨_, e⟩ => nomatch e
@[reducible] def oL (j : Rep K β) (od : Obj) (p : Addr) (vs : List (List Key × V)) : ORep K (List (List Int × β)) :=
  ⟨AtL j od p vs, fun {F H F' H' v S a} h ff hh fr => by
    obtain ⟨e, hS, hf, hp, hl, pr⟩ := h
    exact ⟨e, hS, fr p ((hS p).mpr rfl), (hh p ((hS p).mpr rfl)).trans hp, hl, Paired.mapP pr fun _ _ z => ⟨z.1, j.mono ff z.2⟩⟩,
   fun {F H v S a} h => by
    obtain ⟨e, hS, hf, hp, hl, pr⟩ := h
    intro q hq
    rw [(hS q).mp hq]
    exact ⟨hf, _, hp, frz_num⟩⟩
theorem isDct_own {j : Rep K β} {d : List (List Int × β)} : IsDct j (.obj (oD j) d) d := fun F H S s h => by
  obtain ⟨v, e, p, vs, ev, hS, hf, hp, hl, pr⟩ := h
  subst ev
  exact ⟨p, vs, e, .inl hp, hl, pr⟩
theorem isDct_lk {j : Rep K β} {od : Obj} {p : Addr} {vs : List (List Key × V)} {d : List (List Int × β)} : IsDct j (.obj (oL j od p vs) d) d := fun F H S s h => by
  obtain ⟨v, e, ev, hS, hf, hp, hl, pr⟩ := h
  subst ev
  exact ⟨p, vs, e, .inr ⟨od, hp⟩, hl, pr⟩
theorem rd_grow {H H1 : Hp} {p : Addr} {u : HO} (h : Rd H p u) (s : Same H H1) : Rd H1 p u := by
  rcases h with z | ⟨o, z⟩
  · exact .inl (s _ _ z)
  · exact .inr ⟨o, s _ _ z⟩
variable {ρ X : Type} {R : RR ρ} {φ : X → Fl K ρ} {es : Env K} {t u tz : TS} {te tk tv tx : TE} {i : Nat} {d : List (List Int × β)} {e : Ent K}
theorem ev_dget [j : Rep K β] {mk : Option (Tup Int)} (h : es[i]? = some e) (hd : IsDct j e d) (hk : Ev tk es mk) : Ev (tDGet (tVar i) tk) es (mk.bind fun k => dval d k) := fun b hb F H ad σ rs Q q => by
  obtain ⟨k, ek, hb⟩ := bind_some hb
  obtain ⟨p, vs, hv0, hp, hl, pr⟩ := hd _ _ _ _ (rs.ent i _ h)
  refine ⟨_, hv0, ?_⟩
  refine hk k ek F H ad σ rs _ fun yk F1 H1 g1 ak => ?_
  obtain ⟨a, eyk, hka⟩ := key_at g1.ex ak
  have pr1 : PD j F1 vs d := Paired.mapP pr fun _ _ z => ⟨z.1, j.mono g1.ff z.2⟩
  rcases pr1.val k with ⟨z, _⟩ | ⟨b0, u0, z1, z2, z3⟩
  · rw [z] at hb; cases hb
  · rw [z1] at hb
    cases hb
    exact ⟨p, u0, rfl, .inr ⟨vs, keyI k, a, rd_grow hp g1.hh, eyk, hka, z2.symm⟩, q u0 F1 H1 g1 z3⟩
theorem ev_dget2 [j : Rep K β] {mk : Option (Tup Int)} {mx : Option β} (h : es[i]? = some e) (hd : IsDct j e d) (hk : Ev tk es mk) (hx : Ev tx es mx) : Ev (tDGet2 (tVar i) tk tx) es (mk.bind fun k => mx.bind fun x => some ((dval d k).getD x)) := fun b hb F H ad σ rs Q q => by
  obtain ⟨k, ek, hb⟩ := bind_some hb
  obtain ⟨x, ex, hb⟩ := bind_some hb
  cases hb
  obtain ⟨p, vs, hv0, hp, hl, pr⟩ := hd _ _ _ _ (rs.ent i _ h)
  refine ⟨_, hv0, p, rfl, .inr ⟨vs, hp⟩, ?_⟩
  refine hk k ek F H ad σ rs _ fun yk F1 H1 g1 ak => ?_
  refine hx x ex F1 H1 ad σ (rs.grow g1) _ fun yx F2 H2 g2 ax => ?_
  have g := g1.trans g2
  obtain ⟨a, eyk, hka⟩ := key_at g2.ex ((repTup (K := K) (α := Int)).mono g2.ff ak)
  have pr2 : PD j F2 vs d := Paired.mapP pr fun _ _ z => ⟨z.1, j.mono g.ff z.2⟩
  rcases pr2.val k with ⟨z1, z2⟩ | ⟨b0, u0, z1, z2, z3⟩
  · refine ⟨none, .inr ⟨vs, keyI k, a, rd_grow hp g.hh, eyk, hka, z2.symm⟩, q yx F2 H2 g ?_⟩
    rw [z1]
    exact ax
  · refine ⟨some u0, .inr ⟨vs, keyI k, a, rd_grow hp g.hh, eyk, hka, z2.symm⟩, q u0 F2 H2 g ?_⟩
    rw [z1]
    exact z3
/-- k in d -/
theorem et_din [j : Rep K β] {mk : Option (Tup Int)} (h : es[i]? = some e) (hd : IsDct j e d) (hk : Ev tk es mk) : Ev (tDIn tk (tVar i)) es (mk.bind fun k => some (dval d k).isSome) := fun b hb F H ad σ rs Q q => by
  obtain ⟨k, ek, hb⟩ := bind_some hb
  cases hb
  refine hk k ek F H ad σ rs _ fun yk F1 H1 g1 ak => ?_
  obtain ⟨p, vs, hv0, hp, hl, pr⟩ := hd _ _ _ _ ((rs.grow g1).ent i _ h)
  obtain ⟨a, eyk, hka⟩ := key_at g1.ex ak
  refine ⟨_, hv0, ?_⟩
  rcases pr.val k with ⟨z1, z2⟩ | ⟨b0, u0, z1, z2, z3⟩
  · refine ⟨p, none, rfl, .inr ⟨vs, keyI k, a, hp, eyk, hka, z2.symm⟩, q _ F1 H1 g1 ?_⟩
    rw [z1]
    rfl
  · refine ⟨p, some u0, rfl, .inr ⟨vs, keyI k, a, hp, eyk, hka, z2.symm⟩, q _ F1 H1 g1 ?_⟩
    rw [z1]
    rfl
theorem et_dnotin [j : Rep K β] {mk : Option (Tup Int)} (h : es[i]? = some e) (hd : IsDct j e d) (hk : Ev tk es mk) : Ev (tDNotIn tk (tVar i)) es (mk.bind fun k => some (!(dval d k).isSome)) := fun b hb F H ad σ rs Q q => by
  obtain ⟨k, ek, hb⟩ := bind_some hb
  cases hb
  refine hk k ek F H ad σ rs _ fun yk F1 H1 g1 ak => ?_
  obtain ⟨p, vs, hv0, hp, hl, pr⟩ := hd _ _ _ _ ((rs.grow g1).ent i _ h)
  obtain ⟨a, eyk, hka⟩ := key_at g1.ex ak
  refine ⟨_, hv0, ?_⟩
  rcases pr.val k with ⟨z1, z2⟩ | ⟨b0, u0, z1, z2, z3⟩
  · refine ⟨p, none, rfl, .inr ⟨vs, keyI k, a, hp, eyk, hka, z2.symm⟩, q _ F1 H1 g1 ?_⟩
    rw [z1]
    rfl
  · refine ⟨p, some u0, rfl, .inr ⟨vs, keyI k, a, hp, eyk, hka, z2.symm⟩, q _ F1 H1 g1 ?_⟩
    rw [z1]
    rfl
/-! ### putting -/
theorem put_at [GoodR R] [j : Rep K β] {F H F2 H2 : Hp} {ad : Nat → Addr → Prop} {σ : L2.St} {D : Ends} {fl : Fl K ρ} {M : Option (Fl K ρ)} {k : List Int} {b : β} {w : V} {p : Addr} {vs : List (List Key × V)} (h : es[i]? = some (.obj (oD j) d)) (rs : RSt K F H ad σ es) (g : Grow F H F2 H2) (fo : FlOk R (OwA es ad) F H D fl)
    (hv0 : σ[i]? = some (some (.ref p))) (hS : ∀ a, ad i a ↔ a = p) (hf : F p = none) (hp : H p = some (.dT vs)) (pr : PD j F vs d) (hlt : vs.length < sizeLine) (aw : j.At F2 w b) (hfl : M = some fl) (hs : Sv R tz (es.set i (.obj (oD j) (dput d k b))) M) : tz D σ (upd H2 p (.dT (putK vs (keyI k) w))) := by
  have rs2 := rs.grow g
  have hf2 : F2 p = none := g.fr p _ hp (fun ⟨_, e⟩ => nomatch e) hf
  have hp2 := g.hh p _ hp
  have pr2 : PD j F2 vs d := Paired.mapP pr fun _ _ z => ⟨z.1, j.mono g.ff z.2⟩
  have hh : ∀ a o, H2 a = some o → ¬ ad i a → upd H2 p (.dT (putK vs (keyI k) w)) a = some o := fun a o ho hn => by
    rw [upd_ne fun z => hn ((hS a).mpr z)]
    exact ho
  have rs3 : RSt K F2 (upd H2 p (.dT (putK vs (keyI k) w))) (adSet ad i (· = p)) σ (es.set i (.obj (oD j) (dput d k b))) := rs2.updObj2 h rfl hv0 ⟨_, rfl, p, _, rfl, fun _ => Iff.rfl, hf2, upd_same, by have := length_putK vs (keyI k) w; omega, pr2.put k aw⟩ (upd_same_ rs2.ex hf2) hh fun a z => .inl ((hS a).mpr z)
  have sb : ∀ a, OwA (es.set i (.obj (oD j) (dput d k b))) (adSet ad i (· = p)) a → OwA es ad a := fun a z => by
    rcases own_setObj z with z | z
    · exact z
    · exact ⟨i, _, h, rfl, (hS a).mpr z⟩
  exact hs fl hfl F2 _ _ σ D rs3 ((fo.trans (ow1 := OwA es ad) g.adv fun a z => .inl z).trans (adv_obj (es := es) h rfl hh upd_dm) fun a z => .inl (sb a z))
theorem sx_dput [GoodR R] [j : Rep K β] {mk : Option (Tup Int)} {mv : Option β} {kk : List (List Int × β) → Option X} (h : es[i]? = some (.obj (oD j) d)) (hv : Ev tv es mv) (hk : Ev tk es mk) (h2 : ∀ d', Sx R φ tz (es.set i (.obj (oD j) d')) (kk d')) :
    Sx R φ (tSeq (sDPut (tVar i) tk tv) tz) es (mv.bind fun v => mk.bind fun k => (dputO d k v).bind kk) := by
  show Sv _ _ _ _
  intro fl hfl F H ad σ D rs fo
  obtain ⟨x, hx, hfl⟩ := map_some hfl
  obtain ⟨b, eb, hx⟩ := bind_some hx
  obtain ⟨k, ek, hx⟩ := bind_some hx
  obtain ⟨d', ed, hx⟩ := bind_some hx
  unfold dputO at ed
  split at ed
  rotate_left
  · cases ed
  rename_i hz
  cases ed
  obtain ⟨v0, hv0, p, vs, e, hS, hf, hp, hl, pr⟩ := rs.ent i _ h
  subst e
  have hlen := Paired.length pr
  have hlt : vs.length < sizeLine := lt_lim (by omega)
  refine hv b eb F H ad σ rs _ fun w F1 H1 g1 aw => ?_
  refine ⟨_, hv0, ?_⟩
  refine hk k ek F1 H1 ad σ (rs.grow g1) _ fun yk F2 H2 g2 ak => ?_
  have g := g1.trans g2
  obtain ⟨a, eyk, hka⟩ := key_at g2.ex ak
  refine ⟨p, _, rfl, .inr ⟨vs, keyI k, a, g.hh p _ hp, eyk, hka, hlt, rfl⟩, ?_⟩
  have hm : (kk (dput d k b)).map φ = some fl := by rw [hx]; exact congrArg some hfl
  show tz D σ _
  exact put_at h rs g fo hv0 hS hf hp pr hlt (j.mono g2.ff aw) hm (h2 (dput d k b))
theorem sx_daug [GoodR R] {d : List (List Int × Int)} {mk : Option (Tup Int)} {mv : Option Int} {kk : List (List Int × Int) → Option X} (h : es[i]? = some (.obj (oD (repInt (K := K))) d)) (hk : Ev tk es mk) (hv : Ev tv es mv) (h2 : ∀ d', Sx R φ tz (es.set i (.obj (oD (repInt (K := K))) d')) (kk d')) :
    Sx R φ (tSeq (sDAug (tVar i) tk tv rAdd) tz) es (mk.bind fun k => (dval d k).bind fun x => mv.bind fun v => (dputO d k (x + v)).bind kk) := by
  show Sv _ _ _ _
  intro fl hfl F H ad σ D rs fo
  obtain ⟨x, hx, hfl⟩ := map_some hfl
  obtain ⟨k, ek, hx⟩ := bind_some hx
  obtain ⟨n, en, hx⟩ := bind_some hx
  obtain ⟨b, eb, hx⟩ := bind_some hx
  obtain ⟨d', ed, hx⟩ := bind_some hx
  unfold dputO at ed
  split at ed
  rotate_left
  · cases ed
  rename_i hz
  cases ed
  obtain ⟨v0, hv0, p, vs, e, hS, hf, hp, hl, pr⟩ := rs.ent i _ h
  subst e
  have hlen := Paired.length pr
  have hlt : vs.length < sizeLine := lt_lim (by omega)
  refine ⟨_, hv0, ?_⟩
  refine hk k ek F H ad σ rs _ fun yk F1 H1 g1 ak => ?_
  obtain ⟨a, eyk, hka⟩ := key_at g1.ex ak
  rcases pr.val k with ⟨z, _⟩ | ⟨b0, u0, z1, z2, z3⟩
  · rw [z] at en; cases en
  rw [z1] at en
  cases en
  have z3 : u0 = V.int n := z3
  subst z3
  refine ⟨p, .int n, rfl, .inr ⟨vs, keyI k, a, .inl (g1.hh p _ hp), eyk, hka, z2.symm⟩, ?_⟩
  refine hv b eb F1 H1 ad σ (rs.grow g1) _ fun w F2 H2 g2 aw => ?_
  have aw : w = V.int b := aw
  subst aw
  have g := g1.trans g2
  refine ⟨n, b, rfl, rfl, ?_⟩
  refine ⟨_, .inr ⟨vs, keyI k, a, g.hh p _ hp, eyk, g2.hh _ _ hka, hlt, rfl⟩, ?_⟩
  have hm : (kk (dput d k (n + b))).map φ = some fl := by rw [hx]; exact congrArg some hfl
  show tz D σ _
  exact put_at h rs g fo hv0 hS hf hp pr hlt (show (repInt (K := K)).At F2 (.int (n + b)) (n + b) from rfl) hm (h2 (dput d k (n + b)))
end

/-! ### for k, v in d.items() -/
theorem num_freeze {F H : Hp} (e : Same F H) {q : Addr} {x : List Int} (hq : H q = some (.tup (x.map V.int))) : ∃ G, Grow F H G H ∧ G q = some (.tup (x.map V.int)) := by
  cases hF : F q with
  | some o =>
    have z := e _ _ hF
    rw [hq] at z
    cases z
    exact ⟨F, Grow.refl e, hF⟩
  | none =>
    refine ⟨upd F q (.tup (x.map V.int)), ⟨same_new hF, Same.refl H, fun b u z => ?_, fun b u z n f => ?_⟩, upd_same⟩
    · by_cases hb : b = q
      · subst hb
        rw [upd_same] at z
        cases z
        exact hq
      · rw [upd_ne hb] at z
        exact e _ _ z
    · by_cases hb : b = q
      · subst hb
        rw [hq] at z
        cases z
        exact absurd ⟨x, rfl⟩ n
      · rw [upd_ne hb]
        exact f
def RLk {ρ : Type} (R : RR ρ) (p : Addr) (od : Obj) (u : HO) : RR ρ := fun fr F H v a => R fr F H v a ∧ F p = none ∧ H p = some (.frz od u)
instance goodRLk {ρ : Type} {R : RR ρ} [GoodR R] {p : Addr} {od : Obj} {u : HO} : GoodR (RLk R p od u) :=
  ⟨fun g ⟨x, y, z⟩ => ⟨GoodR.mono g x, g.fr p _ z frz_num y, g.hh _ _ z⟩, fun w ⟨x, y, z⟩ => ⟨GoodR.weak w x, y, z⟩⟩
section
variable {K : Fg} {β ρ S X : Type} {R : RR ρ} {φ : X → Fl K ρ} {es : Env K} {t u tz tb : TS} {te : TE} {i k l : Nat} {d : List (List Int × β)} {j : Rep K β} {enc : S → Env K}
theorem ev_lk {od : Obj} {p : Addr} {vs : List (List Key × V)} {m : Option ρ} (h : es[i]? = some (.obj (oL j od p vs) d)) (he : EvG R te es m) : EvG (RLk R p od (.dT vs)) te es m := fun a ha F H ad σ rs Q q =>
  he a ha F H ad σ rs Q fun v F' H' g x => by
    obtain ⟨v1, hv1, ev, hS1, hf1, hp1, hl1, pr1⟩ := rs.ent i _ h
    exact q v F' H' g ⟨x, g.fr p _ hp1 frz_num hf1, g.hh _ _ hp1⟩
theorem sv_itemsL0 [GoodR R] {od : Obj} {p : Addr} {vs : List (List Key × V)} {s0 : S} {step : S → List Int × β → Option (Lp S ρ)} (he : ∀ s, (enc s)[i]? = some (.obj (oL j od p vs) d)) (hb : ∀ s x, Sv R tb (((enc s).set k (.val (repTup (K := K) (α := Int)) x.1)).set l (.val j x.2)) ((step s x).map (Lp.fl enc))) :
    Sv R (tFor (iItemsT (tVar i)) (gTup K 2 (gCons (gName k) (gCons (gName l) gNil))) tb) (enc s0) ((forL step d s0).map (Lp.fl enc)) := by
  intro fl hfl F H ad σ D rs fo
  obtain ⟨lp, hf, hfl⟩ := map_some hfl
  subst hfl
  obtain ⟨v0, hv0, ev, hS, hf0, hp, hl, pr⟩ := rs.ent i _ (he s0)
  subst ev
  have ln := Paired.length pr
  refine ⟨_, hv0, p, od, vs, rfl, hp, ?_⟩
  refine ⟨fun n m σ' H' => n ≤ d.length ∧ m = d.length - n ∧ ∃ F' ad' s, Adv (OwA (enc s0) ad) F H F' H' ∧ (∀ q, OwA (enc s) ad' q → OwA (enc s0) ad q ∨ H q = none) ∧ RSt K F' H' ad' σ' (enc s) ∧ forL step (d.drop n) s = some lp,
    ⟨d.length, Nat.zero_le _, rfl, F, ad, s0, Adv.refl, fun p z => .inl z, rs, hf⟩, ?_⟩
  rintro n m σ' H' ⟨hi, rfl, F', ad', s, a, sb, r, hd⟩
  obtain ⟨v1, hv1, ev1, hS1, hf1, hp1, hl1, pr1⟩ := r.ent i _ (he s)
  rcases Nat.lt_or_ge n d.length with hlt | hge
  · have hx : d[n]? = some d[n] := List.getElem?_eq_getElem hlt
    obtain ⟨w, hw, pw1, pw2⟩ := paired_of_get pr1 hx
    refine .inr ⟨⟨hp1, by omega⟩, fun σ2 H2 => ∃ F2 ad2 s2, Adv (OwA (enc s0) ad) F H F2 H2 ∧ (∀ q, OwA (enc s2) ad2 q → OwA (enc s0) ad q ∨ H q = none) ∧ RSt K F2 H2 ad2 σ2 (enc s2) ∧ forL step (d.drop (n + 1)) s2 = some lp,
      fun σ2 H2 h2 => ⟨d.length - (n + 1), by omega, hlt, rfl, h2⟩, fun v H2 hy => ?_⟩
    obtain ⟨T, k0, w0, q, hkv, ev, nT, hq, hlk, eH⟩ := hy
    subst ev eH
    rw [hw] at hkv
    cases hkv
    have pw1 : k0 = keyI d[n].1 := pw1
    subst pw1
    rw [keyI_V] at hq
    obtain ⟨G, gq, hG⟩ := num_freeze r.ex hq
    have gT := gq.trans (Grow.make (o := .tup [.ref q, w0]) gq.ex nT)
    have lk : (d[n].1).length ≤ sizeLine := by
      have : (keyI d[n].1).length = (d[n].1).length := List.length_map ..
      omega
    refine tg_pair (i := repTup (K := K) (α := Int)) (j := j) (x := d[n].1) (y := d[n].2) (r.grow gT) (.inl (.inl upd_same)) ⟨q, _, rfl, hG, by rw [List.length_map]; exact lk, paired_ints _⟩ (j.mono gq.ff pw2) fun F3 H3 σ3 g3 r3 _ _ => ?_
    rw [drop_cons hx] at hd
    obtain ⟨lq, hlq, hd⟩ := bind_some (show (step s d[n]).bind _ = some lp from hd)
    have sb3 : ∀ p, OwA (((enc s).set k (.val (repTup (K := K) (α := Int)) d[n].1)).set l (.val j d[n].2)) ad' p → OwA (enc s0) ad p ∨ H p = none := fun p z => sb p (own_set2 z)
    have a3 : Adv (OwA (enc s0) ad) F H F3 H3 := a.trans (ow1 := OwA (enc s) ad') sb (gT.trans g3).adv
    refine hb s d[n] (lq.fl enc) (by rw [hlq]; rfl) F3 H3 ad' σ3 _ r3 ?_
    cases lq with
    | nx s2 => exact fun F4 H4 ad4 σ4 b sb4 r4 => ⟨F4, ad4, s2, a3.trans sb3 b, fun p z => sub_trans a3 sb3 (sb4 p z), r4, hd⟩
    | ct s2 => exact fun F4 H4 ad4 σ4 b sb4 r4 => ⟨F4, ad4, s2, a3.trans sb3 b, fun p z => sub_trans a3 sb3 (sb4 p z), r4, hd⟩
    | bk s2 =>
      have hd : some (Lp.nx s2) = some lp := hd
      cases hd
      exact fun F4 H4 ad4 σ4 b sb4 r4 => fo F4 H4 ad4 σ4 (a3.trans sb3 b) (fun p z => sub_trans a3 sb3 (sb4 p z)) r4
    | rt q =>
      have hd : some (Lp.rt q) = some lp := hd
      cases hd
      exact fun F4 H4 w b ex x => fo F4 H4 w (a3.trans sb3 b) ex (GoodR.weak (fun p z => sub_trans a3 sb3 z) x)
  · have e : n = d.length := Nat.le_antisymm hi hge
    subst e
    rw [List.drop_length] at hd
    have hd : some (Lp.nx s) = some lp := hd
    cases hd
    exact .inl ⟨⟨hp1, by omega⟩, fo F' H' ad' σ' a sb r⟩
def Fl.at (i : Nat) (e : Ent K) : Fl K ρ → Fl K ρ
  | .nx es => .nx (es.set i e)
  | .bk es => .bk (es.set i e)
  | .ct es => .ct (es.set i e)
  | .rt r => .rt r
  | .ex P => .ex P
def FlAt (i : Nat) (e : Ent K) : Fl K ρ → Prop
  | .nx es => es[i]? = some e
  | .bk es => es[i]? = some e
  | .ct es => es[i]? = some e
  | .rt _ => True
  | .ex _ => False
theorem sv_lockD {r : Rep K ρ} {M : Option (Fl K ρ)} (h : es[i]? = some (.obj (oD j) d)) (hM : ∀ fl, M = some fl → FlAt i (.obj (oD j) d) fl)
    (hs : ∀ od p vs, Sv (RLk (RV r) p od (.dT vs)) t (es.set i (.obj (oL j od p vs) d)) (M.map (Fl.at i (.obj (oL j od p vs) d)))) : Sv (RV r) (tLock t) es M := by
  intro fl hfl F H ad σ D rs fo
  obtain ⟨v0, hv0, p, vs, e, hS, hf, hp, hl, pr⟩ := rs.ent i _ h
  subst e
  refine ⟨p, .dT vs, hp, True.intro, fun od => ?_⟩
  have hh : ∀ a o, H a = some o → ¬ ad i a → upd H p (.frz od (.dT vs)) a = some o := fun a o ho n => by
    rw [upd_ne fun z => n ((hS a).mpr z)]
    exact ho
  have rs1 : RSt K F (upd H p (.frz od (.dT vs))) (adSet ad i (· = p)) σ (es.set i (.obj (oL j od p vs) d)) := rs.updObj2 h rfl hv0 ⟨_, rfl, rfl, fun _ => Iff.rfl, hf, upd_same, hl, pr⟩ (upd_same_ rs.ex hf) hh fun a z => .inl ((hS a).mpr z)
  have own : OwA es ad p := ⟨i, _, h, rfl, (hS p).mpr rfl⟩
  have sb0 : ∀ a, OwA (es.set i (.obj (oL j od p vs) d)) (adSet ad i (· = p)) a → OwA es ad a := fun a z => by
    rcases own_setObj z with z | z
    · exact z
    · rw [show a = p from z]; exact own
  have back : ∀ F' H', Adv (OwA (es.set i (.obj (oL j od p vs) d)) (adSet ad i (· = p))) F (upd H p (.frz od (.dT vs))) F' H' → Adv (OwA es ad) F H F' (upd H' p (.dT vs)) := fun F' H' a =>
    ⟨a.ff, fun q o ho n => by
      have hq : q ≠ p := fun z => n (by rw [z]; exact own)
      rw [upd_ne hq]
      exact a.hh q o (by rw [upd_ne hq]; exact ho) fun z => n (sb0 q z), fun q o ho => by
      by_cases hq : q = p
      · exact ⟨_, by rw [hq]; exact upd_same⟩
      · rw [upd_ne hq]
        exact a.dm q o (by rw [upd_ne hq]; exact ho), fun q o ho nn f => by
      by_cases hq : q = p
      · exact .inl (by rw [hq]; exact own)
      · rcases a.fr q o (by rw [upd_ne hq]; exact ho) nn f with z | z
        · exact .inl (sb0 q z)
        · exact .inr z⟩
  have fin : ∀ es1 : Env K, es1[i]? = some (.obj (oD j) d) → ∀ F' H' ad' σ', Adv (OwA (es.set i (.obj (oL j od p vs) d)) (adSet ad i (· = p))) F (upd H p (.frz od (.dT vs))) F' H' → (∀ q, OwA (es1.set i (.obj (oL j od p vs) d)) ad' q → OwA (es.set i (.obj (oL j od p vs) d)) (adSet ad i (· = p)) q ∨ upd H p (.frz od (.dT vs)) q = none) → RSt K F' H' ad' σ' (es1.set i (.obj (oL j od p vs) d)) →
      H' p = some (.frz od (.dT vs)) ∧ ∃ ad2, Adv (OwA es ad) F H F' (upd H' p (.dT vs)) ∧ (∀ q, OwA es1 ad2 q → OwA es ad q ∨ H q = none) ∧ RSt K F' (upd H' p (.dT vs)) ad2 σ' es1 := by
    intro es1 hi F' H' ad' σ' a sb r
    obtain ⟨v1, hv1, ev, hS1, hf1, hp1, hl1, pr1⟩ := r.ent i _ (getset_self hi)
    subst ev
    have hh2 : ∀ a o, H' a = some o → ¬ ad' i a → upd H' p (.dT vs) a = some o := fun a o ho n => by
      rw [upd_ne fun z => n ((hS1 a).mpr z)]
      exact ho
    have r2 := r.updObj2 (i := i) (e1 := .obj (oD j) d) (S := (· = p)) (H' := upd H' p (.dT vs)) (getset_self hi) rfl hv1 ⟨_, rfl, p, vs, rfl, fun _ => Iff.rfl, hf1, upd_same, hl1, pr1⟩ (upd_same_ r.ex hf1) hh2 fun a z => .inl ((hS1 a).mpr z)
    rw [set_twice, set_self hi] at r2
    refine ⟨hp1, _, back F' H' a, fun q z => ?_, r2⟩
    obtain ⟨n, e, hk, he, hq⟩ := z
    by_cases hn : n = i
    · rw [hn, adSet_self] at hq
      exact .inl (by rw [show q = p from hq]; exact own)
    · rw [adSet_ne hn] at hq
      rcases sb q ⟨n, e, by rw [List.getElem?_set_ne fun z => hn z.symm]; exact hk, he, hq⟩ with y | y
      · exact .inl (sb0 q y)
      · by_cases hqp : q = p
        · rw [hqp, upd_same] at y; cases y
        · rw [upd_ne hqp] at y; exact .inr y
  have hat := hM fl hfl
  refine hs od p vs (fl.at i _) (by rw [hfl]; rfl) F _ _ σ _ rs1 ?_
  cases fl with
  | nx es1 =>
    intro F' H' ad' σ' a sb r
    obtain ⟨k1, ad2, k2, k3, k4⟩ := fin es1 hat F' H' ad' σ' a sb r
    exact ⟨k1, fo F' _ ad2 σ' k2 k3 k4⟩
  | bk es1 =>
    intro F' H' ad' σ' a sb r
    obtain ⟨k1, ad2, k2, k3, k4⟩ := fin es1 hat F' H' ad' σ' a sb r
    exact ⟨k1, fo F' _ ad2 σ' k2 k3 k4⟩
  | ct es1 =>
    intro F' H' ad' σ' a sb r
    obtain ⟨k1, ad2, k2, k3, k4⟩ := fin es1 hat F' H' ad' σ' a sb r
    exact ⟨k1, fo F' _ ad2 σ' k2 k3 k4⟩
  | rt q =>
    intro F' H' v a ex x
    obtain ⟨x1, x2, x3⟩ := x
    exact ⟨x3, fo F' _ v (back F' H' a) (upd_same_ ex x2) x1⟩
  | ex P => exact absurd hat id
theorem lp_at {e : Ent K} (lp : Lp S ρ) : Fl.at i e (lp.fl enc) = lp.fl fun s => (enc s).set i e := by cases lp <;> rfl
theorem sv_items0 {r : Rep K ρ} {s0 : S} {step : S → List Int × β → Option (Lp S ρ)} (hi : ∀ s, (enc s)[i]? = some (.obj (oD j) d))
    (hb : ∀ od p vs s x, Sv (RLk (RV r) p od (.dT vs)) tb ((((enc s).set i (.obj (oL j od p vs) d)).set k (.val (repTup (K := K) (α := Int)) x.1)).set l (.val j x.2)) ((step s x).map (Lp.fl fun s => (enc s).set i (.obj (oL j od p vs) d)))) :
    Sv (RV r) (tLock (tFor (iItemsT (tVar i)) (gTup K 2 (gCons (gName k) (gCons (gName l) gNil))) tb)) (enc s0) ((forL step d s0).map (Lp.fl enc)) := by
  refine sv_lockD (hi s0) (fun fl hfl => ?_) fun od p vs => ?_
  · obtain ⟨lp, _, rfl⟩ := map_some hfl
    cases lp with
    | nx s => exact hi s
    | ct s => exact hi s
    | bk s => exact hi s
    | rt q => exact True.intro
  · have e : ((forL step d s0).map (Lp.fl enc)).map (Fl.at i (.obj (oL j od p vs) d)) = (forL step d s0).map (Lp.fl fun s => (enc s).set i (.obj (oL j od p vs) d)) := by
      rw [Option.map_map]
      congr 1
      funext lp
      exact lp_at lp
    rw [e]
    exact sv_itemsL0 (enc := fun s => (enc s).set i (.obj (oL j od p vs) d)) (fun s => getset_self (hi s)) (hb od p vs)
theorem sx_itemsR (i : Nat) {r : Rep K ρ} {s0 : S} {step : S → List Int × β → Option (Lp S ρ)} {kk : S → Option ρ} (he : es = enc s0) (hi : ∀ s, (enc s)[i]? = some (.obj (oD j) d))
    (hb : ∀ od p vs s x, Sx (RLk (RV r) p od (.dT vs)) (Lp.fl fun s => (enc s).set i (.obj (oL j od p vs) d)) tb ((((enc s).set i (.obj (oL j od p vs) d)).set k (.val (repTup (K := K) (α := Int)) x.1)).set l (.val j x.2)) (step s x))
    (hk : ∀ s, Sx (RV r) .rt tz (enc s) (kk s)) : Sx (RV r) (.rt (K := K)) (tSeq (tLock (tFor (iItemsT (tVar i)) (gTup K 2 (gCons (gName k) (gCons (gName l) gNil))) tb)) tz) es ((forL step d s0).bind fun l => l.els kk some) := by
  subst he
  show Sv _ _ _ _
  rw [els_rt]
  exact seq_els (sv_items0 hi hb) hk
end
/-! ### {k: v, ..}[x], written whole numbers -/
def lookI (ps : List (Int × Int)) (k : Int) : Option Int := ps.foldl (fun acc p => if k = p.1 then some p.2 else acc) none
theorem tPairs_const {σ : L2.St} : ∀ (ps : List (Int × Int)) {H : Hp} {Q : List (V × V) → Hp → Prop}, Q (ps.map fun p => (V.int p.1, V.int p.2)) H → tPairs (ps.map fun p => (tC (.int p.1), tC (.int p.2))) σ H Q
  | [], _, _, q => q
  | p :: ps, H, Q, q => tPairs_const ps (Q := fun r H3 => Q ((V.int p.1, V.int p.2) :: r) H3) q
theorem merge_val (k : Int) : ∀ (ps : List (Int × Int)) (kvs : List (Key × V)) (acc : Option Int), valV kvs (Sum.inl k) = acc.map V.int → valV (mergeK kvs (ps.map fun p => ((Sum.inl p.1 : Key), V.int p.2))) (Sum.inl k) = (ps.foldl (fun acc p => if k = p.1 then some p.2 else acc) acc).map V.int
  | [], _, _, h => h
  | p :: ps, kvs, acc, h => by
    refine merge_val k ps (putK kvs (Sum.inl p.1) (V.int p.2)) (if k = p.1 then some p.2 else acc) ?_
    rw [valV_put]
    by_cases e : k = p.1
    · rw [if_pos (by rw [e]), if_pos e]
      rfl
    · rw [if_neg (fun z => e (by injection z)), if_neg e]
      exact h
section
variable {K : Fg} {es : Env K} {tk ta ti : TE}
theorem ev_dispI (ps : List (Int × Int)) (hl : ps.length ≤ 15) {mk : Option Int} (hk : Ev tk es mk) : Ev (tDGet (tDisp (ps.map fun p => (tC (.int p.1), tC (.int p.2)))) tk) es (mk.bind fun k => lookI ps k) := fun b hb F H ad σ rs Q q => by
  obtain ⟨k, ek, hb⟩ := bind_some hb
  intro p hp
  refine tPairs_const ps ⟨upd_same, ps.map fun x => ((Sum.inl x.1 : Key), V.int x.2), by rw [List.map_map]; rfl, by rw [List.length_map]; exact hl, ?_⟩
  have eh : upd (upd H p (.dK [])) p (.dK (mergeK [] (ps.map fun x => ((Sum.inl x.1 : Key), V.int x.2)))) = upd H p (.dK (mergeK [] (ps.map fun x => ((Sum.inl x.1 : Key), V.int x.2)))) := by
    funext a
    by_cases c : a = p
    · rw [c, upd_same, upd_same]
    · rw [upd_ne c, upd_ne c, upd_ne c]
  rw [eh]
  have g := Grow.make (o := .dK (mergeK [] (ps.map fun x => ((Sum.inl x.1 : Key), V.int x.2)))) rs.ex hp
  refine hk k ek F _ ad σ (rs.grow g) _ fun y F2 H2 g2 ay => ?_
  have ay : y = V.int k := ay
  subst ay
  have hv := merge_val k ps [] none rfl
  have hb : ps.foldl (fun acc p => if k = p.1 then some p.2 else acc) none = some b := hb
  rw [hb] at hv
  exact ⟨p, .int b, rfl, .inl ⟨_, Sum.inl k, .inl (g2.hh _ _ upd_same), rfl, hv.symm⟩, q _ F2 H2 (g.trans g2) rfl⟩
def dyn4 {α β γ ε : Type} (s : T1 ε ⊕ T4 α β γ γ) (i : Int) : Option γ := Sum.elim (fun _ => none) (fun z => if i = 2 then some z.c else if i = 3 then some z.d else none) s
theorem ev_dyn4 {α β γ ε : Type} [h1 : Rep K α] [h2 : Rep K β] [h3 : Rep K γ] [h4 : Rep K ε] {ma : Option (T1 ε ⊕ T4 α β γ γ)} {mi : Option Int} (ha : Ev ta es ma) (hi : Ev ti es mi) : Ev (tOp (rIxT K) ta ti) es (ma.bind fun s => mi.bind fun i => dyn4 s i) := fun x hx F H ad σ rs Q q => by
  obtain ⟨s, es1, hx⟩ := bind_some hx
  obtain ⟨i, ei, hx⟩ := bind_some hx
  refine ha s es1 F H ad σ rs _ fun v F1 H1 g1 av => ?_
  refine hi i ei F1 H1 ad σ (rs.grow g1) _ fun w F2 H2 g2 aw => ?_
  have aw : w = V.int i := aw
  subst aw
  have g := g1.trans g2
  cases s with
  | inl y => cases hx
  | inr z =>
    obtain ⟨p, a, b, c, d, e, ht, qa, qb, qc, qd⟩ := (repT4 (K := K) (α := α) (β := β) (γ := γ) (δ := γ)).mono g2.ff (show (repT4 (K := K) (α := α) (β := β) (γ := γ) (δ := γ)).At F1 v z from av)
    have hx : (if i = 2 then some z.c else if i = 3 then some z.d else none) = some x := hx
    by_cases h2 : i = 2
    · rw [if_pos h2] at hx
      cases hx
      exact ⟨p, _, ((2 : Nat) : Int), c, e, by rw [h2]; rfl, same_t g2.ex ht, at_nat (k := 2) rfl, q c F2 H2 g qc⟩
    · rw [if_neg h2] at hx
      by_cases h3 : i = 3
      · rw [if_pos h3] at hx
        cases hx
        exact ⟨p, _, ((3 : Nat) : Int), d, e, by rw [h3]; rfl, same_t g2.ex ht, at_nat (k := 3) rfl, q d F2 H2 g qd⟩
      · rw [if_neg h3] at hx
        cases hx
end
/-! ### len(d) | the values of a locked dict, its keys tuples -/
section
variable {K : Fg} {β : Type} {es : Env K} {i : Nat} {d : List (List Int × β)} {j : Rep K β}
theorem ev_lenD (h : es[i]? = some (.obj (oD j) d)) : Ev (tCB rLenT (tCons (tVar i) tNil)) es (some (d.length : Int)) := fun b hb F H ad σ rs Q q => by
  cases hb
  obtain ⟨v0, hv0, p, vs, e, hS, hf, hp, hl, pr⟩ := rs.ent i _ h
  subst e
  refine ⟨_, hv0, p, vs, rfl, hp, ?_⟩
  rw [Paired.length pr]
  exact q _ F H (Grow.refl rs.ex) rfl
end
section
variable {prog : Program} {w : World} {A : Around} {E : Value → Shared → Prop} {s : Shared}
theorem next_valT {it d : Addr} {i n ep : Nat} {od : Obj} {es : Array DictEntry} {en : DictEntry} {Q : Option Value → Shared → Prop} (hit : s.heap.IsValIter it d i n ep) (hod : s.heap.get? d = some od) (hdd : od.data = .dict es ep)
    (hsz : es.size = n) (hx : es[i]? = some en) (hQ : ∀ h', h'.IsValIter it d (i + 1) n ep → Heap.SameBut it s.heap h' → Q (some en.val) { s with heap := h' }) : wpAny (model prog w) A (pyNext (.ref it)) Q E s := by
  obtain ⟨o, ho, hc, hd⟩ := id hit
  unfold pyNext
  refine wpAny_bind (wpAny_attempt (wpAny_callSpecial?_slot (name := Str.ofString "__next__") hit.typeIs F.slot_dict_valueiterator_next
    (wpAny_call_entry F.slot_dict_valueiterator_next hit.typeIs F.entry_dict_valueiterator_next ?_ (F.args_dict_valueiterator_next_1 _))))
  refine wpAny_bind (wpAny_pure ?_)
  refine wpAny_bind ?_
  refine wpAny_bind ?_
  first | refine wpAny_bind (wpAny_typeNameOfWhole_valiter hit.typeIs (wpAny_pure ?_)) | refine wpAny_bind (wpAny_typeNameOf_valiter hit.typeIs (wpAny_pure ?_))
  refine wpAny_bind (wpAny_fieldsOf ho hd ?_)
  have hown : Builtin.Dict_items.ownsTuple "dict_valueiterator" = false := by decide
  simp only [hown, Bool.false_eq_true, if_false]
  show wpAny _ _ (if (Value.ref d == Value.none) = true then _ else _) _ _ s
  rw [if_neg (show ¬ ((Value.ref d == Value.none) = true) from Bool.false_ne_true)]
  refine wpAny_bind (wpAny_pure ?_)
  refine wpAny_bind (wpAny_dictEntries hod hdd ?_)
  rw [if_neg (by rw [hsz]; simp)]
  refine wpAny_bind (wpAny_pure ?_)
  refine wpAny_bind (wpAny_dictEpoch hod hdd ?_)
  rw [if_neg (by simp)]
  refine wpAny_pure ?_
  obtain ⟨hlt', hen⟩ := Array.getElem?_eq_some_iff.mp hx
  simp only [show ¬ ((i : Int) < 0) from by omega, if_false, Int.toNat_natCast, Array.getElem?_eq_getElem hlt']
  refine wpAny_bind ?_
  first | refine wpAny_bind (wpAny_typeNameOfWhole_valiter hit.typeIs (wpAny_pure ?_)) | refine wpAny_bind (wpAny_typeNameOf_valiter hit.typeIs (wpAny_pure ?_))
  refine wpAny_bind (wpAny_isOneOf_valiter hit.typeIs ?_)
  show wpAny _ _ (setField (.ref it) 1 (rawInt ((i : Int) + 1)) >>= _) _ _ s
  refine wpAny_bind (wpAny_setField ho hd (by simp) ?_)
  have hit' : (s.heap.update it (Obj.mapFields (·.setIfInBounds 1 (rawInt ((i : Int) + 1))))).IsValIter it d (i + 1) n ep :=
    ⟨_, Heap.get?_update_self _ ho (Obj.isFreed_of_fields (Obj.data_mapFields hd _)), (Obj.cls_mapFields ..).trans hc, by rw [Obj.data_mapFields hd]; simp [rawInt]⟩
  refine wpAny_bind (wpAny_holding ?_)
  refine wpAny_bind (wpAny_isOneOf_valiter (s := { s with heap := s.heap.update it (Obj.mapFields (·.setIfInBounds 1 (rawInt ((i : Int) + 1)))) }) hit'.typeIs ?_)
  refine wpAny_bind (wpAny_isOneOf_valiter (s := { s with heap := s.heap.update it (Obj.mapFields (·.setIfInBounds 1 (rawInt ((i : Int) + 1)))) }) hit'.typeIs ?_)
  show wpAny _ _ (pure es[i].val) _ _ _
  exact wpAny_pure (wpAny_pure ⟨_, rfl, wpAny_pure (hen ▸ hQ _ hit' (Heap.SameBut.update ..))⟩)
theorem next_valTEnd {it d : Addr} {i n ep : Nat} {od : Obj} {es : Array DictEntry} {Q : Option Value → Shared → Prop} (hh : A.handled = none) (hit : s.heap.IsValIter it d i n ep) (hod : s.heap.get? d = some od) (hdd : od.data = .dict es ep)
    (hsz : es.size = n) (hge : n ≤ i) (hQ : ∀ h', Heap.ExtBut it s.heap h' → Q none { s with heap := h' }) : wpAny (model prog w) A (pyNext (.ref it)) Q E s := by
  obtain ⟨o, ho, hc, hd⟩ := id hit
  unfold pyNext
  refine wpAny_bind (wpAny_attempt (wpAny_callSpecial?_slot (name := Str.ofString "__next__") hit.typeIs F.slot_dict_valueiterator_next
    (wpAny_call_entry F.slot_dict_valueiterator_next hit.typeIs F.entry_dict_valueiterator_next ?_ (F.args_dict_valueiterator_next_1 _))))
  refine wpAny_bind (wpAny_pure ?_)
  refine wpAny_bind ?_
  refine wpAny_bind ?_
  first | refine wpAny_bind (wpAny_typeNameOfWhole_valiter hit.typeIs (wpAny_pure ?_)) | refine wpAny_bind (wpAny_typeNameOf_valiter hit.typeIs (wpAny_pure ?_))
  refine wpAny_bind (wpAny_fieldsOf ho hd ?_)
  have hown : Builtin.Dict_items.ownsTuple "dict_valueiterator" = false := by decide
  simp only [hown, Bool.false_eq_true, if_false]
  show wpAny _ _ (if (Value.ref d == Value.none) = true then _ else _) _ _ s
  rw [if_neg (show ¬ ((Value.ref d == Value.none) = true) from Bool.false_ne_true)]
  refine wpAny_bind (wpAny_pure ?_)
  refine wpAny_bind (wpAny_dictEntries hod hdd ?_)
  rw [if_neg (by rw [hsz]; simp)]
  refine wpAny_bind (wpAny_pure ?_)
  refine wpAny_bind (wpAny_dictEpoch hod hdd ?_)
  rw [if_neg (by simp)]
  refine wpAny_pure ?_
  have hge2 : es.size ≤ i := by rw [hsz]; exact hge
  simp only [show ¬ ((i : Int) < 0) from by omega, if_false, Int.toNat_natCast, Array.getElem?_eq_none hge2]
  refine wpAny_bind ?_
  first | refine wpAny_bind (wpAny_typeNameOfWhole_valiter hit.typeIs (wpAny_pure ?_)) | refine wpAny_bind (wpAny_typeNameOf_valiter hit.typeIs (wpAny_pure ?_))
  show wpAny _ _ (setField (.ref it) 0 .none >>= _) _ _ s
  refine wpAny_bind (wpAny_setField ho hd (by simp) ?_)
  show wpAny _ _ (newExc (.type "StopIteration") [] >>= _) _ _ _
  refine wpAny_bind ?_
  simp only [newExc, newTuple]
  refine wpAny_bind (wpAny_newObj_type ?_ (by size_fits))
  refine wpAny_bind (m := firstArgMember _ _) (wpAny_of_eq (a := Value.none) (by first | rfl | (simp only [firstArgMember]; rfl)) ?_)
  refine wpAny_newObj_type ?_ (by size_fits)
  simp only [raiseNew]
  refine wpAny_bind (wpAny_handled ?_)
  rw [show A.in1.handled = none from hh]
  refine wpAny_bind (wpAny_pure (wpAny_throw ?_))
  refine wpAny_bind (wpAny_isInstance (T := "StopIteration") (b := true) ⟨_, Heap.get?_push_size _ rfl, rfl⟩ isSubtype_stop ?_)
  exact wpAny_pure (hQ _ (((Heap.SameBut.update ..).extBut.push _).push _))
theorem iter_valT {v d : Addr} {n ep : Nat} {od : Obj} {es : Array DictEntry} {Q : Value → Shared → Prop} (hv : s.heap.IsValuesView v d) (hod : s.heap.get? d = some od) (hdd : od.data = .dict es ep) (hsz : es.size = n)
    (hQ : Q (.ref s.heap.objs.size) { s with heap := s.heap.push { cls := .type "dict_valueiterator", data := .fields #[.ref d, .int 0 0, .int n 0, .int ep 0] } }) :
    wpAny (model prog w) A (pyIter (.ref v)) Q E s := by
  obtain ⟨ov, hov, hcv, hdv⟩ := id hv
  refine wpAny_pyIter_slot hv.typeIs F.slot_dict_values_iter (wpAny_call_entry F.slot_dict_values_iter hv.typeIs F.entry_dict_values_iter ?_ (F.args_dict_values_iter_1 _))
  unfold Builtin.«dict_values.__iter__»
  refine wpAny_bind (wpAny_pure ?_)
  refine wpAny_bind ?_
  unfold Builtin.Dict_items.dictOf
  refine wpAny_bind (wpAny_field hov hdv (x := .ref d) rfl (wpAny_pure ?_))
  refine wpAny_bind ?_
  unfold Builtin.Dict_items.newIterator
  refine wpAny_bind (wpAny_dictEntries hod hdd ?_)
  refine wpAny_bind (wpAny_dictEpoch hod hdd ?_)
  have hown : Builtin.Dict_items.ownsTuple "dict_valueiterator" = false := by decide
  simp only [hown, Bool.false_eq_true, if_false]
  refine wpAny_newObj_type (wpAny_pure ⟨_, rfl, "dict_valueiterator", _, ⟨_, Heap.get?_push_size _ rfl, rfl⟩, F.slot_dict_valueiterator_next.lookup, ?_⟩)
  simpa [rawInt, hsz] using hQ
theorem meets_valT {d : Addr} {es : Array DictEntry} {ep : Nat} (hd : (d == sysModules) = false) :
    MeetsIn prog w (Builtin.«dict.values» ⟨[.ref d], []⟩) (fun _ R s => DT.Raw s.heap d es ep ∧
      R (.ok (.ret (.ref s.heap.objs.size))) { s with heap := s.heap.push { cls := .type "dict_values", data := .fields #[.ref d] } }) :=
  .of_wp fun A R s ⟨hm, h⟩ => by
    refine wpAny_bind ?_
    unfold Builtin.Dict.noArgs
    refine wpAny_bind (wpAny_notOrdered_dict hm.typeIs ?_)
    show wpAny _ _ (pure d) _ _ s
    refine wpAny_pure ?_
    show wpAny _ _ (Builtin.Dict.showsAll d >>= _) _ _ s
    unfold Builtin.Dict.showsAll
    rw [if_neg (by rw [hd]; exact Bool.false_ne_true)]
    refine wpAny_bind (wpAny_pure ?_)
    exact wpAny_bind (wpAny_newObj_type (wpAny_pure ⟨_, rfl, h⟩))
end
def ItdT (d : Addr) (o : Obj) (kvs : List (List Key × V)) : It :=
  ⟨fun i H => H d = some (.frz o (.dT kvs)) ∧ i < kvs.length, fun i H x H' => H' = H ∧ ∃ k, kvs[i]? = some (k, x), fun i H => H d = some (.frz o (.dT kvs)) ∧ kvs.length ≤ i⟩
theorem turn_valsT {P : Program} {w : World} {K : Fg} {tg : Expr} {d : Addr} {o : Obj} {es : Array DictEntry} {ep : Nat} {kvs : List (List Key × V)} (it : Addr) (hod : o.data = .dict es ep) :
    Turn P w K tg (ItdT d o kvs) [it] it (fun i h => h.IsValIter it d i kvs.length ep) where
  mem := by simp
  obj := fun i h st b hb => by
    have e : b = it := by simpa using hb
    subst e
    obtain ⟨oi, e, c, dd⟩ := st
    exact ⟨oi, e, fun v z => by rw [dd] at z; cases z⟩
  keep := fun i h h' st k => st.at fun oi e => k it (by simp) oi e
  item := by
    intro X hP hw hK hc i pins s σ H E I hf st hg
    subst hP hw hK
    obtain ⟨hd, hi⟩ := hg
    obtain ⟨f0, f1, f2, f3, f4, f5⟩ := hf it (by simp)
    obtain ⟨hs, hgd, hx, es', ep', hdt, hsz, ent⟩ := frzTV I hd
    obtain ⟨rfl, rfl⟩ := dict_ep hod hdt
    obtain ⟨⟨k, v⟩, hkv⟩ : ∃ p, kvs[i]? = some p := ⟨kvs[i], List.getElem?_eq_getElem hi⟩
    obtain ⟨en, q, hen, hkey, hq, rv⟩ := ent i k v hkv
    refine next_valT st hgd hdt hsz hen fun h' st' sb => ?_
    have I1 : Inv X pins σ H { s with heap := h' } := I.turned (t' := s.toks) (fun b ob hb e => (sb.2 b hb).trans e) f0 f1 f3 f4 f5
    obtain ⟨oi, e, c, dd⟩ := id st'
    exact ⟨en.val, rfl, go_of (s := { s with heap := h' }) e c dd (by decide) ⟨v, H, I1, rv, ⟨rfl, k, hkv⟩, st', fun b hb => (hf b hb).1⟩⟩
  done := by
    intro X hP hw hK hc i pins s σ H E I hf st hg
    subst hP hw hK
    obtain ⟨hd, hi⟩ := hg
    obtain ⟨f0, f1, f2, f3, f4, f5⟩ := hf it (by simp)
    obtain ⟨hs, hgd, hx, es', ep', hdt, hsz, ent⟩ := frzTV I hd
    obtain ⟨rfl, rfl⟩ := dict_ep hod hdt
    exact next_valTEnd (I.ok.hd hc) st hgd hdt hsz hi fun h' eb => ⟨rfl, I.turned (t' := s.toks) (fun b ob hb e => eb b ob hb e) f0 f1 f3 f4 f5⟩
  self := fun A i s Q E st h => wpAny_pyIter_valiter st h
def iValsT (td : TE) : TI := fun σ H R => td σ H fun x H1 => ∃ d o kvs, x = .ref d ∧ H1 d = some (.frz o (.dT kvs)) ∧ R (ItdT d o kvs) H1
theorem pi_valuesT {X : Cx} {tg e : Expr} {td : TE} {apos cpos : Pos} (he : PE X e td) (hbase : attributeBase e "values" X.env (eval e X.env) = eval e X.env := by rfl) (hline : (apos.endLine == cpos.line) = true := by rfl) :
    PI X tg (.Call (.Attribute e "values" apos) [] [] cpos) (iValsT td) := by
  refine ⟨fun pins s σ H R I h => ?_⟩
  refine wpAny_Call_method (T := "dict") (id := "dict.values") hbase rfl hline F.plainAttrs_dict F.slot_dict_values F.type_dict_values (thn (he.run pins s σ H _ I h) fun u s1 ⟨x, H1, I1, rx, d, o, kvs, ex, hd, q⟩ => ?_)
  subst ex
  obtain rfl : u = Value.ref d := rx
  obtain ⟨hs, hgd, hx, es, ep, hdt, hsz, ent⟩ := frzTV I1 hd
  have hm : DT.Raw s1.heap d es ep := ⟨_, hgd, hx, hdt⟩
  refine ⟨hm.typeIs, ?_, ?_⟩
  · obtain ⟨t1, t2, _⟩ := isD_at I1 (.inr ⟨kvs, .inr ⟨o, hd⟩⟩ : IsD H1 d)
    exact t2
  have I2 : Inv X pins σ H1 { s1 with heap := s1.heap.push { cls := .type "dict_values", data := .fields #[.ref d] } } := I1.kept (t' := s1.toks) fun b ob q => Heap.get?_push_of_some _ q
  have fin : wpAny (model X.prog X.w) X.A (pyIter (.ref s1.heap.objs.size)) (PIE X pins σ tg R) X.xe { s1 with heap := s1.heap.push { cls := .type "dict_values", data := .fields #[.ref d] } } :=
    iter_valT (d := d) ⟨_, Heap.get?_push_size _ rfl, rfl, rfl⟩ (Heap.get?_push_of_some _ hgd) hdt hsz (pi_one (tk := s1.toks) I2 _ (turn_valsT _ hdt) ⟨_, Heap.get?_push_size _ rfl, rfl, rfl⟩ q)
  show wpAny _ _ (callWith cpos (.builtin "dict.values") [.ref d] [] []) _ X.xe s1
  exact method_meetsIn F.slot_dict_values F.entry_dict_values rfl (PySem.evalArgs_none ⟨rfl, hm.typeIs, F.args_dict_values_1 _, _, meets_valT (es := es) (ep := ep) hs, hm, fin⟩)
/-- locked and, for the while, frozen -/
@[reducible] def repLk {K : Fg} {β : Type} (j : Rep K β) (od : Obj) (p : Addr) (vs : List (List Key × V)) : Rep K (List (List Int × β)) :=
  ⟨fun F v d => v = .ref p ∧ F p = some (.frz od (.dT vs)) ∧ vs.length ≤ sizeLine ∧ PD j F vs d, fun s ⟨e, h, l, pr⟩ => ⟨e, s _ _ h, l, Paired.mapP pr fun _ _ z => ⟨z.1, j.mono s z.2⟩⟩⟩
section
variable {K : Fg} {α β : Type} {es : Env K} {i k : Nat} {d : List (List Int × β)} {j : Rep K β} {te : TE}
theorem ev_lockN [a : Rep K α] [Flat K α] {m : Option (List α)} (i : Nat) (h : es[i]? = some (.obj (oD j) d)) (he : ∀ od p vs, EvN te (es.set i (.val (repLk j od p vs) d)) m) : EvN (tLockE te) es m := fun c hc F H ad σ rs Q q => by
  obtain ⟨v0, hv0, p, vs, e, hS, hf, hp, hl, pr⟩ := rs.ent i _ h
  subst e
  refine ⟨p, .dT vs, hp, True.intro, fun od => ?_⟩
  have hh : ∀ b o, H b = some o → ¬ ad i b → upd H p (.frz od (.dT vs)) b = some o := fun b o ho n => by
    rw [upd_ne fun z => n ((hS b).mpr z)]
    exact ho
  have rs1 : RSt K F (upd H p (.frz od (.dT vs))) (adSet ad i (· = p)) σ (es.set i (.obj (oL j od p vs) d)) := rs.updObj2 h rfl hv0 ⟨_, rfl, rfl, fun _ => Iff.rfl, hf, upd_same, hl, pr⟩ (upd_same_ rs.ex hf) hh fun a z => .inl ((hS a).mpr z)
  have rs2 := rs1.frzObj (j := repLk j od p vs) (a := d) (G := upd F p (.frz od (.dT vs))) (getset_self h) rfl hv0 (same_new hf) (fun b x z => by
    by_cases hb : b = p
    · rw [hb, upd_same] at z ⊢
      exact z
    · rw [upd_ne hb] at z ⊢
      exact rs.ex _ _ z) (fun b o z f => by
    by_cases hb : b = p
    · rw [adSet_self]; exact hb
    · rw [upd_ne hb, f] at z; cases z) ⟨rfl, upd_same, hl, Paired.mapP pr fun _ _ z => ⟨z.1, j.mono (same_new hf) z.2⟩⟩
  rw [set_twice] at rs2
  refine he od p vs c hc _ _ _ σ rs2 _ fun v F' H' g ⟨D, e, hD, f2, ws, h2, l2, p2⟩ => ?_
  have hDp : D ≠ p := fun z => by rw [z, upd_same] at hD; cases hD
  have hD : upd H p (.frz od (.dT vs)) D = none := hD
  rw [upd_ne hDp] at hD
  refine ⟨g.hh _ _ upd_same, q v F _ ⟨Same.refl F, fun b o ho => ?_, fun b o ho => ?_, fun b o _ _ f => f⟩ ⟨D, e, hD, rs.ex.free hD, ws, by rw [upd_ne hDp]; exact h2, l2, pmono p2 fun _ _ z => Flat.flat (K := K) z⟩⟩
  · by_cases hb : b = p
    · rw [hb, hp] at ho
      rw [hb, upd_same]
      exact ho
    · rw [upd_ne hb]
      exact g.hh _ _ (by rw [upd_ne hb]; exact ho)
  · have hb : b ≠ p := fun z => by rw [z, hf] at ho; cases ho
    rw [upd_ne hb]
    exact g.ex _ _ (g.ff _ _ (by rw [upd_ne hb]; exact ho))
theorem ei_valsT {od : Obj} {p : Addr} {vs : List (List Key × V)} (h : es[i]? = some (.val (repLk j od p vs) d)) : EvI (iValsT (tVar i)) (gName k) [k] es (some (d.map fun q => q.2)) (fun x es => es.set k (.val j x)) := fun xs hx F H ad σ rs Rk q => by
  cases hx
  obtain ⟨v, hv, e, hp, hl, pr⟩ := rs.ent i _ h
  subst e
  have ln := Paired.length pr
  refine ⟨_, hv, p, od, vs, rfl, rs.ex _ _ hp, q _ F H (Grow.refl rs.ex) ⟨by rw [List.length_map]; omega, fun n x hn H2 s => ?_, fun H2 s => ?_, fun x es ad p z => own_setVal z, fun n x hn F2 H2 v2 H3 s s2 hy ad2 σ2 es2 r2 Q2 q2 => ?_⟩⟩
  · have := (List.getElem?_eq_some_iff.mp hn).1
    rw [List.length_map] at this
    exact ⟨s _ _ hp, by omega⟩
  · rw [List.length_map]
    exact ⟨s _ _ hp, by omega⟩
  · obtain ⟨e3, k0, hk⟩ := hy
    subst e3
    rw [List.getElem?_map] at hn
    obtain ⟨y, hy, ey⟩ := map_some hn
    subst ey
    obtain ⟨u, hu, hu1, hu2⟩ := paired_of_get pr hy
    rw [hu] at hk
    cases hk
    exact tg_name (i := j) r2 (j.mono s hu2) fun F' H' σ' g r => q2 F' H' σ' g r
end
/-! ### xs.append(ys.pop(k)) | ("..", a, b)[1:] -/
section
variable {K : Fg} {ρ X : Type} {R : RR ρ} {φ : X → Fl K ρ} {es : Env K} {tz : TS} {te ti : TE} {α : Type} {j : Rep K α}
theorem sx_appPop [GoodR R] {i l : Nat} {xs ys : List α} {mi : Option Int} {k : List α × List α → Option X} (hne : i ≠ l) (h : es[i]? = some (.own j xs)) (hl : es[l]? = some (.own j ys)) (hi : Ev ti es mi) (h2 : ∀ r : List α × List α, Sx R φ tz ((es.set l (.own j r.2)).set i (.own j r.1)) (k r)) :
    Sx R φ (tSeq (tDrop (tBM K "list" rAppend (tVar i) (tCons (tBM K "list" rPopAt (tVar l) (tCons ti tNil)) tNil))) tz) es ((mi.bind fun n => (popAtO ys n).bind fun y => (appO xs y.1).bind fun zs => some (zs, y.2)).bind k) := by
  show Sv _ _ _ _
  intro fl hfl F H ad σ D rs fo
  obtain ⟨x0, hx0, hfl⟩ := map_some hfl
  obtain ⟨r0, hr0, hx0⟩ := bind_some hx0
  obtain ⟨n, hn, hr0⟩ := bind_some hr0
  obtain ⟨y, hy, hr0⟩ := bind_some hr0
  obtain ⟨zs, hzs, hr0⟩ := bind_some hr0
  cases hr0
  rw [popAtO_eq] at hy
  unfold popAtO_d at hy
  split at hy
  rotate_left
  · cases hy
  rename_i hz
  obtain ⟨kk, hkk, hy⟩ := bind_some hy
  obtain ⟨x, hx, hy⟩ := map_some hy
  subst hy
  rw [appO_eq] at hzs
  unfold appO_d at hzs
  split at hzs
  rotate_left
  · cases hzs
  rename_i hz2
  cases hzs
  obtain ⟨pi, qi0, qi1, qi2, vsi, qi3, qi4, qi5⟩ := rs.ent i _ h
  refine ⟨_, qi1, .inl ⟨rfl, vsi, .inl (.inl qi3)⟩, ?_⟩
  obtain ⟨pl, ql0, ql1, ql2, vsl, ql3, ql4, ql5⟩ := rs.ent l _ hl
  refine ⟨_, ql1, .inl ⟨rfl, vsl, .inl (.inl ql3)⟩, ?_⟩
  refine hi n hn F H ad σ rs _ fun w F' H' g aw => ?_
  have r' := rs.grow g
  obtain ⟨pl', ql0', _, _, vsl', ql3', ql4', ql5'⟩ := r'.ent l _ hl
  have epl := own_same ql0 ql0'
  subst epl
  have hll := Paired.length ql5'
  obtain ⟨v, hv, av⟩ := paired_of_get ql5' hx
  refine ⟨_, vsl', n, kk, v, rfl, by rw [show w = V.int n from aw], ql3', hz.1, hz.2, by rw [hll]; exact hkk, hv, ?_⟩
  have r2 := r'.upd hl ql0' (by rw [List.length_eraseIdx]; split <;> omega) (paired_erase ql5' kk)
  have hi2 : (es.set l (.own j (ys.eraseIdx kk)))[i]? = some (.own j xs) := by rw [List.getElem?_set_ne hne.symm]; exact h
  have fo2 : FlOk R (OwA (es.set l (.own j (ys.eraseIdx kk))) (adSet ad l (· = pl'))) F' (upd H' pl' (.lst (vsl'.eraseIdx kk))) D fl := (fo.trans (ow1 := OwA es ad) g.adv fun p z => .inl z).trans (adv_obj hl rfl (upd_hh (o := .lst (vsl'.eraseIdx kk)) ql0') upd_dm) fun p z => own_updObj (H := H') hl rfl (fun p z => .inl ((ql0' p).mpr z)) z
  obtain ⟨pi2, qj0, qj1, qj2, vsj, qj3, qj4, qj5⟩ := r2.ent i _ hi2
  have epi : pi2 = pi := by
    have e1 := qj1
    rw [qi1] at e1
    injection e1 with e1
    injection e1 with e1
    injection e1 with e1
    exact e1.symm
  subst epi
  have hlj := Paired.length qj5
  refine ⟨_, vsj, v, rfl, rfl, qj3, lt_lim (by omega), ?_⟩
  have r3 := r2.upd hi2 qj0 (ws := vsj ++ [v]) (by rw [List.length_append, List.length_singleton]; have := lt_lim (show vsj.length < lim by omega); omega) (paired_snoc qj5 av)
  exact h2 _ fl (by rw [hx0]; exact congrArg some hfl) _ _ _ _ _ r3 (fo2.trans (adv_obj hi2 rfl (upd_hh qj0) upd_dm) fun p z => own_updObj (H := upd H' pl' (.lst (vsl'.eraseIdx kk))) hi2 rfl (fun p z => .inl ((qj0 p).mpr z)) z)
theorem ev_sl3R {β β2 γ α2 : Type} [h1 : Rep K α] [h2 : Rep K β] [h3 : Rep K β2] [h4 : Rep K γ] [h5 : Rep K α2] {ma : Option (T3 α β β2 ⊕ T3 α2 γ γ)} (h : Ev te es ma) : EvG (α := Tup γ) (RV (repTup (K := K))) (tSl (rSlA K) te (tPart (tC (.int 1))) tNoPart) es (ma.bind fun s => Sum.elim (fun _ => none) (fun z => some ([z.b, z.c] : List γ)) s) := fun c hc F H ad σ rs Q q => by
  obtain ⟨s, es1, hc⟩ := bind_some hc
  refine h s es1 F H ad σ rs _ fun v F1 H1 g1 av => ?_
  cases s with
  | inl z => cases hc
  | inr z =>
    have hc : some ([z.b, z.c] : List γ) = some c := hc
    cases hc
    obtain ⟨p, a, b, d, e, ht, qa, qb, qd⟩ := (show (repT3 (K := K) (α := α2) (β := γ) (γ := γ)).At F1 v z from av)
    refine ⟨1, rfl, ?_⟩
    refine ⟨p, [a, b, d], e, same_t g1.ex ht, fun hw => ?_, fun _ r hr => ?_⟩
    · exact absurd hw.1 (by show ¬ (HT.sIx 3 0 (some 1) = 0); decide)
    · exact q (.ref r) _ _ (g1.trans (Grow.lay g1.ex hr)) ⟨r, _, rfl, upd_same, by show 2 ≤ sizeLine; decide, .cons (h4.mono (same_new (g1.ex.free hr)) qb) (.cons (h4.mono (same_new (g1.ex.free hr)) qd) .nil)⟩
end
abbrev RODt (K : Fg) (β : Type) [j : Rep K β] : RR (List (List Int × β)) := RO (oD j)
section
variable {K : Fg} {α β γ δ ε ζ : Type}
instance ap33 [i1 : Rep K α] [d1 : RepD K α] [i2 : Rep K β] [d2 : RepD K β] : Apart (dT3 (K := K) (α := α) (β := Int) (γ := Int)).toD (dT3 (K := K) (α := α) (β := Tup β) (γ := Tup β)).toD := ⟨fun _ _ => ⟨by simp [RepD.toD, PyData.eqv, PyData.eqvAll], by simp [RepD.toD, PyData.eqv, PyData.eqvAll]⟩⟩
end
/-! ### len(set(xs)), whole numbers -/
/-- the unlike numbers -/
def metL (ns : List Int) : List Int := PyProof.Rows.firstMet (fun i => ns.getD i 0) ns.length
def metO (ns : List Int) : Option Int := if ns.length < 4000 then some ((metL ns).length : Int) else none
section
variable {X : Cx}
def tLenSetW (K : PySem.W.Frag) (ta : TE) : TE := fun σ H Q => ta σ H fun x H1 => ∃ (l : Addr) (ns : List Int), x = V.ref l ∧ SqL K H1 l (ns.map V.int) ∧ ns.length < 4000 ∧ Q (.int (metL ns).length) H1
theorem pe_lenSetW {a : Expr} {ta : TE} {p p2 q pos : Pos} (hc : X.calm = true) (hg : Gl X "len") (hm : X.mg "len" = none) (hg2 : Gl X "set") (hm2 : X.mg "set" = none) (ha : PE X a ta)
    (na : starEach [a] X.env = (false, eval a X.env) :: starEach [] X.env := by rfl) : PE X (.Call (.Name "len" p) [.Call (.Name "set" p2) [a] [] q] [] pos) (tLenSetW X.K ta) := by
  refine ⟨fun pins s σ H Q I h => ?_⟩
  refine Call_ (ld_blt I hg hm PySem.boot_len ?_)
  refine PyProof.Rows.callWith_builtin1 (PyProof.Rows.args_cons ?_ rfl) rfl rfl
  refine Call_ (ld_blt I hg2 hm2 PyProof.Rows.boot_set ?_)
  refine PyProof.Rows.callWith_type1 (PyProof.Rows.args_cons (thn (ha.run pins s σ H _ I h) fun v s1 ⟨x, H1, I1, r1, q1⟩ => PyProof.Rows.args_nil ?_) na) na rfl
  obtain ⟨l, ns, rfl, hq, h1, q1⟩ := q1
  cases r1
  obtain ⟨its, r, pl, hz⟩ := I1.list hq
  have hl : its.toArray.size = ns.length := by rw [List.size_toArray, ← r.length, List.length_map]
  refine call_set_list (I1.ok.hd hc) pl.isList (ns := ns) (by simpa using r.ints) (by rw [hl]; unfold scanBound; omega) fun h' tk hS hk => ?_
  rw [hl] at hS
  have hle := PyProof.Rows.firstMet_length_le (fun i => ns.getD i 0) ns.length
  refine PyProof.Rows.args_nil ?_
  obtain ⟨o, es, ep, t, ho, hex, hd, _, _, _, hf, hn⟩ := hS
  have I2 : Inv X pins σ H1 { s1 with heap := h', toks := tk } := I1.kept fun b o e => hk b o (Heap.lt_size e) e
  refine call_len_set ho hex hd hf (by rw [hn] <;> omega) ⟨.int (metL ns).length, H1, I2.tok _, ⟨_, by rw [hn]; rfl⟩, q1⟩
end
section
variable {K : Fg} {es : Env K} {te : TE}
theorem ev_lenSet {ma : Option (List Int)} (ha : EvL te es ma) : Ev (tLenSetW K te) es (ma.bind metO) := fun c hc F H ad σ rs Q q => by
  obtain ⟨a, ea, hc⟩ := bind_some hc
  unfold metO at hc
  split at hc
  rotate_left
  · cases hc
  rename_i hl
  cases hc
  refine ha a ea F H ad σ rs _ fun v F1 H1 g av => ?_
  obtain ⟨p, vs, e, h, _, pr⟩ := av
  refine ⟨p, a, e, ?_, hl, q _ F1 H1 g rfl⟩
  rw [← ints_of_paired pr]
  exact .inl (.inl h)
end
end Tf
set_option Elab.async false
set_option linter.all false
set_option maxRecDepth 100000
set_option maxHeartbeats 4000000
namespace Tf
open PySem PySem.Spec L2 PyProof.Rows
/-! ### data without lists: it stays where a list is not frozen any more -/
def NoL (F G : Hp) : Prop := ∀ q o, F q = some o → (∀ vs, o ≠ .lst vs) → G q = some o
class Sol (K : Fg) (α : Type) [i : Rep K α] : Prop where
  sol : ∀ {F G : Hp} {v : V} {a : α}, NoL F G → i.At F v a → i.At G v a
theorem sqT_sol {K : Fg} {F G : Hp} {p : Addr} {xs : List V} (s : NoL F G) (h : SqT K F p xs) : SqT K G p xs := by
  rcases h with (h | ⟨o, h⟩) | h
  · exact .inl (.inl (s _ _ h fun vs z => nomatch z))
  · exact .inl (.inr ⟨o, s _ _ h fun vs z => nomatch z⟩)
  · exact .inr h
section
variable {K : Fg} {α β γ δ : Type}
instance solInt : Sol K Int := ⟨fun _ h => h⟩
instance solBool : Sol K Bool := ⟨fun _ h => h⟩
instance solStr : Sol K Str := ⟨fun _ h => h⟩
instance solTup [i : Rep K α] [Sol K α] : Sol K (Tup α) := ⟨fun s ⟨p, vs, e, h, l, q⟩ => ⟨p, vs, e, s _ _ h fun vs z => (nomatch z), l, pmono q fun _ _ z => Sol.sol (K := K) s z⟩⟩
instance solT1 [i : Rep K α] [Sol K α] : Sol K (T1 α) := ⟨fun s ⟨p, a, e, h, q⟩ => ⟨p, a, e, sqT_sol s h, Sol.sol (K := K) s q⟩⟩
instance solProd [i : Rep K α] [j : Rep K β] [Sol K α] [Sol K β] : Sol K (α × β) := ⟨fun s ⟨p, a, b, e, h, q, r⟩ => ⟨p, a, b, e, sqT_sol s h, Sol.sol (K := K) s q, Sol.sol (K := K) s r⟩⟩
instance solT3 [i : Rep K α] [j : Rep K β] [k : Rep K γ] [Sol K α] [Sol K β] [Sol K γ] : Sol K (T3 α β γ) := ⟨fun s ⟨p, a, b, c, e, h, q, r, t⟩ => ⟨p, a, b, c, e, sqT_sol s h, Sol.sol (K := K) s q, Sol.sol (K := K) s r, Sol.sol (K := K) s t⟩⟩
instance solT4 [i : Rep K α] [j : Rep K β] [k : Rep K γ] [l : Rep K δ] [Sol K α] [Sol K β] [Sol K γ] [Sol K δ] : Sol K (T4 α β γ δ) := ⟨fun s ⟨p, a, b, c, d, e, h, q, r, t, u⟩ => ⟨p, a, b, c, d, e, sqT_sol s h, Sol.sol (K := K) s q, Sol.sol (K := K) s r, Sol.sol (K := K) s t, Sol.sol (K := K) s u⟩⟩
instance solOpt [i : Rep K α] [Sol K α] : Sol K (Option α) := ⟨fun {F G v a} s h => by
  cases a with
  | none => exact h
  | some a => exact Sol.sol (K := K) (α := α) s h⟩
instance solSum [i : Rep K α] [j : Rep K β] [Sol K α] [Sol K β] : Sol K (α ⊕ β) := ⟨fun {F G v a} s h => by
  cases a with
  | inl a => exact Sol.sol (K := K) (α := α) s h
  | inr a => exact Sol.sol (K := K) (α := β) s h⟩
end
/-- the frozen part, less what was frozen for a while -/
noncomputable def thaw (F G F' : Hp) : Hp := fun q => match F q, G q with
  | none, some _ => none
  | _, _ => F' q
theorem thaw_sub {F G F' : Hp} : Same (thaw F G F') F' := fun q o h => by
  unfold thaw at h
  split at h
  · cases h
  · exact h
theorem thaw_grow {F G H F' H' : Hp} (hg : Same F G) (g : Grow G H F' H') : Grow F H (thaw F G F') H' := by
  refine ⟨fun q o h => ?_, g.hh, fun q o h => g.ex _ _ (thaw_sub q o h), fun p o h nf f => ?_⟩
  · unfold thaw
    rw [h]
    exact g.ff _ _ (hg _ _ h)
  · unfold thaw
    split
    · rfl
    · rename_i h2
      cases hG : G p with
      | none => exact g.fr p o h nf hG
      | some o2 => exact absurd hG (h2 o2 f)
theorem thaw_noL {F G H F' H' : Hp} (hg : Same F G) (g : Grow G H F' H') (hl : ∀ q o, G q = some o → F q = none → ∃ vs, o = .lst vs) : NoL F' (thaw F G F') := fun q o h hn => by
  unfold thaw
  split
  · rename_i o2 h1 h2
    obtain ⟨vs, e⟩ := hl q o2 h2 h1
    have := g.ff _ _ h2
    rw [h] at this
    cases this
    exact absurd e (hn vs)
  · exact h
theorem thaw_free {F G F' : Hp} {p : Addr} (h : F' p = none) : thaw F G F' p = none := by
  unfold thaw
  split
  · rfl
  · exact h
section
variable {K : Fg} {es : Env K} {te : TE} {α β : Type} {j : Rep K β}
theorem upd_lst {F : Hp} {p : Addr} {vs : List V} : ∀ q o, upd F p (.lst vs) q = some o → F q = none → ∃ vs, o = .lst vs := fun q o h f => by
  by_cases e : q = p
  · subst e
    rw [upd_same] at h
    cases h
    exact ⟨_, rfl⟩
  · rw [upd_ne e, f] at h
    cases h
theorem ev_sol [i : Rep K α] [Sol K α] {xs : List β} {m : Option α} (k : Nat) (h : es[k]? = some (.own j xs)) (he : Ev te (es.set k (.val (@repList K β j) xs)) m) : Ev te es m := by
  intro a ha F H ad σ rs Q q
  obtain ⟨p0, vs, h0, h3, h2, r2⟩ := rs.freeze h
  exact he a ha _ H ad σ r2 Q fun v F' H' g x => q v _ H' (thaw_grow (same_new h2) g) (Sol.sol (K := K) (thaw_noL (same_new h2) g upd_lst) (show i.At F' v a from x))
theorem ev_solN [i : Rep K α] [Sol K α] {xs : List β} {m : Option (List α)} (k : Nat) (h : es[k]? = some (.own j xs)) (he : EvN te (es.set k (.val (@repList K β j) xs)) m) : EvN te es m := by
  intro a ha F H ad σ rs Q q
  obtain ⟨p0, vs, h0, h3, h2, r2⟩ := rs.freeze h
  exact he a ha _ H ad σ r2 Q fun v F' H' g ⟨p, ev, hp, hf, ws, k1, k2, k3⟩ => q v _ H' (thaw_grow (same_new h2) g) ⟨p, ev, hp, thaw_free hf, ws, k1, k2, pmono k3 fun u b z => Sol.sol (K := K) (thaw_noL (same_new h2) g upd_lst) (show i.At F' u b from z)⟩
theorem O2.lst {F H G : Hp} {v : V} {S : Addr → Prop} {xss : List (List β)} (h : O2 j F H v S xss) (hG : Same G H) (hS : ∀ p o, G p = some o → F p = none → S p) : ∀ q o, G q = some o → F q = none → ∃ vs, o = .lst vs := fun q o ho hf => by
  obtain ⟨p, ps, e, hS2, hp, hn, hd, hl, hz, pr⟩ := h
  have hH := hG _ _ ho
  rcases (hS2 q).mp (hS q o ho hf) with z | z
  · subst z
    rw [hl] at hH
    cases hH
    exact ⟨_, rfl⟩
  · obtain ⟨y, _, vs, hv, _⟩ := pmemR pr q z
    rw [hv] at hH
    cases hH
    exact ⟨_, rfl⟩
theorem ev_sol2 [i : Rep K α] [Sol K α] {xss : List (List β)} {m : Option α} (k : Nat) (h : es[k]? = some (.obj (o2 j) xss)) (he : Ev te (es.set k (.val (@repList K _ (@repList K β j)) xss)) m) : Ev te es m := by
  intro a ha F H ad σ rs Q q
  obtain ⟨v, hv, ho⟩ := rs.ent k _ h
  obtain ⟨G, g1, g2, g3, g4⟩ := O2.frz ho rs.ex
  exact he a ha _ H ad σ (rs.frzObj h rfl hv g1 g2 g3 g4) Q fun v F' H' g x => q v _ H' (thaw_grow g1 g) (Sol.sol (K := K) (thaw_noL g1 g (O2.lst ho g2 g3)) (show i.At F' v a from x))
theorem ev_solN2 [i : Rep K α] [Sol K α] {xss : List (List β)} {m : Option (List α)} (k : Nat) (h : es[k]? = some (.obj (o2 j) xss)) (he : EvN te (es.set k (.val (@repList K _ (@repList K β j)) xss)) m) : EvN te es m := by
  intro a ha F H ad σ rs Q q
  obtain ⟨v, hv, ho⟩ := rs.ent k _ h
  obtain ⟨G, g1, g2, g3, g4⟩ := O2.frz ho rs.ex
  exact he a ha _ H ad σ (rs.frzObj h rfl hv g1 g2 g3 g4) Q fun v F' H' g ⟨p, ev, hp, hf, ws, k1, k2, k3⟩ => q v _ H' (thaw_grow g1 g) ⟨p, ev, hp, thaw_free hf, ws, k1, k2, pmono k3 fun u b z => Sol.sol (K := K) (thaw_noL g1 g (O2.lst ho g2 g3)) (show i.At F' u b from z)⟩
end
end Tf
set_option Elab.async false
set_option linter.all false
set_option maxRecDepth 100000
set_option maxHeartbeats 4000000
namespace Tf
open PySem PySem.Spec L2 PyProof.Rows
/-! ### lists of which is known that they are new -/
def NewL (N : Addr → Prop) (α : Type) : Type := List α
instance decNewL {N : Addr → Prop} {α : Type} [DecidableEq α] : DecidableEq (NewL N α) := inferInstanceAs (DecidableEq (List α))
/-- not frozen at first -/
def nw (F0 : Hp) : Addr → Prop := fun p => F0 p = none
section
variable {K : Fg} {α β ρ : Type}
instance repNewL {N : Addr → Prop} [i : Rep K α] : Rep K (NewL N α) :=
  ⟨fun F v (xs : List α) => ∃ p vs, v = .ref p ∧ F p = some (.lst vs) ∧ vs.length ≤ sizeLine ∧ Paired (i.At F) vs xs ∧ N p,
   fun s ⟨p, vs, e, h, l, q, n⟩ => ⟨p, vs, e, s _ _ h, l, pmono q fun _ _ z => i.mono s z, n⟩⟩
/-- a value at hand since the frozen part was F0 -/
def repSince (F0 : Hp) (j : Rep K α) : Rep K α := ⟨fun F v a => j.At F v a ∧ Same F0 F, fun s ⟨h, e⟩ => ⟨j.mono s h, e.trans s⟩⟩
abbrev sn {K : Fg} {α : Type} [j : Rep K α] (F0 : Hp) (a : α) : Ent K := .val (repSince F0 j) a
/-- a kind of data with new lists in it -/
class NewRep (r : (Addr → Prop) → Rep K ρ) (i : outParam (Rep K ρ)) : Prop where
  str : ∀ {N N2 : Addr → Prop} {F : Hp} {v : V} {a : ρ}, (∀ p vs, N p → F p = some (.lst vs) → N2 p) → (r N).At F v a → (r N2).At F v a
  fgt : ∀ {N : Addr → Prop} {F : Hp} {v : V} {a : ρ}, (r N).At F v a → i.At F v a
class NewNol (r : (Addr → Prop) → Rep K ρ) : Prop where
  nol : ∀ {N : Addr → Prop} {F G : Hp} {v : V} {a : ρ}, (∀ q o, F q = some o → ((∀ vs, o ≠ .lst vs) ∨ N q) → G q = some o) → (r N).At F v a → (r N).At G v a
def RF (r : (Addr → Prop) → Rep K ρ) : RR ρ := fun fr F _ v a => (r fr).At F v a
instance goodRF {r : (Addr → Prop) → Rep K ρ} {i : Rep K ρ} [n : NewRep r i] : GoodR (RF r) := ⟨fun g h => (r _).mono g.ff h, fun w h => n.str (fun p _ z _ => w p z) h⟩
/-- the kinds -/
@[reducible] def rLN (K : Fg) (α : Type) [i : Rep K α] (N : Addr → Prop) : Rep K (List (List α)) := show Rep K (List (NewL N α)) from inferInstance
@[reducible] def rON (K : Fg) (α : Type) [i : Rep K α] (N : Addr → Prop) : Rep K (Option (List α × Int)) := show Rep K (Option (NewL N α × Int)) from inferInstance
@[reducible] def rEN (K : Fg) (N : Addr → Prop) : Rep K (T1 Str ⊕ T4 Str (List Int) (Tup Int) (Tup Int)) := show Rep K (T1 Str ⊕ T4 Str (NewL N Int) (Tup Int) (Tup Int)) from inferInstance
theorem newL_str [i : Rep K α] {N N2 : Addr → Prop} {F : Hp} {v : V} {a : List α} (h : ∀ p vs, N p → F p = some (.lst vs) → N2 p) (x : (repNewL (K := K) (N := N)).At F v a) : (repNewL (K := K) (N := N2)).At F v a :=
  let ⟨p, vs, e, h1, l, q, n⟩ := x
  ⟨p, vs, e, h1, l, q, h p vs n h1⟩
theorem newL_fgt [i : Rep K α] {N : Addr → Prop} {F : Hp} {v : V} {a : List α} (x : (repNewL (K := K) (N := N)).At F v a) : (repList (K := K)).At F v a :=
  let ⟨p, vs, e, h1, l, q, _⟩ := x
  ⟨p, vs, e, h1, l, q⟩
theorem newL_nol [i : Rep K α] [Sol K α] {N : Addr → Prop} {F G : Hp} {v : V} {a : List α} (h : ∀ q o, F q = some o → ((∀ vs, o ≠ .lst vs) ∨ N q) → G q = some o) (x : (repNewL (K := K) (N := N)).At F v a) : (repNewL (K := K) (N := N)).At G v a :=
  let ⟨p, vs, e, h1, l, q, n⟩ := x
  ⟨p, vs, e, h p _ h1 (.inr n), l, pmono q fun _ _ z => Sol.sol (K := K) (fun q o a b => h q o a (.inl b)) z, n⟩
instance newLN [i : Rep K α] : NewRep (rLN K α) (repList (K := K)) where
  str := fun h ⟨p, vs, e, h1, l, q⟩ => ⟨p, vs, e, h1, l, pmono q fun _ _ z => newL_str h z⟩
  fgt := fun ⟨p, vs, e, h1, l, q⟩ => ⟨p, vs, e, h1, l, pmono q fun _ _ z => newL_fgt z⟩
instance newON [i : Rep K α] : NewRep (rON K α) (repOption (K := K)) where
  str := fun {N N2 F v a} h x => by
    cases a with
    | none => exact x
    | some a =>
      obtain ⟨p, y, z, e, h1, h2, h3⟩ := (show (repProd (K := K) (α := NewL N α) (β := Int)).At F v a from x)
      exact ⟨p, y, z, e, h1, newL_str h h2, h3⟩
  fgt := fun {N F v a} x => by
    cases a with
    | none => exact x
    | some a =>
      obtain ⟨p, y, z, e, h1, h2, h3⟩ := (show (repProd (K := K) (α := NewL N α) (β := Int)).At F v a from x)
      exact ⟨p, y, z, e, h1, newL_fgt h2, h3⟩
instance newEN : NewRep (rEN K) (repSum (K := K)) where
  str := fun {N N2 F v a} h x => by
    cases a with
    | inl a => exact x
    | inr a =>
      obtain ⟨p, a1, b1, c1, d1, e, ht, q1, q2, q3, q4⟩ := (show (repT4 (K := K) (α := Str) (β := NewL N Int) (γ := Tup Int) (δ := Tup Int)).At F v a from x)
      exact ⟨p, a1, b1, c1, d1, e, ht, q1, newL_str h q2, q3, q4⟩
  fgt := fun {N F v a} x => by
    cases a with
    | inl a => exact x
    | inr a =>
      obtain ⟨p, a1, b1, c1, d1, e, ht, q1, q2, q3, q4⟩ := (show (repT4 (K := K) (α := Str) (β := NewL N Int) (γ := Tup Int) (δ := Tup Int)).At F v a from x)
      exact ⟨p, a1, b1, c1, d1, e, ht, q1, newL_fgt q2, q3, q4⟩
instance nolEN : NewNol (rEN K) where
  nol := fun {N F G v a} h x => by
    have hs : NoL F G := fun q o a b => h q o a (.inl b)
    cases a with
    | inl a => exact Sol.sol (K := K) (α := T1 Str) hs x
    | inr a =>
      obtain ⟨p, a1, b1, c1, d1, e, ht, q1, q2, q3, q4⟩ := (show (repT4 (K := K) (α := Str) (β := NewL N Int) (γ := Tup Int) (δ := Tup Int)).At F v a from x)
      exact ⟨p, a1, b1, c1, d1, e, sqT_sol hs ht, q1, newL_nol h q2, Sol.sol (K := K) hs q3, Sol.sol (K := K) hs q4⟩
end
section
variable {K : Fg} {ρ X : Type} {R : RR ρ} {φ : X → Fl K ρ} {es : Env K} {t tz : TS} {te : TE} {α β : Type}
theorem RSt.since {F H : Hp} {ad : Nat → Addr → Prop} {σ : L2.St} {j : Rep K α} {a : α} {k : Nat} (rs : RSt K F H ad σ es) (h : es[k]? = some (.val j a)) : RSt K F H ad σ (es.set k (.val (repSince F j) a)) := by
  refine ⟨rs.ex, by rw [List.length_set]; exact rs.len, fun i e hi => ?_, fun i l e u hi hl he hu => ?_⟩
  · rcases getset hi with ⟨rfl, _, rfl⟩ | ⟨_, hi⟩
    · obtain ⟨v, h1, h2⟩ := rs.ent _ _ h
      exact ⟨v, h1, h2, Same.refl F⟩
    · exact rs.ent i e hi
  · rcases getset hi with ⟨_, _, rfl⟩ | ⟨_, hi⟩
    · cases he
    · rcases getset hl with ⟨_, _, rfl⟩ | ⟨_, hl⟩
      · cases hu
      · exact rs.inj i l e u hi hl he hu
theorem owA_since {ad : Nat → Addr → Prop} {j j2 : Rep K α} {a : α} {k : Nat} (h : es[k]? = some (.val j a)) : OwA (es.set k (.val j2 a)) ad = OwA es ad := by
  funext p
  refine propext ⟨own_setVal, fun ⟨i, e, hi, he, hp⟩ => ⟨i, e, ?_, he, hp⟩⟩
  rw [List.getElem?_set_ne (fun z => by subst z; rw [h] at hi; cases hi; cases he)]
  exact hi
/-- a def that tells new lists -/
theorem sx_since {r : (Addr → Prop) → Rep K ρ} {i : Rep K ρ} [n : NewRep r i] {j : Rep K α} {a : α} (k : Nat) (h : es[k]? = some (.val j a)) {m : Option X} (hs : ∀ F0, Sx (RV (r (nw F0))) φ t (es.set k (.val (repSince F0 j) a)) m) : Sx (RF r) φ t es m := by
  intro fl hfl F H ad σ D rs fo
  refine hs F fl hfl F H ad σ D (rs.since h) ?_
  rw [owA_since h]
  cases fl with
  | nx es' => exact fo
  | bk es' => exact fo
  | ct es' => exact fo
  | ex P => exact fo
  | rt q =>
    refine fun F' H' v adv ex x => fo F' H' v adv ex (n.str (fun p vs hp hl => ?_) x)
    cases hH : H p with
    | none => exact .inr rfl
    | some o =>
      refine .inl (Classical.byContradiction fun hw => ?_)
      have h1 := adv.hh p o hH hw
      rw [ex _ _ hl] at h1
      cases h1
      rcases adv.fr p _ hH lst_flat hp with z | z
      · exact hw z
      · rw [hl] at z
        cases z
theorem ev_since {F0 : Hp} [j : Rep K α] {k : Nat} {a : α} (h : es[k]? = some (.val (repSince F0 j) a)) : Ev (tVar k) es (some a) := by
  intro c hc F H ad σ rs Q q
  cases hc
  obtain ⟨v, h1, h2⟩ := rs.ent k _ h
  exact ⟨v, h1, q v F H (Grow.refl rs.ex) h2.1⟩
theorem ev_varG {j : Rep K α} {k : Nat} {a : α} (h : es[k]? = some (.val j a)) : EvG (RV j) (tVar k) es (some a) := by
  intro c hc F H ad σ rs Q q
  cases hc
  obtain ⟨v, h1, h2⟩ := rs.ent k _ h
  exact ⟨v, h1, q v F H (Grow.refl rs.ex) h2⟩
/-- a new list, frozen, known as new -/
theorem ev_newL {F0 : Hp} {j : Rep K β} {b : β} [i : Rep K α] {m : Option (List α)} (k : Nat) (h : es[k]? = some (.val (repSince F0 j) b)) (he : EvN te es m) : Ev (α := NewL (nw F0) α) te es m := fun a ha F H ad σ rs Q q =>
  he a ha F H ad σ rs Q fun v F' H' g ⟨p, e, f, f2, vs, h3, h4, h5⟩ => by
    obtain ⟨_, _, _, sF⟩ := rs.ent k _ h
    refine q v (upd F' p (.lst vs)) H' ⟨g.ff.trans (same_new f2), g.hh, fun b x z => ?_, fun b x z n y => ?_⟩ ⟨p, vs, e, upd_same, h4, pmono h5 fun _ _ z => i.mono (same_new f2) z, ?_⟩
    · by_cases hb : b = p
      · subst hb
        rw [upd_same] at z
        rw [← z]
        exact h3
      · rw [upd_ne hb] at z
        exact g.ex _ _ z
    · rw [upd_ne (ne_of_none z f)]
      exact g.fr b x z n y
    · exact (sF.trans g.ff).free f2
theorem ev_unN {N : Addr → Prop} [i : Rep K α] {m : Option (List α)} (h : Ev (α := NewL N α) te es m) : Ev te es m := fun a ha F H ad σ rs Q q => h a ha F H ad σ rs Q fun v F' H' g x => q v F' H' g (newL_fgt x)
/-- what another def tells as new -/
theorem ev_newF {F0 : Hp} {j : Rep K β} {b : β} {r : (Addr → Prop) → Rep K α} {i : Rep K α} [n : NewRep r i] {m : Option α} (k : Nat) (h : es[k]? = some (.val (repSince F0 j) b)) (he : EvG (RF r) te es m) : EvG (RV (r (nw F0))) te es m := fun a ha F H ad σ rs Q q =>
  he a ha F H ad σ rs Q fun v F' H' g x => by
    obtain ⟨_, _, _, sF⟩ := rs.ent k _ h
    exact q v F' H' g (n.str (fun p vs hp _ => (sF.trans rs.ex).free hp) x)
theorem ev_unF {r : (Addr → Prop) → Rep K α} {i : Rep K α} [n : NewRep r i] {m : Option α} (he : EvG (RF r) te es m) : EvG (RV i) te es m := fun a ha F H ad σ rs Q q =>
  he a ha F H ad σ rs Q fun v F' H' g x => q v F' H' g (n.fgt x)
/-- an own list lent to a def that tells new ones -/
theorem ev_lendF {r : (Addr → Prop) → Rep K α} [n : NewNol r] {j : Rep K β} {xs : List β} {m : Option α} (k : Nat) (h : es[k]? = some (.own j xs)) (he : EvG (RF r) te (es.set k (.val (@repList K β j) xs)) m) : EvG (RF r) te es m := by
  intro a ha F H ad σ rs Q q
  obtain ⟨p0, vs, h0, h3, h2, r2⟩ := rs.freeze h
  refine he a ha _ H ad σ r2 Q fun v F' H' g x => q v _ H' (thaw_grow (same_new h2) g) (n.nol (fun b o hb hn => ?_) x)
  rcases hn with hn | hn
  · exact thaw_noL (same_new h2) g upd_lst b o hb hn
  · unfold thaw
    split
    · rename_i o2 h5 h6
      by_cases e : b = p0
      · subst e
        have hn : H b = none := hn
        rw [h3] at hn
        cases hn
      · rw [upd_ne e, h5] at h6
        cases h6
    · exact hb
theorem sx_retF {r : (Addr → Prop) → Rep K ρ} {m : Option ρ} {N : Addr → Prop} (h : EvG (RV (r N)) te es m) : Sx (RV (r N)) (.rt (K := K)) (tSeq (tRet te) tz) es m := sv_ret h
/-! what one owns, whatever it is: its new lists are one's own -/
noncomputable def join (F : Hp) (S : Addr → Prop) (H : Hp) : Hp := fun q => open Classical in if S q then H q else F q
theorem join_in {F H : Hp} {S : Addr → Prop} {q : Addr} (h : S q) : join F S H q = H q := by unfold join; exact if_pos h
theorem join_out {F H : Hp} {S : Addr → Prop} {q : Addr} (h : ¬ S q) : join F S H q = F q := by unfold join; exact if_neg h
def OB (r : (Addr → Prop) → Rep K α) (F H : Hp) (v : V) (S : Addr → Prop) (a : α) : Prop := (∀ p, S p → F p = none ∧ ∃ vs, H p = some (.lst vs)) ∧ (r S).At (join F S H) v a
theorem OB.move {r : (Addr → Prop) → Rep K α} {F H F' H' : Hp} {v : V} {S : Addr → Prop} {a : α} (h : OB r F H v S a) (ff : Same F F') (hh : ∀ p, S p → H' p = H p) (fr : ∀ p, S p → F' p = none) : OB r F' H' v S a := by
  refine ⟨fun p hp => ⟨fr p hp, by rw [hh p hp]; exact (h.1 p hp).2⟩, (r S).mono (fun q o z => ?_) h.2⟩
  by_cases e : S q
  · rw [join_in e] at z ⊢
    rw [hh q e]; exact z
  · rw [join_out e] at z ⊢
    exact ff _ _ z
theorem OB.out {r : (Addr → Prop) → Rep K α} {F H : Hp} {v : V} {S : Addr → Prop} {a : α} (h : OB r F H v S a) : ∀ p, S p → F p = none ∧ ∃ o, H p = some o ∧ ¬ NumT o := fun p hp => by
  obtain ⟨h1, vs, h2⟩ := h.1 p hp
  exact ⟨h1, _, h2, lst_flat⟩
@[reducible] def oB (r : (Addr → Prop) → Rep K α) : ORep K α := ⟨OB r, fun h => h.move, fun h => h.out⟩
theorem OB.frz {r : (Addr → Prop) → Rep K α} {i : Rep K α} [n : NewRep r i] {F H : Hp} {v : V} {S : Addr → Prop} {a : α} (h : OB r F H v S a) (s : Same F H) :
    ∃ G, Same F G ∧ Same G H ∧ (∀ p o, G p = some o → F p = none → S p) ∧ (∀ p o, G p = some o → F p = none → ∃ vs, o = .lst vs) ∧ i.At G v a := by
  refine ⟨join F S H, fun q o z => ?_, fun q o z => ?_, fun q o z f => ?_, fun q o z f => ?_, n.fgt h.2⟩
  · by_cases e : S q
    · rw [(h.1 q e).1] at z; cases z
    · rw [join_out e]; exact z
  · by_cases e : S q
    · rw [join_in e] at z; exact z
    · rw [join_out e] at z; exact s _ _ z
  · refine Classical.byContradiction fun e => ?_
    rw [join_out e, f] at z; cases z
  · by_cases e : S q
    · rw [join_in e] at z
      obtain ⟨_, vs, h2⟩ := h.1 q e
      rw [h2] at z
      cases z
      exact ⟨_, rfl⟩
    · rw [join_out e, f] at z; cases z
noncomputable def cutS (S : Addr → Prop) (F : Hp) : Hp := fun q => open Classical in if S q then none else F q
theorem cutS_in {F : Hp} {S : Addr → Prop} {q : Addr} (h : S q) : cutS S F q = none := by unfold cutS; exact if_pos h
theorem cutS_out {F : Hp} {S : Addr → Prop} {q : Addr} (h : ¬ S q) : cutS S F q = F q := by unfold cutS; exact if_neg h
theorem ev_own {r : (Addr → Prop) → Rep K α} {i : Rep K α} [n : NewRep r i] {m : Option α} (he : EvG (RF r) te es m) : EvG (RO (oB r)) te es m := fun a ha F H ad σ rs Q q =>
  he a ha F H ad σ rs Q fun v F' H' g x => by
    obtain ⟨S, hS⟩ : ∃ S : Addr → Prop, ∀ p, S p ↔ F p = none ∧ ∃ vs, F' p = some (.lst vs) := ⟨_, fun p => Iff.rfl⟩
    have hSH : ∀ p, S p → H p = none := fun p hp => by
      obtain ⟨h1, vs, h2⟩ := (hS p).mp hp
      cases hH : H p with
      | none => rfl
      | some o =>
        have h3 := g.hh _ _ hH
        rw [g.ex _ _ h2] at h3
        cases h3
        have := g.fr p _ hH lst_flat h1
        rw [h2] at this
        cases this
    refine q v (cutS S F') H' ⟨fun p o z => ?_, g.hh, fun p o z => ?_, fun p o z nf f => ?_⟩ ⟨S, ⟨fun p hp => ⟨cutS_in hp, ?_⟩, ?_⟩, hSH⟩
    · rw [cutS_out fun w => by rw [((hS p).mp w).1] at z; cases z]
      exact g.ff _ _ z
    · by_cases w : S p
      · rw [cutS_in w] at z; cases z
      · rw [cutS_out w] at z; exact g.ex _ _ z
    · by_cases w : S p
      · exact cutS_in w
      · rw [cutS_out w]; exact g.fr p o z nf f
    · obtain ⟨_, vs, h2⟩ := (hS p).mp hp
      exact ⟨vs, g.ex _ _ h2⟩
    · have hm : Same F' (join (cutS S F') S H') := fun p o z => by
        by_cases w : S p
        · rw [join_in w]; exact g.ex _ _ z
        · rw [join_out w, cutS_out w]; exact z
      refine n.str (N := fun p => H p = none) (fun p vs hp hl => ?_) ((r _).mono hm x)
      refine Classical.byContradiction fun w => ?_
      rw [join_out w, cutS_out w] at hl
      exact w ((hS p).mpr ⟨rs.ex.free hp, vs, hl⟩)
theorem ev_flatB {r : (Addr → Prop) → Rep K α} {i : Rep K α} [n : NewRep r i] {a : α} [ib : Rep K β] [Flat K β] {m : Option β} (k : Nat) (h : es[k]? = some (.obj (oB r) a)) (he : Ev te (es.set k (.val i a)) m) : Ev te es m := by
  intro b hb F H ad σ rs Q q
  obtain ⟨v, hv, ho⟩ := rs.ent k _ h
  obtain ⟨G, g1, g2, g3, _, g4⟩ := OB.frz (n := n) ho rs.ex
  exact he b hb _ H ad σ (rs.frzObj h rfl hv g1 g2 g3 g4) Q fun v F' H' g x => q v F H' ⟨Same.refl F, g.hh, rs.ex.trans g.hh, fun p o z _ f => f⟩ (Flat.flat (K := K) (show ib.At F' v b from x))
theorem et_flatB {r : (Addr → Prop) → Rep K α} {i : Rep K α} [n : NewRep r i] {a : α} {m : Option Bool} {tt : TT} (k : Nat) (h : es[k]? = some (.obj (oB r) a)) (he : EvT tt (es.set k (.val i a)) m) : EvT tt es m := by
  intro b hb F H ad σ rs Q q
  obtain ⟨v, hv, ho⟩ := rs.ent k _ h
  obtain ⟨G, g1, g2, g3, _, g4⟩ := OB.frz (n := n) ho rs.ex
  exact he b hb _ H ad σ (rs.frzObj h rfl hv g1 g2 g3 g4) Q fun F' H' g => q F H' ⟨Same.refl F, g.hh, rs.ex.trans g.hh, fun p o z _ f => f⟩
/-! a nothing behind a list within a tuple -/
noncomputable def popON (z : Option (List α × Int)) : Option (Option (List (Option α) × Int)) := z.bind fun z => (appO (z.1.map some) none).bind fun l => some (some (l, z.2))
noncomputable def popEN (z : T1 Str ⊕ T4 Str (List Int) (Tup Int) (Tup Int)) : Option (T1 Str ⊕ T4 Str (List (Option Int)) (Tup Int) (Tup Int)) :=
  Sum.elim (fun _ => none) (fun z => (appO (z.b.map some) none).bind fun l => some (Sum.inr ⟨z.a, l, z.c, z.d⟩)) z
@[reducible] def rEO (K : Fg) (N : Addr → Prop) : Rep K (T1 Str ⊕ T4 Str (List (Option Int)) (Tup Int) (Tup Int)) := show Rep K (T1 Str ⊕ T4 Str (NewL N (Option Int)) (Tup Int) (Tup Int)) from inferInstance
instance newEO : NewRep (rEO K) (repSum (K := K)) where
  str := fun {N N2 F v a} h x => by
    cases a with
    | inl a => exact x
    | inr a =>
      obtain ⟨p, a1, b1, c1, d1, e, ht, q1, q2, q3, q4⟩ := (show (repT4 (K := K) (α := Str) (β := NewL N (Option Int)) (γ := Tup Int) (δ := Tup Int)).At F v a from x)
      exact ⟨p, a1, b1, c1, d1, e, ht, q1, newL_str h q2, q3, q4⟩
  fgt := fun {N F v a} x => by
    cases a with
    | inl a => exact x
    | inr a =>
      obtain ⟨p, a1, b1, c1, d1, e, ht, q1, q2, q3, q4⟩ := (show (repT4 (K := K) (α := Str) (β := NewL N (Option Int)) (γ := Tup Int) (δ := Tup Int)).At F v a from x)
      exact ⟨p, a1, b1, c1, d1, e, ht, q1, newL_fgt q2, q3, q4⟩
theorem paired_someW {P : V → α → Prop} {Q : V → Option α → Prop} (h : ∀ v a, P v a → Q v (some a)) {vs : List V} {xs : List α} (p : Paired P vs xs) : Paired Q vs (xs.map some) := by
  induction p with
  | nil => exact .nil
  | cons a _ ih => exact .cons (h _ _ a) ih
theorem paired_snocW {A B : Type} {P : A → B → Prop} {vs : List A} {xs : List B} (p : Paired P vs xs) {v : A} {x : B} (h : P v x) : Paired P (vs ++ [v]) (xs ++ [x]) := by
  induction p with
  | nil => exact .cons h .nil
  | cons a _ ih => exact .cons a ih
theorem join_upd {F H : Hp} {S : Addr → Prop} {q : Addr} {o : HO} (h : S q) : join F S (upd H q o) = upd (join F S H) q o := by
  funext p
  by_cases e : p = q
  · subst e; rw [join_in h, upd_same, upd_same]
  · rw [upd_ne e]
    by_cases w : S p
    · rw [join_in w, join_in w, upd_ne e]
    · rw [join_out w, join_out w]
theorem nol_upd {G : Hp} {q : Addr} {vs ws : List V} (h : G q = some (.lst vs)) : NoL G (upd G q (.lst ws)) := fun p o hp hn => by
  by_cases e : p = q
  · subst e
    rw [h] at hp
    cases hp
    exact absurd rfl (hn vs)
  · rw [upd_ne e]; exact hp
theorem newL_app [i : Rep K α] [Sol K α] {N : Addr → Prop} {G : Hp} {q : Addr} {vs : List V} {xs : List α} {l : List (Option α)} (h : G q = some (.lst vs)) (h2 : vs.length ≤ sizeLine) (h3 : Paired (i.At G) vs xs) (hN : N q) (hl : appO (xs.map some) none = some l) :
    (repNewL (K := K) (N := N)).At (upd G q (.lst (vs ++ [.non]))) (.ref q) l ∧ vs.length < sizeLine := by
  rw [appO_eq] at hl
  unfold appO_d at hl
  split at hl
  · rename_i hz
    cases hl
    have hlen := Paired.length h3
    rw [List.length_map] at hz
    have hz2 := lt_lim hz
    refine ⟨⟨q, vs ++ [.non], rfl, upd_same, by rw [List.length_append, List.length_singleton]; omega, ?_, hN⟩, by omega⟩
    exact paired_snocW (paired_someW (fun v a z => Sol.sol (K := K) (nol_upd h) z) h3) rfl
  · cases hl
theorem sx_appON [GoodR R] [i0 : Rep K α] [Sol K α] {i : Nat} {a : Option (List α × Int)} {k : Option (List (Option α) × Int) → Option X} (h : es[i]? = some (.obj (oB (rON K α)) a)) (h2 : ∀ z, Sx R φ tz (es.set i (.obj (oB (rON K (Option α))) z)) (k z)) :
    Sx R φ (tSeq (tDrop (tBM K "list" rAppend (tOp (rIxT K) (tVar i) (tC (.int 0))) (tCons (tC .non) tNil))) tz) es ((popON a).bind k) := by
  show Sv _ _ _ _
  rw [map_bind_]
  intro fl hfl F H ad σ D rs fo
  obtain ⟨z, hz, hk⟩ := bind_some hfl
  unfold popON at hz
  obtain ⟨⟨xs, n⟩, ha, hz⟩ := bind_some hz
  obtain ⟨l, hl, hz⟩ := bind_some hz
  cases hz
  subst ha
  obtain ⟨v, hv, hS, x⟩ := rs.ent i _ h
  obtain ⟨t, a1, b1, e, ht, ⟨q, vs, e1, hq, hs, hp, hN⟩, hb⟩ := (show (repProd (K := K) (α := NewL (ad i) α) (β := Int)).At (join F (ad i) H) v (xs, n) from x)
  subst e e1
  have hb : b1 = .int n := hb
  have hjH : Same (join F (ad i) H) H := fun p o z => by
    by_cases w : ad i p
    · rw [join_in w] at z; exact z
    · rw [join_out w] at z; exact rs.ex _ _ z
  have hqH := hjH _ _ hq
  obtain ⟨ha2, hlt⟩ := newL_app hq hs hp hN hl
  refine ⟨_, hv, t, _, 0, .ref q, rfl, rfl, same_t hjH ht, rfl, .inl ⟨rfl, vs, .inl (.inl hqH)⟩, ?_⟩
  refine ⟨q, vs, .non, rfl, rfl, hqH, by omega, ?_⟩
  refine sv_obj2 (D := D) (R := R) (e1 := .obj (oB (rON K (Option α))) (some (l, n))) (S := ad i) (h2 _) hk rs (Grow.refl rs.ex) h rfl hv ⟨_, rfl, fun p hp => ⟨(hS p hp).1, ?_⟩, ?_⟩ (upd_same_ rs.ex (hS q hN).1) (fun c u e n => ?_) upd_dm (fun c z => .inl z) fo
  · by_cases e : p = q
    · subst e; exact ⟨_, upd_same⟩
    · rw [upd_ne e]; exact (hS p hp).2
  · rw [join_upd hN]
    exact ⟨t, .ref q, b1, rfl, sqT_sol (nol_upd hq) ht, ha2, hb⟩
  · rw [upd_ne fun z => n (by rw [z]; exact hN)]
    exact e
theorem sx_appEN [GoodR R] {i : Nat} {a : T1 Str ⊕ T4 Str (List Int) (Tup Int) (Tup Int)} {k : (T1 Str ⊕ T4 Str (List (Option Int)) (Tup Int) (Tup Int)) → Option X} (h : es[i]? = some (.obj (oB (rEN K)) a)) (h2 : ∀ z, Sx R φ tz (es.set i (.obj (oB (rEO K)) z)) (k z)) :
    Sx R φ (tSeq (tDrop (tBM K "list" rAppend (tOp (rIxT K) (tVar i) (tC (.int 1))) (tCons (tC .non) tNil))) tz) es ((popEN a).bind k) := by
  show Sv _ _ _ _
  rw [map_bind_]
  intro fl hfl F H ad σ D rs fo
  obtain ⟨z, hz, hk⟩ := bind_some hfl
  unfold popEN at hz
  cases a with
  | inl a => cases hz
  | inr y =>
    obtain ⟨l, hl, hz⟩ := bind_some (show (appO (y.b.map some) none).bind _ = some z from hz)
    cases hz
    obtain ⟨v, hv, hS, x⟩ := rs.ent i _ h
    obtain ⟨t, a1, b1, c1, d1, e, ht, q1, ⟨q, vs, e1, hq, hs, hp, hN⟩, q3, q4⟩ := (show (repT4 (K := K) (α := Str) (β := NewL (ad i) Int) (γ := Tup Int) (δ := Tup Int)).At (join F (ad i) H) v y from x)
    subst e e1
    have hjH : Same (join F (ad i) H) H := fun p o z => by
      by_cases w : ad i p
      · rw [join_in w] at z; exact z
      · rw [join_out w] at z; exact rs.ex _ _ z
    have hqH := hjH _ _ hq
    obtain ⟨ha2, hlt⟩ := newL_app hq hs hp hN hl
    refine ⟨_, hv, t, _, 1, .ref q, rfl, rfl, same_t hjH ht, rfl, .inl ⟨rfl, vs, .inl (.inl hqH)⟩, ?_⟩
    refine ⟨q, vs, .non, rfl, rfl, hqH, by omega, ?_⟩
    refine sv_obj2 (D := D) (R := R) (e1 := .obj (oB (rEO K)) (Sum.inr ⟨y.a, l, y.c, y.d⟩)) (S := ad i) (h2 _) hk rs (Grow.refl rs.ex) h rfl hv ⟨_, rfl, fun p hp => ⟨(hS p hp).1, ?_⟩, ?_⟩ (upd_same_ rs.ex (hS q hN).1) (fun c u e n => ?_) upd_dm (fun c z => .inl z) fo
    · by_cases e : p = q
      · subst e; exact ⟨_, upd_same⟩
      · rw [upd_ne e]; exact (hS p hp).2
    · rw [join_upd hN]
      have hs2 := nol_upd (ws := vs ++ [.non]) hq
      exact ⟨t, a1, .ref q, c1, d1, rfl, sqT_sol hs2 ht, q1, ha2, Sol.sol (K := K) hs2 q3, Sol.sol (K := K) hs2 q4⟩
    · rw [upd_ne fun z => n (by rw [z]; exact hN)]
      exact e
end
end Tf
set_option Elab.async false
set_option linter.all false
set_option maxRecDepth 100000
set_option maxHeartbeats 4000000
namespace Tf
open PySem PySem.W PySem.Spec L2 PyProof.Rows
theorem paired_ix {A B : Type} {P : A → B → Prop} : ∀ {xs : List A} {ys : List B}, xs.length = ys.length → (∀ (i : Nat) a b, xs[i]? = some a → ys[i]? = some b → P a b) → Paired P xs ys
  | [], [], _, _ => .nil
  | [], _ :: _, h, _ => nomatch h
  | _ :: _, [], h, _ => nomatch h
  | x :: xs, y :: ys, h, f => .cons (f 0 x y rfl rfl) (paired_ix (Nat.succ.inj h) fun i a b e1 e2 => f (i + 1) a b e1 e2)
/-! ### list(d.values()) of a dict whose keys are tuples -/
section
variable {X : Cx} {pins : List (Addr × Obj)} {σ : L2.St} {H : Hp} {s : Shared} {d : Addr} {td : TE}
theorem dTV {kvs : List (List Key × V)} (I : Inv X pins σ H s) (h : H d = some (.dT kvs)) :
    (d == sysModules) = false ∧ kvs.length ≤ sizeLine ∧ ∃ (o : Obj) (es : Array DictEntry) (ep : Nat), s.heap.get? d = some o ∧ o.ExactDict ∧ o.data = .dict es ep ∧ es.size = kvs.length ∧
      ∀ (i : Nat) (k : List Key) (v : V), kvs[i]? = some (k, v) → ∃ en : DictEntry, es[i]? = some en ∧ RelV v en.val := by
  obtain ⟨hl, hs, xs, pr, o', es, ep, ho, hx, hdt, he, _⟩ := I.hok d _ h
  refine ⟨hs, hl, o', es, ep, ho, hx, hdt, ?_, fun i k v e => ?_⟩
  · have l1 : es.size = xs.length := size_of_entries he
    have l2 : kvs.length = xs.length := Paired.length pr
    omega
  · obtain ⟨b, hb, e1, e2, e3⟩ := paired_get pr e
    have q := entry_at he i
    rw [hb] at q
    exact ⟨_, q, e3⟩
def tListVals (td : TE) : TE := fun σ H Q => td σ H fun x H1 => ∃ d kvs, x = V.ref d ∧ H1 d = some (.dT kvs) ∧ ∀ l, H1 l = none → Q (.ref l) (upd H1 l (.lst (kvs.map (·.2))))
theorem pe_listVals {e : Expr} {apos cpos p pos : Pos} (hc : X.calm = true) (hg : Gl X "list") (hm : X.mg "list" = none) (he : PE X e td)
    (hbase : attributeBase e "values" X.env (eval e X.env) = eval e X.env := by rfl) (hline : (apos.endLine == cpos.line) = true := by rfl)
    (na : starEach [.Call (.Attribute e "values" apos) [] [] cpos] X.env = (false, eval (.Call (.Attribute e "values" apos) [] [] cpos) X.env) :: starEach [] X.env := by rfl) :
    PE X (.Call (.Name "list" p) [.Call (.Attribute e "values" apos) [] [] cpos] [] pos) (tListVals td) := by
  refine ⟨fun pins s σ H Q I h => ?_⟩
  refine Call_ (ld_blt I hg hm boot_list ?_)
  refine PyProof.Rows.callWith_type1 (PyProof.Rows.args_cons ?_ na) na rfl
  refine wpAny_Call_method (T := "dict") (id := "dict.values") hbase rfl hline F.plainAttrs_dict F.slot_dict_values F.type_dict_values (thn (he.run pins s σ H _ I h) fun u s1 ⟨x, H1, I1, rx, d, kvs, ex, hd, q⟩ => ?_)
  subst ex
  obtain rfl : u = Value.ref d := rx
  obtain ⟨hs, hl, o, es, ep, hgd, hx, hdt, hsz, ent⟩ := dTV I1 hd
  have hm2 : DT.Raw s1.heap d es ep := ⟨_, hgd, hx, hdt⟩
  refine ⟨hm2.typeIs, ?_, ?_⟩
  · obtain ⟨t1, t2, _⟩ := isD_at I1 (.inr ⟨kvs, .inl hd⟩ : IsD H1 d)
    exact t2
  have I2 : Inv X pins σ H1 { s1 with heap := s1.heap.push { cls := .type "dict_values", data := .fields #[.ref d] } } := I1.kept (t' := s1.toks) fun b ob q => Heap.get?_push_of_some _ q
  have fin : wpAny (model X.prog X.w) X.A (spliced (backTo pos (starEach [] X.env))) (fun vs s₂ => wpAny (model X.prog X.w) X.A (call (.type "list") (.ref s1.heap.objs.size :: vs)) (EP X pins σ Q) X.xe s₂) X.xe { s1 with heap := s1.heap.push { cls := .type "dict_values", data := .fields #[.ref d] } } := by
    refine PyProof.Rows.args_nil ?_
    refine PySem.W.kdl_call (KdlSrc.rawValues (d := d) (r := s1.heap.objs.size) (es := es) (ep := ep)) (I2.ok.hd hc) ⟨⟨_, Heap.get?_push_size _ rfl, rfl, rfl⟩, ⟨_, Heap.get?_push_of_some _ hgd, hx, hdt⟩⟩ (by omega) fun h' tk acc' c' kp hD items => ?_
    have hV : Vals (kvs.map (·.2)) acc'.toList := by
      refine paired_ix ?_ fun i a b ha hb => ?_
      · have := items.1
        rw [List.length_map, show acc'.toList.length = acc'.size from rfl]
        omega
      · rw [List.getElem?_map] at ha
        cases hk : kvs[i]? with
        | none => rw [hk] at ha; cases ha
        | some kv =>
          rw [hk] at ha
          cases ha
          obtain ⟨en, e1, e2⟩ := ent i kv.1 kv.2 hk
          obtain ⟨hi, e3⟩ := items.2 i b (by rw [← Array.getElem?_toList]; exact hb)
          rw [Array.getElem?_eq_getElem hi] at e1
          cases e1
          rw [e3]
          exact e2
    exact ⟨.ref _, _, I2.laid (t' := tk) kp (Nat.le_refl _) (show ObjOk X.prog X.w _ h' _ (.lst (kvs.map (·.2))) from ⟨by rw [List.length_map]; exact hl, acc'.toList, c', hV, by rw [Array.toArray_toList]; exact hD⟩), rfl, q _ (I2.hok.fresh (Nat.le_refl _))⟩
  show wpAny _ _ (callWith cpos (.builtin "dict.values") [.ref d] [] []) _ X.xe s1
  refine method_meetsIn F.slot_dict_values F.entry_dict_values rfl (PySem.evalArgs_none ?_)
  refine ⟨rfl, hm2.typeIs, F.args_dict_values_1 _, _, meets_valT (es := es) (ep := ep) hs, ?_⟩
  exact ⟨hm2, fin⟩
end
section
variable {K : Fg} {es : Env K} {te : TE} {α β α2 β2 γ δ : Type}
theorem pd_snd {j : Rep K β} {F : Hp} {vs : List (List Key × V)} {d : List (List Int × β)} (h : PD j F vs d) : Paired (j.At F) (vs.map (·.2)) (d.map (·.2)) := by
  induction h with
  | nil => exact .nil
  | cons a _ ih => exact .cons a.2 ih
theorem ev_listVals [j : Rep K β] {m : Option (List (List Int × β))} (he : EvG (RO (oD j)) te es m) : EvN (i := j) (tListVals te) es (m.bind fun d => some (d.map (·.2))) := fun c hc F H ad σ rs Q q => by
  obtain ⟨d, ed, hc⟩ := bind_some hc
  cases hc
  refine he d ed F H ad σ rs _ fun v F1 H1 g ⟨S, ⟨p, vs, e, hS, hf, hp, hl, pr⟩, hfr⟩ => ?_
  refine ⟨p, vs, e, hp, fun l hl2 => q _ _ _ (g.trans (Grow.make g.ex hl2)) ⟨l, rfl, g.hh.free hl2, g.ex.free hl2, vs.map (·.2), upd_same, by rw [List.length_map]; exact hl, pd_snd pr⟩⟩
theorem ev_sl4R {β2 γ α2 : Type} [h1 : Rep K α] [h2 : Rep K α2] [h3 : Rep K β2] [h4 : Rep K γ] {ma : Option (T1 α ⊕ T4 α2 β2 γ γ)} (h : Ev te es ma) : EvG (α := Tup γ) (RV (repTup (K := K))) (tSl (rSlA K) te (tPart (tC (.int 2))) tNoPart) es (ma.bind fun s => Sum.elim (fun _ => none) (fun z => some ([z.c, z.d] : List γ)) s) := fun c hc F H ad σ rs Q q => by
  obtain ⟨s, es1, hc⟩ := bind_some hc
  refine h s es1 F H ad σ rs _ fun v F1 H1 g1 av => ?_
  cases s with
  | inl z => cases hc
  | inr z =>
    have hc : some ([z.c, z.d] : List γ) = some c := hc
    cases hc
    obtain ⟨p, a, b, d, d4, e, ht, qa, qb, qd, qe⟩ := (show (repT4 (K := K) (α := α2) (β := β2) (γ := γ) (δ := γ)).At F1 v z from av)
    refine ⟨2, rfl, ?_⟩
    refine ⟨p, [a, b, d, d4], e, same_t g1.ex ht, fun hw => ?_, fun _ r hr => ?_⟩
    · exact absurd hw.1 (by show ¬ (HT.sIx 4 0 (some 2) = 0); decide)
    · exact q (.ref r) _ _ (g1.trans (Grow.lay g1.ex hr)) ⟨r, _, rfl, upd_same, by show 2 ≤ sizeLine; decide, .cons (h4.mono (same_new (g1.ex.free hr)) qd) (.cons (h4.mono (same_new (g1.ex.free hr)) qe) .nil)⟩
end
/-! ### sum of a tuple of ints -/
section
variable {prog : Program} {w : World} {A : Around} {E : Value → Shared → Prop} {s : Shared} {l : Addr} {its : List Value} {ns : List Int}
theorem sumT_raw {Q : Value → Shared → Prop} (hh : A.handled = none) (hl : s.heap.IsTuple l its.toArray) (hi : IntsAre its ns)
    (h : ∀ h' tk t', (∀ b o, s.heap.get? b = some o → h'.get? b = some o) → Q (.int ns.sum t') { s with heap := h', toks := tk }) : wpAny (model prog w) A (call (.builtin "sum") [.ref l]) Q E s := by
  obtain ⟨xs, e⟩ := hi.allInts.items
  have hn : numsOf (intItems xs).toList = ns := by rw [← e]; exact hi.numsOf
  rw [nums_intItems] at hn
  rw [e] at hl
  refine ktm_sumG hh hl fun h' tk t' hk => ?_
  have := h h' tk t' hk
  rw [preSum_eq, List.take_of_length_le (by simp), hn]; exact this
end
def rSumT (K : PySem.W.Frag) : List V → Hp → VK → Prop := fun vs H Q => ∃ (a : Addr) (ns : List Int), vs = [V.ref a] ∧ SqT K H a (ns.map V.int) ∧ Q (.int ns.sum) H
theorem cr_sumT {X : Cx} (hc : X.calm = true) : CallR X (.builtin "sum") (rSumT X.K) := by
  intro pins s σ H vs us Q I r h
  obtain ⟨a, ns, rfl, hs, q⟩ := h
  obtain ⟨its, rv, hl, _⟩ := I.tuple hs
  rw [Vals.ref1 r]
  exact sumT_raw (I.ok.hd hc) hl rv.ints fun h' tk t' hk => ⟨.int _, H, I.kept hk, ⟨_, rfl⟩, q⟩
section
variable {K : Fg} {es : Env K} {ta : TE}
theorem ev_sumT {ma : Option (Tup Int)} (ha : Ev ta es ma) : Ev (tCB (rSumT K) (tCons ta tNil)) es (ma.bind fun (a : List Int) => some a.sum) :=
  ev_cb1 ha fun a x _ F H _ s ⟨p, vs, e, h, hl, pr⟩ => ops_pure s (.int (a : List Int).sum) rfl fun Q q => ⟨p, a, by rw [e], by rw [← ints_of_paired pr]; exact same_t s h, q⟩
end
/-! ### squares of which the first rows are changed -/
/-- a square of which one knows how long its second row is -/
structure Row2 where
  n : Int
section
variable {K : Fg}
instance repRow2 : Rep K Row2 := ⟨fun F v a => ∃ q ws r us, v = .ref q ∧ F q = some (.lst ws) ∧ ws.length ≤ sizeLine ∧ ws[1]? = some (V.ref r) ∧ F r = some (.lst us) ∧ us.length ≤ sizeLine ∧ (us.length : Int) = a.n,
  fun s ⟨q, ws, r, us, e, h1, h2, h3, h4, h5, h6⟩ => ⟨q, ws, r, us, e, s _ _ h1, h2, h3, s _ _ h4, h5, h6⟩⟩
@[reducible] def rLLN (K : Fg) (α : Type) [i : Rep K α] (N : Addr → Prop) : Rep K (List (List (List α))) := show Rep K (List (List (NewL N α))) from inferInstance
instance newLLN {α : Type} [i : Rep K α] : NewRep (rLLN K α) (repList (K := K)) where
  str := fun h ⟨p, vs, e, h1, l, q⟩ => ⟨p, vs, e, h1, l, pmono q fun _ _ ⟨p, vs, e, h1, l, q⟩ => ⟨p, vs, e, h1, l, pmono q fun _ _ z => newL_str h z⟩⟩
  fgt := fun ⟨p, vs, e, h1, l, q⟩ => ⟨p, vs, e, h1, l, pmono q fun _ _ ⟨p, vs, e, h1, l, q⟩ => ⟨p, vs, e, h1, l, pmono q fun _ _ z => newL_fgt z⟩⟩
/-- a nothing behind the first row of each square: how long the second rows are -/
noncomputable def loopB (a : List (List (List Int))) : Option (List Row2) := open Classical in
  if (∀ q ∈ a, 2 ≤ q.length) ∧ (∀ q ∈ a, ∀ z ∈ a, q.getD 1 [] ≠ z.getD 0 []) ∧ (∀ q ∈ a, (q.getD 0 []).length + a.length < lim) then some (a.map fun q => ⟨((q.getD 1 []).length : Int)⟩) else none
theorem atN {ws : List V} {n : Nat} {v : V} (h : ws[n]? = some v) : atI ws (n : Int) = some v := by
  unfold L2.atI L2.ixN
  have := (List.getElem?_eq_some_iff.mp h).1
  rw [if_pos (by omega)]
  split
  · exact h
  · rename_i hz
    omega
theorem ev_lenSq {es : Env K} {ta : TE} {m : Option Row2} (ha : Ev ta es m) : Ev (tCB (fun xs H Q => ∃ p ys, xs = [.ref p] ∧ (SqL K H p ys ∨ SqT K H p ys) ∧ Q (.int ys.length) H) (tCons (tOp (rIxL K) ta (tC (.int 1))) tNil)) es (m.bind fun a => some a.n) := fun c hc F H ad σ rs Q w => by
  obtain ⟨a, ea, hc⟩ := bind_some hc
  cases hc
  refine ha a ea F H ad σ rs _ fun v F1 H1 g ⟨q, ws, r, us, e, h1, h2, h3, h4, h5, h6⟩ => ?_
  refine ⟨q, ws, 1, .ref r, e, rfl, .inl (.inl (g.ex _ _ h1)), ?_, r, us, rfl, .inl (.inl (.inl (g.ex _ _ h4))), w _ F1 H1 g (show V.int us.length = V.int a.n by rw [h6])⟩
  exact atN h3
theorem lists_apart {F : Hp} {a b : Addr} {vs : List V} {xs : List Int} {n : Nat} {q : Addr} (h1 : F a = some (.lst vs)) (h2 : F b = some (.lst (xs.map V.int))) (h3 : vs[n]? = some (V.ref q)) : a ≠ b := fun e => by
  rw [e, h2] at h1
  cases h1
  rw [List.getElem?_map] at h3
  cases h : xs[n]? with
  | none => rw [h] at h3; cases h3
  | some x => rw [h] at h3; cases h3
theorem ints_inj : ∀ {a b : List Int}, a.map V.int = b.map V.int → a = b
  | [], [], _ => rfl
  | [], _ :: _, h => nomatch h
  | _ :: _, [], h => nomatch h
  | x :: a, y :: b, h => by
    rw [List.map_cons, List.map_cons] at h
    injection h with h1 h2
    injection h1 with h1
    rw [h1, ints_inj h2]
theorem row_of {S : Addr → Prop} {J : Hp} {ws : List V} {rows : List (List Int)} (pr : Paired ((repNewL (K := K) (α := Int) (N := S)).At J) ws rows) {n : Nat} (hn : n < rows.length) :
    ∃ r, ws[n]? = some (V.ref r) ∧ J r = some (.lst ((rows.getD n []).map V.int)) ∧ (rows.getD n []).length ≤ sizeLine ∧ S r := by
  obtain ⟨v, hv, r, us, e, h1, h2, h3, h4⟩ := paired_of_get pr (i := n) (y := rows[n]) (List.getElem?_eq_getElem hn)
  have e2 : rows.getD n [] = rows[n] := by rw [List.getD_eq_getElem?_getD, List.getElem?_eq_getElem hn]; rfl
  have h5 := ints_of_paired h3
  subst e
  refine ⟨r, hv, ?_, ?_, h4⟩
  · rw [e2, h1, h5]
  · rw [e2, ← Paired.length h3]; exact h2
variable {ρ X : Type} {R : RR ρ} {φ : X → Fl K ρ} {es : Env K} {tz : TS}
theorem sv_loopB [GoodR R] {i r : Nat} {a : List (List (List Int))} (h : es[i]? = some (.obj (oB (rLLN K Int)) a)) (hr : es[r]? = some .no) :
    Sv R (tFor (iList K (tVar i)) (gName r) (tSeq (tDrop (tBM K "list" rAppend (tOp (rIxL K) (tVar r) (tC (.int 0))) (tCons (tC .non) tNil))) tNext)) es ((loopB a).map fun z => .nx (es.set i (vl z))) := by
  intro fl hfl F H ad σ D rs fo
  obtain ⟨z, hz, hfl⟩ := map_some hfl
  subst hfl
  unfold loopB at hz
  split at hz
  case isFalse => cases hz
  rename_i hc
  obtain ⟨c1, c2, c3⟩ := hc
  cases hz
  obtain ⟨v, hv, hS, x⟩ := rs.ent i _ h
  obtain ⟨p, vs, e, hp, hpl, pr⟩ := (show (repList (K := K) (α := List (NewL (ad i) Int))).At (join F (ad i) H) v a from x)
  subst e
  have hir : i ≠ r := fun w => by rw [w, hr] at h; cases h
  generalize hJ : join F (ad i) H = J at *
  have hjH : Same J H := fun p o z => by
    rw [← hJ] at z
    by_cases w : ad i p
    · rw [join_in w] at z; exact z
    · rw [join_out w] at z; exact rs.ex _ _ z
  have hln : vs.length = a.length := Paired.length pr
  have sq : ∀ (n : Nat) (q : List (List Int)), a[n]? = some q → ∃ b ws r0 r1, vs[n]? = some (V.ref b) ∧ J b = some (.lst ws) ∧ ws.length ≤ sizeLine ∧ ws[0]? = some (V.ref r0) ∧ ws[1]? = some (V.ref r1) ∧ J r0 = some (.lst ((q.getD 0 []).map V.int)) ∧ ad i r0 ∧ J r1 = some (.lst ((q.getD 1 []).map V.int)) ∧ (q.getD 1 []).length ≤ sizeLine := fun n q hq => by
    obtain ⟨w, hw, b, ws, e, h1, h2, h3⟩ := paired_of_get pr hq
    subst e
    have hq2 := c1 q (List.mem_of_getElem? hq)
    obtain ⟨r0, f1, f2, f3, f4⟩ := row_of h3 (n := 0) (by omega)
    obtain ⟨r1, g1, g2, g3, g4⟩ := row_of h3 (n := 1) (by omega)
    exact ⟨b, ws, r0, r1, hw, h1, h2, f1, g1, f2, f4, g2, g3⟩
  obtain ⟨W, hW⟩ : ∃ W : Addr → Prop, ∀ d, W d ↔ ∃ (n : Nat) (q : List (List Int)) (b : Addr) (ws : List V), a[n]? = some q ∧ vs[n]? = some (V.ref b) ∧ J b = some (.lst ws) ∧ ws[0]? = some (V.ref d) := ⟨_, fun d => Iff.rfl⟩
  have hWd : ∀ d, W d → ad i d ∧ ∃ q : List (List Int), q ∈ a ∧ J d = some (.lst ((q.getD 0 []).map V.int)) := fun d hd => by
    obtain ⟨n, q, b, ws, h1, h2, h3, h4⟩ := (hW d).mp hd
    obtain ⟨b', ws', r0, r1, k1, k2, k3, k4, k5, k6, k7, k8, k9⟩ := sq n q h1
    rw [h2] at k1
    cases k1
    rw [h3] at k2
    cases k2
    rw [h4] at k4
    cases k4
    exact ⟨k7, q, List.mem_of_getElem? h1, k6⟩
  have nW : ∀ {b : Addr} {us : List V} {m : Nat} {q : Addr}, J b = some (.lst us) → us[m]? = some (V.ref q) → ¬ W b := fun h1 h2 hd => by
    obtain ⟨_, q, _, h3⟩ := hWd _ hd
    exact lists_apart h1 h3 h2 rfl
  refine ⟨_, hv, p, rfl, ⟨_, .inl (.inl (hjH _ _ hp))⟩, ?_⟩
  refine ⟨fun n m σ' H' => n ≤ a.length ∧ m = a.length - n ∧ σ'.length = σ.length ∧ (∀ k, k ≠ r → σ'[k]? = σ[k]?) ∧ (∀ b, ¬ W b → H' b = H b) ∧ ∀ b, W b → ∃ us, H' b = some (.lst us) ∧ us.length + a.length < lim + n,
    ⟨a.length, Nat.zero_le _, rfl, rfl, fun _ _ => rfl, fun _ _ => rfl, fun b hb => ?_⟩, ?_⟩
  · obtain ⟨_, q, hq, h3⟩ := hWd _ hb
    refine ⟨_, hjH _ _ h3, ?_⟩
    rw [List.length_map]
    exact c3 q hq
  rintro n m σ' H' ⟨hn, rfl, hl, hσ, hN, hY⟩
  have hpH : ∀ {b : Addr} {o : HO}, J b = some o → ¬ W b → H' b = some o := fun h1 h2 => by rw [hN _ h2]; exact hjH _ _ h1
  rcases Nat.lt_or_ge n a.length with hlt | hge
  · obtain ⟨b, ws, r0, r1, k1, k2, k3, k4, k5, k6, k7, k8, k9⟩ := sq n a[n] (List.getElem?_eq_getElem hlt)
    have hpn : H' p = some (.lst vs) := hpH hp (nW hp k1)
    have sqp : SqL K H' p vs := .inl (.inl hpn)
    have hbn : H' b = some (.lst ws) := hpH k2 (nW k2 k4)
    have hW0 : W r0 := (hW r0).mpr ⟨n, _, b, ws, List.getElem?_eq_getElem hlt, k1, k2, k4⟩
    obtain ⟨us, hus, hul⟩ := hY r0 hW0
    refine .inr ⟨⟨_, _, sqp, k1⟩, fun σ2 H2 => n + 1 ≤ a.length ∧ σ2.length = σ.length ∧ (∀ k, k ≠ r → σ2[k]? = σ[k]?) ∧ (∀ b, ¬ W b → H2 b = H b) ∧ ∀ b, W b → ∃ us, H2 b = some (.lst us) ∧ us.length + a.length < lim + (n + 1),
      fun σ2 H2 ⟨q1, q2, q3, q4, q5⟩ => ⟨a.length - (n + 1), by omega, q1, rfl, q2, q3, q4, q5⟩, fun v2 H2 hy => ?_⟩
    obtain ⟨eH, hv2⟩ := hy
    subst eH
    have e3 := hv2 _ sqp
    rw [k1] at e3
    cases e3
    have hrl : r < σ'.length := by
      rw [hl, ← rs.len]
      exact (List.getElem?_eq_some_iff.mp hr).1
    refine ⟨_, List.getElem?_set_self hrl, b, ws, 0, .ref r0, rfl, rfl, .inl (.inl hbn), atN k4, .inl ⟨rfl, us, .inl (.inl hus)⟩, ?_⟩
    refine ⟨r0, us, .non, rfl, rfl, hus, lt_lim (by omega), ?_⟩
    refine ⟨hlt, by rw [List.length_set]; exact hl, fun k hk => ?_, fun d hd => ?_, fun d hd => ?_⟩
    · rw [List.getElem?_set_ne (fun w => hk w.symm)]
      exact hσ k hk
    · rw [upd_ne fun w => hd (by rw [w]; exact hW0)]
      exact hN d hd
    · by_cases e : d = r0
      · subst e
        exact ⟨_, upd_same, by rw [List.length_append, List.length_singleton]; omega⟩
      · rw [upd_ne e]
        obtain ⟨us2, y1, y2⟩ := hY d hd
        exact ⟨us2, y1, by omega⟩
  · have e : n = a.length := Nat.le_antisymm hn hge
    subst e
    have hpn : H' p = some (.lst vs) := by
      cases ha : a[0]? with
      | none =>
        have hz : a.length = 0 := by
          have := List.getElem?_eq_none_iff.mp ha
          omega
        rw [hN p fun hd => ?_]
        · exact hjH _ _ hp
        · obtain ⟨_, q, hq, _⟩ := hWd _ hd
          rw [List.length_eq_zero_iff.mp hz] at hq
          cases hq
      | some q =>
        obtain ⟨b, ws, r0, r1, k1, _⟩ := sq 0 q ha
        exact hpH hp (nW hp k1)
    refine .inl ⟨⟨_, .inl (.inl hpn), by omega⟩, ?_⟩
    have oS : ∀ {d : Addr}, ad i d → OwA es ad d := fun hd => ⟨i, _, h, rfl, hd⟩
    have GG : ∀ {b : Addr} {o : HO}, J b = some o → H' b = some o → join F (ad i) H' b = some o := fun {b o} h1 h2 => by
      by_cases w : ad i b
      · rw [join_in w]; exact h2
      · rw [← hJ, join_out w] at h1
        rw [join_out w]; exact h1
    have ff : Same F (join F (ad i) H') := fun q o z => by
      by_cases w : ad i q
      · rw [(hS q w).1] at z; cases z
      · rw [join_out w]; exact z
    have nSW : ∀ {d : Addr}, ¬ ad i d → H' d = H d := fun hd => hN _ fun w => hd (hWd _ w).1
    have fN : ∀ {k : Nat} {e : Ent K}, es[k]? = some e → e.isOwn = true → k ≠ i → ∀ q, ad k q → ¬ ad i q := fun hk he hne q hq w => hne (rs.inj _ _ _ _ hk h he rfl q hq w)
    refine fo (join F (ad i) H') H' ad σ' ⟨ff, fun d o z w => by rw [nSW fun y => w (oS y)]; exact z, fun d o z => ?_, fun d o z nf f => ?_⟩ (fun d z => .inl ?_) ⟨fun q o z => ?_, by rw [List.length_set, hl]; exact rs.len, fun k e hk => ?_, fun k l e u hk hl2 he hu d e1 e2 => ?_⟩
    · by_cases w : W d
      · obtain ⟨us, y, _⟩ := hY d w
        exact ⟨_, y⟩
      · rw [hN d w]; exact ⟨o, z⟩
    · by_cases w : ad i d
      · exact .inl (oS w)
      · rw [join_out w]; exact .inr f
    · obtain ⟨k, e, hk, he, hd⟩ := z
      rcases getset hk with ⟨_, _, rfl⟩ | ⟨_, hk⟩
      · cases he
      · exact ⟨k, e, hk, he, hd⟩
    · by_cases w : ad i q
      · rw [join_in w] at z; exact z
      · rw [join_out w] at z
        rw [nSW w]
        exact rs.ex _ _ z
    · rcases getset hk with ⟨rfl, hlk, rfl⟩ | ⟨hne, hk⟩
      · refine ⟨_, by rw [hσ _ hir]; exact hv, p, vs, rfl, GG hp hpn, hpl, ?_⟩
        refine paired_ix (by rw [List.length_map]; exact hln) fun n v2 y hv2 hy => ?_
        rw [List.getElem?_map] at hy
        cases ha : a[n]? with
        | none => rw [ha] at hy; cases hy
        | some q =>
          rw [ha] at hy
          cases hy
          obtain ⟨b, ws, r0, r1, k1, k2, k3, k4, k5, k6, k7, k8, k9⟩ := sq n q ha
          rw [hv2] at k1
          cases k1
          have w1 : ¬ W r1 := fun w => by
            obtain ⟨_, q2, hq2, h3⟩ := hWd _ w
            rw [k8] at h3
            injection h3 with h3
            injection h3 with h3
            exact c2 q (List.mem_of_getElem? ha) q2 hq2 (ints_inj h3)
          exact ⟨b, ws, r1, _, rfl, GG k2 (hpH k2 (nW k2 k4)), k3, k5, GG k8 (hpH k8 w1), by rw [List.length_map]; exact k9, by rw [List.length_map]⟩
      · have x0 := rs.ent k e hk
        by_cases hkr : k = r
        · subst hkr
          rw [hr] at hk
          cases hk
          trivial
        cases e with
        | no => trivial
        | val j y =>
          obtain ⟨v3, e3, e4⟩ := x0
          exact ⟨v3, by rw [hσ k hkr]; exact e3, j.mono ff e4⟩
        | own j ys =>
          obtain ⟨p3, e2, e3, e4, ws, e5, e6, e7⟩ := x0
          have hni := fN hk rfl hne p3 ((e2 p3).mpr rfl)
          exact ⟨p3, e2, by rw [hσ k hkr]; exact e3, by rw [join_out hni]; exact e4, ws, by rw [nSW hni]; exact e5, e6, pmono e7 fun _ _ z => j.mono ff z⟩
        | obj o y =>
          obtain ⟨v3, e3, e4⟩ := x0
          exact ⟨v3, by rw [hσ k hkr]; exact e3, o.move e4 ff (fun d hd => nSW (fN hk rfl hne d hd)) fun d hd => by rw [join_out (fN hk rfl hne d hd)]; exact (o.out e4 d hd).1⟩
    · rcases getset hk with ⟨_, _, rfl⟩ | ⟨_, hk⟩
      · cases he
      · rcases getset hl2 with ⟨_, _, rfl⟩ | ⟨_, hl2⟩
        · cases hu
        · exact rs.inj _ _ _ _ hk hl2 he hu d e1 e2
theorem sx_loopB [GoodR R] {i r : Nat} {a : List (List (List Int))} {k : List Row2 → Option X} (h : es[i]? = some (.obj (oB (rLLN K Int)) a)) (hr : es[r]? = some .no) (h2 : ∀ z, Sx R φ tz (es.set i (vl z)) (k z)) :
    Sx R φ (tSeq (tFor (iList K (tVar i)) (gName r) (tSeq (tDrop (tBM K "list" rAppend (tOp (rIxL K) (tVar r) (tC (.int 0))) (tCons (tC .non) tNil))) tNext)) tz) es ((loopB a).bind k) := by
  show Sv _ _ _ _
  rw [map_bind_]
  exact sv_seq (enc := fun z => es.set i (vl z)) (sv_loopB h hr) h2
end
end Tf
set_option Elab.async false
set_option linter.all false
set_option maxRecDepth 100000
set_option maxHeartbeats 4000000
namespace Tf
open PySem PySem.W PySem.Spec L2 PyProof.Rows
/-! ### xs.count(k); >= of tuples -/
section
variable {K : Fg} {es : Env K} {ta tb : TE}
theorem ev_count {ma : Option (List Int)} {mb : Option Int} (ha : EvL ta es ma) (hb : Ev tb es mb) : Ev (tBM K "list" (rCntI K) ta (tCons tb tNil)) es (ma.bind fun a => mb.bind fun b => some ((a.count b : Nat) : Int)) := fun c hc F H ad σ rs Q q => by
  obtain ⟨a, ea, hc⟩ := bind_some hc
  obtain ⟨b, eb, hc⟩ := bind_some hc
  cases hc
  refine ha a ea F H ad σ rs _ fun v F1 H1 g1 ⟨p, vs, e, h, hl, pr⟩ => ?_
  subst e
  refine ⟨.inl ⟨rfl, vs, .inl (.inl h)⟩, ?_⟩
  refine hb b eb F1 H1 ad σ (rs.grow g1) _ fun w F2 H2 g2 aw => ?_
  have aw : w = V.int b := aw
  subst aw
  refine ⟨p, a, b, rfl, rfl, .inl (.inl ?_), q _ F2 H2 (g1.trans g2) rfl⟩
  rw [← ints_of_paired pr]
  exact g2.hh _ _ h
end
def tupGe (ns ms : List Int) : Bool := Ob.lexAt (fun j => decide (ns.getD j 0 = ms.getD j 0)) (fun j => decide (ms.getD j 0 ≤ ns.getD j 0)) (decide (ns.length ≥ ms.length)) 0 (min ns.length ms.length)
def rGeT (K : PySem.W.Frag) : R2 := fun x y H Q => ∃ (a b : Addr) (ns ms : List Int), x = .ref a ∧ y = .ref b ∧ SqT K H a (ns.map V.int) ∧ SqT K H b (ms.map V.int) ∧ Q (.bl (tupGe ns ms)) H
/-- a number of a list of numbers, as it lies -/
theorem num_lies {its : List Value} {l : List Int} (h : IntsAre its l) (n : Nat) (hn : n < its.toArray.size) : ∃ t, its.toArray[n] = .int (l.getD n 0) t := by
  have hb : n < its.length := by rw [← List.size_toArray]; exact hn
  have hl : n < l.length := by rw [← h.length]; exact hb
  obtain ⟨t, e⟩ := h.get n l[n] (List.getElem?_eq_getElem hl)
  refine ⟨t, ?_⟩
  rw [List.getElem?_eq_getElem hb] at e
  rw [List.getD_eq_getElem?_getD, List.getElem?_eq_getElem hl, List.getElem_toArray]
  exact Option.some.inj e
theorem beq_dec (a b : Int) : (a == b) = decide (a = b) := by
  rw [Bool.eq_iff_iff, beq_iff_eq, decide_eq_true_iff]
theorem op_geT {X : Cx} (hu : X.A.units < cLine) : OpR X (compareOp .GtE) (rGeT X.K) := by
  intro pins s σ H x y v u Q I rx ry ⟨a, b, ns, ms, ex, ey, ha, hb, q⟩
  subst ex ey
  cases rx
  cases ry
  obtain ⟨as, va, ta, _⟩ := I.tuple ha
  obtain ⟨bs, vb, tb, _⟩ := I.tuple hb
  have na : IntsAre as ns := va.ints
  have nb : IntsAre bs ms := vb.ints
  have same : ∀ n (h1 : n < as.toArray.size) (h2 : n < bs.toArray.size), SeqAt.EqAt X.A.in1 s as.toArray[n] bs.toArray[n] (decide (ns.getD n 0 = ms.getD n 0)) := fun n h1 h2 => by
    obtain ⟨_, e1⟩ := num_lies na n h1
    obtain ⟨_, e2⟩ := num_lies nb n h2
    rw [e1, e2, ← beq_dec]
    exact SeqAt.EqAt.int_int _ _ _ _
  have rest : ∀ n (h1 : n < as.toArray.size) (h2 : n < bs.toArray.size), decide (ns.getD n 0 = ms.getD n 0) = false → Ob.RcOp .GtE X.A.in1 s as.toArray[n] bs.toArray[n] (decide (ms.getD n 0 ≤ ns.getD n 0)) := fun n h1 h2 _ => by
    obtain ⟨_, e1⟩ := num_lies na n h1
    obtain ⟨_, e2⟩ := num_lies nb n h2
    rw [e1, e2]
    exact Ob.RcOp.ge_int _ _ _ _
  have told := Ob.RcOp.tuples_ge ta tb hu same rest
  rw [List.size_toArray, List.size_toArray, na.length, nb.length] at told
  exact told X.prog X.w X.xe (EP X pins σ Q) ⟨.bl (tupGe ns ms), H, I, rfl, q⟩
section
variable {K : Fg} {es : Env K} {ta tb : TE}
theorem ev_geT {ma mb : Option (Tup Int)} (ha : Ev ta es ma) (hb : Ev tb es mb) : Ev (tOp (rGeT K) ta tb) es (ma.bind fun a => mb.bind fun b => some (tupGe a b)) := fun c hc F H ad σ rs Q q => by
  obtain ⟨a, ea, hc⟩ := bind_some hc
  obtain ⟨b, eb, hc⟩ := bind_some hc
  cases hc
  refine ha a ea F H ad σ rs _ fun v F1 H1 g1 av => ?_
  refine hb b eb F1 H1 ad σ (rs.grow g1) _ fun w F2 H2 g2 aw => ?_
  obtain ⟨p, vs, e, h, hl, pr⟩ := (repTup (K := K) (α := Int)).mono g2.ff av
  obtain ⟨p2, vs2, e2, h2, hl2, pr2⟩ := aw
  exact ⟨p, p2, a, b, e, e2, by rw [← ints_of_paired pr]; exact same_t g2.ex h, by rw [← ints_of_paired pr2]; exact same_t g2.ex h2, q _ F2 H2 (g1.trans g2) rfl⟩
end
/-! ### a dict of one's own lists: d.setdefault(k, []).append(x) -/
def vE (qs : List (List Key × Addr)) : List (List Key × V) := qs.map fun e => (e.1, V.ref e.2)
theorem vE_inj : ∀ {a b : List (List Key × Addr)}, vE a = vE b → a = b
  | [], [], _ => rfl
  | [], _ :: _, h => nomatch h
  | _ :: _, [], h => nomatch h
  | x :: a, y :: b, h => by
    unfold vE at h
    rw [List.map_cons, List.map_cons] at h
    injection h with h1 h2
    injection h1 with h3 h4
    injection h4 with h4
    rw [vE_inj h2, show x = y from Prod.ext h3 h4]
theorem vE_val {c : List Key} {v : V} : ∀ {qs : List (List Key × Addr)}, valV (vE qs) c = some v → ∃ (n : Nat) (q : Addr), qs[n]? = some (c, q) ∧ v = .ref q
  | [], h => nomatch h
  | e :: qs, h => by
    by_cases z : e.1 = c
    · have : valV (vE (e :: qs)) c = some (V.ref e.2) := valV_pos z
      rw [this] at h
      cases h
      exact ⟨0, e.2, by rw [← z]; rfl, rfl⟩
    · have : valV (vE (e :: qs)) c = valV (vE qs) c := valV_neg z
      rw [this] at h
      obtain ⟨n, q, h1, h2⟩ := vE_val h
      exact ⟨n + 1, q, h1, h2⟩
theorem vE_none {c : List Key} : ∀ {qs : List (List Key × Addr)}, valV (vE qs) c = none → c ∉ qs.map (·.1)
  | [], _ => fun z => nomatch z
  | e :: qs, h => by
    by_cases z : e.1 = c
    · have : valV (vE (e :: qs)) c = some (V.ref e.2) := valV_pos z
      rw [this] at h
      cases h
    · have : valV (vE (e :: qs)) c = valV (vE qs) c := valV_neg z
      rw [this] at h
      have ih := vE_none h
      intro y
      rcases List.mem_cons.mp y with y | y
      · exact z y.symm
      · exact ih y
theorem vE_some {c : List Key} : ∀ {qs : List (List Key × Addr)}, c ∈ qs.map (·.1) → valV (vE qs) c ≠ none
  | [], h => nomatch h
  | e :: qs, h => by
    by_cases z : e.1 = c
    · have : valV (vE (e :: qs)) c = some (V.ref e.2) := valV_pos z
      rw [this]
      exact fun y => nomatch y
    · have : valV (vE (e :: qs)) c = valV (vE qs) c := valV_neg z
      rw [this]
      rcases List.mem_cons.mp h with y | y
      · exact absurd y.symm z
      · exact vE_some y
theorem put_new {c : List Key} {qs : List (List Key × Addr)} {r : Addr} (h : c ∉ qs.map (·.1)) : putK (vE qs) c (.ref r) = vE (qs ++ [(c, r)]) := by
  unfold putK
  rw [if_neg fun z => ?_]
  · unfold vE
    rw [List.map_append]
    rfl
  · obtain ⟨y, hy, e⟩ := List.any_eq_true.mp z
    obtain ⟨a, ha, rfl⟩ := List.mem_map.mp hy
    exact h (List.mem_map.mpr ⟨a, ha, of_decide_eq_true e⟩)
section
variable {K : Fg} {β : Type}
abbrev PDL (j : Rep K β) (F H : Hp) : List (List Key × Addr) → List (List Int × List β) → Prop := Paired fun e y => e.1 = keyI y.1 ∧ F e.2 = none ∧ OwnL j F H e.2 y.2
def AtDL (j : Rep K β) (F H : Hp) (v : V) (S : Addr → Prop) (d : List (List Int × List β)) : Prop :=
  ∃ p qs, v = .ref p ∧ (∀ a, S a ↔ a = p ∨ a ∈ qs.map (·.2)) ∧ F p = none ∧ p ∉ qs.map (·.2) ∧ (qs.map (·.2)).Nodup ∧ (qs.map (·.1)).Nodup ∧ H p = some (.dT (vE qs)) ∧ qs.length ≤ sizeLine ∧ PDL j F H qs d
theorem AtDL.move {j : Rep K β} {F H F' H' : Hp} {v : V} {S : Addr → Prop} {d : List (List Int × List β)} (h : AtDL j F H v S d) (ff : Same F F') (hh : ∀ p, S p → H' p = H p) (fr : ∀ p, S p → F' p = none) : AtDL j F' H' v S d := by
  obtain ⟨p, qs, e, hS, hf, hpn, hnd, hkd, hp, hl, pr⟩ := h
  have hp2 := (hS p).mpr (.inl rfl)
  refine ⟨p, qs, e, hS, fr p hp2, hpn, hnd, hkd, (hh p hp2).trans hp, hl, pmemL pr fun x y hx ⟨z1, z2, z3⟩ => ?_⟩
  have hx2 := (hS x.2).mpr (.inr (List.mem_map.mpr ⟨x, hx, rfl⟩))
  exact ⟨z1, fr _ hx2, z3.grow ff (hh _ hx2).symm⟩
theorem AtDL.out {j : Rep K β} {F H : Hp} {v : V} {S : Addr → Prop} {d : List (List Int × List β)} (h : AtDL j F H v S d) : ∀ p, S p → F p = none ∧ ∃ o, H p = some o ∧ ¬ NumT o := by
  obtain ⟨p, qs, e, hS, hf, hpn, hnd, hkd, hp, hl, pr⟩ := h
  intro q hq
  rcases (hS q).mp hq with z | z
  · subst z; exact ⟨hf, _, hp, fun ⟨_, e⟩ => nomatch e⟩
  · obtain ⟨x, hx, rfl⟩ := List.mem_map.mp z
    obtain ⟨y, _, hf2, vs, hv, _⟩ := pmemR pr x hx
    exact ⟨hf2, _, hv, lst_flat⟩
@[reducible] def oDL (j : Rep K β) : ORep K (List (List Int × List β)) := ⟨AtDL j, fun h => h.move, fun h => h.out⟩
abbrev owdl [j : Rep K β] (d : List (List Int × List β)) : Ent K := .obj (oDL j) d
end
def addA {β : Type} (d : List (List Int × List β)) (k : List Int) : List (List Int × List β) := if k ∈ d.map (·.1) then d else d ++ [(k, [])]
def putA {β : Type} (d : List (List Int × List β)) (k : List Int) (x : β) : List (List Int × List β) := (addA d k).map fun p => if p.1 = k then (p.1, p.2 ++ [x]) else p
def setAppO {β : Type} (d : List (List Int × List β)) (k : List Int) (x : β) : Option (List (List Int × List β)) := if d.length < lim ∧ ∀ p ∈ d, p.2.length < lim then some (putA d k x) else none
section
variable {K : Fg} {ρ X : Type} {R : RR ρ} {φ : X → Fl K ρ} {es : Env K} {t tz : TS} {te tk : TE} {β : Type}
theorem sx_newDL [GoodR R] [j : Rep K β] {i : Nat} {k : List (List Int × List β) → Option X} (h2 : ∀ d, Sx R φ tz (es.set i (.obj (oDL j) d)) (k d)) : Sx R φ (tSeq (tAsg tDNewT (gName i)) tz) es ((some ([] : List (List Int × List β))).bind k) :=
  sx_asgO (r := oDL j) (fun a ha F H ad σ rs Q q => by
    cases ha
    intro p hp
    have hf := rs.ex.free hp
    exact q (.ref p) F _ (Grow.make rs.ex hp) ⟨(· = p), ⟨p, [], rfl, fun a => ⟨.inl, fun z => z.elim id fun y => nomatch y⟩, hf, (fun z => nomatch z), List.nodup_nil, List.nodup_nil, upd_same, by decide, .nil⟩, fun q z => by rw [show q = p from z]; exact hp⟩) h2
theorem key_in {j : Rep K β} {F H : Hp} {qs : List (List Key × Addr)} {d : List (List Int × List β)} (h : PDL j F H qs d) (c : List Int) : keyI c ∈ qs.map (·.1) ↔ c ∈ d.map (·.1) := by
  induction h with
  | nil => exact ⟨fun z => (nomatch z), fun z => nomatch z⟩
  | cons a _ ih =>
    rw [List.map_cons, List.map_cons, List.mem_cons, List.mem_cons, ih, a.1]
    exact ⟨fun z => z.imp_left keyI_inj, fun z => z.imp_left fun y => by rw [y]⟩
theorem nd_ix {α : Type} {l : List α} (h : l.Nodup) {m n : Nat} {a : α} (h1 : l[m]? = some a) (h2 : l[n]? = some a) : m = n := by
  obtain ⟨b1, e1⟩ := List.getElem?_eq_some_iff.mp h1
  obtain ⟨b2, e2⟩ := List.getElem?_eq_some_iff.mp h2
  rcases Nat.lt_trichotomy m n with z | z | z
  · exact absurd (e1.trans e2.symm) (List.pairwise_iff_getElem.mp h _ _ b1 b2 z)
  · exact z
  · exact absurd (e2.trans e1.symm) (List.pairwise_iff_getElem.mp h _ _ b2 b1 z)
theorem sx_setApp [GoodR R] [j : Rep K β] {i : Nat} {d : List (List Int × List β)} {mk : Option (Tup Int)} {m : Option β} {k : List (List Int × List β) → Option X} (h : es[i]? = some (.obj (oDL j) d)) (hk : Ev tk es mk)
    (he : ∀ d', Ev te (es.set i (.obj (oDL j) d')) m) (h2 : ∀ d', Sx R φ tz (es.set i (.obj (oDL j) d')) (k d')) :
    Sx R φ (tSeq (tDrop (tBM K "list" rAppend (tDSetdT (tVar i) tk (tLst tNil)) (tCons te tNil))) tz) es ((mk.bind fun c => m.bind fun x => setAppO d c x).bind k) := by
  show Sv _ _ _ _
  rw [map_bind_]
  intro fl hfl F H ad σ D rs fo
  obtain ⟨d2, hd2, hk2⟩ := bind_some hfl
  obtain ⟨(c : List Int), ec, hd2⟩ := bind_some hd2
  obtain ⟨x, ex, hd2⟩ := bind_some hd2
  unfold setAppO at hd2
  split at hd2
  case isFalse => cases hd2
  rename_i hsz
  cases hd2
  obtain ⟨v0, hv0, p, qs, e, hS, hf, hpn, hnd, hkd, hp, hl, pr⟩ := rs.ent i _ h
  subst e
  refine ⟨_, hv0, p, rfl, .inr ⟨_, .inl hp⟩, ?_⟩
  refine hk c ec F H ad σ rs _ fun yk F1 H1 g1 ak => ?_
  refine ⟨by decide, fun r hr => ?_⟩
  have gr := Grow.make (o := .lst []) g1.ex hr
  have g2 := g1.trans gr
  obtain ⟨b, eyk, hkb⟩ := key_at g1.ex ak
  have ln := Paired.length pr
  have hlt : (vE qs).length < sizeLine := by
    unfold vE
    rw [List.length_map, ln]
    exact lt_lim hsz.1
  have rs2 := rs.grow g2
  have nnum : ¬ NumT (HO.dT (vE qs)) := fun ⟨_, e⟩ => nomatch e
  have fin : ∀ H3 ad1 us v, RSt K F1 H3 ad1 σ (es.set i (.obj (oDL j) (addA d c))) → H3 p = some (.dT us) → valV us (keyI c) = some v → FlOk R (OwA (es.set i (.obj (oDL j) (addA d c))) ad1) F1 H3 D fl →
      tyV K "list" v H3 ∧ (tCons te tNil) σ H3 fun xs H4 => rAppend v xs H4 fun _ H5 => tz D σ H5 := by
    intro H3 ad1 us v r1 hus hval fo1
    have h1 : (es.set i (.obj (oDL j) (addA d c)))[i]? = some (.obj (oDL j) (addA d c)) := getset_self h
    obtain ⟨v1, hv1, p1, qs1, e1, hS1, hf1, hpn1, hnd1, hkd1, hp1, hl1, pr1⟩ := r1.ent i _ h1
    rw [hv0] at hv1
    cases hv1
    cases e1
    rw [hus] at hp1
    cases hp1
    obtain ⟨n, q, hq, rfl⟩ := vE_val hval
    obtain ⟨y, hy, y1, fq, us2, hus2, hz2, pv⟩ := paired_get pr1 hq
    have y1 : keyI c = keyI y.1 := y1
    have y1 := keyI_inj y1
    refine ⟨.inl ⟨rfl, us2, .inl (.inl hus2)⟩, ?_⟩
    refine he (addA d c) x ex F1 H3 ad1 σ r1 _ fun w F4 H4 g4 aw => ?_
    have hyl : y.2.length < lim := by
      have hm : y ∈ addA d c := List.mem_of_getElem? hy
      unfold addA at hm
      split at hm
      · exact hsz.2 y hm
      · rcases List.mem_append.mp hm with z | z
        · exact hsz.2 y z
        · rw [List.mem_singleton.mp z]; exact Nat.lt_of_le_of_lt (Nat.zero_le _) hsz.1
    have hul : us2.length < sizeLine := by rw [Paired.length pv]; exact lt_lim hyl
    refine ⟨q, us2, w, rfl, rfl, g4.hh _ _ hus2, hul, ?_⟩
    have fr4 : ∀ a o, H3 a = some o → ¬ NumT o → F1 a = none → F4 a = none := g4.fr
    have hqm : q ∈ qs1.map (·.2) := List.mem_map.mpr ⟨_, List.mem_of_getElem? hq, rfl⟩
    have pq : p ≠ q := fun z => hpn1 (by rw [z]; exact hqm)
    have hs2 : Sv R tz ((es.set i (.obj (oDL j) (addA d c))).set i (.obj (oDL j) (putA d c x))) ((k (putA d c x)).map φ) := by
      rw [set_twice]
      exact h2 (putA d c x)
    refine sv_obj2 (D := D) (R := R) (e1 := .obj (oDL j) (putA d c x)) (S := ad1 i) hs2 hk2 r1 g4 h1 rfl hv0 ⟨_, rfl, p, qs1, rfl, hS1, fr4 p _ hus (fun ⟨_, e⟩ => nomatch e) hf1, hpn1, hnd1, hkd1, ?_, hl1, ?_⟩ (upd_same_ g4.ex (fr4 q _ hus2 lst_flat fq)) (fun a o ho n => ?_) upd_dm (fun a z => .inl z) fo1
    · rw [upd_ne pq]
      exact g4.hh _ _ hus
    · unfold putA
      refine paired_ix (by rw [List.length_map]; exact Paired.length pr1) fun n' a b ha hb => ?_
      obtain ⟨y', hy', w1, w2, vs', w3, w4, w5⟩ := paired_get pr1 ha
      rw [List.getElem?_map, hy'] at hb
      cases hb
      show a.1 = keyI (if y'.1 = c then (y'.1, y'.2 ++ [x]) else y').1 ∧ F4 a.2 = none ∧ OwnL j F4 (upd H4 q (HO.lst (us2 ++ [w]))) a.2 (if y'.1 = c then (y'.1, y'.2 ++ [x]) else y').2
      by_cases ey : y'.1 = c
      · have en : n' = n := nd_ix hkd1 (a := keyI c) (by rw [List.getElem?_map, ha]; show some a.1 = _; rw [w1, ey]) (by rw [List.getElem?_map, hq]; rfl)
        subst en
        rw [hq] at ha
        cases ha
        rw [hy] at hy'
        cases hy'
        rw [if_pos ey]
        refine ⟨w1, fr4 q _ hus2 lst_flat fq, us2 ++ [w], upd_same, by rw [List.length_append, List.length_singleton]; omega, ?_⟩
        exact paired_snoc (pmono pv fun _ _ z => j.mono g4.ff z) aw
      · have ne : a.2 ≠ q := fun z => by
          have en : n' = n := nd_ix hnd1 (a := q) (by rw [List.getElem?_map, ha]; show some a.2 = _; rw [z]) (by rw [List.getElem?_map, hq]; rfl)
          subst en
          rw [hy] at hy'
          cases hy'
          exact ey y1.symm
        rw [if_neg ey]
        exact ⟨w1, fr4 _ _ w3 lst_flat w2, vs', by rw [upd_ne ne]; exact g4.hh _ _ w3, w4, pmono w5 fun _ _ z => j.mono g4.ff z⟩
    · rw [upd_ne fun z => n ((hS1 a).mpr (.inr (by rw [z]; exact hqm)))]
      exact ho
  refine ⟨vE qs, keyI c, b, g2.hh _ _ hp, eyk, gr.hh _ _ hkb, hlt, fun v hval => ?_, fun hn => ?_⟩
  · have hin : c ∈ d.map (·.1) := by
      refine (key_in pr c).mp (Classical.byContradiction fun z => ?_)
      obtain ⟨n, q, hq, _⟩ := vE_val hval
      exact z (List.mem_map.mpr ⟨_, List.mem_of_getElem? hq, rfl⟩)
    have ea : addA d c = d := if_pos hin
    have es1 : es.set i (.obj (oDL j) (addA d c)) = es := by rw [ea, set_self h]
    exact fin _ ad (vE qs) v (by rw [es1]; exact rs2) (g2.hh _ _ hp) hval (by rw [es1]; exact fo.trans g2.adv fun p z => .inl z)
  · have hnin := vE_none hn
    have hin : c ∉ d.map (·.1) := fun z => hnin ((key_in pr c).mpr z)
    have ea : addA d c = d ++ [(c, [])] := if_neg hin
    have hrH : H r = none := by
      cases z : H r with
      | none => rfl
      | some o =>
        have := g1.hh _ _ z
        rw [hr] at this
        cases this
    have hrp : r ≠ p := fun z => by rw [z, hp] at hrH; cases hrH
    have hf1 : F1 p = none := g2.fr p _ hp nnum hf
    have hrF : F1 r = none := g1.ex.free hr
    have hrq : r ∉ qs.map (·.2) := fun z => by
      obtain ⟨a, ha, e⟩ := List.mem_map.mp z
      obtain ⟨y, _, _, vs, hv, _⟩ := pmemR pr a ha
      rw [e, hrH] at hv
      cases hv
    have hat : AtDL j F1 (upd (upd H1 r (.lst [])) p (.dT (vE (qs ++ [(keyI c, r)])))) (.ref p) (fun a => a = p ∨ a ∈ (qs ++ [(keyI c, r)]).map (·.2)) (addA d c) := by
      refine ⟨p, qs ++ [(keyI c, r)], rfl, fun a => Iff.rfl, hf1, fun z => ?_, ?_, ?_, upd_same, by rw [List.length_append, List.length_singleton]; have := lt_lim hsz.1; omega, ?_⟩
      · rw [List.map_append] at z
        rcases List.mem_append.mp z with z | z
        · exact hpn z
        · exact hrp (List.mem_singleton.mp z).symm
      · rw [List.map_append, List.nodup_append]
        exact ⟨hnd, List.nodup_cons.mpr ⟨(fun z => nomatch z), List.nodup_nil⟩, fun a ha b hb e => hrq (by rw [← (List.mem_singleton.mp hb : b = r), ← e]; exact ha)⟩
      · rw [List.map_append, List.nodup_append]
        exact ⟨hkd, List.nodup_cons.mpr ⟨(fun z => nomatch z), List.nodup_nil⟩, fun a ha b hb e => hnin (by rw [← (List.mem_singleton.mp hb : b = keyI c), ← e]; exact ha)⟩
      · rw [ea]
        refine paired_snoc (pmemL pr fun a y ha ⟨z1, z2, vs, z3, z4, z5⟩ => ⟨z1, g2.fr _ _ z3 lst_flat z2, vs, ?_, z4, pmono z5 fun _ _ z => j.mono g2.ff z⟩) ⟨rfl, hrF, [], ?_, by decide, .nil⟩
        · rw [upd_ne fun z => hpn (List.mem_map.mpr ⟨a, ha, z⟩)]
          exact g2.hh _ _ z3
        · rw [upd_ne hrp]
          exact upd_same
    have hh : ∀ a o, upd H1 r (.lst []) a = some o → ¬ ad i a → upd (upd H1 r (.lst [])) p (.dT (vE (qs ++ [(keyI c, r)]))) a = some o := fun a o ho n => by
      rw [upd_ne fun z => n ((hS a).mpr (.inl z))]
      exact ho
    have sr : ∀ a, (a = p ∨ a ∈ (qs ++ [(keyI c, r)]).map (·.2)) → ad i a ∨ a = r := fun a z => by
      rcases z with z | z
      · exact .inl ((hS a).mpr (.inl z))
      · rw [List.map_append] at z
        rcases List.mem_append.mp z with z | z
        · exact .inl ((hS a).mpr (.inr z))
        · exact .inr (List.mem_singleton.mp z)
    have rs3 := rs2.updObj2 (e1 := .obj (oDL j) (addA d c)) (S := fun a => a = p ∨ a ∈ (qs ++ [(keyI c, r)]).map (·.2)) h rfl hv0 ⟨_, rfl, hat⟩ (upd_same_ g2.ex hf1) hh fun a z => (sr a z).imp_right fun e w => by
      obtain ⟨o, ho⟩ := rs.ownThere w
      rw [e, hrH] at ho
      cases ho
    have ep := put_new (r := r) hnin
    rw [ep]
    refine fin _ _ _ (.ref r) rs3 upd_same ?_ (fo.trans (g2.adv.trans (ow1 := OwA es ad) (fun p z => .inl z) (adv_obj (es := es) h rfl hh upd_dm)) fun a z => ?_)
    · cases hv : valV (vE (qs ++ [(keyI c, r)])) (keyI c) with
      | none => exact absurd hv (vE_some (by rw [List.map_append]; exact List.mem_append.mpr (.inr (List.mem_singleton_self _))))
      | some v =>
        obtain ⟨n, q, hq, e⟩ := vE_val hv
        have nd : ((qs ++ [(keyI c, r)]).map (·.1)).Nodup := by
          obtain ⟨_, _, _, _, _, _, _, k1, _⟩ := hat
          rw [List.map_append, List.nodup_append]
          exact ⟨hkd, List.nodup_cons.mpr ⟨(fun z => nomatch z), List.nodup_nil⟩, fun a ha b hb e => hnin (by rw [← (List.mem_singleton.mp hb : b = keyI c), ← e]; exact ha)⟩
        have en : n = qs.length := nd_ix nd (a := keyI c) (by rw [List.getElem?_map, hq]; rfl) (by rw [List.getElem?_map, List.getElem?_append_right (Nat.le_refl _), Nat.sub_self]; rfl)
        rw [en, List.getElem?_append_right (Nat.le_refl _), Nat.sub_self] at hq
        cases hq
        rw [e]
    · rcases own_setObj z with z | z
      · exact .inl z
      · rcases sr a z with z | z
        · exact .inl ⟨i, _, h, rfl, z⟩
        · exact .inr (by rw [z]; exact hrH)
end
section
variable {K : Fg} {ρ X S : Type} {R : RR ρ} {φ : X → Fl K ρ} {es : Env K} {t tz tb : TS} {te ti tj : TE} {α β : Type} {i k : Nat}
theorem sx_fzDL [GoodR R] {j : Rep K β} (i : Nat) {d : List (List Int × List β)} {m : Option X} (h : es[i]? = some (.obj (oDL j) d)) (hs : Sx R φ t (es.set i (.obj (oD (@repList K β j)) d)) m) : Sx R φ t es m := by
  intro fl hfl F H ad σ D rs fo
  obtain ⟨v, hv, p, qs, e, hS, hf, hpn, hnd, hkd, hp, hl, pr⟩ := rs.ent i _ h
  subst e
  have inq : ∀ b, b ∈ qs.map (·.2) → F b = none ∧ ∃ vs, H b = some (.lst vs) := fun b z => by
    obtain ⟨x, hx, rfl⟩ := List.mem_map.mp z
    obtain ⟨y, _, hf2, vs, hv, _⟩ := pmemR pr x hx
    exact ⟨hf2, vs, hv⟩
  obtain ⟨G, hG⟩ : ∃ G : Hp, ∀ q, G q = if q ∈ qs.map (·.2) then H q else F q := ⟨_, fun q => rfl⟩
  have gin : ∀ {q}, q ∈ qs.map (·.2) → G q = H q := fun z => by rw [hG, if_pos z]
  have gout : ∀ {q}, q ∉ qs.map (·.2) → G q = F q := fun z => by rw [hG, if_neg z]
  have g1 : Same F G := fun b x z => by
    by_cases c : b ∈ qs.map (·.2)
    · rw [(inq b c).1] at z; cases z
    · rw [gout c]; exact z
  have g2 : Same G H := fun b x z => by
    by_cases c : b ∈ qs.map (·.2)
    · rw [gin c] at z; exact z
    · rw [gout c] at z; exact rs.ex _ _ z
  have g3 : ∀ b o, G b = some o → F b = none → ad i b := fun b o z f => by
    by_cases c : b ∈ qs.map (·.2)
    · exact (hS b).mpr (.inr c)
    · rw [gout c, f] at z; cases z
  have pd : PD (@repList K β j) G (vE qs) d := by
    unfold vE
    refine pmapL (pmemL pr fun x y hx ⟨z1, z2, vs, z3, z4, z5⟩ => ⟨z1, x.2, vs, rfl, ?_, z4, pmono z5 fun _ _ z => j.mono g1 z⟩)
    rw [gin (List.mem_map.mpr ⟨x, hx, rfl⟩)]
    exact z3
  refine hs fl hfl _ H _ σ D (rs.regrow (S := (· = p)) h rfl g1 g2 g3 (by rw [hv]; exact ⟨_, rfl, p, vE qs, rfl, fun _ => Iff.rfl, by rw [gout hpn]; exact hf, hp, by unfold vE; rw [List.length_map]; exact hl, pd⟩) fun q z => by rw [z]; exact (hS p).mpr (.inl rfl)) (fo.trans (adv_frz h rfl g1 g3) fun q z => ?_)
  rcases own_setObj z with z | z
  · exact .inl z
  · exact .inl ⟨i, _, h, rfl, by rw [show q = p from z]; exact (hS p).mpr (.inl rfl)⟩
/-! ### for x in d.values() -/
theorem sv_valsL0 [GoodR R] {d : List (List Int × β)} {j : Rep K β} {enc : S → Env K} {od : Obj} {p : Addr} {vs : List (List Key × V)} {s0 : S} {step : S → β → Option (Lp S ρ)} (he : ∀ s, (enc s)[i]? = some (.obj (oL j od p vs) d)) (hb : ∀ s x, Sv R tb ((enc s).set k (.val j x)) ((step s x).map (Lp.fl enc))) :
    Sv R (tFor (iValsT (tVar i)) (gName k) tb) (enc s0) ((forL step (d.map fun q => q.2) s0).map (Lp.fl enc)) := by
  intro fl hfl F H ad σ D rs fo
  obtain ⟨lp, hf, hfl⟩ := map_some hfl
  subst hfl
  obtain ⟨v0, hv0, ev, hS, hf0, hp, hl, pr⟩ := rs.ent i _ (he s0)
  subst ev
  have ln := Paired.length pr
  refine ⟨_, hv0, p, od, vs, rfl, hp, ?_⟩
  refine ⟨fun n m σ' H' => n ≤ d.length ∧ m = d.length - n ∧ ∃ F' ad' s, Adv (OwA (enc s0) ad) F H F' H' ∧ (∀ q, OwA (enc s) ad' q → OwA (enc s0) ad q ∨ H q = none) ∧ RSt K F' H' ad' σ' (enc s) ∧ forL step ((d.map fun q => q.2).drop n) s = some lp,
    ⟨d.length, Nat.zero_le _, rfl, F, ad, s0, Adv.refl, fun p z => .inl z, rs, hf⟩, ?_⟩
  rintro n m σ' H' ⟨hi, rfl, F', ad', s, a, sb, r, hd⟩
  obtain ⟨v1, hv1, ev1, hS1, hf1, hp1, hl1, pr1⟩ := r.ent i _ (he s)
  rcases Nat.lt_or_ge n d.length with hlt | hge
  · have hx : d[n]? = some d[n] := List.getElem?_eq_getElem hlt
    have hx2 : (d.map fun q => q.2)[n]? = some d[n].2 := by rw [List.getElem?_map, hx]; rfl
    obtain ⟨w, hw, pw1, pw2⟩ := paired_of_get pr1 hx
    refine .inr ⟨⟨hp1, by omega⟩, fun σ2 H2 => ∃ F2 ad2 s2, Adv (OwA (enc s0) ad) F H F2 H2 ∧ (∀ q, OwA (enc s2) ad2 q → OwA (enc s0) ad q ∨ H q = none) ∧ RSt K F2 H2 ad2 σ2 (enc s2) ∧ forL step ((d.map fun q => q.2).drop (n + 1)) s2 = some lp,
      fun σ2 H2 h2 => ⟨d.length - (n + 1), by omega, hlt, rfl, h2⟩, fun v H2 hy => ?_⟩
    obtain ⟨e3, k0, hkv⟩ := hy
    subst e3
    rw [hw] at hkv
    cases hkv
    have r3 := r.setVal (i := k) (v := v) (a := d[n].2) (j := j) pw2
    rw [drop_cons hx2] at hd
    obtain ⟨lq, hlq, hd⟩ := bind_some (show (step s d[n].2).bind _ = some lp from hd)
    have sb3 : ∀ p, OwA ((enc s).set k (.val j d[n].2)) ad' p → OwA (enc s0) ad p ∨ H p = none := fun p z => sb p (own_setVal z)
    show tb _ (σ'.set k (some v)) H2
    refine hb s d[n].2 (lq.fl enc) (by rw [hlq]; rfl) F' H2 ad' _ _ r3 ?_
    cases lq with
    | nx s2 => exact fun F4 H4 ad4 σ4 b sb4 r4 => ⟨F4, ad4, s2, a.trans sb3 b, fun p z => sub_trans a sb3 (sb4 p z), r4, hd⟩
    | ct s2 => exact fun F4 H4 ad4 σ4 b sb4 r4 => ⟨F4, ad4, s2, a.trans sb3 b, fun p z => sub_trans a sb3 (sb4 p z), r4, hd⟩
    | bk s2 =>
      have hd : some (Lp.nx s2) = some lp := hd
      cases hd
      exact fun F4 H4 ad4 σ4 b sb4 r4 => fo F4 H4 ad4 σ4 (a.trans sb3 b) (fun p z => sub_trans a sb3 (sb4 p z)) r4
    | rt q =>
      have hd : some (Lp.rt q) = some lp := hd
      cases hd
      exact fun F4 H4 w b ex x => fo F4 H4 w (a.trans sb3 b) ex (GoodR.weak (fun p z => sub_trans a sb3 z) x)
  · have e : n = d.length := Nat.le_antisymm hi hge
    subst e
    rw [List.drop_eq_nil_of_le (by rw [List.length_map]; exact Nat.le_refl _)] at hd
    have hd : some (Lp.nx s) = some lp := hd
    cases hd
    exact .inl ⟨⟨hp1, by omega⟩, fo F' H' ad' σ' a sb r⟩
theorem sx_valsR {d : List (List Int × β)} {j : Rep K β} {enc : S → Env K} (i : Nat) {r : Rep K ρ} {s0 : S} {step : S → β → Option (Lp S ρ)} {kk : S → Option ρ} (he : es = enc s0) (hi : ∀ s, (enc s)[i]? = some (.obj (oD j) d))
    (hb : ∀ od p vs s x, Sx (RLk (RV r) p od (.dT vs)) (Lp.fl fun s => (enc s).set i (.obj (oL j od p vs) d)) tb (((enc s).set i (.obj (oL j od p vs) d)).set k (.val j x)) (step s x))
    (hk : ∀ s, Sx (RV r) .rt tz (enc s) (kk s)) : Sx (RV r) (.rt (K := K)) (tSeq (tLock (tFor (iValsT (tVar i)) (gName k) tb)) tz) es ((forL step (d.map fun q => q.2) s0).bind fun l => l.els kk some) := by
  subst he
  show Sv _ _ _ _
  rw [els_rt]
  refine seq_els (sv_lockD (hi s0) (fun fl hfl => ?_) fun od p vs => ?_) hk
  · obtain ⟨lp, _, rfl⟩ := map_some hfl
    cases lp with
    | nx s => exact hi s
    | ct s => exact hi s
    | bk s => exact hi s
    | rt q => exact True.intro
  · have e : ((forL step (d.map fun q => q.2) s0).map (Lp.fl enc)).map (Fl.at i (.obj (oL j od p vs) d)) = (forL step (d.map fun q => q.2) s0).map (Lp.fl fun s => (enc s).set i (.obj (oL j od p vs) d)) := by
      rw [Option.map_map]
      congr 1
      funext lp
      exact lp_at lp
    rw [e]
    exact sv_valsL0 (enc := fun s => (enc s).set i (.obj (oL j od p vs) d)) (fun s => getset_self (hi s)) (hb od p vs)
/-! ### own rows: one goes, or a number of one -/
theorem paired_eraseG {A B : Type} {P : A → B → Prop} {vs : List A} {xs : List B} (h : Paired P vs xs) : ∀ n, Paired P (vs.eraseIdx n) (xs.eraseIdx n) := by
  induction h with
  | nil => intro n; exact .nil
  | cons a t ih =>
    intro n
    cases n with
    | zero => exact t
    | succ n => exact .cons a (ih n)
theorem erase_mapG {A B : Type} (f : A → B) : ∀ (l : List A) (n : Nat), (l.map f).eraseIdx n = (l.eraseIdx n).map f
  | [], _ => rfl
  | _ :: _, 0 => rfl
  | a :: l, n + 1 => by
    show f a :: (l.map f).eraseIdx n = _
    rw [erase_mapG f l n]
    rfl
noncomputable def pop1O (xss : List α) (a : Int) : Option (List α) := (popAtO xss a).map fun y => y.2
noncomputable def pop2O (xss : List (List α)) (a b : Int) : Option (List (List α)) := (ixN xss.length a).bind fun n => (xss[n]?).bind fun r => (popAtO r b).map fun y => xss.set n y.2
theorem sx_pop1 [GoodR R] {j : Rep K α} {i : Nat} {xss : List (List α)} {mi : Option Int} {k : List (List α) → Option X} (h : es[i]? = some (.obj (o2 j) xss)) (hi : Ev ti es mi) (h2 : ∀ ys, Sx R φ tz (es.set i (.obj (o2 j) ys)) (k ys)) :
    Sx R φ (tSeq (tDrop (tBM K "list" rPopAt (tVar i) (tCons ti tNil))) tz) es ((mi.bind fun n => pop1O xss n).bind k) := by
  show Sv _ _ _ _
  rw [map_bind_]
  intro fl hfl F H ad σ D rs fo
  obtain ⟨ys, hy, hk⟩ := bind_some hfl
  obtain ⟨n, hn0, hy⟩ := bind_some hy
  unfold pop1O at hy
  obtain ⟨y, hy2, e⟩ := map_some hy
  clear hy
  subst e
  rw [popAtO_eq] at hy2
  unfold popAtO_d at hy2
  split at hy2
  case isFalse => cases hy2
  rename_i hz
  obtain ⟨kk, hkk, hy3⟩ := bind_some hy2
  obtain ⟨x, hx, hy4⟩ := map_some hy3
  subst hy4
  obtain ⟨w0, hv, ho⟩ := rs.ent i _ h
  have hv' := hv
  obtain ⟨p0, ps0, e0, _, _, _, _, hl0, _, _⟩ := ho
  subst e0
  refine ⟨_, hv, .inl ⟨rfl, _, .inl (.inl hl0)⟩, ?_⟩
  refine hi n hn0 F H ad σ rs _ fun w F2 H2 g2 aw => ?_
  obtain ⟨_, hv3, ho⟩ := rs.ent i _ h
  rw [hv] at hv3
  cases hv3
  obtain ⟨p, ps, e, hS, hp, hn, hd, hl, hzz, pr⟩ := ho.grow g2
  cases e
  have ll := Paired.length pr
  obtain ⟨q, hq, _⟩ := paired_of_get pr hx
  have hm : (ps.map V.ref)[kk]? = some (V.ref q) := by rw [List.getElem?_map, hq]; rfl
  refine ⟨p0, ps.map V.ref, n, kk, .ref q, rfl, by rw [show w = V.int n from aw], hl, hz.1, hz.2, by rw [List.length_map, ll]; exact hkk, hm, ?_⟩
  have hms : ∀ {a}, a ∈ ps.eraseIdx kk → a ∈ ps := fun z => (List.eraseIdx_sublist ps kk).subset z
  refine sv_obj2 (D := D) (R := R) (e1 := .obj (o2 j) (xss.eraseIdx kk)) (S := fun a => a = p0 ∨ a ∈ ps.eraseIdx kk) (h2 _) hk rs g2 h rfl hv' ⟨_, rfl, p0, ps.eraseIdx kk, rfl, fun _ => Iff.rfl, hp, fun z => hn (hms z), hd.sublist (List.eraseIdx_sublist ps kk), ?_, Nat.le_trans (List.eraseIdx_sublist ps kk).length_le hzz, ?_⟩ (upd_same_ g2.ex hp) (fun c u e n => ?_) upd_dm (fun c z => .inl ?_) fo
  · rw [erase_mapG]; exact upd_same
  · refine pmemL (paired_eraseG pr kk) fun a r ha ⟨y1, vs, y2, y3⟩ => ⟨y1, vs, ?_, y3⟩
    rw [upd_ne fun z => hn (by rw [← z]; exact hms ha)]
    exact y2
  · rw [upd_ne fun z => n ((hS c).mpr (.inl z))]
    exact e
  · rcases z with z | z
    · exact (hS c).mpr (.inl z)
    · exact (hS c).mpr (.inr (hms z))
theorem sx_pop2 [GoodR R] {j : Rep K α} {i : Nat} {xss : List (List α)} {ma mb : Option Int} {k : List (List α) → Option X} (h : es[i]? = some (.obj (o2 j) xss)) (ha : Ev ti es ma) (hb : Ev tj es mb) (h2 : ∀ ys, Sx R φ tz (es.set i (.obj (o2 j) ys)) (k ys)) :
    Sx R φ (tSeq (tDrop (tBM K "list" rPopAt (tOp (rIxL K) (tVar i) ti) (tCons tj tNil))) tz) es ((ma.bind fun a => mb.bind fun b => pop2O xss a b).bind k) := by
  show Sv _ _ _ _
  rw [map_bind_]
  intro fl hfl F H ad σ D rs fo
  obtain ⟨ys, hy, hk⟩ := bind_some hfl
  obtain ⟨a, hxa, hy⟩ := bind_some hy
  obtain ⟨b, hxb, hy⟩ := bind_some hy
  obtain ⟨n, hn0, hy⟩ := bind_some hy
  obtain ⟨r, hr, hy⟩ := bind_some hy
  obtain ⟨y, hy2, e⟩ := map_some hy
  clear hy
  subst e
  rw [popAtO_eq] at hy2
  unfold popAtO_d at hy2
  split at hy2
  case isFalse => cases hy2
  rename_i hz0
  obtain ⟨kk, hkk, hy3⟩ := bind_some hy2
  obtain ⟨x, hx, hy4⟩ := map_some hy3
  subst hy4
  obtain ⟨w0, hv, ho⟩ := rs.ent i _ h
  refine ⟨_, hv, ?_⟩
  refine ha a hxa F H ad σ rs _ fun w F2 H2 g2 aw => ?_
  obtain ⟨p, ps, e, hS, hp, hn, hd, hl, hz, pr⟩ := ho.grow g2
  subst e
  have ll := Paired.length pr
  obtain ⟨q, hq, fq0, vs, hvs, hzv, pv⟩ := paired_of_get pr hr
  refine ⟨p, ps.map V.ref, a, .ref q, rfl, aw, .inl (.inl hl), ?_, ?_⟩
  · unfold atI
    rw [List.length_map, ll, hn0]
    show (ps.map V.ref)[n]? = _
    rw [List.getElem?_map, hq]
    rfl
  refine ⟨.inl ⟨rfl, vs, .inl (.inl hvs)⟩, ?_⟩
  refine hb b hxb F2 H2 ad σ (rs.grow g2) _ fun u F3 H3 g3 au => ?_
  have g := g2.trans g3
  obtain ⟨p', ps', e', hS3, hp3, hn3, hd3, hl3, hz3, pr3⟩ := ho.grow g
  cases e'
  have pe : ps' = ps := by
    have z := g3.hh _ _ hl
    rw [hl3] at z
    have z2 : ps'.map V.ref = ps.map V.ref := by
      injection z with z
      injection z
    exact (List.map_inj_right (fun _ _ y => V.ref.inj y)).mp z2
  subst pe
  have pv3 : Paired (j.At F3) vs r := pmono pv fun _ _ z => j.mono g3.ff z
  have hvs3 : H3 q = some (.lst vs) := g3.hh _ _ hvs
  have lv := Paired.length pv
  obtain ⟨vx, hvx, _⟩ := paired_of_get pv3 hx
  refine ⟨q, vs, b, kk, vx, rfl, by rw [show u = V.int b from au], hvs3, hz0.1, hz0.2, by rw [lv]; exact hkk, hvx, ?_⟩
  have hm : q ∈ ps' := List.mem_of_getElem? hq
  obtain ⟨_, fq, _⟩ := pmemR pr3 q hm
  refine sv_obj2 (D := D) (R := R) (e1 := .obj (o2 j) (xss.set n (r.eraseIdx kk))) (S := ad i) (h2 _) hk rs g h rfl hv ⟨_, rfl, O2.row hS3 hp3 hn3 hd3 hl3 hz3 pr3 hq (Nat.le_trans (List.eraseIdx_sublist vs kk).length_le hzv) (paired_eraseG pv3 kk)⟩ (upd_same_ g.ex fq) (fun c u e n => ?_) upd_dm (fun c z => .inl z) fo
  rw [upd_ne fun z => n ((hS3 c).mpr (.inr (by rw [z]; exact hm)))]
  exact e
end
theorem hu_0 {A : Around} (h : A.units + 64 < cLine) : A.units < cLine := by omega
end Tf
set_option Elab.async false
set_option linter.all false
set_option maxRecDepth 100000
set_option maxHeartbeats 4000000
namespace Tf
open PySem PySem.W PySem.Spec L2 PyProof.Rows
/-! ### lists of lists no two of which are one -/
def ULN (N : Addr → Prop) (α : Type) : Type := List (List α)
section
variable {K : Fg} {α : Type}
abbrev Rw (i : Rep K α) (F : Hp) : Addr → List α → Prop := fun q xs => ∃ vs, F q = some (.lst vs) ∧ vs.length ≤ sizeLine ∧ Paired (i.At F) vs xs
theorem rw_mono {i : Rep K α} {F G : Hp} (s : Same F G) {q : Addr} {xs : List α} (h : Rw i F q xs) : Rw i G q xs := let ⟨vs, h1, h2, h3⟩ := h; ⟨vs, s _ _ h1, h2, pmono h3 fun _ _ z => i.mono s z⟩
instance repULN {N : Addr → Prop} [i : Rep K α] : Rep K (ULN N α) :=
  ⟨fun F v (xss : List (List α)) => ∃ p qs, v = .ref p ∧ F p = some (.lst (qs.map V.ref)) ∧ qs.length ≤ sizeLine ∧ qs.Nodup ∧ N p ∧ (p ∉ qs ∧ ∀ q ∈ qs, N q) ∧ Paired (Rw i F) qs xss,
   fun {F G v a} s h => by
    obtain ⟨p, qs, e, h, l, nd, n1, n2, pr⟩ := h
    exact ⟨p, qs, e, s _ _ h, l, nd, n1, n2, Paired.mapP pr fun _ _ z => rw_mono s z⟩⟩
@[reducible] def rUL (K : Fg) (α : Type) [i : Rep K α] (N : Addr → Prop) : Rep K (List (List α)) := show Rep K (ULN N α) from inferInstance
@[reducible] def rULP (K : Fg) (α : Type) [i : Rep K α] (N : Addr → Prop) : Rep K (List (List α) × List Int) := show Rep K (ULN N α × List Int) from inferInstance
theorem uln_fgt [i : Rep K α] {N : Addr → Prop} {F : Hp} {v : V} {a : List (List α)} (x : (repULN (K := K) (N := N) (α := α)).At F v a) : (repList (K := K) (α := List α)).At F v a := by
  obtain ⟨p, qs, e, h, l, nd, n1, n2, pr⟩ := x
  exact ⟨p, qs.map V.ref, e, h, by rw [List.length_map]; exact l, pmapL (Paired.mapP pr fun q xs ⟨vs, h1, h2, h3⟩ => ⟨q, vs, rfl, h1, h2, h3⟩)⟩
theorem uln_str [i : Rep K α] {N N2 : Addr → Prop} {F : Hp} {v : V} {a : List (List α)} (h : ∀ p vs, N p → F p = some (.lst vs) → N2 p) (x : (repULN (K := K) (N := N) (α := α)).At F v a) : (repULN (K := K) (N := N2) (α := α)).At F v a := by
  obtain ⟨p, qs, e, h1, l, nd, n1, n2, pr⟩ := x
  refine ⟨p, qs, e, h1, l, nd, h _ _ n1 h1, ⟨n2.1, fun q hq => ?_⟩, pr⟩
  obtain ⟨_, vs, h2, _⟩ := pmemR pr q hq
  exact h _ _ (n2.2 q hq) h2
instance newUL [i : Rep K α] : NewRep (rUL K α) (repList (K := K)) := ⟨uln_str, uln_fgt⟩
instance newULP [i : Rep K α] : NewRep (rULP K α) (repProd (K := K)) where
  str := fun h x => by
    obtain ⟨p, y, z, e, h1, h2, h3⟩ := (show (repProd (K := K) (α := ULN _ α) (β := List Int)).At _ _ _ from x)
    exact ⟨p, y, z, e, h1, uln_str h h2, h3⟩
  fgt := fun x => by
    obtain ⟨p, y, z, e, h1, h2, h3⟩ := (show (repProd (K := K) (α := ULN _ α) (β := List Int)).At _ _ _ from x)
    exact ⟨p, y, z, e, h1, uln_fgt h2, h3⟩
/-- the rows' addresses at hand -/
@[reducible] def repPs (i : Rep K α) (ps : List Addr) : Rep K (List (List α)) :=
  ⟨fun F v xss => ∃ p, v = .ref p ∧ F p = some (.lst (ps.map V.ref)) ∧ ps.length ≤ sizeLine ∧ ps.Nodup ∧ Paired (Rw i F) ps xss, fun s ⟨p, e, h, l, nd, pr⟩ => ⟨p, e, s _ _ h, l, nd, Paired.mapP pr fun _ _ z => rw_mono s z⟩⟩
@[reducible] def repRw (i : Rep K α) (ps : List Addr) (n : Int) : Rep K (List α) := ⟨fun F v xs => ∃ q, v = .ref q ∧ ps[n.toNat]? = some q ∧ ps.Nodup ∧ Rw i F q xs, fun s ⟨q, e, h, nd, r⟩ => ⟨q, e, h, nd, rw_mono s r⟩⟩
/-- told so far: a row at its place, or a new one -/
def OT (i : Rep K α) (ps : List Addr) (F H : Hp) (v : V) (S : Addr → Prop) (xs : List (List α)) : Prop :=
  ∃ p qs, v = .ref p ∧ (∀ a, S a ↔ a = p) ∧ F p = none ∧ H p = some (.lst (qs.map V.ref)) ∧ qs.length ≤ sizeLine ∧ qs.Nodup ∧ (∀ (m : Nat) q, qs[m]? = some q → ps[m]? = some q ∨ q ∉ ps) ∧ Paired (Rw i F) qs xs
@[reducible] def oT (i : Rep K α) (ps : List Addr) : ORep K (List (List α)) := ⟨OT i ps, fun ⟨p, qs, e, hS, hf, hp, hl, nd, hm, pr⟩ ff hh fr => ⟨p, qs, e, hS, fr p ((hS p).mpr rfl), (hh p ((hS p).mpr rfl)).trans hp, hl, nd, hm, Paired.mapP pr fun _ _ z => rw_mono ff z⟩,
  fun ⟨p, qs, e, hS, hf, hp, _⟩ q hq => by rw [(hS q).mp hq]; exact ⟨hf, _, hp, lst_flat⟩⟩
def OU (i : Rep K α) (F H : Hp) (v : V) (S : Addr → Prop) (xs : List (List α)) : Prop :=
  ∃ p qs, v = .ref p ∧ (∀ a, S a ↔ a = p) ∧ F p = none ∧ H p = some (.lst (qs.map V.ref)) ∧ qs.length ≤ sizeLine ∧ qs.Nodup ∧ Paired (Rw i F) qs xs
@[reducible] def oU (i : Rep K α) : ORep K (List (List α)) := ⟨OU i, fun ⟨p, qs, e, hS, hf, hp, hl, nd, pr⟩ ff hh fr => ⟨p, qs, e, hS, fr p ((hS p).mpr rfl), (hh p ((hS p).mpr rfl)).trans hp, hl, nd, Paired.mapP pr fun _ _ z => rw_mono ff z⟩,
  fun ⟨p, qs, e, hS, hf, hp, _⟩ q hq => by rw [(hS q).mp hq]; exact ⟨hf, _, hp, lst_flat⟩⟩
end
section
variable {K : Fg} {ρ X : Type} {R : RR ρ} {φ : X → Fl K ρ} {es : Env K} {t tz : TS} {te ti : TE} {α : Type} {j : Rep K α} {ps : List Addr}
theorem sx_startU [GoodR R] {r : Nat} {i : Nat} {N : Addr → Prop} {xss : List (List α)} {k : List (List α) → Option X} (h : es[i]? = some (.val (@repULN K α N j) xss)) (hir : i ≠ r)
    (h2 : ∀ ps ys, Sx R φ tz ((es.set i (.val (repPs j ps) xss)).set r (.obj (oT j ps) ys)) (k ys)) : Sx R φ (tSeq (tAsg (tLst tNil) (gName r)) tz) es ((some ([] : List (List α))).bind k) := by
  show Sv _ _ _ _
  rw [map_bind_]
  intro fl hfl F H ad σ D rs fo
  obtain ⟨v, hv, p, qs, e, hp, hl, nd, _, _, pr⟩ := rs.ent i _ h
  refine ⟨by decide, fun a ha => ?_⟩
  have g := Grow.make (o := .lst []) rs.ex ha
  have haF := rs.ex.free ha
  have hiv : v = .ref p := e
  have il : i < es.length := (List.getElem?_eq_some_iff.mp h).1
  have r1 : RSt K F (upd H a (.lst [])) ad σ (es.set i (.val (repPs j qs) xss)) := by
    have r0 := (rs.grow g).setVal (i := i) (v := v) (a := xss) (j := repPs j qs) ⟨p, e, hp, hl, nd, pr⟩
    have : σ.set i (some v) = σ := by
      refine List.ext_getElem? fun n => ?_
      rw [List.getElem?_set]
      by_cases z : i = n
      · subst z
        rw [if_pos rfl, hv, if_pos (by rw [← rs.len]; exact il)]
      · rw [if_neg z]
    rw [this] at r0
    exact r0
  have own1 : ∀ b, OwA (es.set i (.val (repPs j qs) xss)) ad b → OwA es ad b := fun b z => own_setVal z
  have r2 := r1.setObj (i := r) (v := .ref a) (S := (· = a)) (e0 := .obj (oT j qs) []) ⟨_, rfl, a, [], rfl, fun _ => Iff.rfl, haF, upd_same, by decide, List.nodup_nil, fun m q z => (nomatch z), .nil⟩ fun q z w => by
    obtain ⟨o, ho⟩ := rs.ownThere (own1 q z)
    rw [show q = a from w, ha] at ho
    cases ho
  refine h2 qs [] fl (by simpa using hfl) F _ _ _ D r2 (fo.trans g.adv fun b z => ?_)
  rcases own_setObj z with z | z
  · exact .inl (own1 b z)
  · exact .inr (by rw [show b = a from z]; exact ha)
theorem ei_enumP {i k l : Nat} {xss : List (List α)} (h : es[i]? = some (.val (repPs j ps) xss)) :
    EvI (iEnum K (tCons (tVar i) tNil)) (gTup K 2 (gCons (gName k) (gCons (gName l) gNil))) [k, l] es (some (enumI xss)) (fun x es => (es.set k (.val repInt x.1)).set l (.val (repRw j ps x.1) x.2)) := fun xs hx F H ad σ rs Rk q => by
  cases hx
  obtain ⟨v, hv, p, e, hp, hl, nd, pr⟩ := rs.ent i _ h
  subst e
  have hlen : ps.length = xss.length := Paired.length pr
  refine ⟨_, hv, p, ps.map V.ref, rfl, sqL_of rs.ex hp, q _ F H (Grow.refl rs.ex) ⟨?_, fun n x hn H3 s => ?_, fun H3 s => ?_, fun x es ad p z => own_setVal (own_setVal z), fun n x hn F3 H3 v3 H4 s s2 hy ad2 σ2 es2 r2 Q2 q2 => ?_⟩⟩
  · rw [enum_len, ← hlen]
    exact hl
  · obtain ⟨h1, h2⟩ := enum_get hn
    obtain ⟨w, hw, _⟩ := paired_of_get pr h2
    exact ⟨ps.map V.ref, .ref w, sqL_of s hp, by rw [List.getElem?_map, hw]; rfl⟩
  · refine ⟨ps.map V.ref, sqL_of s hp, ?_⟩
    rw [enum_len, List.length_map, hlen]
    exact Nat.le_refl _
  · obtain ⟨T, w, e3, nT, e4, f1⟩ := hy
    subst e3 e4
    obtain ⟨h1, h2⟩ := enum_get hn
    obtain ⟨w', hw, pw⟩ := paired_of_get pr h2
    have z1 := f1 (ps.map V.ref) (sqL_of (s.trans s2) hp)
    rw [List.getElem?_map, hw] at z1
    cases z1
    have gT := Grow.make (o := .tup [.int (n : Nat), .ref w']) s2 nT
    have hA : (repInt (K := K)).At F3 (.int (n : Nat)) x.1 := by rw [h1]; rfl
    have hB : (repRw j ps x.1).At F3 (.ref w') x.2 := ⟨w', rfl, by rw [h1]; exact hw, nd, rw_mono s pw⟩
    have r3 := r2.grow gT
    exact ⟨_, [.int (n : Nat), .ref w'], rfl, .inl (.inl upd_same), rfl, .int (n : Nat), [.ref w'], rfl, .ref w', [], rfl, rfl, q2 F3 _ _ gT ((r3.setVal hA).setVal hB) (fun n hn => by
      rw [List.getElem?_set_ne fun e => hn (by rw [e]; simp), List.getElem?_set_ne fun e => hn (by rw [e]; simp)]) (by rw [List.length_set, List.length_set])⟩
theorem ev_rwP {l : Nat} {n : Int} {row : List α} (h : es[l]? = some (.val (repRw j ps n) row)) : Ev (i := @repList K α j) (tVar l) es (some row) := fun c hc F H ad σ rs Q q => by
  cases hc
  obtain ⟨v, hv, w, e, _, _, vs, h1, h2, h3⟩ := rs.ent l _ h
  exact ⟨v, hv, q v F H (Grow.refl rs.ex) ⟨w, vs, e, h1, h2, h3⟩⟩
theorem ev_psP {l : Nat} {xss : List (List α)} (h : es[l]? = some (.val (repPs j ps) xss)) : Ev (i := @repList K _ (@repList K α j)) (tVar l) es (some xss) := fun c hc F H ad σ rs Q q => by
  cases hc
  obtain ⟨v, hv, p, e, h1, h2, _, h3⟩ := rs.ent l _ h
  exact ⟨v, hv, q v F H (Grow.refl rs.ex) ⟨p, _, e, h1, by rw [List.length_map]; exact h2, pmapL (Paired.mapP h3 fun q xs ⟨vs, a, b, c⟩ => ⟨q, vs, rfl, a, b, c⟩)⟩⟩
theorem sx_appOld [GoodR R] {r l : Nat} {n : Int} {xs : List (List α)} {row : List α} {k : List (List α) → Option X} (h : es[r]? = some (.obj (oT j ps) xs)) (hl : es[l]? = some (.val (repRw j ps n) row)) (h2 : ∀ ys, Sx R φ tz (es.set r (.obj (oT j ps) ys)) (k ys)) :
    Sx R φ (tSeq (tDrop (tBM K "list" rAppend (tVar r) (tCons (tVar l) tNil))) tz) es ((if xs.length = n.toNat then appO xs row else none).bind k) := by
  show Sv _ _ _ _
  rw [map_bind_]
  intro fl hfl F H ad σ D rs fo
  obtain ⟨ys, hy, hk⟩ := bind_some hfl
  split at hy
  case isFalse => cases hy
  rename_i hn
  rw [appO_eq] at hy
  unfold appO_d at hy
  split at hy
  case isFalse => cases hy
  rename_i hz
  cases hy
  obtain ⟨v, hv, p, qs, e, hS, hf, hp, hln, nd, hm, pr⟩ := rs.ent r _ h
  obtain ⟨u, hu, q, eu, hq, npd, rq⟩ := rs.ent l _ hl
  subst e eu
  have ll : qs.length = xs.length := Paired.length pr
  have hlt := lt_lim hz
  have hqm : q ∈ ps := List.mem_of_getElem? hq
  have qn : q ∉ qs := fun z => by
    obtain ⟨m, hm2, em⟩ := List.getElem_of_mem z
    have e2 : qs[m]? = some q := by rw [List.getElem?_eq_getElem hm2, em]
    rcases hm m q e2 with y | y
    · have := nd_ix npd y hq
      omega
    · exact y hqm
  refine ⟨_, hv, .inl ⟨rfl, _, .inl (.inl hp)⟩, _, hu, p, qs.map V.ref, .ref q, rfl, rfl, hp, by rw [List.length_map]; omega, ?_⟩
  refine sv_obj2 (D := D) (R := R) (e1 := .obj (oT j ps) (xs ++ [row])) (S := ad r) (h2 _) hk rs (Grow.refl rs.ex) h rfl hv ⟨_, rfl, p, qs ++ [q], rfl, hS, hf, by rw [List.map_append]; exact upd_same, by rw [List.length_append, List.length_singleton]; omega, ?_, fun m q' z => ?_, paired_snoc pr rq⟩ (upd_same_ rs.ex hf) (fun c u e n => ?_) upd_dm (fun c z => .inl z) fo
  · rw [List.nodup_append]
    exact ⟨nd, List.nodup_cons.mpr ⟨(fun z => by cases z), List.nodup_nil⟩, fun a ha b hb e => qn (by rw [← List.mem_singleton.mp hb, ← e]; exact ha)⟩
  · rcases Nat.lt_or_ge m qs.length with y | y
    · rw [List.getElem?_append_left y] at z
      exact hm m q' z
    · rw [List.getElem?_append_right y] at z
      have y2 : m - qs.length = 0 := by
        rcases Nat.eq_zero_or_pos (m - qs.length) with w | w
        · exact w
        · rw [List.getElem?_eq_none (by rw [List.length_singleton]; omega)] at z; cases z
      rw [y2] at z
      cases z
      exact .inl (by rw [show m = n.toNat by omega]; exact hq)
  · rw [upd_ne fun z => n ((hS c).mpr z)]
    exact e
theorem sx_appNewU [GoodR R] {r i : Nat} {xs xss : List (List α)} {m : Option (List α)} {k : List (List α) → Option X} (h : es[r]? = some (.obj (oT j ps) xs)) (hi : es[i]? = some (.val (repPs j ps) xss)) (he : EvN (i := j) te es m) (h2 : ∀ ys, Sx R φ tz (es.set r (.obj (oT j ps) ys)) (k ys)) :
    Sx R φ (tSeq (tDrop (tBM K "list" rAppend (tVar r) (tCons te tNil))) tz) es ((m.bind fun x => appO xs x).bind k) := by
  show Sv _ _ _ _
  rw [map_bind_]
  intro fl hfl F H ad σ D rs fo
  obtain ⟨ys, hy, hk⟩ := bind_some hfl
  obtain ⟨x, hx, hy⟩ := bind_some hy
  rw [appO_eq] at hy
  unfold appO_d at hy
  split at hy
  case isFalse => cases hy
  rename_i hz
  cases hy
  obtain ⟨v, hv, p, qs, e, hS, hf, hp, hln, nd, hm, pr⟩ := rs.ent r _ h
  obtain ⟨u, hu, pp, eu, hpp, _, npd, prp⟩ := rs.ent i _ hi
  subst e
  have hlt := lt_lim hz
  have ll : qs.length = xs.length := Paired.length pr
  refine ⟨_, hv, .inl ⟨rfl, _, .inl (.inl hp)⟩, ?_⟩
  refine he x hx F H ad σ rs _ fun w F1 H1 g ⟨q, e, hq, fq, ws, k1, k2, k3⟩ => ?_
  subst e
  have inF : ∀ {a : Addr} {o : HO}, F a = some o → a ≠ q := fun z e => by
    have y := rs.ex _ _ z
    rw [e] at y
    rw [show H q = none from hq] at y
    cases y
  have qn : q ∉ qs := fun z => by
    obtain ⟨_, vs, h1, _⟩ := pmemR pr q z
    exact inF h1 rfl
  have qps : q ∉ ps := fun z => by
    obtain ⟨_, vs, h1, _⟩ := pmemR prp q z
    exact inF h1 rfl
  have qp : p ≠ q := fun z => by
    rw [z, show H q = none from hq] at hp
    cases hp
  have g2 : Grow F H (upd F1 q (.lst ws)) H1 := ⟨g.ff.trans (same_new fq), g.hh, fun b x z => by
    by_cases hb : b = q
    · subst hb; rw [upd_same] at z; rw [← z]; exact k1
    · rw [upd_ne hb] at z; exact g.ex _ _ z, fun b x z n y => by
    rw [upd_ne fun e => by rw [e, show H q = none from hq] at z; cases z]
    exact g.fr b x z n y⟩
  have f1 := g2.fr p _ hp lst_flat hf
  refine ⟨_, qs.map V.ref, .ref q, rfl, rfl, g.hh _ _ hp, by rw [List.length_map]; omega, ?_⟩
  refine sv_obj2 (D := D) (R := R) (e1 := .obj (oT j ps) (xs ++ [x])) (S := ad r) (h2 _) hk rs g2 h rfl hv ⟨_, rfl, p, qs ++ [q], rfl, hS, f1, by rw [List.map_append]; exact upd_same, by rw [List.length_append, List.length_singleton]; omega, ?_, fun m q' z => ?_, paired_snoc (Paired.mapP pr fun _ _ z => rw_mono g2.ff z) ⟨ws, upd_same, k2, pmono k3 fun _ _ z => j.mono (same_new fq) z⟩⟩ (upd_same_ g2.ex f1) (fun c u e n => ?_) upd_dm (fun c z => .inl z) fo
  · rw [List.nodup_append]
    exact ⟨nd, List.nodup_cons.mpr ⟨(fun z => by cases z), List.nodup_nil⟩, fun a ha b hb e => qn (by rw [← List.mem_singleton.mp hb, ← e]; exact ha)⟩
  · rcases Nat.lt_or_ge m qs.length with y | y
    · rw [List.getElem?_append_left y] at z
      exact hm m q' z
    · rw [List.getElem?_append_right y] at z
      have z := List.mem_of_getElem? z
      rw [List.mem_singleton.mp z]
      exact .inr qps
  · rw [upd_ne fun z => n ((hS c).mpr z)]
    exact e
theorem sx_wkT [GoodR R] {r : Nat} {xs : List (List α)} {m : Option X} (h : es[r]? = some (.obj (oT j ps) xs)) (hs : Sx R φ t (es.set r (.obj (oU j) xs)) m) : Sx R φ t es m := by
  intro fl hfl F H ad σ D rs fo
  obtain ⟨v, hv, p, qs, e, hS, hf, hp, hln, nd, hm, pr⟩ := rs.ent r _ h
  have r2 := rs.updObj2 (i := r) (e1 := .obj (oU j) xs) (S := ad r) (H' := H) h rfl hv ⟨_, rfl, p, qs, e, hS, hf, hp, hln, nd, pr⟩ rs.ex (fun _ _ z _ => z) fun q z => .inl z
  have : adSet ad r (ad r) = ad := funext fun k => by
    unfold adSet
    split
    · rename_i e; rw [e]
    · rfl
  rw [this] at r2
  refine hs fl hfl F H ad σ D r2 (fo.trans Adv.refl fun q z => .inl ?_)
  obtain ⟨k, e, hk, he, hq⟩ := z
  rcases getset hk with ⟨rfl, _, rfl⟩ | ⟨_, hk⟩
  · exact ⟨k, _, h, rfl, hq⟩
  · exact ⟨k, e, hk, he, hq⟩
end
/-! ### own rows through defs -/
theorem paired_takeG {A B : Type} {P : A → B → Prop} {vs : List A} {xs : List B} (h : Paired P vs xs) : ∀ n, Paired P (vs.take n) (xs.take n) := by
  induction h with
  | nil => intro n; cases n <;> exact .nil
  | cons a _ ih =>
    intro n
    cases n with
    | zero => exact .nil
    | succ n => exact .cons a (ih n)
theorem paired_dropG {A B : Type} {P : A → B → Prop} {vs : List A} {xs : List B} (h : Paired P vs xs) : ∀ n, Paired P (vs.drop n) (xs.drop n) := by
  induction h with
  | nil => intro n; cases n <;> exact .nil
  | cons a t ih =>
    intro n
    cases n with
    | zero => exact .cons a t
    | succ n => exact ih n
theorem paired_appG {A B : Type} {P : A → B → Prop} {vs ws : List A} {xs ys : List B} (h : Paired P vs xs) (h2 : Paired P ws ys) : Paired P (vs ++ ws) (xs ++ ys) := by
  induction h with
  | nil => exact h2
  | cons a _ ih => exact .cons a ih
section
variable {K : Fg} {ρ X : Type} {R : RR ρ} {φ : X → Fl K ρ} {es : Env K} {t tz : TS} {te ti tl tc : TE} {α β : Type} {j : Rep K α}
theorem sx_fzU [GoodR R] {i k0 : Nat} {F0 : Hp} {jb : Rep K β} {b : β} {xss : List (List α)} {m : Option X} (h : es[i]? = some (.obj (o2 j) xss)) (h0 : es[k0]? = some (.val (repSince F0 jb) b)) (hs : Sx R φ t (es.set i (.val (@repULN K α (nw F0) j) xss)) m) : Sx R φ t es m := by
  intro fl hfl F H ad σ D rs fo
  obtain ⟨v, hv, p, ps, e, hS, hp, hn, hd, hl, hz, pr⟩ := rs.ent i _ h
  obtain ⟨_, _, _, sF⟩ := rs.ent k0 _ h0
  subst e
  have inp : ∀ b, b ∈ ps → F b = none ∧ ∃ vs, H b = some (.lst vs) := fun b z => by
    obtain ⟨_, f, vs, y, _⟩ := pmemR pr b z
    exact ⟨f, vs, y⟩
  obtain ⟨G, hG⟩ : ∃ G : Hp, ∀ q, G q = if q = p ∨ q ∈ ps then H q else F q := ⟨_, fun q => rfl⟩
  have gin : ∀ {q}, q = p ∨ q ∈ ps → G q = H q := fun z => by rw [hG, if_pos z]
  have gout : ∀ {q}, ¬ (q = p ∨ q ∈ ps) → G q = F q := fun z => by rw [hG, if_neg z]
  have fn : ∀ {q}, q = p ∨ q ∈ ps → F q = none := fun z => z.elim (fun e => by rw [e]; exact hp) fun z => (inp _ z).1
  have g1 : Same F G := fun b x z => by
    by_cases c : b = p ∨ b ∈ ps
    · rw [fn c] at z; cases z
    · rw [gout c]; exact z
  have g2 : Same G H := fun b x z => by
    by_cases c : b = p ∨ b ∈ ps
    · rw [gin c] at z; exact z
    · rw [gout c] at z; exact rs.ex _ _ z
  have g3 : ∀ b o, G b = some o → F b = none → ad i b := fun b o z f => by
    by_cases c : b = p ∨ b ∈ ps
    · exact (hS b).mpr c
    · rw [gout c, f] at z; cases z
  have at_ : (@repULN K α (nw F0) j).At G (.ref p) xss := by
    refine ⟨p, ps, rfl, by rw [gin (.inl rfl)]; exact hl, hz, hd, sF.free hp, ⟨hn, fun q hq => sF.free (inp q hq).1⟩, pmemL pr fun q xs hq ⟨_, vs, y1, y2, y3⟩ => ⟨vs, by rw [gin (.inr hq)]; exact y1, y2, pmono y3 fun _ _ z => j.mono g1 z⟩⟩
  exact hs fl hfl _ H _ σ D (rs.frzObj h rfl hv g1 g2 g3 at_) (fo.trans (adv_frz h rfl g1 g3) fun q z => .inl (own_setVal z))
theorem ev_fstU [i : Rep K α] {m : Option (List (List α) × List Int)} (h : EvG (RF (rULP K α)) te es m) : EvG (RF (rUL K α)) (tOp (rIxT K) te (tC (.int 0))) es (m.bind fun a => some a.1) := fun x hx F H ad σ rs Q q => by
  obtain ⟨a, ea, hx⟩ := bind_some hx
  cases hx
  refine h a ea F H ad σ rs _ fun v F1 H1 g1 x => ?_
  obtain ⟨p, u, w, e, hs, h1, h2⟩ := (show (repProd (K := K) (α := ULN _ α) (β := List Int)).At F1 v a from x)
  exact ⟨p, _, 0, u, e, rfl, same_t g1.ex hs, at0, q u F1 H1 g1 h1⟩
theorem ev_own2U [i : Rep K α] [Sol K α] {m : Option (List (List α))} (he : EvG (RF (rUL K α)) te es m) : EvG (RO (o2 i)) te es m := fun a ha F H ad σ rs Q q =>
  he a ha F H ad σ rs Q fun v F' H' g x => by
    obtain ⟨p, qs, e, h, l, nd, n1, ⟨pn, n2⟩, pr⟩ := (show (repULN (K := K) (N := fun p => H p = none) (α := α)).At F' v a from x)
    subst e
    have hSn : ∀ b, b = p ∨ b ∈ qs → H b = none := fun b z => z.elim (fun e => by rw [e]; exact n1) fun z => n2 b z
    have hSl : ∀ b, b = p ∨ b ∈ qs → ∃ vs, F' b = some (.lst vs) := fun b z => z.elim (fun e => by rw [e]; exact ⟨_, h⟩) fun z => by
      obtain ⟨_, vs, y, _⟩ := pmemR pr b z
      exact ⟨vs, y⟩
    have nol : NoL F' (cutS (fun b => b = p ∨ b ∈ qs) F') := fun b o z hn => by
      rw [cutS_out fun w => by
        obtain ⟨vs, y⟩ := hSl b w
        rw [y] at z
        cases z
        exact hn vs rfl]
      exact z
    refine q (.ref p) (cutS (fun b => b = p ∨ b ∈ qs) F') H' ⟨fun b o z => ?_, g.hh, fun b o z => ?_, fun b o z nf f => ?_⟩ ⟨fun b => b = p ∨ b ∈ qs, ⟨p, qs, rfl, fun _ => Iff.rfl, cutS_in (S := fun b => b = p ∨ b ∈ qs) (.inl rfl), pn, nd, g.ex _ _ h, l, pmemL pr fun b xs hb ⟨vs, y1, y2, y3⟩ => ⟨cutS_in (S := fun b => b = p ∨ b ∈ qs) (.inr hb), vs, g.ex _ _ y1, y2, pmono y3 fun _ _ z => Sol.sol (K := K) nol z⟩⟩, hSn⟩
    · rw [cutS_out fun w => by
        have y := rs.ex _ _ z
        rw [hSn b w] at y; cases y]
      exact g.ff _ _ z
    · by_cases w : b = p ∨ b ∈ qs
      · rw [cutS_in (S := fun b => b = p ∨ b ∈ qs) w] at z; cases z
      · rw [cutS_out (S := fun b => b = p ∨ b ∈ qs) w] at z; exact g.ex _ _ z
    · by_cases w : b = p ∨ b ∈ qs
      · exact cutS_in (S := fun b => b = p ∨ b ∈ qs) w
      · rw [cutS_out (S := fun b => b = p ∨ b ∈ qs) w]; exact g.fr b o z nf f
theorem sx_insU [GoodR R] {i : Nat} {xss : List (List α)} {mi : Option Int} {m : Option (List α)} {k : List (List α) → Option X} (h : es[i]? = some (.obj (o2 j) xss)) (hi : Ev ti es mi) (he : EvN (i := j) te es m) (h2 : ∀ ys, Sx R φ tz (es.set i (.obj (o2 j) ys)) (k ys)) :
    Sx R φ (tSeq (tDrop (tBM K "list" (fun x vs H Q => ∃ (l : Addr) (xs : List V) (i : Int) (y : V), x = .ref l ∧ vs = [.int i, y] ∧ H l = some (.lst xs) ∧ xs.length < sizeLine ∧ 0 ≤ i ∧ i < 2 ^ 63 ∧
    Q .non (L2.upd H l (.lst (xs.take i.toNat ++ [y] ++ xs.drop i.toNat)))) (tVar i) (tCons ti (tCons te tNil)))) tz) es ((mi.bind fun n => m.bind fun x => insO xss n x).bind k) := by
  show Sv _ _ _ _
  rw [map_bind_]
  intro fl hfl F H ad σ D rs fo
  obtain ⟨ys, hy, hk⟩ := bind_some hfl
  obtain ⟨n, hn0, hy⟩ := bind_some hy
  obtain ⟨x, hx, hy⟩ := bind_some hy
  rw [insO_eq] at hy
  unfold insO_d at hy
  split at hy
  case isFalse => cases hy
  rename_i hz0
  cases hy
  obtain ⟨v, hv, ho⟩ := rs.ent i _ h
  obtain ⟨p, ps, e, _, _, _, _, hl0, _, _⟩ := id ho
  subst e
  refine ⟨_, hv, .inl ⟨rfl, _, .inl (.inl hl0)⟩, ?_⟩
  refine hi n hn0 F H ad σ rs _ fun u F0 H0 g0 au => ?_
  refine he x hx F0 H0 ad σ (rs.grow g0) _ fun w F1 H1 g1 ⟨q, e, hq, fq, ws, k1, k2, k3⟩ => ?_
  have g := g0.trans g1
  obtain ⟨p', ps', e', hS, hp, hn, hd, hl, hz2, pr⟩ := ho.grow g
  cases e'
  subst e
  have ll := Paired.length pr
  have hqH : H q = none := by
    cases z : H q with
    | none => rfl
    | some o =>
      have := g0.hh _ _ z
      rw [show H0 q = none from hq] at this
      cases this
  have nq : q ∉ p :: ps' := fun z => by
    obtain ⟨_, o, ho2, _⟩ := ho.out q ((hS q).mpr (List.mem_cons.mp z))
    rw [hqH] at ho2
    cases ho2
  have qp : q ≠ p := fun z => nq (by rw [z]; exact List.mem_cons.mpr (.inl rfl))
  have qs : q ∉ ps' := fun z => nq (List.mem_cons.mpr (.inr z))
  have zz := lt_lim hz0.1
  have mem : ∀ a, a ∈ ps'.take n.toNat ++ [q] ++ ps'.drop n.toNat → a ∈ ps' ∨ a = q := fun a z => by
    rcases List.mem_append.mp z with z | z
    · rcases List.mem_append.mp z with z | z
      · exact .inl (List.mem_of_mem_take z)
      · exact .inr (List.mem_singleton.mp z)
    · exact .inl (List.mem_of_mem_drop z)
  have pm : (ps'.take n.toNat ++ [q] ++ ps'.drop n.toNat).Perm (q :: ps') := by
    have z : (ps'.take n.toNat ++ q :: ps'.drop n.toNat).Perm (q :: (ps'.take n.toNat ++ ps'.drop n.toNat)) := List.perm_middle
    rw [List.take_append_drop] at z
    rw [List.append_assoc]
    exact z
  refine ⟨_, ps'.map V.ref, n, .ref q, rfl, by rw [show u = V.int n from au], hl, by rw [List.length_map]; omega, hz0.2.1, hz0.2.2, ?_⟩
  refine sv_obj2 (D := D) (R := R) (e1 := .obj (o2 j) (xss.take n.toNat ++ [x] ++ xss.drop n.toNat)) (S := fun a => a = p ∨ a ∈ ps'.take n.toNat ++ [q] ++ ps'.drop n.toNat) (h2 _) hk rs g h rfl hv ⟨_, rfl, p, ps'.take n.toNat ++ [q] ++ ps'.drop n.toNat, rfl, fun _ => Iff.rfl, hp, ?_, ?_, ?_, ?_, ?_⟩ (upd_same_ g.ex hp) (fun a u e n => ?_) upd_dm (fun a z => ?_) fo
  · intro z
    rcases mem _ z with z | z
    · exact hn z
    · exact qp z.symm
  · exact (List.Perm.nodup_iff pm).mpr (List.nodup_cons.mpr ⟨qs, hd⟩)
  · rw [List.map_append, List.map_append, List.map_take, List.map_drop]
    exact upd_same
  · rw [List.Perm.length_eq pm, List.length_cons]
    omega
  · have base : Paired (fun b ys => F1 b = none ∧ OwnL j F1 (L2.upd H1 p (.lst ((ps'.map V.ref).take n.toNat ++ [.ref q] ++ (ps'.map V.ref).drop n.toNat))) b ys) ps' xss := pmemL pr fun a xs ha ⟨y1, vs, y2, y3⟩ => ⟨y1, vs, by rw [upd_ne fun z => hn (by rw [← z]; exact ha)]; exact y2, y3⟩
    have mid : F1 q = none ∧ OwnL j F1 (L2.upd H1 p (.lst ((ps'.map V.ref).take n.toNat ++ [.ref q] ++ (ps'.map V.ref).drop n.toNat))) q x := ⟨fq, ws, by rw [upd_ne qp]; exact k1, k2, k3⟩
    have tk := paired_takeG base n.toNat
    have dr := paired_dropG base n.toNat
    have all := paired_appG (paired_appG tk (Paired.cons mid .nil)) dr
    exact all
  · rw [upd_ne fun z => n ((hS a).mpr (.inl z))]
    exact e
  · rcases z with z | z
    · exact .inl ((hS a).mpr (.inl z))
    · rcases mem a z with z | z
      · exact .inl ((hS a).mpr (.inr z))
      · rw [z]; exact .inr hqH
theorem sx_popU [GoodR R] {i l : Nat} {xss : List (List α)} {mi : Option Int} {k : List α × List (List α) → Option X} (h : es[i]? = some (.obj (o2 j) xss)) (hi : Ev ti es mi) (hil : i ≠ l) (h2 : ∀ y, Sx R φ tz ((es.set i (.obj (o2 j) y.2)).set l (.val (@repList K α j) y.1)) (k y)) :
    Sx R φ (tSeq (tAsg (tBM K "list" rPopAt (tVar i) (tCons ti tNil)) (gName l)) tz) es ((mi.bind fun n => popAtO xss n).bind k) := by
  show Sv _ _ _ _
  rw [map_bind_]
  intro fl hfl F H ad σ D rs fo
  obtain ⟨y, hy, hk⟩ := bind_some hfl
  obtain ⟨n, hn0, hy2⟩ := bind_some hy
  clear hy
  rw [popAtO_eq] at hy2
  unfold popAtO_d at hy2
  split at hy2
  case isFalse => cases hy2
  rename_i hz
  obtain ⟨kk, hkk, hy3⟩ := bind_some hy2
  obtain ⟨x, hx, hy4⟩ := map_some hy3
  subst hy4
  obtain ⟨w0, hv, ho⟩ := rs.ent i _ h
  have hv' := hv
  obtain ⟨p0, ps0, e0, _, _, _, _, hl0, _, _⟩ := id ho
  subst e0
  refine ⟨_, hv, .inl ⟨rfl, _, .inl (.inl hl0)⟩, ?_⟩
  refine hi n hn0 F H ad σ rs _ fun w F2 H2 g2 aw => ?_
  obtain ⟨p, ps, e, hS, hp, hn, hd, hl, hzz, pr⟩ := ho.grow g2
  cases e
  have ll := Paired.length pr
  obtain ⟨q, hq, fq, vs, hvs, hzv, pv⟩ := paired_of_get pr hx
  have hqm : q ∈ ps := List.mem_of_getElem? hq
  have hm : (ps.map V.ref)[kk]? = some (V.ref q) := by rw [List.getElem?_map, hq]; rfl
  refine ⟨p0, ps.map V.ref, n, kk, .ref q, rfl, by rw [show w = V.int n from aw], hl, hz.1, hz.2, by rw [List.length_map, ll]; exact hkk, hm, ?_⟩
  have hms : ∀ {a}, a ∈ ps.eraseIdx kk → a ∈ ps := fun z => (List.eraseIdx_sublist ps kk).subset z
  have hqe : q ∉ ps.eraseIdx kk := fun z => by
    obtain ⟨m, hm1, em⟩ := List.getElem_of_mem z
    rw [List.getElem_eraseIdx] at em
    split at em
    · have := nd_ix hd (m := m) (n := kk) (a := q) (by rw [List.getElem?_eq_getElem (by rw [List.length_eraseIdx] at hm1; split at hm1 <;> omega), em]) hq
      omega
    · have := nd_ix hd (m := m + 1) (n := kk) (a := q) (by
        have hb : m + 1 < ps.length := by rw [List.length_eraseIdx] at hm1; have := (List.getElem?_eq_some_iff.mp hq).1; split at hm1 <;> omega
        rw [List.getElem?_eq_getElem hb, em]) hq
      omega
  have qp : q ≠ p0 := fun z => hn (by rw [← z]; exact hqm)
  have rs2 := rs.grow g2
  have fz : Same F2 (upd F2 q (.lst vs)) := same_new fq
  have fh : Same (upd F2 q (.lst vs)) H2 := fun b o z => by
    by_cases c : b = q
    · subst c; rw [upd_same] at z; cases z; exact hvs
    · rw [upd_ne c] at z; exact g2.ex _ _ z
  have fs : ∀ b o, upd F2 q (.lst vs) b = some o → F2 b = none → ad i b := fun b o z f => by
    by_cases c : b = q
    · exact (hS b).mpr (.inr (by rw [c]; exact hqm))
    · rw [upd_ne c, f] at z; cases z
  have rA := rs2.regrow (e1 := ptr p0) (S := fun _ => False) h rfl fz fh fs (by rw [hv']; exact ⟨_, rfl, rfl, fun _ z => z⟩) fun _ z => z.elim
  have hp2 : (es.set i (ptr p0))[i]? = some (ptr p0) := getset_self h
  have hpG : upd F2 q (.lst vs) p0 = none := by rw [upd_ne fun e => qp e.symm]; exact hp
  have nOw : ∀ a, a = p0 ∨ a ∈ ps.eraseIdx kk → ¬ OwA (es.set i (ptr p0)) (adSet ad i fun _ => False) a := fun a ha ⟨n', e', hk', he', hq'⟩ => by
    rcases getset hk' with ⟨rfl, _, _⟩ | ⟨hne, hk'⟩
    · rw [adSet_self] at hq'; exact hq'
    · rw [adSet_ne hne] at hq'
      refine hne (rs.inj n' i e' _ hk' h he' rfl a hq' ((hS a).mpr ?_))
      rcases ha with z | z
      · exact .inl z
      · exact .inr (hms z)
  have hh3 : ∀ a o, H2 a = some o → ¬ (adSet ad i fun _ => False) i a → upd H2 p0 (.lst ((ps.eraseIdx kk).map V.ref)) a = some o ∨ a = p0 := fun a o ho _ => by
    by_cases c : a = p0
    · exact .inr c
    · exact .inl (by rw [upd_ne c]; exact ho)
  have o2new : O2 j (upd F2 q (.lst vs)) (upd H2 p0 (.lst ((ps.eraseIdx kk).map V.ref))) (.ref p0) (fun a => a = p0 ∨ a ∈ ps.eraseIdx kk) (xss.eraseIdx kk) := by
    refine ⟨p0, ps.eraseIdx kk, rfl, fun _ => Iff.rfl, hpG, fun z => hn (hms z), hd.sublist (List.eraseIdx_sublist ps kk), upd_same, Nat.le_trans (List.eraseIdx_sublist ps kk).length_le hzz, ?_⟩
    refine pmemL (paired_eraseG pr kk) fun a r ha ⟨y1, us, y2, y3⟩ => ⟨?_, us, ?_, y3.1, pmono y3.2 fun _ _ z => j.mono fz z⟩
    · rw [upd_ne fun z => hqe (by rw [← z]; exact ha)]; exact y1
    · rw [upd_ne fun z => hn (by rw [← z]; exact hms ha)]; exact y2
  have rB : RSt K (upd F2 q (.lst vs)) (upd H2 p0 (.lst ((ps.eraseIdx kk).map V.ref))) (adSet ad i fun a => a = p0 ∨ a ∈ ps.eraseIdx kk) σ (es.set i (.obj (o2 j) (xss.eraseIdx kk))) := by
    refine ⟨upd_same_ fh hpG, by rw [List.length_set]; exact rs2.len, fun n' e' hk' => ?_, fun n' m' e' u' hk' hl' he' hu' a e1 e2 => ?_⟩
    · rcases getset hk' with ⟨rfl, hlk, rfl⟩ | ⟨hne, hk2⟩
      · rw [adSet_self, hv']
        exact ⟨_, rfl, o2new⟩
      · rw [adSet_ne hne]
        have hkA : (es.set i (ptr p0))[n']? = some e' := by rw [List.getElem?_set_ne fun z => hne z.symm]; exact hk2
        have xx := rA.ent n' e' hkA
        rw [adSet_ne hne] at xx
        have ap : e'.isOwn = true → ∀ a, ad n' a → a ≠ p0 := fun ho a ha z => hne (rs.inj n' i e' _ hk2 h ho rfl a ha ((hS a).mpr (.inl z)))
        cases e' with
        | no => trivial
        | val jv av => exact xx
        | own jv ys =>
          obtain ⟨p3, z2, z3, z4, us, z5, z6, z7⟩ := xx
          exact ⟨p3, z2, z3, z4, us, by rw [upd_ne (ap rfl p3 ((z2 p3).mpr rfl))]; exact z5, z6, z7⟩
        | obj o yv =>
          obtain ⟨v3, z3, z4⟩ := xx
          exact ⟨v3, z3, o.move z4 (Same.refl _) (fun a ha => upd_ne (ap rfl a ha)) fun a ha => (o.out z4 a ha).1⟩
    · have sub : ∀ {n' : Nat} {e' : Ent K} {a : Addr}, (es.set i (.obj (o2 j) (xss.eraseIdx kk)))[n']? = some e' → e'.isOwn = true → (adSet ad i fun a => a = p0 ∨ a ∈ ps.eraseIdx kk) n' a → ∃ e0, es[n']? = some e0 ∧ e0.isOwn = true ∧ ad n' a := fun {n' e' a} hk' he' ha => by
        rcases getset hk' with ⟨rfl, _, _⟩ | ⟨hne, hk2⟩
        · rw [adSet_self] at ha
          exact ⟨_, h, rfl, (hS a).mpr (ha.imp_right hms)⟩
        · rw [adSet_ne hne] at ha
          exact ⟨e', hk2, he', ha⟩
      obtain ⟨c1, c2, c3, c4⟩ := sub hk' he' e1
      obtain ⟨d1, d2, d3, d4⟩ := sub hl' hu' e2
      exact rs.inj n' m' c1 d1 c2 d2 c3 d3 a c4 d4
  have rC := rB.setVal (i := l) (v := .ref q) (a := x) (j := @repList K α j) ⟨q, vs, rfl, upd_same, hzv, pmono pv fun _ _ z => j.mono fz z⟩
  have advH : Adv (OwA es ad) (upd F2 q (.lst vs)) H2 (upd F2 q (.lst vs)) (upd H2 p0 (.lst ((ps.eraseIdx kk).map V.ref))) := adv_obj (es := es) h rfl (fun a o ho n => by rw [upd_ne fun z => n ((hS a).mpr (.inl z))]; exact ho) upd_dm
  have heq : upd H2 p0 (.lst ((ps.map V.ref).eraseIdx kk)) = upd H2 p0 (.lst ((ps.eraseIdx kk).map V.ref)) := by rw [erase_mapG]
  show tz D (σ.set l (some (.ref q))) (upd H2 p0 (.lst ((ps.map V.ref).eraseIdx kk)))
  rw [heq]
  refine h2 (x, xss.eraseIdx kk) fl hk _ _ _ _ D rC (fo.trans ((g2.adv.trans (ow1 := OwA es ad) (fun p z => .inl z) (adv_frz h rfl fz fs)).trans (ow1 := OwA es ad) (fun p z => .inl z) advH) fun a z => .inl ?_)
  rcases own_setObj (own_setVal z) with z | z
  · exact z
  · exact ⟨i, _, h, rfl, (hS a).mpr (z.imp_right hms)⟩
end
/-! own rows handed to a def that tells rows no two of which are one -/
def isL (o : Option HO) : Prop := ∃ vs, o = some (.lst vs)
section
variable {K : Fg} {ρ X : Type} {R : RR ρ} {φ : X → Fl K ρ} {es : Env K} {tz : TS} {tl tc : TE} {α : Type}
theorem sx_callU [GoodR R] [i0 : Rep K α] [Sol K α] {i : Nat} {xss : List (List α)} {f : List (List α) × Int × Int × Unit → Option (List (List α))} {E : XK} {ml mc : Option Int} {k : List (List α) → Option X}
    (h : es[i]? = some (.obj (o2 i0) xss)) (hl : Ev tl es ml) (hc : Ev tc es mc) (h2 : ∀ ys, Sx R φ tz (es.set i (.obj (o2 i0) ys)) (k ys)) :
    Sx R φ (tSeq (tAsg (tCall (SpF (K := K) (fun p : List (List α) × Int × Int × Unit => [.val (@repULN K α (fun _ => True) i0) p.1, vl p.2.1, vl p.2.2.1]) f (RO (oU i0))) [] E (tCons (tVar i) (tCons tl (tCons tc tNil)))) (gName i)) tz) es ((ml.bind fun l => mc.bind fun c => f (xss, l, c, ())).bind k) := by
  show Sv _ _ _ _
  rw [map_bind_]
  intro fl hfl F H ad σ D rs fo
  obtain ⟨ys, hy, hk⟩ := bind_some hfl
  obtain ⟨l, hl0, hy⟩ := bind_some hy
  obtain ⟨c, hc0, hy⟩ := bind_some hy
  obtain ⟨w0, hv, ho⟩ := rs.ent i _ h
  refine ⟨_, hv, ?_⟩
  refine hl l hl0 F H ad σ rs _ fun vl0 F1 H1 g1 al => ?_
  refine hc c hc0 F1 H1 ad σ (rs.grow g1) _ fun vc0 F2 H2 g2 ac => ?_
  have g12 := g1.trans g2
  obtain ⟨p, ps, e, hS, hp, hn, hd, hlst, hz, pr⟩ := ho.grow g12
  subst e
  have fn : ∀ {q}, q = p ∨ q ∈ ps → F2 q = none ∧ ∃ vs, H2 q = some (.lst vs) := fun {q} z => z.elim (fun e => by rw [e]; exact ⟨hp, _, hlst⟩) fun z => by
    obtain ⟨_, f, vs, y, _⟩ := pmemR pr q z
    exact ⟨f, vs, y⟩
  obtain ⟨Fm, hFm⟩ : ∃ Fm : Hp, ∀ q, (q = p ∨ q ∈ ps → Fm q = H2 q) ∧ (¬ (q = p ∨ q ∈ ps) → isL (F2 q) → Fm q = none) ∧ (¬ (q = p ∨ q ∈ ps) → ¬ isL (F2 q) → Fm q = F2 q) := by
    classical
    exact ⟨fun q => if q = p ∨ q ∈ ps then H2 q else if isL (F2 q) then none else F2 q, fun q => ⟨fun z => if_pos z, fun z y => (if_neg z).trans (if_pos y), fun z y => (if_neg z).trans (if_neg y)⟩⟩
  have smH : Same Fm H2 := fun b o z => by
    by_cases w : b = p ∨ b ∈ ps
    · rw [(hFm b).1 w] at z; exact z
    · by_cases y : isL (F2 b)
      · rw [(hFm b).2.1 w y] at z; cases z
      · rw [(hFm b).2.2 w y] at z; exact g2.ex _ _ z
  have nolm : NoL F2 Fm := fun b o z hn => by
    have w : ¬ (b = p ∨ b ∈ ps) := fun w => by rw [(fn w).1] at z; cases z
    rw [(hFm b).2.2 w fun ⟨vs, y⟩ => by rw [z] at y; cases y; exact hn vs rfl]
    exact z
  have args : ArgsAt (K := K) Fm [.ref p, vl0, vc0] [.val (@repULN K α (fun _ => True) i0) xss, vl l, vl c] := by
    refine .cons ⟨p, ps, rfl, by rw [(hFm p).1 (.inl rfl)]; exact hlst, hz, hd, True.intro, ⟨hn, fun _ _ => True.intro⟩, pmemL pr fun q xs hq ⟨_, vs, y1, y2, y3⟩ => ⟨vs, by rw [(hFm q).1 (.inr hq)]; exact y1, y2, pmono y3 fun _ _ z => Sol.sol (K := K) nolm z⟩⟩ (.cons ?_ (.cons ?_ .nil))
    · exact al
    · exact ac
  refine ⟨Fm, (xss, l, c, ()), ys, smH, args, hy, fun v F' H' g x => ?_⟩
  obtain ⟨S, ⟨p', qs, e, hS', hf', hp', hl', nd', pr'⟩, frS⟩ := x
  subst e
  have pnew : H2 p' = none := frS p' ((hS' p').mpr rfl)
  have ql : ∀ q ∈ qs, ∃ vs, F' q = some (.lst vs) := fun q z => by
    obtain ⟨_, vs, y, _⟩ := pmemR pr' q z
    exact ⟨vs, y⟩
  have qin : ∀ q ∈ qs, (q = p ∨ q ∈ ps) ∨ H2 q = none := fun q hq => by
    cases hH : H2 q with
    | none => exact .inr rfl
    | some o =>
      refine .inl (Classical.byContradiction fun w => ?_)
      obtain ⟨vs, y⟩ := ql q hq
      have eo := g.ex _ _ y
      rw [g.hh _ _ hH] at eo
      cases eo
      have hm : Fm q = none := by
        by_cases z : isL (F2 q)
        · exact (hFm q).2.1 w z
        · rw [(hFm q).2.2 w z]
          cases hF : F2 q with
          | none => rfl
          | some o2 =>
            have := g2.ex _ _ hF
            rw [hH] at this
            cases this
            exact absurd ⟨vs, hF⟩ z
      have := g.fr q _ hH lst_flat hm
      rw [y] at this
      cases this
  have pq : p' ∉ qs := fun z => by
    obtain ⟨vs, y⟩ := ql p' z
    rw [hf'] at y; cases y
  have Sf : ∀ {b}, b = p' ∨ b ∈ qs → F2 b = none := fun {b} z => by
    rcases z with z | z
    · rw [z]; exact g2.ex.free pnew
    · rcases qin b z with w | w
      · exact (fn w).1
      · exact g2.ex.free w
  obtain ⟨F3, hF3⟩ : ∃ F3 : Hp, ∀ b, (b = p' ∨ b ∈ qs → F3 b = none) ∧ (∀ o, F2 b = some o → F3 b = some o) ∧ (¬ (b = p' ∨ b ∈ qs) → F2 b = none → isL (F' b) → F3 b = none) ∧ (¬ (b = p' ∨ b ∈ qs) → F2 b = none → ¬ isL (F' b) → F3 b = F' b) := by
    classical
    refine ⟨fun b => if b = p' ∨ b ∈ qs then none else if F2 b = none then (if isL (F' b) then none else F' b) else F2 b, fun b => ⟨fun z => if_pos z, fun o z => ?_, fun z y w => (if_neg z).trans ((if_pos y).trans (if_pos w)), fun z y w => (if_neg z).trans ((if_pos y).trans (if_neg w))⟩⟩
    have w : ¬ (b = p' ∨ b ∈ qs) := fun w => by rw [Sf w] at z; cases z
    exact (if_neg w).trans ((if_neg (by rw [z]; exact fun y => nomatch y)).trans z)
  have gg : Grow F2 H2 F3 H' := by
    refine ⟨fun b o z => (hF3 b).2.1 o z, g.hh, fun b o z => ?_, fun b o hH nn f => ?_⟩
    · cases hF : F2 b with
      | some o2 =>
        rw [(hF3 b).2.1 o2 hF] at z
        cases z
        exact g.hh _ _ (g2.ex _ _ hF)
      | none =>
        by_cases w : b = p' ∨ b ∈ qs
        · rw [(hF3 b).1 w] at z; cases z
        · by_cases y : isL (F' b)
          · rw [(hF3 b).2.2.1 w hF y] at z; cases z
          · rw [(hF3 b).2.2.2 w hF y] at z; exact g.ex _ _ z
    · by_cases w : b = p' ∨ b ∈ qs
      · exact (hF3 b).1 w
      · by_cases y : isL (F' b)
        · exact (hF3 b).2.2.1 w f y
        · rw [(hF3 b).2.2.2 w f y]
          cases hF' : F' b with
          | none => rfl
          | some o2 =>
            refine absurd ?_ y
            by_cases w2 : b = p ∨ b ∈ ps
            · obtain ⟨vs, y2⟩ := (fn w2).2
              exact ⟨vs, g.ff _ _ (by rw [(hFm b).1 w2]; exact y2)⟩
            · have hm : Fm b = none := by
                rw [(hFm b).2.2 w2 fun ⟨vs, y2⟩ => by rw [f] at y2; cases y2]
                exact f
              have := g.fr b o hH nn hm
              rw [hF'] at this
              cases this
  have nol3 : NoL F' F3 := fun b o z hn => by
    have w : ¬ (b = p' ∨ b ∈ qs) := fun w => by
      rcases w with w | w
      · rw [w, hf'] at z; cases z
      · obtain ⟨vs, y⟩ := ql b w
        rw [y] at z
        cases z
        exact hn vs rfl
    cases hF : F2 b with
    | some o2 =>
      have a1 := g.hh _ _ (g2.ex _ _ hF)
      rw [g.ex _ _ z] at a1
      cases a1
      exact (hF3 b).2.1 _ hF
    | none =>
      rw [(hF3 b).2.2.2 w hF fun ⟨vs, y⟩ => by rw [z] at y; cases y; exact hn vs rfl]
      exact z
  have Hn : ∀ {b}, H2 b = none → H b = none := fun {b} z => by
    cases y : H b with
    | none => rfl
    | some o => have := g12.hh _ _ y; rw [z] at this; cases this
  have r1 := (rs.grow (g12.trans gg)).wk (es1 := es.set i .no) (by rw [List.length_set]) no_get
  have r3 := r1.setObj (i := i) (v := .ref p') (S := fun b => b = p' ∨ b ∈ qs) (e0 := .obj (o2 i0) ys) ⟨_, rfl, p', qs, rfl, fun _ => Iff.rfl, (hF3 p').1 (.inl rfl), pq, nd', hp', hl', pmemL pr' fun q xs hq ⟨vs, y1, y2, y3⟩ => ⟨(hF3 q).1 (.inr hq), vs, g.ex _ _ y1, y2, pmono y3 fun _ _ z => Sol.sol (K := K) nol3 z⟩⟩ fun q z w => by
    have z0 : OwA es ad q := own_wk no_get z
    obtain ⟨o, ho2⟩ := rs.ownThere z0
    have nn : H2 q ≠ none := fun y => by rw [Hn y] at ho2; cases ho2
    rcases w with w | w
    · exact nn (by rw [w]; exact pnew)
    · rcases qin q w with y | y
      · obtain ⟨n, e, hk2, he, hq⟩ := z
        rcases getset hk2 with ⟨_, _, ee⟩ | ⟨hm, hk3⟩
        · rw [ee] at he; cases he
        · exact hm (rs.inj n i e _ hk3 h he rfl q hq ((hS q).mpr y))
      · exact nn y
  rw [set_twice] at r3
  show tz D (σ.set i (some (.ref p'))) H'
  refine h2 ys fl hk F3 H' _ _ D r3 (fo.trans (g12.trans gg).adv fun a z => ?_)
  have z : OwA ((es.set i .no).set i (.obj (o2 i0) ys)) (adSet ad i fun b => b = p' ∨ b ∈ qs) a := by rw [set_twice]; exact z
  rcases own_setObj z with y | y
  · exact .inl (own_wk no_get y)
  · rcases y with y | y
    · exact .inr (Hn (by rw [y]; exact pnew))
    · rcases qin a y with w | w
      · exact .inl ⟨i, _, h, rfl, (hS a).mpr w⟩
      · exact .inr (Hn w)
end
section
variable {K : Fg} {ρ X : Type} {R : RR ρ} {φ : X → Fl K ρ} {es : Env K} {t : TS}
theorem sx_le {m m' : Option X} (h : ∀ r, m = some r → m' = some r) (hs : Sx R φ t es m') : Sx R φ t es m := fun fl hfl => by
  obtain ⟨r, er, e⟩ := map_some hfl
  exact hs fl (by rw [h r er, ← e]; rfl)
theorem forS_chk {β γ : Type} {step step' : List γ → β → Option (List γ)} {f : β → Nat} : ∀ (L : List β) (n : Nat) (s : List γ), s.length = n → (∀ (i : Nat) x, L[i]? = some x → f x = n + i) → (∀ s x s', step s x = some s' → s'.length = s.length + 1) → (∀ s x, s.length = f x → step' s x = step s x) → ∀ {r}, forS step L s = some r → forS step' L s = some r
  | [], _, _, _, _, _, _, _, h => h
  | x :: L, n, s, hs, hi, h1, h2, r, h => by
    obtain ⟨s1, e1, e2⟩ := bind_some (show (step s x).bind _ = some r from h)
    show (step' s x).bind _ = _
    rw [h2 s x (by rw [hs]; exact (hi 0 x rfl).symm), e1]
    exact forS_chk L (n + 1) s1 (by rw [h1 s x s1 e1, hs]) (fun i y hy => by rw [hi (i + 1) y hy]; omega) h1 h2 e2
end
section
variable {K : Fg} {es : Env K} {α : Type}
theorem ev_pairU [i0 : Rep K α] {i l : Nat} {N : Addr → Prop} {xss : List (List α)} {xs : List Int} (h : es[i]? = some (.val (@repULN K α N i0) xss)) (hl : es[l]? = some (.val (@repList K Int repInt) xs)) : EvG (RV (rULP K α N)) (tTup (tCons (tVar i) (tCons (tVar l) tNil))) es (some (xss, xs)) :=
  ev_t2 (α := ULN N α) (β := List Int) (ma := some xss) (mb := some xs) (ev_var h) (ev_var hl)
end
end Tf
set_option Elab.async false
set_option linter.all false
set_option maxRecDepth 100000
set_option maxHeartbeats 4000000
namespace Tf
open PySem PySem.W PySem.Spec L2 PyProof.Rows
/-! ### a caught exception that leaves its suite by a name -/
def ExC (cls : Value) (d : Option Addr) (a : Addr) : HO := .ext fun h => ∃ (oe : Obj) (vs : Array Value), h.get? a = some oe ∧ Zc cls d oe ∧ oe.data = .fields vs
theorem exC_ok {P : Program} {w : World} {H : Hp} {h : Heap} {a : Addr} {cls : Value} {d : Option Addr} {oe : Obj} {vs : Array Value} (e : h.get? a = some oe) (z : Zc cls d oe) (dd : oe.data = .fields vs) : ObjOk P w H h a (ExC cls d a) :=
  ⟨⟨oe, vs, e, z, dd⟩, ⟨oe, e⟩, fun _ _ ⟨o, v, q, r⟩ k => ⟨o, v, k o q, r⟩⟩
section
variable {X : Cx} {pins : List (Addr × Obj)} {σ : L2.St} {H : Hp} {s : Shared}
theorem inv_track {a : Addr} {o : HO} (I : L2.Inv X pins σ H s) (hn : H a = none) (n0 : X.s_0.heap.get? a = none) (nL : a ≠ X.env.locals) (nC : ∀ x c, X.env.cells.lookup x = some c → c ≠ a) (nP : ∀ p ∈ X.pn ++ pins, p.1 ≠ a) (new : ObjOk X.prog X.w (upd H a o) s.heap a o) : L2.Inv X pins σ (upd H a o) s where
  ok := I.ok
  os := I.os
  bare := I.bare
  base :=
    { keep := I.base.keep
      slot := I.base.slot
      free := fun b u q n x => by rw [upd_ne (fun z => by rw [z, n0] at q; cases q)]; exact I.base.free b u q n x
      there := I.base.there
      tups := fun b xs q => by rw [upd_ne (ne_of_none (I.base.tups b xs q) hn)]; exact I.base.tups b xs q
      frzs := fun b u xs q => by rw [upd_ne (ne_of_none (I.base.frzs b u xs q) hn)]; exact I.base.frzs b u xs q
      tbls := fun b ps q => by
        obtain ⟨m, z⟩ := I.base.tbls b ps q
        exact ⟨m, by rw [upd_ne (ne_of_none z hn)]; exact z⟩ }
  loc := I.loc
  cell := I.cell
  free := by rw [upd_ne (fun z => nL z.symm)]; exact I.free
  freeC := fun x c q => by rw [upd_ne (nC x c q)]; exact I.freeC x c q
  pin := fun p hp => by
    obtain ⟨z1, z2, z3⟩ := I.pin p hp
    exact ⟨z1, by rw [upd_ne (nP p hp)]; exact z2, z3⟩
  hok := I.hok.laidN (fun _ _ q => q) hn new
  len := I.len
end
end Tf
set_option Elab.async false
set_option linter.all false
set_option maxRecDepth 100000
set_option maxHeartbeats 4000000
namespace Tf
open PySem PySem.Spec L2 PyProof.Rows

/-! ### what may be raised, and how a def tells of it -/
inductive Er where
  | noEffect | noText | noRow | noThing | noFit
  deriving DecidableEq
inductive Ex (α : Type) where
  | ok (a : α)
  | err (e : Er)
/-- where the classes stand -/
class Nms (K : Fg) where
  c : Er → Addr
  t : Addr
abbrev ec (K : Fg) [n : Nms K] (e : Er) : Value := .ref (n.c e)
def Xl {K : Fg} {ρ X : Type} (φ : X → Fl K ρ) (w : Er → Hp → Prop) : Ex X → Fl K ρ
  | .ok x => φ x
  | .err e => .ex (w e)
def bindX {α β : Type} (m : Option (Ex α)) (k : α → Option (Ex β)) : Option (Ex β) := m.bind fun
  | .ok a => k a
  | .err e => some (.err e)
def okX {α : Type} (m : Option α) : Option (Ex α) := m.map .ok
def SpX {K : Fg} [Nms K] {ι ρ : Type} (enc : ι → Env K) (f : ι → Option (Ex ρ)) (R : RR ρ) : Sp := fun vs H Q E => ∃ F x r, Same F H ∧ ArgsAt F vs (enc x) ∧ f x = some r ∧
  match r with
  | .ok r => ∀ v F' H', Grow F H F' H' → R (fun p => H p = none) F' H' v r → Q v H'
  | .err e => ∀ F' H', Grow F H F' H' → E (ec K e) none H'
/-- the wish of a def's block -/
abbrev wE (K : Fg) [Nms K] (E : XK) : Er → Hp → Prop := fun e H => E (ec K e) none H
/-- an expression that may raise -/
def EvX {K : Fg} {α : Type} (R : RR α) (w : L2.St → Er → Hp → Prop) (te : TE) (es : Env K) (m : Option (Ex α)) : Prop :=
  ∀ a, m = some a → ∀ (F H : Hp) (ad : Nat → Addr → Prop) (σ : L2.St), RSt K F H ad σ es → ∀ Q : VK,
    (match a with
      | .ok a => ∀ v F' H', Grow F H F' H' → R (fun p => H p = none) F' H' v a → Q v H'
      | .err e => ∀ F' H', Grow F H F' H' → w σ e H') → te σ H Q
/-- raise -/
def tRs (w : Er → Hp → Prop) (e : Er) : TS := fun _ _ H => w e H
section
variable {K : Fg} {ρ X : Type} {R : RR ρ} {φ : X → Fl K ρ} {w : Er → Hp → Prop} {es es1 : Env K} {t u tz tb : TS} {te : TE} {tc : TT} {α β S : Type}
theorem sx_raise {e : Er} : Sx R (Xl φ w) (tSeq (tRs w e) tz) es (some (.err e)) := by
  intro fl hfl F H ad σ D rs fo
  cases hfl
  exact fo F H Adv.refl rs.ex
theorem sx_okX {m : Option X} (h : Sx R φ t es m) : Sx R (Xl φ w) t es (okX m) := by
  have e : (okX m).map (Xl φ w) = m.map φ := by cases m <;> rfl
  show Sv _ _ _ _
  rw [e]
  exact h
theorem ev_callX [Nms K] {ι ρ : Type} {R : RR ρ} [GoodR R] {ta : TA} {enc : ι → Env K} {f : ι → Option (Ex ρ)} {M : (ι → Option (Ex ρ)) → Option (Ex ρ)} {W : L2.St → XK} (h : EvA ta es M enc) :
    EvX R (fun σ => wE K (W σ)) (tCallS (SpX enc f R) W ta) es (M f) := by
  intro r hr F H ad σ rs Q q
  refine h f r hr F H ad σ rs _ fun vs F1 H1 x g1 h1 hx => ⟨F1, x, r, g1.ex, h1, hx, ?_⟩
  cases r with
  | ok r => exact fun v F2 H2 g2 h2 => q v F2 H2 (g1.trans g2) (weak_none g1.hh h2)
  | err e => exact fun F2 H2 g2 => q F2 H2 (g1.trans g2)
theorem sx_asgX [GoodR R] [j : Rep K α] {i : Nat} {m : Option (Ex α)} {k : α → Option (Ex X)} (h : EvX (RV j) (fun _ => w) te es m) (h2 : ∀ a, Sx R (Xl φ w) tz (es.set i (.val j a)) (k a)) :
    Sx R (Xl φ w) (tSeq (tAsg te (gName i)) tz) es (bindX m k) := by
  intro fl hfl F H ad σ D rs fo
  obtain ⟨b, hb, hk⟩ := map_some hfl
  subst hk
  obtain ⟨r, hr, hk⟩ := bind_some hb
  refine h r hr F H ad σ rs _ ?_
  cases r with
  | ok a => exact fun v F' H' g x => h2 a _ (by rw [show k a = some b from hk]; rfl) F' H' ad _ D ((rs.grow g).setVal x) (fo.trans g.adv fun p z => .inl (own_setVal z))
  | err e =>
    cases hk
    exact fun F' H' g => fo F' H' g.adv g.ex
theorem sx_retX [GoodR R] {m : Option (Ex ρ)} (h : EvX R (fun _ => w) te es m) : Sx R (Xl (.rt (K := K)) w) (tSeq (tRet te) tz) es m := by
  intro fl hfl F H ad σ D rs fo
  obtain ⟨r, hr, hk⟩ := map_some hfl
  subst hk
  refine h r hr F H ad σ rs _ ?_
  cases r with
  | ok a => exact fun v F' H' g x => fo F' H' v g.adv g.ex (GoodR.weak (fun p z => .inr z) x)
  | err e => exact fun F' H' g => fo F' H' g.adv g.ex
/-- joined behind an if, a loop: a block that may raise -/
theorem sx_seqX [GoodR R] {m1 : Option (Ex S)} {enc : S → Env K} {k : S → Option (Ex X)} (h1 : Sx R (Xl (fun s => .nx (enc s)) w) t es m1) (h2 : ∀ s, Sx R (Xl φ w) tz (enc s) (k s)) : Sx R (Xl φ w) (tSeq t tz) es (bindX m1 k) := by
  intro fl hfl F H ad σ D rs fo
  obtain ⟨b, hb, hk⟩ := map_some hfl
  subst hk
  obtain ⟨r, hr, hk⟩ := bind_some hb
  cases r with
  | ok s =>
    refine h1 (.nx (enc s)) (by rw [hr]; rfl) F H ad σ _ rs fun F' H' ad' σ' a t r => ?_
    exact h2 s _ (by rw [show k s = some b from hk]; rfl) F' H' ad' σ' D r (fo.trans a t)
  | err e =>
    cases hk
    exact h1 (.ex (w e)) (by rw [hr]; rfl) F H ad σ _ rs fo
theorem sx_ifJX [GoodR R] {mc : Option Bool} {m1 m2 : Option (Ex S)} {enc : S → Env K} {k : S → Option (Ex X)} (hc : EvT tc es mc) (h1 : Sx R (Xl (fun s => .nx (enc s)) w) t es m1) (h2 : Sx R (Xl (fun s => .nx (enc s)) w) u es m2) (hk : ∀ s, Sx R (Xl φ w) tz (enc s) (k s)) :
    Sx R (Xl φ w) (tSeq (tIfS tc t u) tz) es (bindX (mc.bind fun b => if b = true then m1 else m2) k) := by
  refine sx_seqX (enc := enc) ?_ hk
  show Sv _ _ _ _
  have e : (mc.bind fun b => if b = true then m1 else m2).map (Xl (fun s => (.nx (enc s) : Fl K ρ)) w) = mc.bind fun b => if b = true then m1.map (Xl (fun s => .nx (enc s)) w) else m2.map (Xl (fun s => .nx (enc s)) w) := by
    cases mc with
    | none => rfl
    | some b => cases b <;> rfl
  rw [e]
  exact sv_if0 hc h1 h2
end

/-! ### a def that may raise -/
section
variable {P : Program} {w : World} {K : Fg} {mg : Str → Option Value} {base : Heap}
theorem args_rst {ι : Type} {N ps : List Str} {enc : ι → Env K} {F H : Hp} {vs : List V} {x : ι} (sf : Same F H) (ha : ArgsAt F vs (enc x)) (e2 : (enc x).length = ps.length) :
    RSt K F H (fun _ _ => False) (L2.start N vs) (enc x ++ List.replicate (N.length - ps.length) .no) ∧ ∀ p, ¬ OwA (enc x ++ List.replicate (N.length - ps.length) Ent.no) (fun _ _ => False) p := by
  have e1 := ArgsAt.length ha
  have noOwn : ∀ (i : Nat) (e : Ent K), (enc x ++ List.replicate (N.length - ps.length) Ent.no)[i]? = some e → e.isOwn = false := fun i e he => by
    by_cases hi : i < (enc x).length
    · rw [List.getElem?_append_left hi] at he
      obtain ⟨v, _, av⟩ := ha.get he
      cases e with
      | no => rfl
      | val => rfl
      | own => cases av
      | obj => cases av
    · rw [List.getElem?_append_right (by omega), List.getElem?_replicate] at he
      split at he
      · cases he; rfl
      · cases he
  refine ⟨⟨sf, ?_, fun i e he => ?_, fun i j e u hi hj he hu _ => ?_⟩, fun p ⟨i, e, hi, he, _⟩ => ?_⟩
  · unfold L2.start
    rw [List.length_append, List.length_append, List.length_map, List.length_replicate, List.length_replicate]
    omega
  · by_cases hi : i < (enc x).length
    · rw [List.getElem?_append_left hi] at he
      obtain ⟨v, hv, av⟩ := ha.get he
      have hs2 : (L2.start N vs)[i]? = some (some v) := by
        unfold L2.start
        rw [List.getElem?_append_left (by rw [List.length_map]; omega), List.getElem?_map, hv]
        rfl
      rw [hs2]
      cases e with
      | no => trivial
      | val j a => exact ⟨v, rfl, av⟩
      | own => cases av
      | obj => cases av
    · rw [List.getElem?_append_right (by omega), List.getElem?_replicate] at he
      split at he
      · cases he; trivial
      · cases he
  · rw [noOwn i e hi] at he
    cases he
  · rw [noOwn i e hi] at he
    cases he
theorem fn_okX [Nms K] {k : Nat} {x : Str} {st : Stmt} {fa : Addr} {fd : FuncData} {N ps : List Str} {ι ρ : Type} {R : RR ρ} [GoodR R] {enc : ι → Env K} {f : ι → Option (Ex ρ)}
    (Fn : Fun K x x st fa fd) (S : FnScope N ps (defScope st)) (hl : ∀ x, (enc x).length = ps.length)
    (hb : ∀ (cdv : Value) (A : Around) (outer : List PySem.Env) (s : Shared) (H : Hp) (E : XK), Room k (A.deeper (envOfC x (defScope st) s.heap.objs.size fa cdv)) →
      ∃ t, PSs (cxOf (L2.CX P w) P w K mg base N x (defScope st) fa cdv A outer s H E) (defBody st) t ∧ ∀ x, Sx R (Xl .rt (wE K E)) t (enc x ++ List.replicate (N.length - ps.length) .no) (f x)) :
    FnOk P w K mg base (L2.CX P w) (k + 1) fa fd ps (SpX enc f R) := by
  refine Fn.okX S (fun vs H Q E h => ?_) (fun cdv A outer s H vs Q E hr h => ?_)
  · obtain ⟨F, x, r, _, h, _⟩ := h
    exact (ArgsAt.length h).trans (hl x)
  · obtain ⟨F, x, r, sf, ha, hf, q⟩ := h
    obtain ⟨t, ht, hs⟩ := hb cdv A outer s H E hr
    obtain ⟨rs, no⟩ := args_rst (N := N) sf ha (hl x)
    have grow : ∀ {F' H'}, Adv (OwA (enc x ++ List.replicate (N.length - ps.length) Ent.no) (fun _ _ => False)) F H F' H' → Same F' H' → Grow F H F' H' := fun a ex =>
      ⟨a.ff, fun p o h => a.hh p o h (no p), ex, fun p o h n f => (a.fr p o h n f).resolve_left (no p)⟩
    refine ⟨t, ht, hs x (Xl .rt (wE K E) r) (by rw [hf]; rfl) F H _ _ { nx := fun _ H' => Q .non H', rt := Q } rs ?_⟩
    cases r with
    | ok r => exact fun F' H' v a ex x2 => q v F' H' (grow a ex) (GoodR.weak (fun p z => z.resolve_left (no p)) x2)
    | err e => exact fun F' H' a ex => q F' H' (grow a ex)
structure CalX (P : Program) (w : World) (K : Fg) (mg : Str → Option Value) (base : Heap) (k : Nat) (x : Str) (ps : List Str) (sp : Sp) : Type where
  f : Addr
  fd : FuncData
  ok : FnOk P w K mg base (L2.CX P w) k f fd ps sp
  kp : PySem.W.keepIn K (.ref f) = true
  b : Binds K fd ps []
  g : mg x = some (.ref f)
theorem pe_calX {X : Cx} {k k' : Nat} {x : Str} {ps : List Str} {sp : Sp} {p pos : Pos} {e : Expr} {es : List Expr} {t : TA} {W : WX} (C : CalX X.prog X.w X.K X.mg X.base k x ps sp) (hr : Room k' X.A) (hk : k ≤ k') (hg : Gl X x) (tk : Takes X W) (ha : PA X (e :: es) t)
    (hdb : (x == ("__debug__" : Str)) = false := by decide) (he : starEach (e :: es) X.env = (false, eval e X.env) :: starEach es X.env := by rfl) (hpl : (backTo pos (starEach es X.env)).any (·.1) = false := by rfl) :
    PE X (.Call (.Name x p) (e :: es) [] pos) (tCallS sp (WE W) t) := pe_callS C.ok (hr.mono hk) hg C.g C.kp C.b (passAt tk) ha hdb he hpl
/-- what the class of an error is known to be -/
structure ErC (K : Fg) [Nms K] (mg : Str → Option Value) (e : Er) (x : Str) : Prop where
  g : mg x = some (ec K e)
  q : PySem.W.excIn K (Nms.c K e) [.type "ValueError", .type "Exception", .type "BaseException", .type "object"] "ValueError.__new__" = true
  k : PySem.W.keepIn K (ec K e) = true
  s : PySem.W.subIn K (ec K e) (.type "BaseException") = some true
  t : PySem.W.typeIn K (ec K e) = some (.type "type")
theorem ps_raiseE {X : Cx} {nm : Nms X.K} {E : XK} {e : Er} {x m : Str} {j : Nat} {p p2 pos pos' : Pos} (C : ErC X.K X.mg e x) (hc : X.calm = true) (hg : Gl X x) (tk : Takes X fun cls d _ H => E cls d H) (hdb : (x == ("__debug__" : Str)) = false := by decide) :
    PS X (.Raise (some (.Call (.Name x p) [.Constant (.str m) j p2] [] pos)) none pos') (tRs (wE X.K E) e) :=
  ps_raise hc tk (pmk_own PySem.F.excBase_ValueError C.q C.g C.k (raises_own C.s C.t) hg hdb)
end
end Tf
set_option Elab.async false
set_option linter.all false
set_option maxRecDepth 100000
set_option maxHeartbeats 4000000
namespace Tf
open PySem PySem.Spec L2 PyProof.Rows

/-! ### try: .. except C as n: suite, the caught one tracked -/
abbrev endsAs (i : Nat) (D : Ends) : Ends :=
  { nx := fun σ H => D.nx (σ.set i none) H, rt := D.rt, bk := fun σ H => D.bk (σ.set i none) H, ct := fun σ H => D.ct (σ.set i none) H }
def wTr (K : Fg) (c : Value) (i : Nat) (ts : TS) (D : Ends) : WX := fun cls d σ H =>
  PySem.W.exmOne K cls c = some true ∧ ∀ a, H a = none → ts (endsAs i D) (σ.set i (some (.ref a))) (upd H a (ExC cls d a))
section
variable {X : Cx} {pins : List (Addr × Obj)} {σ : L2.St} {H : Hp} {s sI : Shared} {B : Heap} {a : Addr}
/-- the state without the caught one knows nothing at its place -/
theorem ground_new (nb : ∀ b o, sI.heap.get? b = some o → b ∉ frs X.stack → B.get? b = some o) (hB : B.get? a = none) (hm : a ∉ frs X.stack) : sI.heap.get? a = none := by
  cases e : sI.heap.get? a with
  | none => rfl
  | some o =>
    have z := nb a o e hm
    rw [hB] at z
    cases z
theorem inv_catch {s2 : Shared} {cls : Value} {d : Option Addr} {oe : Obj} {vs : Array Value} (J : L2.Inv X pins σ H sI) (J2 : L2.Inv X pins σ H s2) (hx : X.ex = []) (gn : sI.heap.get? a = none) (na : H a = none) (nL : a ≠ X.env.locals)
    (he : s2.heap.get? a = some oe) (hz : Zc cls d oe) (hd : oe.data = .fields vs) : L2.Inv X pins σ (upd H a (ExC cls d a)) s2 := by
  refine inv_track J2 na ?_ nL (fun y c q z => ?_) (fun p hp z => ?_) (exC_ok he hz hd)
  · cases e : X.s_0.heap.get? a with
    | none => rfl
    | some o =>
      obtain ⟨o2, q⟩ := J.base.there a o e (by rw [hx]; exact fun z => nomatch z)
      rw [gn] at q
      cases q
  · obtain ⟨v, o, ho, _⟩ := J.cell y c q
    rw [z, gn] at ho
    cases ho
  · have q := (J.pin p hp).1
    rw [z, gn] at q
    cases q
theorem inv_suite0 (J : L2.Inv X pins σ H s) : L2.Inv (X.suite a (X.pn ++ pins)) [] σ H s where
  ok := J.ok.suite _ _
  os := J.os
  bare := J.bare
  base := J.base
  loc := J.loc
  cell := J.cell
  free := J.free
  freeC := J.freeC
  pin := fun p hp => J.pin p (by simpa using hp)
  hok := J.hok
  len := J.len
theorem inv_unsuite0 {pn2 : List (Addr × Obj)} (J : L2.Inv (X.suite a (X.pn ++ pins)) pn2 σ H s) (k : X.Ok) : L2.Inv X pins σ H s where
  ok := k
  os := J.os
  bare := J.bare
  base := J.base
  loc := J.loc
  cell := J.cell
  free := J.free
  freeC := J.freeC
  pin := fun p hp => J.pin p (List.mem_append_left _ hp)
  hok := J.hok
  len := J.len
end
section
variable {X : Cx} {x n : Str} {c : Value} {i : Nat} {body suite : List Stmt} {b₀ : Stmt} {np pos pos' : Pos} {tb : WX → TS} {ts : TS}
theorem ps_tryT (hs : X.stack = X.env :: X.outer) (hf : X.env.frame = some X.env.locals) (hx : X.ex = []) (hN : X.N.Nodup) (hi : X.N[i]? = some n) (hl : X.env.kindOf n = some .local) (hc : Names X x c)
    (hb : ∀ (W : WX) (pn : List (Addr × Obj)) (xe : Value → Shared → Prop), Takes (X.tr pn xe) W → PSs (X.tr pn xe) body (tb W))
    (hsu : ∀ (a : Addr) (pn : List (Addr × Obj)), PSs (X.suite a pn) (b₀ :: suite) ts) :
    PS X (.Try body [.ExceptHandler (some (.Name x np)) (some n) (b₀ :: suite) pos'] [] [] pos) (fun D σ H => tb (wTr X.K c i ts D) D σ H) := by
  constructor
  intro pins s0 σ0 H0 D I0 wish
  have kx := I0.ok
  have frm : X.A.frames = some (X.env :: X.outer) := kx.frames.trans (by rw [hs])
  apply wpAny_Try_except
  refine wpAny_mono ((hb (wTr X.K c i ts D) (X.pn ++ pins) _ ?caught).run [] s0 σ0 H0 D (I0.toTry _) wish) ?thru fun _ _ z => z
  case caught =>
    rintro u s' ⟨a, B, sI, pins1, σ1, H1, cls, d, rfl, J1, nb, up, sky, na, os, ag, hm, hy⟩
    have J : L2.Inv X pins σ1 H1 sI := J1.ofTry kx
    have sky1 : Sky B (X.env :: X.outer) a (Zc cls d) X.env.locals s'.heap := hs ▸ sky
    refine Sky.land Zc.steady frm hf sky1 fun h3 fly up3 => ?_
    have J3 : L2.Inv X pins σ1 H1 { s' with heap := h3 } := J.landed nb fly.1 (up.trans up3) os ag
    obtain ⟨oe, vs, he, hz, hd⟩ := fly.there
    have off : a ∉ frs (X.env :: X.outer) := fun hm => by
      obtain ⟨_, o, q, r⟩ := fly.2.2.1.mem hm
      rw [he] at q
      cases q
      exact r _ hd
    have gn : sI.heap.get? a = none := ground_new nb fly.2.1 (by rw [hs]; exact off)
    have nL : a ≠ X.env.locals := fun z => off (List.mem_filterMap.mpr ⟨X.env, List.mem_cons_self, by rw [hf, z]⟩)
    have S3 := inv_suite0 (a := a) J3
    refine wpAny_handleBy_cons (codeAny_handlers_test ?_) (by intro q; cases q)
    have ty : PySem.W.Looks (model X.prog X.w) h3 (typeOf (.ref a)) cls := fun _ _ _ _ k q => wpAny_typeOf_ref (k _ _ he) (by rw [hz.1]; exact q)
    have fits := PySem.W.exm_one (M := model X.prog X.w) J3.kIn ty hm
    have named : ∀ {Q : Value → Shared → Prop} {E : Value → Shared → Prop}, Q c { s' with heap := h3 } → wpAny (model X.prog X.w) (X.A.mark (some (.ref a))) (eval (.Name x np) X.env) Q E { s' with heap := h3 } := by
      intro Q E q
      obtain ⟨g1, g2, g3 | ⟨g3, g4, g5⟩⟩ := hc
      · exact ld_glob (X := X.suite a (X.pn ++ pins)) S3 g1 g3 q g2
      · exact ld_blt (X := X.suite a (X.pn ++ pins)) S3 g1 g3 g4 q g5 g2
    refine named (fits.here (codeAny_handlers_suite_as (HandSPX.lands_againZ fly fun h4 fly4 up4 => ?_)))
    have J4 : L2.Inv X pins σ1 H1 { s' with heap := h4 } := J.landed nb fly4.1 ((up.trans up3).trans up4) os ag
    obtain ⟨oe4, vs4, he4, hz4, hd4⟩ := fly4.there
    have T4 := inv_suite0 (a := a) (inv_catch (s2 := { s' with heap := h4 }) J J4 hx gn na nL he4 hz4 hd4)
    refine store_ok (X := X.suite a (X.pn ++ pins)) (v := .ref a) T4 hN hi (.inl hl) rfl (fun s5 T5 => ?_) (.inr hl)
    refine wpAny_mono ((hsu a (X.pn ++ pins)).run [] s5 _ _ (endsAs i D) T5 (hy a na)) (fun f s6 hsp => ?_) (fun _ _ z => z.elim)
    have goes : ∀ {σ6 : L2.St} {H6 : Hp} {Q : Shared → Prop}, L2.Inv (X.suite a (X.pn ++ pins)) [] σ6 H6 s6 → (∀ s7, L2.Inv X pins (σ6.set i none) H6 s7 → Q s7) →
        wpAny (model X.prog X.w) X.A (do bindName X.env n .none; unbindBehindTheSuite X.env n pos') (fun _ s7 => Q s7) X.xe s6 := fun T6 q => gone_ok (inv_unsuite0 T6 kx) hN hi hl q
    cases f with
    | ret u =>
      obtain ⟨v, σ6, H6, T6, rv, q6⟩ := hsp
      exact goes T6 fun _ J7 => ⟨v, _, H6, J7, rv, q6⟩
    | next =>
      obtain ⟨σ6, H6, T6, q6⟩ := hsp
      exact goes T6 fun _ J7 => ⟨_, H6, J7, q6⟩
    | brk =>
      obtain ⟨σ6, H6, T6, q6⟩ := hsp
      exact goes T6 fun _ J7 => ⟨_, H6, J7, q6⟩
    | cont =>
      obtain ⟨σ6, H6, T6, q6⟩ := hsp
      exact goes T6 fun _ J7 => ⟨_, H6, J7, q6⟩
  case thru =>
    intro f s1 hsp
    cases f with
    | ret u =>
      obtain ⟨v, σ1, H1, J1, rv, q⟩ := hsp
      exact ⟨v, σ1, H1, J1.ofTry kx, rv, q⟩
    | next =>
      obtain ⟨σ1, H1, J1, q⟩ := hsp
      exact wpAny_execs_nil ⟨σ1, H1, J1.ofTry kx, q⟩
    | brk =>
      obtain ⟨σ1, H1, J1, q⟩ := hsp
      exact ⟨σ1, H1, J1.ofTry kx, q⟩
    | cont =>
      obtain ⟨σ1, H1, J1, q⟩ := hsp
      exact ⟨σ1, H1, J1.ofTry kx, q⟩
end

/-! ### the caught one as a value -/
instance repEr {K : Fg} [n : Nms K] : Rep K Er := ⟨fun F v e => ∃ a, v = .ref a ∧ F a = some (ExC (ec K e) none a), fun s ⟨a, e, h⟩ => ⟨a, e, s _ _ h⟩⟩
/-- isinstance of it -/
inductive Tg where
  | one (e : Er)
  | trial
  | value
  deriving DecidableEq
def isB (e : Er) : Tg → Bool
  | .one e2 => decide (e = e2)
  | .trial => true
  | .value => true
def isE (es : List Er) (g : Option Er) (t : Tg) : Option Bool := match g with
  | some e => if e ∈ es then some (isB e t) else none
  | none => none
def isEs (es : List Er) (g : Option Er) (ts : List Tg) : Option Bool := match g with
  | some e => if e ∈ es then some (ts.any fun t => isB e t) else none
  | none => none
def rIsX (K : Fg) : List V → Hp → VK → Prop := fun xs H Q => ∃ (a D : Addr) (c : V) (u : Value) (b : Bool), xs = [.ref a, c] ∧ H a = some (ExC (.ref D) none a) ∧ ClsV c u ∧ ExcC K D ∧ PySem.W.kitOne K (.ref D) u = some b ∧ Q (.bl b) H
def rIsXs (K : Fg) : List V → Hp → VK → Prop := fun xs H Q => ∃ (a D tp : Addr) (cs : List V) (us : List Value) (b : Bool), xs = [.ref a, .ref tp] ∧ H a = some (ExC (.ref D) none a) ∧ H tp = some (.tup cs) ∧ Paired ClsV cs us ∧ ExcC K D ∧ PySem.W.kitAny K (.ref D) us = some b ∧ Q (.bl b) H
theorem inst_of {D : Addr} {h : Heap} {a : Addr} {oe : Obj} {vs : Array Value} (hg : h.get? a = some oe) (hz : Zc (.ref D) none oe) (hv : oe.data = .fields vs) : PySem.W.InstAt h a oe D none := by
  cases oe with
  | mk k1 k2 k3 k4 =>
    cases hz.1
    cases hz.2
    cases hv
    exact ⟨hg, rfl, rfl, trivial⟩
theorem call_isX {X : Cx} : CallR X (.builtin "isinstance") (rIsX X.K) := by
  rintro pins s σ H xs us Q I r ⟨a, D, c, u, b, rfl, ha, hcl, C, hk, q⟩
  obtain ⟨⟨oe, vs, hg, hz, hv⟩, _⟩ := I.hok a _ ha
  cases r with
  | cons r1 rr =>
    cases rr with
    | cons r2 rn =>
      cases rn
      cases r1
      cases hcl.eq r2
      exact PySem.W.kia_one (PySem.W.handS_kitx_exc C.hg C.hk C.hs C.hd C.ha C.hn C.ht C.hm) I.kIn (inst_of hg hz hv) hk (fun z => nomatch z) fun tk => ⟨.bl b, H, I.kept (t' := tk) fun _ _ z => z, rfl, q⟩
theorem call_isXs {X : Cx} : CallR X (.builtin "isinstance") (rIsXs X.K) := by
  rintro pins s σ H xs us Q I r ⟨a, D, tp, cs, ws, b, rfl, ha, ht, hcl, C, hk, q⟩
  obtain ⟨⟨oe, vs, hg, hz, hv⟩, _⟩ := I.hok a _ ha
  cases r with
  | cons r1 rr =>
    cases rr with
    | cons r2 rn =>
      cases rn
      cases r1
      cases r2
      have og := I.hok tp _ ht
      obtain ⟨_, its, rv, o, h1, h2, n, h3⟩ := (show ObjOk X.prog X.w H s.heap tp (.tup cs) from og)
      cases ClsV.all hcl rv
      cases o with
      | mk k1 k2 k3 k4 =>
        cases h2
        cases h3
        exact PySem.W.kia_tup (PySem.W.handS_kitx_exc C.hg C.hk C.hs C.hd C.ha C.hn C.ht C.hm) I.kIn (inst_of hg hz hv) h1 hk (fun z => nomatch z) fun tk => ⟨.bl b, H, I.kept (t' := tk) fun _ _ z => z, rfl, q⟩
end Tf
set_option Elab.async false
set_option linter.all false
set_option maxRecDepth 100000
set_option maxHeartbeats 4000000
namespace Tf
open PySem PySem.Spec L2 PyProof.Rows

/-! ### the statement try, read -/
def tTry (K : Fg) (c : Value) (i : Nat) (ts : TS) (tb : WX → TS) : TS := fun D σ H => tb (wTr K c i ts D) D σ H
theorem ps_tryE {X : Cx} {x n : Str} {i : Nat} {C : Addr} {body suite : List Stmt} {b₀ : Stmt} {np pos pos' : Pos} {tb : WX → TS} {ts : TS} (hs : X.stack = X.env :: X.outer) (hf : X.env.frame = some X.env.locals) (hx : X.ex = []) (hN : X.N.Nodup) (hi : X.N[i]? = some n)
    (hl : X.env.kindOf n = some .local) (hg : Gl X x) (hm : X.mg x = some (.ref C))
    (hb : ∀ (W : WX) (pn : List (Addr × Obj)) (xe : Value → Shared → Prop), Takes (X.tr pn xe) W → PSs (X.tr pn xe) body (tb W)) (hsu : ∀ (a : Addr) (pn : List (Addr × Obj)), PSs (X.suite a pn) (b₀ :: suite) ts) (hdb : (x == ("__debug__" : Str)) = false := by decide) :
    PS X (.Try body [.ExceptHandler (some (.Name x np)) (some n) (b₀ :: suite) pos'] [] [] pos) (tTry X.K (.ref C) i ts tb) := ps_tryT hs hf hx hN hi hl ⟨hg, hdb, .inl hm⟩ hb hsu
def tryO {α : Type} (es : List Er) (r : Ex α) (a0 : Option α) (g0 : Option Er) : Option (Option α × Option Er) := match r with
  | .ok a => some (some a, g0)
  | .err e => if e ∈ es then some (a0, some e) else none
section
variable {K : Fg} [Nms K] {ρ X α : Type} {R : RR ρ} {φ : X → Fl K ρ} {es : Env K} {tz : TS} {te : WX → TE} [j : Rep K α]
theorem sx_tryX [GoodR R] {c : Value} {i k l : Nat} {er : List Er} {m : Option (Ex α)} {a0 : Option α} {g0 : Option Er} {kk : Option α × Option Er → Option X} (hik : i ≠ k) (hil : i ≠ l) (hkl : k ≠ l) (hi : i < es.length)
    (hk : es[k]? = some (.val (@repOption K α j) a0)) (hl : es[l]? = some (.val (@repOption K Er repEr) g0)) (hc : ∀ e ∈ er, PySem.W.exmOne K (ec K e) c = some true)
    (h : ∀ W : WX, EvX (RV j) (fun σ => wE K (WE W σ)) (te W) es m) (h2 : ∀ p, Sx R φ tz (((es.set k (.val (@repOption K α j) p.1)).set l (.val (@repOption K Er repEr) p.2)).set i .no) (kk p)) :
    Sx R φ (tSeq (tTry K c i (tSeq (tAsg (tVar i) (gName l)) tNext) fun W => tSeq (tAsg (te W) (gName k)) tNext) tz) es (m.bind fun r => (tryO er r a0 g0).bind kk) := by
  intro fl hfl F H ad σ D rs fo
  obtain ⟨b, hb, hq⟩ := map_some hfl
  obtain ⟨r, hr, hp⟩ := bind_some hb
  obtain ⟨p, hp, hkk⟩ := bind_some hp
  have last := h2 p fl (by rw [hkk, ← hq]; rfl)
  have own : ∀ {ad2 : Nat → Addr → Prop} {q : Addr} {p : Option α × Option Er}, OwA (((es.set k (.val (@repOption K α j) p.1)).set l (.val (@repOption K Er repEr) p.2)).set i .no) ad2 q → OwA es ad2 q := by
    rintro ad2 q p ⟨n, e, hn, he, ho⟩
    rcases getset hn with ⟨_, _, rfl⟩ | ⟨_, hn⟩
    · cases he
    · exact own_setVal (own_setVal ⟨n, e, hn, he, ho⟩)
  refine h _ r hr F H ad σ rs _ ?_
  cases r with
  | ok a =>
    cases hp
    intro v F1 H1 g1 x1
    have r1 := ((rs.grow g1).setVal (i := k) (j := @repOption K α j) (a := some a) x1)
    refine last F1 H1 ad _ D (r1.wk (by simp) fun n e hn => ?_) (fo.trans g1.adv fun q z => .inl (own z))
    rcases getset hn with ⟨_, _, rfl⟩ | ⟨_, hn⟩
    · exact .inl rfl
    · rcases getset hn with ⟨rfl, _, rfl⟩ | ⟨_, hn⟩
      · exact .inr (by rw [List.getElem?_set_ne hkl]; exact hl)
      · exact .inr hn
  | err e =>
    have hp : (if e ∈ er then some (a0, some e) else none) = some p := hp
    by_cases he : e ∈ er
    · rw [if_pos he] at hp
      cases hp
      intro F1 H1 g1
      refine ⟨hc e he, fun a ha => ⟨.ref a, by rw [List.getElem?_set_self (by rw [← rs.len]; exact hi)], ?_⟩⟩
      have g2 := Grow.lay (o := ExC (ec K e) none a) g1.ex ha
      have at2 : (repEr (K := K)).At (upd F1 a (ExC (ec K e) none a)) (.ref a) e := ⟨a, rfl, upd_same⟩
      have r1 := (((rs.grow (g1.trans g2)).setVal (i := i) (j := repEr (K := K)) (a := e) at2).setVal (i := l) (j := @repOption K Er repEr) (a := some e) at2).set_no i
      refine last _ _ ad _ D (r1.wk (by simp) fun n y hn => ?_) (fo.trans (g1.trans g2).adv fun q z => .inl (own z))
      rcases getset hn with ⟨_, _, rfl⟩ | ⟨hni, hn⟩
      · exact .inl rfl
      · rw [List.getElem?_set_ne (Ne.symm hni)]
        rcases getset hn with ⟨rfl, hlt, rfl⟩ | ⟨hnl, hn⟩
        · exact .inr (List.getElem?_set_self (by simpa using hlt))
        · rw [List.getElem?_set_ne (Ne.symm hnl), List.getElem?_set_ne (Ne.symm hni)]
          rcases getset hn with ⟨rfl, _, rfl⟩ | ⟨_, hn⟩
          · exact .inr hk
          · exact .inr hn
    · rw [if_neg he] at hp
      cases hp
theorem evx_froz {i : Rep K α} {w : L2.St → Er → Hp → Prop} {te : TE} {m : Option (Ex (List α))} (h : EvX (RN i) w te es m) : EvX (RV (@repList K α i)) w te es m := fun a ha F H ad σ rs Q q => by
  refine h a ha F H ad σ rs Q ?_
  cases a with
  | err e => exact q
  | ok a =>
    rintro v F1 H1 g ⟨p, e, f, f2, vs, h3, h4, h5⟩
    refine q v (upd F1 p (.lst vs)) H1 ⟨g.ff.trans (same_new f2), g.hh, fun b o z => ?_, fun b o z n y => by rw [upd_ne (ne_of_none z f)]; exact g.fr b o z n y⟩ ⟨p, vs, e, upd_same, h4, pmono h5 fun _ _ z => i.mono (same_new f2) z⟩
    by_cases hb : b = p
    · rw [hb, upd_same] at z
      rw [hb, ← z]
      exact h3
    · rw [upd_ne hb] at z
      exact g.ex b o z
theorem evx_is {w : L2.St → Er → Hp → Prop} {R1 : RR α} {te : TE} {m m2 : Option (Ex α)} (h : EvX R1 w te es m) (e : m = m2) : EvX R1 w te es m2 := e ▸ h
theorem ev_isE {C : Value} {cv : V} {er : List Er} {t : Tg} {ta : TE} {ma : Option (Option Er)} (hv : ClsV cv C) (hf : ∀ e ∈ er, ExcC K (Nms.c K e) ∧ PySem.W.kitOne K (ec K e) C = some (isB e t)) (ha : Ev ta es ma) :
    Ev (tCB (rIsX K) (tCons ta (tCons (tC cv) tNil))) es (ma.bind fun g => isE er g t) := by
  intro b hb F H ad σ rs Q q
  obtain ⟨g, hg, hb⟩ := bind_some hb
  refine ha g hg F H ad σ rs _ fun v F1 H1 g1 h1 => ?_
  cases g with
  | none => cases hb
  | some e =>
    have hb : (if e ∈ er then some (isB e t) else none) = some b := hb
    by_cases he : e ∈ er
    · rw [if_pos he] at hb
      cases hb
      obtain ⟨a, rfl, ha2⟩ := (show ∃ a, v = .ref a ∧ F1 a = some (ExC (ec K e) none a) from h1)
      obtain ⟨c1, c2⟩ := hf e he
      exact ⟨a, Nms.c K e, cv, C, _, rfl, g1.ex _ _ ha2, hv, c1, c2, q _ F1 H1 g1 rfl⟩
    · rw [if_neg he] at hb
      cases hb
instance nnEr : NNon K Er := ⟨fun ⟨a, e, _⟩ => by subst e; exact fun z => nomatch z⟩
end
/-! ### what the written part knows of the errors' classes -/
def Er.nm : Er → Str
  | .noEffect => "NoEffect"
  | .noText => "NoText"
  | .noRow => "NoRow"
  | .noThing => "NoThing"
  | .noFit => "NoFit"
def tgV (K : Fg) [Nms K] : Tg → Value
  | .one e => ec K e
  | .trial => .ref (Nms.t K)
  | .value => .type "ValueError"
/-- isinstance of an own class, by an own class and by a built-in one -/
theorem kit_own {K : Fg} {C D : Addr} {b : Bool} (hd : PySem.W.hasDictIn K D = true) (ht : PySem.W.typeIn K (.ref D) = some (.type "type")) (hs : PySem.W.subIn K (.ref C) (.ref D) = some b) (self : PySem.W.subIn K (.ref C) (.ref C) = some true) : PySem.W.kitOne K (.ref C) (.ref D) = some b := by
  obtain ⟨cd, hc, _⟩ := PySem.W.any_some hd
  unfold PySem.W.kitOne
  by_cases h : (Value.ref C == Value.ref D) = true
  · rw [if_pos h]
    have e : C = D := Value.ref.inj (beq_iff_eq.mp h)
    subst e
    rw [← hs, self]
  · rw [if_neg h]
    have e : ((PySem.W.clsIn K D).isSome && PySem.W.typeIn K (.ref D) == some (.type "type")) = true := by rw [hc, ht]; rfl
    unfold PySem.W.kitCls
    dsimp only
    rw [if_pos e]
    exact hs
theorem kit_val {K : Fg} {C : Addr} (hs : PySem.W.subIn K (.ref C) (.type "ValueError") = some true) : PySem.W.kitOne K (.ref C) (.type "ValueError") = some true := by
  unfold PySem.W.kitOne
  rw [if_neg (by intro h; cases (beq_iff_eq.mp h))]
  have e : PySem.W.kitMeta "ValueError" = true := by decide +kernel
  unfold PySem.W.kitCls
  dsimp only
  rw [if_pos e]
  exact hs
structure ErP (K : Fg) [Nms K] (mg : Str → Option Value) (e : Er) : Prop where
  c : ErC K mg e e.nm
  x : ExcC K (Nms.c K e)
  m : PySem.W.exmOne K (ec K e) (.ref (Nms.t K)) = some true
structure Xf (K : Fg) [Nms K] (mg : Str → Option Value) (es : List Er) (ts : List Tg) : Prop where
  t : mg "TrialError" = some (.ref (Nms.t K))
  g : ∀ e : Er, mg e.nm = some (ec K e)
  r : ∀ e ∈ es, ErP K mg e
  k : ∀ e ∈ es, ∀ t ∈ ts, PySem.W.kitOne K (ec K e) (tgV K t) = some (isB e t)
end Tf
set_option Elab.async false
set_option linter.all false
set_option maxRecDepth 100000
set_option maxHeartbeats 4000000
namespace Tf
open PySem PySem.Spec L2 PyProof.Rows

/-! ### comprehensions whose element may raise -/
/-- what is wanted behind the loop of a comprehension: its own frame is known -/
def cEnd (M : Model) (A : Around) (E : Value → Shared → Prop) (use : Option (Value → Sem Unit)) (Q : Value → Shared → Prop) (acc : Value) (ce : PySem.Env) : Result → Shared → Prop
  | .error x, s' => ∃ m, s'.heap.Ns ce.locals m ∧ ∀ h', Heap.SameBut ce.locals s'.heap h' → wpAny M A (passOn "comprehension.variables-let-go" x ce : Sem Value) (fun _ _ => False) E { s' with heap := h' }
  | .ok _, s' => match use with
    | none => ∃ m, s'.heap.Ns ce.locals m ∧ ∀ h', Heap.SameBut ce.locals s'.heap h' → Q acc { s' with heap := h' }
    | some u => wpAny M A (u acc) (fun _ s2 => ∃ m, s2.heap.Ns ce.locals m ∧ ∀ h', Heap.SameBut ce.locals s2.heap h' → Q .none { s2 with heap := h' }) E s'
section
variable {M : Model} {A : Around} {E : Value → Shared → Prop} {env : PySem.Env} {s : Shared}
theorem comp_raises {e : Expr} {scope : Scope} {pos : Pos} {mk src : Sem Value} {g : Comprehension} {gs : List Comprehension} {cl : List (Str × Addr)} {use : Option (Value → Sem Unit)} {Q : Value → Shared → Prop}
    (h1 : clausesOf e = g :: gs) (h2 : ∀ x, foldedSetIterable g.iter env x = pure x) (h3 : closureFor scope env = pure cl) (h4 : scope.kind = .function) (h5 : ∀ x ∈ scope.names, x.2 = .local → scope.names.lookup x.1 = some .local)
    (go : wpAny M A src (fun x s1 => wpAny M A (pyIter x) (fun it s2 => wpAny M A mk (fun acc s3 => wpAny M A (newFunctionEnv scope env.globals cl [] env.qual none .none (some env))
      (fun ce s4 => codeAny M A (.compStart e 0 it acc { ce with scope := relabel scope env }) (cEnd M A E use Q acc { ce with scope := relabel scope env }) s4) E s3) E s2) E s1) E s) :
    wpAny M A (comprehension e scope env pos mk false src use) Q E s := by
  unfold comprehension
  rw [h3, h1]
  have keepE : ∀ e (s' : Shared), E e s' → E e s' := fun _ _ z => z
  refine wpAny_bind (wpAny_mono go (fun x s1 g1 => ?_) keepE)
  refine wpAny_bind (wpAny_standAt (wpAny_bind (wpAny_of_eq (h2 x) ?_)))
  refine wpAny_bind (wpAny_holding (wpAny_mono g1 (fun it s2 g2 => ?_) keepE))
  refine wpAny_standIf (wpAny_bind (wpAny_mono g2 (fun acc s3 g3 => ?_) keepE))
  refine wpAny_bind (wpAny_pure (wpAny_bind (wpAny_mono g3 (fun ce s4 g4 => ?_) keepE)))
  dsimp only
  generalize hV : (scope.names.filter fun x => (x.2 == .local || x.2 == .cell) && x.1 != (".0" : Str)).reverse = V
  have loc : ∀ x ∈ V, x.2 = .local → PySem.Env.kindOf { ce with scope := relabel scope env } x.1 = some .local := by
    intro x hx hl
    rw [← hV] at hx
    exact lookup_relabel_local (h5 x (List.mem_filter.mp (List.mem_reverse.mp hx)).1 hl)
  have loc2 : ∀ x ∈ V.drop 1 ++ V.take 1, x.2 = .local → PySem.Env.kindOf { ce with scope := relabel scope env } x.1 = some .local := by
    intro x hx
    exact loc x ((List.mem_append.mp hx).elim List.mem_of_mem_drop List.mem_of_mem_take)
  refine wpAny_holding (wpAny_bind (wpAny_attempt (wpAny_holding (wpAny_run (codeAny_mono g4 fun r s5 g5 => ?_)))))
  cases r with
  | error x =>
    obtain ⟨m, hn, go5⟩ := g5
    refine wpAny_bind (wpAny_holding (wpAny_comp_letGo (cenv := { ce with scope := relabel scope env }) h4 _ s5 m loc hn fun h' _ _ sb => ?_))
    exact wpAny_mono (go5 h' sb) (fun _ _ z => z.elim) keepE
  | ok f =>
    cases use with
    | none =>
      obtain ⟨m, hn, go5⟩ := g5
      refine wpAny_bind (wpAny_holding (wpAny_comp_letGo (cenv := { ce with scope := relabel scope env }) h4 _ s5 m loc hn fun h' _ _ sb => ?_))
      exact wpAny_pure (go5 h' sb)
    | some u =>
      refine wpAny_bind (wpAny_rule (wpAny_bind (wpAny_holding (wpAny_mono g5 (fun _ s6 g6 => ?_) keepE))))
      obtain ⟨m, hn, go6⟩ := g6
      refine wpAny_bind (wpAny_comp_letGo (cenv := { ce with scope := relabel scope env }) h4 _ s6 m loc2 hn fun h' _ _ sb => ?_)
      exact wpAny_pure (go6 h' sb)
end

/-! what a call within a comprehension's block lets out, seen from the def's own context -/
abbrev SkyP := Heap → Addr → (Obj → Prop) → Heap → Prop
def Air (X : Cx) (pins : List (Addr × Obj)) (σ : L2.St) (E : XK) (C : Addr) (S : SkyP) (u : Value) (s' : Shared) : Prop :=
  ∃ (a : Addr) (B : Heap) (H H' : Hp) (sG : Shared) (cls : Value) (d : Option Addr), u = .ref a ∧ L2.Inv X pins σ H sG ∧ S B a (Zc cls d) s'.heap ∧ HOk X.prog X.w H' B ∧ UB (frs X.stack) H H' sG.heap B s'.heap ∧
    B.get? C = none ∧ C ∉ frs X.stack ∧ H' a = none ∧ s'.os = sG.os ∧ AllBare s'.gens ∧ E cls d H'
abbrev fly (X : Cx) : SkyP := fun B a Z h => HandSPX.FlyingZ B X.stack a Z h
abbrev held (X : Cx) : SkyP := fun B a Z h => HandSPX.HeldZ B X.stack a Z X.env.locals h
theorem without (h : Heap) (C : Addr) : ∃ G : Heap, (∀ b, b ≠ C → G.get? b = h.get? b) ∧ G.get? C = none ∧ ∀ b o, G.get? b = some o → h.get? b = some o := by
  obtain ⟨G, g1, g2⟩ := restrict h fun b => decide (b ≠ C)
  have gC : G.get? C = none := g2 C (by simp)
  refine ⟨G, fun b hb => g1 b (by simpa using hb), gC, fun b o e => ?_⟩
  by_cases hb : b = C
  · rw [hb, gC] at e
    cases e
  · rw [← g1 b (by simpa using hb)]
    exact e
theorem hok_without {P : Program} {w : World} {H : Hp} {h G : Heap} {C : Addr} (hok : HOk P w H h) (g : ∀ b, b ≠ C → G.get? b = h.get? b) (n : H C = none) : HOk P w H G := fun b u e => by
  refine (hok b u e).stay (fun c v hc q => ?_) (fun _ q => q) fun _ _ q => q
  rw [g c]
  · exact q
  · rintro rfl
    rcases hc with z | z
    · rw [← z, n] at e
      cases e
    · rw [n] at z
      cases z
theorem frames_but {B h h' : Heap} : ∀ {l : List PySem.Env}, h.FunFrames B l → (∀ L ∈ frs l, h'.get? L = h.get? L) → h'.FunFrames B l
  | [], _, _ => trivial
  | env :: l, ⟨k, ⟨L, o, q1, q2, q3, q4⟩, r⟩, e => ⟨k, ⟨L, o, q1, q2, (e L (List.mem_filterMap.mpr ⟨env, List.mem_cons_self, q1⟩)).trans q3, q4⟩, frames_but r fun b hb => by
      obtain ⟨v, hv, q⟩ := List.mem_filterMap.mp hb
      exact e b (List.mem_filterMap.mpr ⟨v, List.mem_cons_of_mem _ hv, q⟩)⟩
section
variable {X : Cx} {pins : List (Addr × Obj)} {σ : L2.St} {E : XK} {C : Addr} {u : Value} {s' : Shared}
theorem air_of_cx {H3 H : Hp} {s3 sc : Shared} {fp : List Addr} (I : L2.Inv X pins σ H3 s3) (un : Un (frs X.stack) fp H3 H s3.heap sc.heap) (hok : HOk X.prog X.w H sc.heap) (os : sc.os = s3.os) (bare : AllBare sc.gens)
    (hfp : ∀ b ∈ fp, (b ∈ X.ex ∨ X.s_0.heap.objs.size ≤ b) ∧ b ≠ X.env.locals ∧ (∀ x c, X.env.cells.lookup x = some c → c ≠ b) ∧ ∀ p ∈ X.pn ++ pins, p.1 ≠ b) (hC : s3.heap.objs.size ≤ C) (nC : H C = none) (ns : ∃ m, sc.heap.Ns C m)
    (c : L2.CX X.prog X.w X.stack H sc E u s') : Air X pins σ E C (fly X) u s' ∧ ∃ m, s'.heap.Ns C m := by
  obtain ⟨a, B, H', cls, d, rfl, fl, hokB, ub, na, os2, ag, hE⟩ := c
  obtain ⟨m, o, es, ep, ho, rest⟩ := ns
  have ne : ∀ b v, s3.heap.get? b = some v → b ≠ C := fun b v e z => absurd (Nat.lt_of_lt_of_le (Heap.lt_size e) hC) (by rw [z]; exact Nat.lt_irrefl _)
  have off : C ∉ frs X.stack := fun hm => by
    obtain ⟨_, v, e, _⟩ := I.stack.mem hm
    exact ne C v e rfl
  obtain ⟨G, g1, g2, g3⟩ := without sc.heap C
  obtain ⟨B2, b1, b2, b3⟩ := without B C
  have nC2 : H' C = none := ub.free C o ho nC
  have J : L2.Inv X pins σ H { sc with heap := G } := by
    refine I.call' (ch := fp) os ⟨fun b v e n f x => ?_, fun b v e n f x => ?_, un.free, fun b v e x => ?_, un.tups, un.frzs, un.tbls⟩ (hok_without hok g1 nC) bare hfp
    · exact (g1 b (ne b v e)).trans (un.keep b v e n f x)
    · obtain ⟨sl, q⟩ := un.slot b v e n f x
      exact ⟨sl, (g1 b (ne b v e)).trans q⟩
    · obtain ⟨v2, q⟩ := un.there b v e x
      exact ⟨v2, (g1 b (ne b v e)).trans q⟩
  have none2 : ∀ b, B.get? b = none → B2.get? b = none := fun b e => by
    cases q : B2.get? b with
    | none => rfl
    | some v =>
      rw [b3 b v q] at e
      cases e
  obtain ⟨f1, f2, f3, oe, vs, T, oT, ts, t1, t2, t3, t4, t5, t6⟩ := fl
  refine ⟨⟨a, B2, H, H', { sc with heap := G }, cls, d, rfl, J, ⟨fun b v e => f1 b v (b3 b v e), none2 a f2, funFrames_none f3 fun L hL => none2 L (f3.mem hL).1, oe, vs, T, oT, ts, t1, t2, t3, t4, none2 T t5, t6⟩,
    hok_without hokB b1 nC2, ⟨fun b v e n f => ?_, fun b v e f => ub.slot b v (g3 b v e) f, fun b v e => ub.free b v (g3 b v e), fun b v e f => ?_, ub.tups, ub.frzs, ub.tbls⟩, b2, off, na, os2, ag, hE⟩,
    m, o, es, ep, f1 C o (ub.keep C o ho nC off), rest⟩
  · have hb : b ≠ C := fun z => by
      rw [z, g2] at e
      cases e
    exact (b1 b hb).trans (ub.keep b v (g3 b v e) n f)
  · have hb : b ≠ C := fun z => by
      rw [z, g2] at e
      cases e
    obtain ⟨v2, q⟩ := ub.there b v (g3 b v e) f
    exact ⟨v2, (b1 b hb).trans q⟩
theorem ub_slots {fs : List Addr} {H H' : Hp} {h B h1 h2 : Heap} {l : List PySem.Env} {B0 : Heap} (ub : UB (frs l) H H' h B h1) (ff : h1.FunFrames B0 l) (k : ∀ b ∈ frs l, ∀ o, h1.get? b = some o → (∀ vs, o.data ≠ .fields vs) → ∃ sl, h2.get? b = some { o with slots := sl }) : UB (frs l) H H' h B h2 := by
  refine ⟨ub.keep, fun b o e hb => ?_, ub.free, ub.there, ub.tups, ub.frzs, ub.tbls⟩
  obtain ⟨sl, q⟩ := ub.slot b o e hb
  obtain ⟨_, o2, q2, nf⟩ := ff.mem hb
  rw [q] at q2
  cases q2
  obtain ⟨sl2, q3⟩ := k b hb _ q nf
  exact ⟨sl2, q3⟩
theorem air_note {E1 : Value → Shared → Prop} (hs : X.stack = X.env :: X.outer) (hf : X.env.frame = some X.env.locals) (hfr : X.A.frames = some (X.env :: X.outer)) (x : Air X pins σ E C (fly X) u s') (ns : ∃ m, s'.heap.Ns C m) {Q : Unit → Shared → Prop}
    (hQ : ∀ h1, Air X pins σ E C (held X) u { s' with heap := h1 } → (∃ m, h1.Ns C m) → Q () { s' with heap := h1 }) : wpAny (model X.prog X.w) X.A (noteFrame u X.env) Q E1 s' := by
  obtain ⟨a, B, H, H', sG, cls, d, rfl, J, fl, hokB, ub, nB, off, na, os, ag, hE⟩ := x
  have fl2 : HandSPX.FlyingZ B (X.env :: X.outer) a (Zc cls d) s'.heap := hs ▸ fl
  refine HandSPX.looks_onZ Zc.steady hfr hf fl2 fun h1 hd up => hQ h1 ⟨a, B, H, H', sG, cls, d, rfl, J, ?_, hokB, ub_slots (fs := []) ub fl.2.2.1 fun b _ o e nf => up b o e nf, nB, off, na, os, ag, hE⟩ ?_
  · show HandSPX.HeldZ B X.stack a _ _ h1
    rw [hs]
    exact hd
  · obtain ⟨m, o, es, ep, ho, dd, r⟩ := ns
    obtain ⟨sl, q⟩ := up C o ho fun vs z => by
      rw [dd] at z
      cases z
    exact ⟨m, _, es, ep, q, dd, r⟩
theorem air_but {h' : Heap} (x : Air X pins σ E C (held X) u s') (ns : ∃ m, s'.heap.Ns C m) (sb : Heap.SameBut C s'.heap h') : Air X pins σ E C (held X) u { s' with heap := h' } := by
  obtain ⟨a, B, H, H', sG, cls, d, rfl, J, ⟨f1, f2, f3, oe, vs, T, oT, ts, t1, t2, t3, t4, t5, t6, t7, t8, t9⟩, hokB, ub, nB, off, na, os, ag, hE⟩ := x
  obtain ⟨m, o, es, ep, ho, hd, _⟩ := ns
  have notC : ∀ b v (ws : Array Value), s'.heap.get? b = some v → v.data = .fields ws → b ≠ C := fun b v ws e dd z => by
    rw [z, ho] at e
    cases e
    rw [hd] at dd
    cases dd
  have fr : ∀ L ∈ frs X.stack, h'.get? L = s'.heap.get? L := fun L hL => sb.2 L fun z => off (z ▸ hL)
  refine ⟨a, B, H, H', sG, cls, d, rfl, J, ⟨fun b v e => (sb.2 b fun z => ?_).trans (f1 b v e), f2, frames_but f3 fr, oe, vs, T, oT, ts, (sb.2 a (notC a _ _ t1 t3)).trans t1, t2, t3, t4, t5, t6, (sb.2 T (notC T _ _ t7 t8)).trans t7, t8, t9⟩, hokB,
    ub_slots (fs := []) ub f3 fun b hb v e _ => ⟨v.slots, (fr b hb).trans e⟩, nB, off, na, os, ag, hE⟩
  rw [z, nB] at e
  cases e
theorem air_xe (x : Air X pins σ E C (held X) u s') : XE X (fun cls d _ H => E cls d H) u s' := by
  obtain ⟨a, B, H, H', sG, cls, d, rfl, J, hd, hokB, ub, nB, off, na, os, ag, hE⟩ := x
  obtain ⟨G, g1, g2⟩ := restrict s'.heap fun b => decide (B.get? b ≠ none ∨ b ∈ frs X.stack)
  have onB : ∀ b o, B.get? b = some o → G.get? b = some o := fun b o e => (g1 b (by simp [e])).trans (hd.1 b o e)
  have onF : ∀ b ∈ frs X.stack, G.get? b = s'.heap.get? b := fun b hb => g1 b (by simp [hb])
  have back : ∀ b o, G.get? b = some o → s'.heap.get? b = some o ∧ (B.get? b ≠ none ∨ b ∈ frs X.stack) := fun b o e => by
    by_cases hp : B.get? b ≠ none ∨ b ∈ frs X.stack
    · rw [g1 b (decide_eq_true hp)] at e
      exact ⟨e, hp⟩
    · rw [g2 b (decide_eq_false hp)] at e
      cases e
  refine ⟨a, B, { sG with heap := G, gens := s'.gens, drawn := s'.drawn, toks := s'.toks }, pins, σ, H', cls, d, rfl, ?_, fun b o e nf => ?_, Heap.UpToSlots.of_keeps fun b o e => (back b o e).1, .inr (.inr hd), na, os, ag, hE⟩
  · refine J.call' (ch := []) rfl ⟨fun b o e n f _ => onB b o (ub.keep b o e n f), fun b o e n f _ => ?_, fun b o e n _ => ub.free b o e n, fun b o e _ => ?_, ub.tups, ub.frzs, ub.tbls⟩ (hokB.kept onB) ag fun _ z => nomatch z
    · obtain ⟨sl, q⟩ := ub.slot b o e f
      exact ⟨sl, (onF b f).trans q⟩
    · by_cases hb : b ∈ frs X.stack
      · obtain ⟨sl, q⟩ := ub.slot b o e hb
        exact ⟨_, (onF b hb).trans q⟩
      · obtain ⟨o2, q⟩ := ub.there b o e hb
        exact ⟨o2, onB b o2 q⟩
  · obtain ⟨e1, z | z⟩ := back b o e
    · cases q : B.get? b with
      | none => exact absurd q z
      | some o2 =>
        have y := hd.1 b o2 q
        rw [e1] at y
        cases y
        rfl
    · exact absurd z nf
theorem air_pass {what : String} {ce : PySem.Env} (tk : Takes X fun cls d _ H => E cls d H) (hce : ce.frame = some X.env.locals) (x : Air X pins σ E C (held X) u s') : wpAny (model X.prog X.w) X.A (passOn what u ce : Sem Value) (fun _ _ => False) X.xe s' := by
  obtain ⟨a, B, H, H', sG, cls, d, rfl, J, hd, hokB, ub, nB, off, na, os, ag, hE⟩ := x
  obtain ⟨f1, f2, f3, t⟩ := id hd
  obtain ⟨oe, vs, T, oT, ts, t1, t2, t3, t4, t5, t6⟩ := id t
  unfold PySem.passOn
  refine wpAny_bind (wpAny_field t1 t3 t4 ?_)
  rw [if_neg (show ¬ ((Value.ref T == Value.none) = true) from by simp), hce]
  have fin : wpAny (model X.prog X.w) X.A (setFlight (.ref a) (some X.env.locals)) (fun _ s4 => wpAny (model X.prog X.w) X.A (throw (.ref a) : Sem Value) (fun _ _ => False) X.xe s4) X.xe s' :=
    HandSPX.setFlight_anyZ f1 f3 t fun h' k1 k2 k3 k4 => wpAny_throw (tk _ _ (air_xe ⟨a, B, H, H', sG, cls, d, rfl, J, ⟨k1, f2, k2, k3⟩, hokB, ub_slots (fs := []) ub f3 fun b _ o e nf => k4 b o e nf, nB, off, na, os, ag, hE⟩))
  first
    | exact wpAny_bind (wpAny_pure (wpAny_bind fin))
    | exact wpAny_bind fin
end
end Tf
namespace Tf
open PySem PySem.Spec L2 PyProof.Rows
/-- the block's context, with a wish of its own -/
abbrev blkX (X : Cx) (s : Shared) (H : Hp) (scope : Scope) (ce : PySem.Env) (fp : List Addr) (xe : Value → Shared → Prop) : Cx := (X.blk s H scope ce fp).wish xe
section
variable {X : Cx} {pins : List (Addr × Obj)} {σ : L2.St} {H : Hp} {s : Shared}
theorem note_same {x : Value} {ce env : PySem.Env} (h : ce.frame = env.frame) : noteFrame x ce = noteFrame x env := by
  unfold noteFrame PySem.frameOf
  rw [h]
theorem lcX_core {elt tg iter : Expr} {scope : Scope} {own : List (Str × Nat)} {pos pos' : Pos} {wi : TI} {g : TG} {te : TE} {Q : VK} {use : Option (Value → Sem Unit)} {Qf : Value → Shared → Prop} {E : XK}
    (hs : X.stack = X.env :: X.outer) (hf : X.env.frame = some X.env.locals) (hc : X.calm = true) (hN : X.N.Nodup) (I : L2.Inv X pins σ H s) (hi : PI X tg iter wi) (ok : BlkOk X.N X.env.scope scope own) (tk : Takes X fun cls d _ H => E cls d H)
    (hg : ∀ (s : Shared) (H : Hp) (C : Addr) (cl : List (Str × Addr)) (fp : List Addr) (xe : Value → Shared → Prop), PG (blkX X s H scope (compEnvC scope cl C X.env) fp xe) tg g)
    (he : ∀ (s : Shared) (H : Hp) (C : Addr) (cl : List (Str × Addr)) (fp : List Addr) (xe : Value → Shared → Prop), (∀ σ, PassesAt (L2.CX X.prog X.w) (blkX X s H scope (compEnvC scope cl C X.env) fp xe) σ E) → PE (blkX X s H scope (compEnvC scope cl C X.env) fp xe) elt te)
    (hsi : ∀ x, foldedSetIterable iter X.env x = pure x) (h : tLc wi g tYes te (own.map (·.2)) σ H Q)
    (fin : ∀ (D : Addr) (ce : PySem.Env) (s' : Shared) (m : Str → Option Value) (H' : Hp), L2.Inv X pins σ H' s' → Q (.ref D) H' → s'.heap.Ns ce.locals m → FpOk X pins H' ce.locals → cEnd (model X.prog X.w) X.A X.xe use Qf (.ref D) ce (.ok .next) s') :
    wpAny (model X.prog X.w) X.A (comprehension (.ListComp elt [⟨tg, iter, [], 0⟩] scope pos) scope X.env pos' (newList []) false (eval iter X.env) use) Qf X.xe s := by
  have hfr : X.A.frames = some (X.env :: X.outer) := by rw [I.ok.frames, hs]
  have seen : ∀ y ∈ scope.names, y.2 = .free → ∃ c, X.env.cells.lookup y.1 = some c := by
    intro y hy e
    rcases ok.free y hy e with z | z
    · exact I.ok.has _ (.inl z)
    · exact I.ok.has _ (.inr z)
  refine comp_raises (use := use) rfl hsi (closure_ok seen) ok.kind (fun y hy e => by rw [ok.uniq y hy, e]) ?_
  refine thn (hi.run pins s σ H _ I h) fun xv s1 h1 => thn h1 fun itv s2 h2 => ?_
  obtain ⟨it, fp, tn, J, H2, rfl, I2, T, st2, f2, q⟩ := h2
  refine wpAny_newObj_type (newEnv_comp ?_) (Nat.zero_le _)
  generalize hD : s2.heap.objs.size = D
  have newD : H2 D = none := I2.hok.fresh (Nat.le_of_eq hD)
  obtain ⟨W, ⟨m0, w0⟩, turn⟩ := q D newD
  generalize hs3 : ({ s2 with heap := s2.heap.push { cls := .type "list", data := .seq ([] : List Value).toArray } } : Shared) = s3
  have h3 : s3.heap = s2.heap.push { cls := .type "list", data := .seq ([] : List Value).toArray } := by rw [← hs3]
  have I3 : L2.Inv X pins σ (upd H2 D (.lst [])) s3 := by
    subst hs3
    refine I2.laid (t' := s2.toks) (fun b o z => Heap.get?_push_of_some _ z) (Nat.le_of_eq hD) ⟨Nat.zero_le _, [], 0, .nil, ?_⟩
    subst hD
    exact Heap.get?_push_size _ rfl
  have small : ∀ b ∈ fp, b < s2.heap.objs.size := fun b hb => by
    obtain ⟨_, z, _⟩ := T.obj _ _ st2 b hb
    exact Heap.lt_size z
  have f3 : ∀ b ∈ fp, FpOk X pins (upd H2 D (.lst [])) b ∧ b < s3.heap.objs.size := fun b hb => by
    have lt := small b hb
    obtain ⟨k0, k1⟩ := f2 b hb
    refine ⟨⟨?_, k1⟩, by rw [h3, Heap.size_push]; exact Nat.lt_succ_of_lt lt⟩
    rw [upd_ne (fun z => absurd lt (by rw [z, hD]; exact Nat.lt_irrefl _))]
    exact k0
  have st3 : tn 0 s3.heap := T.keep _ _ _ st2 fun b _ o z => by
    rw [h3]
    exact Heap.get?_push_of_some _ z
  have I4 := block_start I3 ok hN f3
  show codeAny _ _ (.compStart (.ListComp elt [⟨tg, iter, [], 0⟩] scope pos) 0 (.ref it) (.ref D) (compEnvC scope (cellsFrom (s3.heap.objs.size + 1) scope.names (cloFrom X.env.cells scope.names [])) s3.heap.objs.size X.env)) (cEnd (model X.prog X.w) X.A X.xe use Qf (.ref D) (compEnvC scope (cellsFrom (s3.heap.objs.size + 1) scope.names (cloFrom X.env.cells scope.names [])) s3.heap.objs.size X.env)) { s3 with heap := pushCells (s3.heap.push { cls := .type "dict", data := .dict #[] }) scope.names }
  generalize hH3 : upd H2 D (.lst []) = H3 at I3 I4 w0 f3
  generalize hC : s3.heap.objs.size = C at I4 ⊢
  generalize hcl : cellsFrom (C + 1) scope.names (cloFrom X.env.cells scope.names []) = cl at I4 ⊢
  generalize hs4 : ({ s3 with heap := pushCells (s3.heap.push { cls := .type "dict", data := .dict #[] }) scope.names } : Shared) = s4 at I4 ⊢
  have st4 : tn 0 s4.heap := T.keep _ _ _ st3 fun b _ o z => by
    subst hs4
    exact pushCells_keeps _ _ _ _ (Heap.get?_push_of_some _ z)
  have hfp : ∀ b ∈ fp, (b ∈ X.ex ∨ X.s_0.heap.objs.size ≤ b) ∧ b ≠ X.env.locals ∧ (∀ x c, X.env.cells.lookup x = some c → c ≠ b) ∧ ∀ p ∈ X.pn ++ pins, p.1 ≠ b := fun b hb => by
    obtain ⟨⟨_, k1, _, k2, k3, k4⟩, _⟩ := f3 b hb
    exact ⟨k2, k1, k3, k4⟩
  -- what the element may let out
  let xeC : Value → Shared → Prop := fun u s' => Air X pins σ E C (fly X) u s' ∧ ∃ m, s'.heap.Ns C m
  have pe := he s3 H3 C cl fp xeC fun σb pb Hb sb e s' Ib c => by
    have fr : Hb C = none := Ib.free
    obtain ⟨m, hm, _⟩ := Ib.loc
    exact air_of_cx I3 Ib.base Ib.hok Ib.os Ib.bare hfp (Nat.le_of_eq hC) fr ⟨m, hm⟩ c
  have pg := hg s3 H3 C cl fp xeC
  generalize hcE : compEnvC scope cl C X.env = ce at I4 pe pg ⊢
  have cL : ce.locals = C := by subst hcE; rfl
  have cF : ce.frame = X.env.frame := by subst hcE; rfl
  have I4 : L2.Inv (blkX X s3 H3 scope ce fp xeC) [] (wipe σ (own.map (·.2))) H3 s4 := I4.wish _
  have out : ∀ u s', xeC u s' → notedBy (model X.prog X.w) X.A ce (fun e s' => cEnd (model X.prog X.w) X.A X.xe use Qf (.ref D) ce (.error e) s') u s' := by
    rintro u s' ⟨x, n⟩
    unfold notedBy
    rw [note_same cF]
    refine air_note hs hf hfr x n fun h1 x1 n1 => ?_
    obtain ⟨m1, k1⟩ := n1
    show ∃ m, h1.Ns ce.locals m ∧ _
    rw [cL]
    exact ⟨m1, k1, fun h2 sb => air_pass tk (cF.trans hf) (air_but x1 ⟨m1, k1⟩ sb)⟩
  have stat : ∀ {σ' : L2.St} {H' : Hp} {s' : Shared}, L2.Inv (blkX X s3 H3 scope ce fp xeC) [] σ' H' s' → (∀ b ∈ fp, H' b = none) → ∀ b ∈ fp, FpOk (blkX X s3 H3 scope ce fp xeC) [] H' b := fun {σ' H' s'} I' n b hb =>
    ⟨n b hb, (I'.ok.exf b hb).1, I'.ok.exfs b hb, .inl hb, fun x c e => (I'.ok.exf b hb).2 x c e, fun p hp => absurd (show p ∈ ([] : List (Addr × Obj)) ++ [] from hp) (by simp)⟩
  have loop : codeAny (model X.prog X.w) X.A (.compLoop (.ListComp elt [⟨tg, iter, [], 0⟩] scope pos) 0 (.ref it) (.ref D) ce) (cEnd (model X.prog X.w) X.A X.xe use Qf (.ref D) ce) s4 := by
    refine compLoop_any (fun n s' => ∃ i H', L2.Inv (blkX X s3 H3 scope ce fp xeC) [] (wipe σ (own.map (·.2))) H' s' ∧ tn i s'.heap ∧ (∀ b ∈ fp, H' b = none) ∧ W i n H') ?_ m0 ⟨0, H3, I4, st4, fun b hb => (f3 b hb).1.1, w0⟩
    rintro n s5 ⟨i, H5, I5, st5, n5, w5⟩
    rcases turn i n H5 w5 with ⟨stop, qq⟩ | ⟨go, Nx, hNx, step⟩
    · refine thnF (T.done (blkX X s3 H3 scope ce fp xeC) rfl rfl rfl hc i [] s5 _ H5 (fun _ _ => False) I5 (stat I5 n5) st5 stop) fun r s6 ⟨hr, I6⟩ => ?_
      subst hr
      have I7 : L2.Inv X pins σ H5 s6 := I3.call' (ch := fp) I6.os I6.base I6.hok I6.bare hfp
      have nC : H5 C = none := by
        have z : H5 ce.locals = none := I6.free
        rw [cL] at z
        exact z
      obtain ⟨m, hn, _⟩ := I6.loc
      refine fin D ce s6 m H5 I7 qq hn ?_
      rw [cL]
      exact I3.fpOk (Nat.le_of_eq hC) nC
    · refine thnF (T.item (blkX X s3 H3 scope ce fp xeC) rfl rfl rfl hc i [] s5 _ H5 (fun _ _ => False) I5 (stat I5 n5) st5 go) fun r s6 ⟨u, hr, h6⟩ => ?_
      subst hr
      refine thnF h6 fun _ s7 ⟨x, H7, I7, r7, y7, st7, n7⟩ => ?_
      have P7 := I7.pinned (stat I7 n7) (T.obj _ _ st7)
      refine wpAny_mono (pg.run _ s7 _ H7 x u _ P7 r7 (step x H7 y7)) (fun _ s8 ⟨σ8, H8, I8, hw8, q8⟩ => ?_) out
      show wpAny _ _ (pure true : Sem Bool) _ _ _
      refine wpAny_pure ?_
      have q8 : te σ8 H8 fun y H4 => ∃ acc, H4 D = some (.lst acc) ∧ acc.length < sizeLine ∧ Nx (upd H4 D (.lst (acc ++ [y]))) := by
        have z := q8
        unfold tYes at z
        exact z
      refine wpAny_mono (pe.run _ s8 σ8 H8 _ I8 q8) (fun z s10 ⟨yv, H10, I10, r10, acc, hD10, hz10, nx⟩ => ?_) out
      refine app_ok (X := blkX X s3 H3 scope ce fp xeC) I10 hD10 hz10 r10 fun s11 I11 => ?_
      obtain ⟨m2, lt, w2⟩ := hNx _ nx
      have pin2 : ∀ b ∈ fp, ∀ o, s7.heap.get? b = some o → s11.heap.get? b = some o ∧ _ = none := fun b hb o e =>
        let z := I11.pin (b, o) (List.mem_append_right _ (List.mem_append_right _ (mem_pinsAt hb e)))
        ⟨z.1, z.2.1⟩
      refine ⟨m2, lt, i + 1, _, (I11.unpinned (pins := [])).weak (by rw [← hw8, wipe_length]) (fun j v e => ?_), T.keep _ _ _ st7 fun b hb o e => (pin2 b hb o e).1, fun b hb => ?_, w2⟩
      · rw [← hw8] at e
        exact (wipe_some e).1
      · obtain ⟨o, e, _⟩ := T.obj _ _ st7 b hb
        exact (pin2 b hb o e).2
  exact codeAny_compStart_list loop (T.self X.A 0 _ _ _ st4 loop)
end
end Tf
namespace Tf
open PySem PySem.Spec L2 PyProof.Rows
section
variable {X : Cx}
theorem pe_lcX {elt tg iter : Expr} {scope : Scope} {own : List (Str × Nat)} {pos : Pos} {wi : TI} {g : TG} {te : TE} {E : XK}
    (hs : X.stack = X.env :: X.outer) (hf : X.env.frame = some X.env.locals) (hc : X.calm = true) (hN : X.N.Nodup) (tk : Takes X fun cls d _ H => E cls d H) (hi : PI X tg iter wi) (ok : BlkOk X.N X.env.scope scope own)
    (hg : ∀ (s : Shared) (H : Hp) (C : Addr) (cl : List (Str × Addr)) (fp : List Addr) (xe : Value → Shared → Prop), PG (blkX X s H scope (compEnvC scope cl C X.env) fp xe) tg g)
    (he : ∀ (s : Shared) (H : Hp) (C : Addr) (cl : List (Str × Addr)) (fp : List Addr) (xe : Value → Shared → Prop), (∀ σ, PassesAt (L2.CX X.prog X.w) (blkX X s H scope (compEnvC scope cl C X.env) fp xe) σ E) → PE (blkX X s H scope (compEnvC scope cl C X.env) fp xe) elt te)
    (hsi : ∀ x, foldedSetIterable iter X.env x = pure x := by intro _; rfl) : PE X (.ListComp elt [⟨tg, iter, [], 0⟩] scope pos) (tLc wi g tYes te (own.map (·.2))) := by
  constructor
  intro pins s σ H Q I h
  rw [eval_ListComp]
  refine lcX_core hs hf hc hN I hi ok tk hg he hsi h fun D ce s1 m H1 J q n f => ?_
  obtain ⟨k0, k1, k2, k3, k4, k5⟩ := f
  exact ⟨m, n, fun h2 sb => ⟨.ref D, H1, J.turned (t' := s1.toks) (fun b o hb z => (sb.2 b hb).trans z) k0 k1 k3 k4 k5, rfl, q⟩⟩
theorem ps_setLcX {i : Nat} {y : Str} {py : Pos} {elt tg iter : Expr} {scope : Scope} {own : List (Str × Nat)} {pos spos : Pos} {wi : TI} {g : TG} {te : TE} {E : XK}
    (hs : X.stack = X.env :: X.outer) (hf : X.env.frame = some X.env.locals) (hc : X.calm = true) (hN : X.N.Nodup) (tk : Takes X fun cls d _ H => E cls d H) (hy : X.N[i]? = some y) (hyl : X.env.scope.names.lookup y = some .local)
    (hsw : swapsWith (.ListComp elt [⟨tg, iter, [], 0⟩] scope pos) (some (.Name y py)) spos.line X.env = pure true) (hi : PI X tg iter wi) (ok : BlkOk X.N X.env.scope scope own)
    (hg : ∀ (s : Shared) (H : Hp) (C : Addr) (cl : List (Str × Addr)) (fp : List Addr) (xe : Value → Shared → Prop), PG (blkX X s H scope (compEnvC scope cl C X.env) fp xe) tg g)
    (he : ∀ (s : Shared) (H : Hp) (C : Addr) (cl : List (Str × Addr)) (fp : List Addr) (xe : Value → Shared → Prop), (∀ σ, PassesAt (L2.CX X.prog X.w) (blkX X s H scope (compEnvC scope cl C X.env) fp xe) σ E) → PE (blkX X s H scope (compEnvC scope cl C X.env) fp xe) elt te)
    (hsi : ∀ x, foldedSetIterable iter X.env x = pure x := by intro _; rfl) : PS X (.Assign [.Name y py] (.ListComp elt [⟨tg, iter, [], 0⟩] scope pos) spos) (tAsg (tLc wi g tYes te (own.map (·.2))) (gName i)) := by
  constructor
  intro pins s σ H D I h
  rw [exec_Assign_Name_used _ _ _ _ hsw]
  refine wpAny_bind (wpAny_standAt (wpAny_bind ?_))
  show wpAny _ X.A (do let _ ← comprehension (.ListComp elt [⟨tg, iter, [], 0⟩] scope pos) scope X.env (firstIterPos [⟨tg, iter, [], 0⟩] pos) (newList []) false (eval iter X.env) (some (assign (.Name y py) X.env))) _ _ s
  have h2 : tLc wi g tYes te (own.map (·.2)) σ H (fun x H1 => gName i x σ H1 D.nx) := h
  refine wpAny_bind (thn (lcX_core (Qf := fun _ s1 => SP X pins D .next s1) hs hf hc hN I hi ok tk hg he hsi h2 fun L ce s1 m H1 J q n f => ?_) fun _ s1 z => wpAny_pure (wpAny_pure z))
  show wpAny _ _ (assign (.Name y py) X.env (.ref L)) _ _ _
  refine wpAny_assign_Name (store_ok2 (v := V.ref L) J hN hy (.inl hyl) rfl (fun s2 J2 ⟨a, sb, ha⟩ => ?_) (.inr hyl))
  obtain ⟨k0, k1, k2, k3, k4, k5⟩ := f
  have away : ce.locals ≠ a := by
    rcases ha with z | z
    · rw [z]
      exact k1
    · intro e
      exact k4 y a z e.symm
  exact ⟨m, n.sameBut sb away, fun h3 sb3 => ⟨_, H1, J2.turned (t' := s2.toks) (fun b o hb z => (sb3.2 b hb).trans z) k0 k1 k3 k4 k5, q⟩⟩
theorem pe_calXc {k k' : Nat} {x : Str} {ps : List Str} {sp : Sp} {p pos : Pos} {e : Expr} {es : List Expr} {t : TA} {E : XK} (C : CalX X.prog X.w X.K X.mg X.base k x ps sp) (hr : Room k' X.A) (hk : k ≤ k') (hg : Gl X x) (hx : ∀ σ, PassesAt (L2.CX X.prog X.w) X σ E) (ha : PA X (e :: es) t)
    (hdb : (x == ("__debug__" : Str)) = false := by decide) (he : starEach (e :: es) X.env = (false, eval e X.env) :: starEach es X.env := by rfl) (hpl : (backTo pos (starEach es X.env)).any (·.1) = false := by rfl) :
    PE X (.Call (.Name x p) (e :: es) [] pos) (tCallS sp (fun _ => E) t) := pe_callS C.ok (hr.mono hk) hg C.g C.kp C.b hx ha hdb he hpl
end
/-! its reading -/
def mapX {α β : Type} (f : α → Option (Ex β)) : List α → Option (Ex (List β))
  | [] => some (.ok [])
  | x :: r => bindX (f x) fun y => bindX (mapX f r) fun ys => some (.ok (y :: ys))
theorem bindX_some {α β : Type} {m : Option (Ex α)} {k : α → Option (Ex β)} {r : Ex β} (h : bindX m k = some r) : (∃ a, m = some (.ok a) ∧ k a = some r) ∨ ∃ e, m = some (.err e) ∧ r = .err e := by
  obtain ⟨a, e, h⟩ := bind_some h
  cases a with
  | ok a => exact .inl ⟨a, e, h⟩
  | err x =>
    cases h
    exact .inr ⟨x, e, rfl⟩
theorem mapX_len {α β : Type} {f : α → Option (Ex β)} : ∀ {xs : List α} {ys : List β}, mapX f xs = some (.ok ys) → ys.length = xs.length
  | [], ys, h => by cases h; rfl
  | x :: r, ys, h => by
    rcases bindX_some (show bindX (f x) _ = _ from h) with ⟨y, _, h⟩ | ⟨_, _, h⟩
    · rcases bindX_some h with ⟨zs, hz, h⟩ | ⟨_, _, h⟩
      · cases h
        rw [List.length_cons, List.length_cons, mapX_len hz]
      · cases h
    · cases h
def glueX {β : Type} (done : List β) : Ex (List β) → Ex (List β)
  | .ok l => .ok (done ++ l)
  | .err e => .err e
theorem ev_lcX {K : Fg} {es : Env K} {w : Er → Hp → Prop} {α β : Type} [j : Rep K β] {wi : TI} {g : TG} {tgt : List Nat} {te : TE} {vs : List Nat} {m : Option (List α)} {bind : α → Env K → Env K} {f : α → Option (Ex β)}
    (hI : EvI wi g tgt es m bind) (hv : ∀ k, k ∈ tgt → k ∈ vs) (he : ∀ x, EvX (RV j) (fun _ => w) te (bind x (wipeE es vs)) (f x)) : EvX (RN j) (fun _ => w) (tLc wi g tYes te vs) es (m.bind fun xs => mapX f xs) := by
  intro a ha F H ad σ rs Q q
  obtain ⟨xs, hm, hc⟩ := bind_some ha
  refine hI xs hm F H ad σ rs _ fun J F1 H1 g1 ok => ?_
  intro D hD
  have hDH : H D = none := g1.hh.free hD
  refine ⟨fun i n H' => i ≤ xs.length ∧ n = xs.length - i ∧ ∃ F' ws done rest, Grow F1 H1 F' H' ∧ F' D = none ∧ H' D = some (.lst ws) ∧ Paired (j.At F') ws done ∧ done.length = i ∧ mapX f (xs.drop i) = some rest ∧ glueX done rest = a,
    ⟨xs.length, Nat.zero_le _, rfl, F1, [], [], a, Grow.make (rs.grow g1).ex hD, (rs.grow g1).ex.free hD, upd_same, .nil, rfl, hc, by cases a <;> rfl⟩, ?_⟩
  rintro i n H' ⟨hi, rfl, F', ws, done, rest, g2, f2, h2, pr, hl, hr, hd⟩
  rcases Nat.lt_or_ge i xs.length with hlt | hge
  · have hx : xs[i]? = some xs[i] := List.getElem?_eq_getElem hlt
    refine .inr ⟨ok.go i _ hx H' (g2.ff.trans g2.ex), fun H2 => ∃ F' ws done rest, Grow F1 H1 F' H2 ∧ F' D = none ∧ H2 D = some (.lst ws) ∧ Paired (j.At F') ws done ∧ done.length = i + 1 ∧ mapX f (xs.drop (i + 1)) = some rest ∧ glueX done rest = a,
      fun H2 h => ⟨xs.length - (i + 1), by omega, hlt, rfl, h⟩, fun v H2 hy => ?_⟩
    have r' : RSt K F' H' ad (L2.wipe σ vs) (wipeE es vs) := ((rs.grow g1).grow g2).wipe vs
    refine ok.it i _ hx F' H' v H2 g2.ff g2.ex hy ad _ _ r' _ fun F3 H3 σ3 g3 r3 hk hlen => ?_
    refine ⟨by rw [wipe_ext hlen fun k hk2 => hk k fun z => hk2 (hv k z), wipe_idem], ?_⟩
    rw [drop_cons hx] at hr
    have k3 : H3 D = some (.lst ws) := g3.hh _ _ h2
    have n3 : F3 D = none := g3.fr _ _ h2 lst_flat f2
    show te σ3 H3 _
    rcases bindX_some (show bindX (f xs[i]) _ = some rest from hr) with ⟨y, hy2, hr⟩ | ⟨e, hy2, rfl⟩
    · refine he xs[i] (.ok y) hy2 F3 H3 ad σ3 r3 _ fun w F5 H5 g5 aw => ?_
      have aw : j.At F5 w y := aw
      have k5 : H5 D = some (.lst ws) := g5.hh _ _ k3
      have n5 : F5 D = none := g5.fr _ _ k3 lst_flat n3
      have g35 := (g2.trans g3).trans g5
      obtain ⟨rest2, hr2, hd2⟩ : ∃ rest2, mapX f (xs.drop (i + 1)) = some rest2 ∧ glueX (done ++ [y]) rest2 = a := by
        rcases bindX_some hr with ⟨ys, h5, h6⟩ | ⟨e, h5, rfl⟩
        · cases h6
          exact ⟨_, h5, by rw [← hd]; show Ex.ok _ = Ex.ok _; rw [List.append_assoc]; rfl⟩
        · exact ⟨_, h5, hd⟩
      have len := Paired.length pr
      have sz := ok.sz
      refine ⟨ws, k5, by omega, F5, ws ++ [w], done ++ [y], rest2, ⟨g35.ff, fun b x z => ?_, fun b x z => ?_, g35.fr⟩, n5, upd_same, paired_snoc (pmono pr fun _ _ z => j.mono (g3.ff.trans g5.ff) z) aw, by rw [List.length_append, hl]; rfl, hr2, hd2⟩
      · rw [upd_ne (ne_of_none z hD)]
        exact g35.hh _ _ z
      · rw [upd_ne (ne_of_none z n5)]
        exact g35.ex _ _ z
    · refine he xs[i] (.err e) hy2 F3 H3 ad σ3 r3 _ fun F5 H5 g5 => ?_
      have e2 : a = .err e := hd.symm
      subst e2
      exact q F5 H5 (((g1.trans g2).trans g3).trans g5)
  · have e : i = xs.length := Nat.le_antisymm hi hge
    subst e
    rw [List.drop_length] at hr
    cases hr
    have e2 : a = .ok done := by
      rw [← hd]
      show Ex.ok _ = _
      rw [List.append_nil]
    subst e2
    have len := Paired.length pr
    have sz := ok.sz
    exact .inl ⟨ok.st H' (g2.ff.trans g2.ex), q (.ref D) F' H' (g1.trans g2) ⟨D, rfl, hDH, f2, ws, h2, by omega, pr⟩⟩
theorem ev_callXc {K : Fg} [Nms K] {es : Env K} {ι ρ : Type} {R : RR ρ} [GoodR R] {ta : TA} {enc : ι → Env K} {f : ι → Option (Ex ρ)} {M : (ι → Option (Ex ρ)) → Option (Ex ρ)} {E : XK} (h : EvA ta es M enc) : EvX R (fun _ => wE K E) (tCallS (SpX enc f R) (fun _ => E) ta) es (M f) := ev_callX (W := fun _ => E) h
end Tf
set_option Elab.async false
set_option linter.all false
set_option maxRecDepth 100000
set_option maxHeartbeats 4000000
namespace Tf
open PySem PySem.Spec L2 PyProof.Rows

/-! ### a loop whose block may raise -/
def forX {S α : Type} (step : S → α → Option (Ex S)) : List α → S → Option (Ex S)
  | [], s => some (.ok s)
  | x :: xs, s => bindX (step s x) fun s' => forX step xs s'
section
variable {K : Fg} {ρ X : Type} {R : RR ρ} {φ : X → Fl K ρ} {w : Er → Hp → Prop} {es : Env K} {tz tb : TS} {wi : TI} {g : TG} {tgt : List Nat} {α S : Type} {m : Option (List α)} {bind : α → Env K → Env K} {enc : S → Env K}
theorem sv_forX0 [GoodR R] {s0 : S} {step : S → α → Option (Ex S)} (hI : EvI wi g tgt (enc s0) m bind) (hb : ∀ s x, Sx R (Xl (fun s => .nx (enc s)) w) tb (bind x (enc s)) (step s x)) :
    Sx R (Xl (fun s => .nx (enc s)) w) (tFor wi g tb) (enc s0) (m.bind fun xs => forX step xs s0) := by
  intro fl hfl F H ad σ D rs fo
  obtain ⟨lp, hlp, hfl⟩ := map_some hfl
  obtain ⟨xs, hm, hf⟩ := bind_some hlp
  subst hfl
  refine hI xs hm F H ad σ rs _ fun J F1 H1 g1 ok => ?_
  have fo1 := fo.trans (ow1 := OwA (enc s0) ad) g1.adv fun p z => .inl z
  refine ⟨fun i n σ' H' => i ≤ xs.length ∧ n = xs.length - i ∧ ∃ F' ad' s, Adv (OwA (enc s0) ad) F1 H1 F' H' ∧ (∀ p, OwA (enc s) ad' p → OwA (enc s0) ad p ∨ H1 p = none) ∧ RSt K F' H' ad' σ' (enc s) ∧ forX step (xs.drop i) s = some lp,
    ⟨xs.length, Nat.zero_le _, rfl, F1, ad, s0, Adv.refl, fun p z => .inl z, rs.grow g1, hf⟩, ?_⟩
  rintro i n σ' H' ⟨hi, rfl, F', ad', s, a, sb, r, hd⟩
  rcases Nat.lt_or_ge i xs.length with hlt | hge
  · have hx : xs[i]? = some xs[i] := List.getElem?_eq_getElem hlt
    refine .inr ⟨ok.go i _ hx H' (a.ff.trans r.ex), fun σ2 H2 => ∃ F2 ad2 s2, Adv (OwA (enc s0) ad) F1 H1 F2 H2 ∧ (∀ p, OwA (enc s2) ad2 p → OwA (enc s0) ad p ∨ H1 p = none) ∧ RSt K F2 H2 ad2 σ2 (enc s2) ∧ forX step (xs.drop (i + 1)) s2 = some lp,
      fun σ2 H2 h2 => ⟨xs.length - (i + 1), by omega, hlt, rfl, h2⟩, fun v H2 hy => ?_⟩
    refine ok.it i _ hx F' H' v H2 a.ff r.ex hy ad' σ' _ r _ fun F3 H3 σ3 g3 r3 _ _ => ?_
    rw [drop_cons hx] at hd
    have sb3 : ∀ p, OwA (bind xs[i] (enc s)) ad' p → OwA (enc s0) ad p ∨ H1 p = none := fun p z => sb p (ok.bo _ _ _ _ z)
    have a3 : Adv (OwA (enc s0) ad) F1 H1 F3 H3 := a.trans (ow1 := OwA (enc s) ad') sb g3.adv
    rcases bindX_some (show bindX (step s xs[i]) _ = some lp from hd) with ⟨s2, h2, hd⟩ | ⟨e, h2, rfl⟩
    · refine hb s xs[i] (.nx (enc s2)) (by rw [h2]; rfl) F3 H3 ad' σ3 _ r3 ?_
      exact fun F4 H4 ad4 σ4 b sb4 r4 => ⟨F4, ad4, s2, a3.trans sb3 b, fun p z => sub_trans a3 sb3 (sb4 p z), r4, hd⟩
    · refine hb s xs[i] (.ex (w e)) (by rw [h2]; rfl) F3 H3 ad' σ3 _ r3 ?_
      exact fun F4 H4 b ex => fo1 F4 H4 (a3.trans sb3 b) ex
  · have e : i = xs.length := Nat.le_antisymm hi hge
    subst e
    rw [List.drop_length] at hd
    cases hd
    exact .inl ⟨ok.st H' (a.ff.trans r.ex), fo1 F' H' ad' σ' a sb r⟩
theorem sx_forX [GoodR R] {s0 : S} {step : S → α → Option (Ex S)} {k : S → Option (Ex X)} (hI : EvI wi g tgt es m bind) (he : es = enc s0) (hb : ∀ s x, Sx R (Xl (fun s => .nx (enc s)) w) tb (bind x (enc s)) (step s x))
    (hk : ∀ s, Sx R (Xl φ w) tz (enc s) (k s)) : Sx R (Xl φ w) (tSeq (tFor wi g tb) tz) es (bindX (m.bind fun xs => forX step xs s0) k) := by
  subst he
  exact sx_seqX (sv_forX0 hI hb) hk
theorem sx_forXQ [GoodR R] {xs : List α} {s0 : S} {step : S → α → Option (Ex S)} {k : S → Option (Ex X)} (hI : EvI wi g tgt es (some xs) bind) (he : es = enc s0) (hb : ∀ s x, Sx R (Xl (fun s => .nx (enc s)) w) tb (bind x (enc s)) (step s x))
    (hk : ∀ s, Sx R (Xl φ w) tz (enc s) (k s)) : Sx R (Xl φ w) (tSeq (tFor wi g tb) tz) es (bindX (forX step xs s0) k) := sx_forX (m := some xs) hI he hb hk
end
end Tf
set_option Elab.async false
set_option linter.all false
set_option maxRecDepth 100000
set_option maxHeartbeats 4000000
namespace Tf
open PySem PySem.Spec L2 PyProof.Rows

/-! ### texts: what is told of them is sealed -/
def splitO_d (a b : Str) : Option (List Str) := if (b.length == 0) = false ∧ a.length + 2 ≤ 16777216 then some (Txt.split a b) else none
theorem splitO_ex : ∃ f : Str → Str → Option (List Str), f = splitO_d := ⟨splitO_d, rfl⟩
noncomputable def splitO : Str → Str → Option (List Str) := Classical.choose splitO_ex
theorem splitO_eq (a b : Str) : splitO a b = splitO_d a b := by
  have h : splitO = splitO_d := Classical.choose_spec splitO_ex
  rw [h]
def joinO_d (a : Str) (ys : List Str) : Option Str := if (ys.map (·.length)).sum + ys.length * a.length ≤ 16777216 then some (Txt.join a ys) else none
theorem joinO_ex : ∃ f : Str → List Str → Option Str, f = joinO_d := ⟨joinO_d, rfl⟩
noncomputable def joinO : Str → List Str → Option Str := Classical.choose joinO_ex
theorem joinO_eq (a : Str) (ys : List Str) : joinO a ys = joinO_d a ys := by
  have h : joinO = joinO_d := Classical.choose_spec joinO_ex
  rw [h]
def lenSO_d (a : Str) : Option Int := if a.length ≤ 16777216 then some (a.length : Int) else none
theorem lenSO_ex : ∃ f : Str → Option Int, f = lenSO_d := ⟨lenSO_d, rfl⟩
noncomputable def lenSO : Str → Option Int := Classical.choose lenSO_ex
theorem lenSO_eq (a : Str) : lenSO a = lenSO_d a := by
  have h : lenSO = lenSO_d := Classical.choose_spec lenSO_ex
  rw [h]
def addSO_d (a b : Str) : Option Str := if a.length + b.length ≤ 16777216 then some (a ++ b) else none
theorem addSO_ex : ∃ f : Str → Str → Option Str, f = addSO_d := ⟨addSO_d, rfl⟩
noncomputable def addSO : Str → Str → Option Str := Classical.choose addSO_ex
theorem addSO_eq (a b : Str) : addSO a b = addSO_d a b := by
  have h : addSO = addSO_d := Classical.choose_spec addSO_ex
  rw [h]
def ixSO_d (a : Str) (i : Int) : Option Str := if a.length ≤ 16777216 then (atI a.cps.toList i).map fun c => ⟨#[c]⟩ else none
theorem ixSO_ex : ∃ f : Str → Int → Option Str, f = ixSO_d := ⟨ixSO_d, rfl⟩
noncomputable def ixSO : Str → Int → Option Str := Classical.choose ixSO_ex
theorem ixSO_eq (a : Str) (i : Int) : ixSO a i = ixSO_d a i := by
  have h : ixSO = ixSO_d := Classical.choose_spec ixSO_ex
  rw [h]
def slSO_d (a : Str) (lo hi : Option Int) : Option Str := if a.length ≤ 16777216 then some (L2.cutS a lo hi) else none
theorem slSO_ex : ∃ f : Str → Option Int → Option Int → Option Str, f = slSO_d := ⟨slSO_d, rfl⟩
noncomputable def slSO : Str → Option Int → Option Int → Option Str := Classical.choose slSO_ex
theorem slSO_eq (a : Str) (lo hi : Option Int) : slSO a lo hi = slSO_d a lo hi := by
  have h : slSO = slSO_d := Classical.choose_spec slSO_ex
  rw [h]
def intSO_d (a : Str) : Option Int := if a.length ≤ 640 then PySem.intText? a else none
theorem intSO_ex : ∃ f : Str → Option Int, f = intSO_d := ⟨intSO_d, rfl⟩
noncomputable def intSO : Str → Option Int := Classical.choose intSO_ex
theorem intSO_eq (a : Str) : intSO a = intSO_d a := by
  have h : intSO = intSO_d := Classical.choose_spec intSO_ex
  rw [h]
def strIO_d (i : Int) : Option Str := if i.natAbs.log2 < 1920 then some ((toString i : String) : Str) else none
theorem strIO_ex : ∃ f : Int → Option Str, f = strIO_d := ⟨strIO_d, rfl⟩
noncomputable def strIO : Int → Option Str := Classical.choose strIO_ex
theorem strIO_eq (i : Int) : strIO i = strIO_d i := by
  have h : strIO = strIO_d := Classical.choose_spec strIO_ex
  rw [h]
def isIn_d (i j : Str) : Bool := !(Builtin.Str.occurrences j i 0 j.length 1).isEmpty
theorem isIn_ex : ∃ f : Str → Str → Bool, f = isIn_d := ⟨isIn_d, rfl⟩
noncomputable def isIn : Str → Str → Bool := Classical.choose isIn_ex
theorem isIn_eq (i j : Str) : isIn i j = isIn_d i j := by
  have h : isIn = isIn_d := Classical.choose_spec isIn_ex
  rw [h]
def geS (i j : Str) : Bool := !decide (i.cps.toList < j.cps.toList)

def rJoin (K : Fg) : V → List V → Hp → VK → Prop := fun x xs H Q => ∃ (a : Str) (p : Addr) (ys : List Str), x = .str a ∧ xs = [.ref p] ∧ (SqL K H p (ys.map V.str) ∨ SqT K H p (ys.map V.str)) ∧ (ys.map (·.length)).sum + ys.length * a.length ≤ 16777216 ∧ Q (.str (Txt.join a ys)) H
theorem peJ {X : Cx} {o e : Expr} {to te : TE} {apos pos : Pos} (ho : PE X o to) (he : PE X e te) (hs : starEach [e] X.env = [(false, eval e X.env)] := by rfl) (hb : attributeBase o "join" X.env (eval o X.env) = eval o X.env := by rfl) (hl : (apos.endLine == pos.line) = true := by rfl) :
    PE X (.Call (.Attribute o "join" apos) [e] [] pos) (tM1 (rJoin X.K) to te) := pe_join ho he hs hb hl
theorem meK {K : Fg} {X : Cx} {x : Expr} {r : Fg → V → List V → Hp → VK → Prop} {to te : TE} (h : PE X x (tM1 (r X.K) to te)) (e : X.K = K) : PE X x (tM1 (r K) to te) := e ▸ h
section
variable {K : Fg} {es : Env K} {ta tb te : TE}
theorem strs_paired {F : Hp} {vs : List V} {ys : List Str} (h : Paired ((repStr (K := K)).At F) vs ys) : vs = ys.map V.str := by
  induction h with
  | nil => rfl
  | cons a _ ih =>
    have e : _ = V.str _ := a
    rw [List.map_cons, e, ih]
theorem paired_strs {F : Hp} : ∀ ys : List Str, Paired ((repStr (K := K)).At F) (ys.map V.str) ys
  | [] => .nil
  | y :: r => .cons rfl (paired_strs r)
/-- a method of a text with one argument -/
theorem ev_m1 {β γ : Type} {R2 : RR β} {R : RR γ} [GoodR R2] [GoodR R] {r : V → List V → Hp → VK → Prop} {k : Str → β → Option γ} {ma : Option Str} {mb : Option β} (ha : Ev ta es ma) (hb : EvG R2 tb es mb)
    (hr : ∀ a b y fr F H, Same F H → R2 fr F H y b → OpS R (r (.str a) [y]) F H (k a b)) : EvG R (tM1 r ta tb) es (ma.bind fun a => mb.bind fun b => k a b) := by
  intro c hc F H ad σ rs Q q
  obtain ⟨a, ea, hc⟩ := bind_some hc
  obtain ⟨b, eb, hc⟩ := bind_some hc
  refine ha a ea F H ad σ rs _ fun x F1 H1 g1 h1 => ?_
  have h1 : x = .str a := h1
  subst h1
  refine ⟨⟨a, rfl⟩, hb b eb F1 H1 ad σ (rs.grow g1) _ fun y F2 H2 g2 h2 => ?_⟩
  exact hr a b y _ F2 H2 g2.ex h2 c hc Q fun v F3 H3 g3 h3 => q v F3 H3 ((g1.trans g2).trans g3) (weak_none (g1.trans g2).hh h3)
theorem split_len (a b : Str) (h : a.length + 2 ≤ 16777216) : (Txt.split a b).length ≤ sizeLine := Nat.le_trans (PyProof.Rows.split_le a b) h
theorem ev_split {ma mb : Option Str} (ha : Ev ta es ma) (hb : Ev tb es mb) :
    EvN (tM1 (fun x xs H Q => ∃ a b, x = .str a ∧ xs = [.str b] ∧ (b.length == 0) = false ∧ a.length + 2 ≤ sizeLine ∧ rNewStrs (Txt.split a b) H Q) ta tb) es (ma.bind fun a => mb.bind fun b => splitO a b) := by
  refine ev_m1 ha hb fun a b y fr F H s hy => ?_
  have hy : y = .str b := hy
  subst hy
  intro c hc Q q
  rw [splitO_eq] at hc
  unfold splitO_d at hc
  split at hc
  · rename_i h
    cases hc
    refine ⟨a, b, rfl, rfl, h.1, h.2, fun p hp => ?_⟩
    exact q (.ref p) F _ (Grow.make s hp) ⟨p, rfl, hp, s.free hp, _, upd_same, by rw [List.length_map]; exact split_len a b h.2, paired_strs _⟩
  · cases hc
theorem ev_join {ma : Option Str} {mb : Option (List Str)} (ha : Ev ta es ma) (hb : EvL tb es mb) : Ev (tM1 (rJoin K) ta tb) es (ma.bind fun a => mb.bind fun b => joinO a b) := by
  refine ev_m1 ha hb fun a b y fr F H s ⟨p, vs, e, hp, hl, pr⟩ => ?_
  subst e
  intro c hc Q q
  rw [joinO_eq] at hc
  unfold joinO_d at hc
  split at hc
  · rename_i h
    cases hc
    rw [strs_paired pr] at hp
    exact ⟨a, p, b, rfl, rfl, .inl (.inl (.inl hp)), h, q _ F H (Grow.refl s) rfl⟩
  · cases hc
theorem ev_lenS {ma : Option Str} (ha : Ev ta es ma) : Ev (tCB (fun xs H Q => ∃ z, xs = [V.str z] ∧ z.length ≤ sizeLine ∧ Q (.int z.length) H) (tCons ta tNil)) es (ma.bind fun a => lenSO a) :=
  ev_cb1 ha fun a x _ F H _ s hx => by
    have hx : x = .str a := hx
    subst hx
    intro c hc Q q
    rw [lenSO_eq] at hc
    unfold lenSO_d at hc
    split at hc
    · rename_i h
      cases hc
      exact ⟨a, rfl, h, q _ F H (Grow.refl s) rfl⟩
    · cases hc
theorem ev_addS {ma mb : Option Str} (ha : Ev ta es ma) (hb : Ev tb es mb) : Ev (tOp (fun x y H Q => ∃ i j, x = .str i ∧ y = .str j ∧ i.length + j.length ≤ sizeLine ∧ Q (.str (i ++ j)) H) ta tb) es (ma.bind fun a => mb.bind fun b => addSO a b) :=
  ev_op2 ha hb fun a b x y _ _ F H _ _ s hx hy => by
    have hx : x = .str a := hx
    have hy : y = .str b := hy
    subst hx hy
    intro c hc Q q
    rw [addSO_eq] at hc
    unfold addSO_d at hc
    split at hc
    · rename_i h
      cases hc
      exact ⟨a, b, rfl, rfl, h, q _ F H (Grow.refl s) rfl⟩
    · cases hc
theorem ev_ixS {ma : Option Str} {mb : Option Int} (ha : Ev ta es ma) (hb : Ev tb es mb) : Ev (tOp rIxS ta tb) es (ma.bind fun a => mb.bind fun b => ixSO a b) :=
  ev_op2 ha hb fun a b x y _ _ F H _ _ s hx hy => by
    have hx : x = .str a := hx
    have hy : y = .int b := hy
    subst hx hy
    intro c hc Q q
    rw [ixSO_eq] at hc
    unfold ixSO_d at hc
    split at hc
    · rename_i h
      obtain ⟨u, hu, rfl⟩ := map_some hc
      exact ⟨a, b, u, rfl, rfl, h, hu, q _ F H (Grow.refl s) rfl⟩
    · cases hc
theorem ev_slS {tl th : TO} {m : Option Str} {ml mh : Option (Option Int)} (h : Ev te es m) (h1 : EvO tl es ml) (h2 : EvO th es mh) : Ev (tSl rSlS te tl th) es (m.bind fun xs => ml.bind fun l => mh.bind fun u => slSO xs l u) := fun c hc F H ad σ rs Q q => by
  obtain ⟨xs, ex, hc⟩ := bind_some hc
  obtain ⟨l, el, hc⟩ := bind_some hc
  obtain ⟨u, eu, hc⟩ := bind_some hc
  rw [slSO_eq] at hc
  unfold slSO_d at hc
  split at hc
  · rename_i hz
    cases hc
    refine h xs ex F H ad σ rs _ fun v F1 H1 g1 x1 => ?_
    have x1 : v = .str xs := x1
    subst x1
    refine h1 l el F1 H1 ad σ (rs.grow g1) _ fun F2 H2 g2 => ?_
    refine h2 u eu F2 H2 ad σ ((rs.grow g1).grow g2) _ fun F3 H3 g3 => ?_
    exact ⟨xs, rfl, hz, q _ F3 H3 ((g1.trans g2).trans g3) rfl⟩
  · cases hc
theorem ev_intS {ma : Option Str} (ha : Ev ta es ma) : Ev (tCB (fun xs H Q => ∃ a n, xs = [V.str a] ∧ PySem.intText? a = some n ∧ a.length ≤ 640 ∧ Q (.int n) H) (tCons ta tNil)) es (ma.bind fun a => intSO a) :=
  ev_cb1 ha fun a x _ F H _ s hx => by
    have hx : x = .str a := hx
    subst hx
    intro c hc Q q
    rw [intSO_eq] at hc
    unfold intSO_d at hc
    split at hc
    · rename_i h
      exact ⟨a, c, rfl, hc, h, q _ F H (Grow.refl s) rfl⟩
    · cases hc
theorem ev_strI {ma : Option Int} (ha : Ev ta es ma) : Ev (tCB (fun xs H Q => ∃ i : Int, xs = [V.int i] ∧ i.natAbs.log2 < 1920 ∧ Q (.str (toString i)) H) (tCons ta tNil)) es (ma.bind fun a => strIO a) :=
  ev_cb1 ha fun a x _ F H _ s hx => by
    have hx : x = .int a := hx
    subst hx
    intro c hc Q q
    rw [strIO_eq] at hc
    unfold strIO_d at hc
    split at hc
    · rename_i h
      cases hc
      exact ⟨a, rfl, h, q _ F H (Grow.refl s) rfl⟩
    · cases hc
theorem ev_inS {ma mb : Option Str} (ha : Ev ta es ma) (hb : Ev tb es mb) : Ev (tOp (fun x y H Q => ∃ i j, x = .str i ∧ y = .str j ∧ Q (.bl (!(Builtin.Str.occurrences j i 0 j.length 1).isEmpty)) H) ta tb) es (ma.bind fun a => mb.bind fun b => some (isIn a b)) :=
  ev_op2 ha hb fun a b x y _ _ F H _ _ s hx hy => ops_pure s (.bl (isIn a b)) rfl fun Q q => ⟨a, b, hx, hy, by rw [isIn_eq] at q; exact q⟩
theorem ev_notInS {ma mb : Option Str} (ha : Ev ta es ma) (hb : Ev tb es mb) : Ev (tOp (fun x y H Q => ∃ i j, x = .str i ∧ y = .str j ∧ Q (.bl (!(!(Builtin.Str.occurrences j i 0 j.length 1).isEmpty))) H) ta tb) es (ma.bind fun a => mb.bind fun b => some (!isIn a b)) :=
  ev_op2 ha hb fun a b x y _ _ F H _ _ s hx hy => ops_pure s (.bl (!isIn a b)) rfl fun Q q => ⟨a, b, hx, hy, by rw [isIn_eq] at q; exact q⟩
theorem ev_geS {ma mb : Option Str} (ha : Ev ta es ma) (hb : Ev tb es mb) : Ev (tOp (fun x y H Q => ∃ i j, x = .str i ∧ y = .str j ∧ Q (.bl (!decide (i.cps.toList < j.cps.toList))) H) ta tb) es (ma.bind fun a => mb.bind fun b => some (geS a b)) :=
  ev_op2 ha hb fun a b x y _ _ F H _ _ s hx hy => ops_pure s (.bl (geS a b)) rfl fun Q q => ⟨a, b, hx, hy, q⟩
end

theorem pe_cst {X : Cx} {x : Str} {v : V} {pos : Pos} (hg : Gl X x) (h : ∃ u, X.mg x = some u ∧ RelV v u) (hd : (x == ("__debug__" : Str)) = false := by decide) : PE X (.Name x pos) (tC v) := by
  obtain ⟨u, h1, h2⟩ := h
  exact pe_glob hg h1 h2 hd
/-! ### what may be a text or another thing -/
inductive Tx where
  | str (s : Str)
  | non
  | int (i : Int)
  | lst
instance repTx {K : Fg} : Rep K Tx := ⟨fun F v t => match t with
    | .str s => v = .str s
    | .non => v = .non
    | .int i => v = .int i
    | .lst => ∃ p vs, v = .ref p ∧ F p = some (.lst vs), fun {F G v t} s h => by
      cases t with
      | lst =>
        obtain ⟨p, vs, e, h⟩ := h
        exact ⟨p, vs, e, s _ _ h⟩
      | _ => exact h⟩
def Tx.isS : Tx → Bool
  | .str _ => true
  | _ => false
def Tx.s? : Tx → Option Str
  | .str s => some s
  | _ => none
section
variable {K : Fg} {es : Env K} {ta tb te : TE}
theorem ev_txS {m : Option Str} (h : Ev te es m) : Ev te es (m.bind fun a => some (Tx.str a)) := fun c hc F H ad σ rs Q q => by
  obtain ⟨a, ea, hc⟩ := bind_some hc
  cases hc
  exact h a ea F H ad σ rs Q q
theorem ev_txI {m : Option Int} (h : Ev te es m) : Ev te es (m.bind fun a => some (Tx.int a)) := fun c hc F H ad σ rs Q q => by
  obtain ⟨a, ea, hc⟩ := bind_some hc
  cases hc
  exact h a ea F H ad σ rs Q q
theorem ev_txN : Ev (tC .non) es (some Tx.non) := ev_c fun _ => rfl
theorem ev_txL {α : Type} [i : Rep K α] {m : Option (List α)} (h : Ev te es m) : Ev te es (m.bind fun _ => some Tx.lst) := fun c hc F H ad σ rs Q q => by
  obtain ⟨a, ea, hc⟩ := bind_some hc
  cases hc
  refine h a ea F H ad σ rs Q fun v F' H' g ⟨p, vs, e, hp, _⟩ => q v F' H' g ⟨p, vs, e, hp⟩
theorem ev_txU {m : Option Tx} (h : Ev te es m) : Ev te es (m.bind fun a => Tx.s? a) := fun c hc F H ad σ rs Q q => by
  obtain ⟨a, ea, hc⟩ := bind_some hc
  cases a with
  | str s =>
    cases hc
    exact h _ ea F H ad σ rs Q q
  | _ => cases hc
theorem ev_isiTx (h1 : ∀ K : Fg, PySem.W.kitOne K (.type "str") (.type "str") = some true) (h2 : ∀ K : Fg, PySem.W.kitOne K (.type "NoneType") (.type "str") = some false) (h3 : ∀ K : Fg, PySem.W.kitOne K (.type "int") (.type "str") = some false) (h4 : ∀ K : Fg, PySem.W.kitOne K (.type "list") (.type "str") = some false)
    {ma : Option Tx} (ha : Ev ta es ma) : Ev (tCB (rIsi K) (tCons ta (tCons (tC (.ty "str")) tNil))) es (ma.bind fun t => some t.isS) := fun c hc F H ad σ rs Q q => by
  obtain ⟨a, ea, hc⟩ := bind_some hc
  cases hc
  refine ha a ea F H ad σ rs _ fun v F1 H1 g1 x1 => ?_
  have fin : ∀ (T : String) (b : Bool), TyX K H1 v (.type T) → PySem.W.kitOne K (.type T) (.type "str") = some b → b = a.isS → rIsi K [v, .ty "str"] H1 Q := fun T b ty k e => ⟨v, .ty "str", .type T, .type "str", b, rfl, .ty "str", ty, k, q _ F1 H1 g1 (by rw [e]; rfl)⟩
  cases a with
  | str s =>
    cases (show v = .str s from x1)
    exact fin "str" true (.base (.str _)) (h1 K) rfl
  | non =>
    cases (show v = .non from x1)
    exact fin "NoneType" false (.base .non) (h2 K) rfl
  | int i =>
    cases (show v = .int i from x1)
    exact fin "int" false (.base (.int _)) (h3 K) rfl
  | lst =>
    obtain ⟨p, vs, rfl, hp⟩ := (show ∃ p vs, v = .ref p ∧ F1 p = some (.lst vs) from x1)
    exact fin "list" false (.base (.lst (g1.ex _ _ hp))) (h4 K) rfl
end
/-! isinstance of an error, by a tuple of classes -/
section
variable {K : Fg} [Nms K] {es : Env K} {ta tt : TE}
theorem kit_any {D : Value} {er : List Er} {e : Er} : ∀ {ts : List Tg}, (∀ t ∈ ts, PySem.W.kitOne K D (tgV K t) = some (isB e t)) → PySem.W.kitAny K D (ts.map (tgV K)) = some (ts.any fun t => isB e t)
  | [], _ => rfl
  | t :: r, h => by
    have h1 := h t List.mem_cons_self
    have h2 := kit_any (er := er) (e := e) (ts := r) fun x hx => h x (List.mem_cons_of_mem _ hx)
    show (match PySem.W.kitOne K D (tgV K t) with | some true => some true | some false => PySem.W.kitAny K D (r.map (tgV K)) | none => none) = _
    rw [h1, List.any_cons]
    cases isB e t
    · exact h2
    · rfl
theorem ev_isEs {cvs : List V} {er : List Er} {ts : List Tg} {ma : Option (Option Er)} (hv : Paired ClsV cvs (ts.map (tgV K))) (hf : ∀ e ∈ er, ExcC K (Nms.c K e) ∧ ∀ t ∈ ts, PySem.W.kitOne K (ec K e) (tgV K t) = some (isB e t)) (ha : Ev ta es ma)
    (ht : ∀ σ H (Q : VK), (∀ tp, H tp = none → Q (.ref tp) (upd H tp (.tup cvs))) → tt σ H Q) : Ev (tCB (rIsXs K) (tCons ta (tCons tt tNil))) es (ma.bind fun g => isEs er g ts) := by
  intro b hb F H ad σ rs Q q
  obtain ⟨g, hg, hb⟩ := bind_some hb
  refine ha g hg F H ad σ rs _ fun v F1 H1 g1 h1 => ?_
  cases g with
  | none => cases hb
  | some e =>
    have hb : (if e ∈ er then some (ts.any fun t => isB e t) else none) = some b := hb
    by_cases he : e ∈ er
    · rw [if_pos he] at hb
      cases hb
      obtain ⟨a, rfl, ha2⟩ := (show ∃ a, v = .ref a ∧ F1 a = some (ExC (ec K e) none a) from h1)
      obtain ⟨c1, c2⟩ := hf e he
      refine ht _ _ _ fun tp hp => ?_
      have g2 := Grow.lay (o := .tup cvs) g1.ex hp
      exact ⟨a, Nms.c K e, tp, cvs, _, _, rfl, g2.ex _ _ (g2.ff _ _ ha2), upd_same, hv, c1, kit_any (er := er) c2, q _ _ _ (g1.trans g2) rfl⟩
    · rw [if_neg he] at hb
      cases hb
end
end Tf
set_option Elab.async false
set_option linter.all false
set_option maxRecDepth 100000
set_option maxHeartbeats 4000000
namespace Tf
open PySem PySem.Spec L2 PyProof.Rows

/-! ### list.count of any plain data -/
def rCntP (K : Fg) : V → List V → Hp → VK → Prop := fun x xs H Q => ∃ (p : Addr) (y : V) (d : PyData) (ds : List PyData), x = .ref p ∧ xs = [y] ∧ Dp K H y d ∧ Dp K H (.ref p) (.list ds) ∧ d.plain = true ∧ PyData.plainAll ds = true ∧ d.depth ≤ 64 ∧ Q (.int ((ds.countP fun z => PyData.eqv z d : Nat) : Int)) H
theorem mt_countP {X : Cx} (hu : X.A.units + 65 < cLine) : MtR X "list.count" (rCntP X.K) := by
  rintro pins s σ H x xs v us Q I rx rxs ⟨p, y, d, ds, rfl, rfl, hd, hl, pd, pe, hz, q⟩
  cases rx
  obtain ⟨u, rfl, ru⟩ := rxs.one
  obtain ⟨as, r1⟩ := Dp.reads I d y u hd ru
  obtain ⟨bs, r2⟩ := Dp.reads I (.list ds) (.ref p) (.ref p) hl rfl
  have room : X.A.units + 1 + min (PyData.depthAll ds) d.depth < cLine := by
    have := Nat.min_le_right (PyData.depthAll ds) d.depth
    omega
  cases r2 with
  | @list _ o its n _ _ h1 h2 h3 h4 =>
    cases o with
    | mk k1 k2 k3 k4 =>
      cases h2
      cases h3
      refine call_meets PySem.F.slot_list_count ⟨_, h1, rfl⟩ PySem.F.entry_list_count (PySem.F.args_list_count_2 _ _) (SeqAt.list_countAt p its n k2 k4 u fun y => PyData.eqv (SeqAt.readOf s.heap y) d) ⟨h1, SeqAt.items_plain h4 r1 pe pd room, ?_⟩
      have e : its.toList.countP (fun y => PyData.eqv (SeqAt.readOf s.heap y) d) = ds.countP fun z => PyData.eqv z d := by
        rw [← SeqAt.readsAll_map_plain ds _ _ pe h4, List.countP_map]
        rfl
      rw [e]
      exact ⟨.int _, H, I.tok _, ⟨s.toks, rfl⟩, q⟩
section
variable {K : Fg} {es : Env K} {ta tb te : TE}
noncomputable def cntP {α : Type} [DecidableEq α] (xs : List α) (a : α) : Int := ((xs.countP fun x => decide (x = a) : Nat) : Int)
theorem ev_countP {α : Type} [i : Rep K α] [d : RepD K α] [DecidableEq α] [DpR K (RL i) (dList (K := K) (α := α)).toD] {ma : Option (List α)} {mb : Option α} (ha : EvL ta es ma) (hb : Ev tb es mb) (hd : d.dn ≤ 63 := by exact Nat.le_of_ble_eq_true rfl) :
    Ev (tBM K "list" (rCntP K) ta (tCons tb tNil)) es (ma.bind fun a => mb.bind fun b => some (cntP a b)) := fun c hc F H ad σ rs Q q => by
  obtain ⟨a, ea, hc⟩ := bind_some hc
  obtain ⟨b, eb, hc⟩ := bind_some hc
  cases hc
  refine ha a ea F H ad σ rs _ fun v F1 H1 g1 x1 => ?_
  obtain ⟨p, vs, e, h, hl, pr⟩ := id x1
  subst e
  refine ⟨.inl ⟨rfl, vs, .inl (.inl h)⟩, ?_⟩
  refine hb b eb F1 H1 ad σ (rs.grow g1) _ fun w F2 H2 g2 aw => ?_
  have x2 : RL i (fun _ => True) F2 H2 (.ref p) a := GoodR.mono g2 (GoodR.weak (R := RL i) (fun _ _ => trivial) x1)
  refine ⟨p, w, d.toD b, a.map d.toD, rfl, rfl, DpR.dpr (R := RV i) (f := d.toD) g2.ex aw, DpR.dpr (R := RL i) (f := (dList (K := K) (α := α)).toD) g2.ex x2, d.lay b, lay_all d.lay a, by have := d.dep b; omega, ?_⟩
  have e : (a.map d.toD).countP (fun z => PyData.eqv z (d.toD b)) = a.countP fun x => decide (x = b) := by
    rw [List.countP_map]
    refine List.countP_congr fun x _ => ?_
    show PyData.eqv (d.toD x) (d.toD b) = true ↔ decide (x = b) = true
    rw [eqv_dec d.inj]
  rw [e]
  exact q _ F2 H2 (g1.trans g2) rfl
/-! f'..' -/
theorem ev_fmtI {ma : Option Int} (ha : Ev ta es ma) : Ev (tFmt ta) es (ma.bind fun a => strIO a) := fun c hc F H ad σ rs Q q => by
  obtain ⟨a, ea, hc⟩ := bind_some hc
  rw [strIO_eq] at hc
  unfold strIO_d at hc
  split at hc
  · rename_i h
    cases hc
    refine ha a ea F H ad σ rs _ fun v F1 H1 g1 x1 => .inr ⟨a, x1, h, q _ F1 H1 g1 rfl⟩
  · cases hc
def EvJ (ts : List TE) (es : Env K) (k : Str → Option Str) : Prop :=
  ∀ acc out, k acc = some out → ∀ (F H : Hp) (ad : Nat → Addr → Prop) (σ : L2.St), RSt K F H ad σ es → ∀ Q : Str → Hp → Prop, (∀ F' H', Grow F H F' H' → Q out H') → tJs ts acc σ H Q
theorem ej_nil : EvJ [] es (fun acc => some acc) := fun acc out h F H ad σ rs Q q => by
  cases h
  exact q F H (Grow.refl rs.ex)
theorem ej_cons {t : TE} {ts : List TE} {m : Option Str} {k : Str → Option Str} (h : Ev t es m) (r : EvJ ts es k) : EvJ (t :: ts) es (fun acc => m.bind fun y => (addSO acc y).bind k) := fun acc out e F H ad σ rs Q q => by
  obtain ⟨y, ey, e⟩ := bind_some e
  obtain ⟨z, ez, e⟩ := bind_some e
  rw [addSO_eq] at ez
  unfold addSO_d at ez
  split at ez
  · rename_i hz
    cases ez
    refine h y ey F H ad σ rs _ fun v F1 H1 g1 x1 => ⟨y, x1, ?_, ?_⟩
    · show (acc.cps ++ y.cps).size ≤ _
      rw [Array.size_append]
      exact hz
    · exact r _ out e F1 H1 ad σ (rs.grow g1) Q fun F2 H2 g2 => q F2 H2 (g1.trans g2)
  · cases ez
theorem ev_joined {ts : List TE} {k : Str → Option Str} (h : EvJ ts es k) : Ev (fun σ H Q => tJs ts Str.empty σ H fun out H1 => Q (.str out) H1) es (k Str.empty) := fun c hc F H ad σ rs Q q =>
  h Str.empty c hc F H ad σ rs _ fun F' H' g => q _ F' H' g rfl
end
end Tf
set_option linter.all false
set_option maxRecDepth 100000
set_option maxHeartbeats 4000000
namespace Tf
/-! ### loops in plain words -/
theorem forL_nx {S ρ α : Type} {step : S → α → Option (Lp S ρ)} (P : S → Prop) : ∀ {xs : List α}, (∀ s x, x ∈ xs → P s → ∃ s', (step s x = some (.nx s') ∨ step s x = some (.ct s')) ∧ P s') → ∀ {s0 : S}, P s0 → ∃ s', forL step xs s0 = some (.nx s') ∧ P s'
  | [], _, s0, h0 => ⟨s0, rfl, h0⟩
  | x :: xs, h, s0, h0 => by
    obtain ⟨s1, e, h1⟩ := h s0 x List.mem_cons_self h0
    obtain ⟨s2, e2, h2⟩ := forL_nx P (fun s y hy => h s y (List.mem_cons_of_mem _ hy)) h1
    refine ⟨s2, ?_, h2⟩
    show (step s0 x).bind _ = _
    rcases e with e | e
    · rw [e]; exact e2
    · rw [e]; exact e2
theorem forS_ok {S α : Type} {step : S → α → Option S} (P : S → Prop) : ∀ {xs : List α}, (∀ s x, x ∈ xs → P s → ∃ s', step s x = some s' ∧ P s') → ∀ {s0 : S}, P s0 → ∃ s', forS step xs s0 = some s' ∧ P s'
  | [], _, s0, h0 => ⟨s0, rfl, h0⟩
  | x :: xs, h, s0, h0 => by
    obtain ⟨s1, e, h1⟩ := h s0 x List.mem_cons_self h0
    obtain ⟨s2, e2, h2⟩ := forS_ok P (fun s y hy => h s y (List.mem_cons_of_mem _ hy)) h1
    refine ⟨s2, ?_, h2⟩
    show (step s0 x).bind _ = _
    rw [e]
    exact e2
theorem els_nx {S ρ : Type} {β : Type u} {k : S → Option β} {r : ρ → Option β} (s : S) : (Lp.nx s : Lp S ρ).els k r = k s := rfl
theorem els_rt2 {S ρ : Type} {β : Type u} {k : S → Option β} {r : ρ → Option β} (q : ρ) : (Lp.rt q : Lp S ρ).els k r = r q := rfl
theorem forL_then {S ρ α : Type} {β : Type u} {step : S → α → Option (Lp S ρ)} {xs : List α} {s0 : S} {k : S → Option β} {r : ρ → Option β} {T : Option β} (P : S → Prop) (h : ∀ s x, x ∈ xs → P s → ∃ s', (step s x = some (.nx s') ∨ step s x = some (.ct s')) ∧ P s') (h0 : P s0) (hk : ∀ s, P s → k s = T) :
    (Option.bind (forL step xs s0) fun l => l.els k r) = T := by
  obtain ⟨s', e, h'⟩ := forL_nx P h h0
  rw [e]
  exact hk s' h'
theorem forS_then {S α : Type} {β : Type u} {step : S → α → Option S} {xs : List α} {s0 : S} {k : S → Option β} {T : Option β} (P : S → Prop) (h : ∀ s x, x ∈ xs → P s → ∃ s', step s x = some s' ∧ P s') (h0 : P s0) (hk : ∀ s, P s → k s = T) :
    (Option.bind (forS step xs s0) k) = T := by
  obtain ⟨s', e, h'⟩ := forS_ok P h h0
  rw [e]
  exact hk s' h'
theorem rng_mem {lo hi x : Int} : x ∈ rng lo hi ↔ lo ≤ x ∧ x < hi := by
  unfold rng
  rw [List.mem_map]
  constructor
  · rintro ⟨k, hk, rfl⟩
    rw [List.mem_range] at hk
    omega
  · intro h
    exact ⟨(x - lo).toNat, by rw [List.mem_range]; omega, by omega⟩
theorem rngO_some {lo hi : Int} (h0 : -1000000 ≤ lo) (h1 : hi ≤ 1000000) (h2 : lo ≤ 1000000) (h3 : -1000000 ≤ hi) : rngO lo hi = some (rng lo hi) := by
  rw [rngO_eq]
  unfold rngO_d
  rw [if_pos]
  have : lim = 16777216 := rfl
  refine ⟨by omega, by omega, by omega, by omega, by omega⟩
theorem atI_get {α : Type} {xs : List α} {i : Int} (h0 : 0 ≤ i) : ixO xs i = xs[i.toNat]? := by
  unfold ixO L2.atI L2.ixN
  rw [if_pos h0]
  split
  · rfl
  · rename_i h
    rw [List.getElem?_eq_none (by omega)]
    rfl
theorem ixO_lt {α : Type} {xs : List α} {i : Int} (h0 : 0 ≤ i) (h1 : i < xs.length) : ∃ a, ixO xs i = some a ∧ a ∈ xs := by
  rw [atI_get h0, List.getElem?_eq_getElem (by omega)]
  exact ⟨_, rfl, List.getElem_mem _⟩
theorem cut_take {α : Type} (xs : List α) (n : Nat) : cutL xs none (some (n : Int)) = xs.take n := by
  unfold cutL
  rw [HT.sIx_none, HT.sIx_nat, List.drop_zero, Nat.sub_zero]
  rcases Nat.le_total n xs.length with h | h
  · rw [Nat.min_eq_left h]
  · rw [Nat.min_eq_right h, List.take_length, List.take_of_length_le h]
theorem catO_some {α : Type} {a b : List α} (h : a.length + b.length ≤ 16777216) : catO a b = some (a ++ b) := by
  rw [catO_eq]
  exact if_pos h
theorem appO_some {α : Type} {a : List α} {b : α} (h : a.length < 16777216) : appO a b = some (a ++ [b]) := by
  rw [appO_eq]
  exact if_pos h
theorem extO_some {α : Type} {a b : List α} (h : a.length + b.length ≤ 16777216) : extO a b = some (a ++ b) := by
  rw [extO_eq]
  exact if_pos h
theorem mapO_some {α β : Type} {f : α → Option β} {g : α → β} : ∀ {xs : List α}, (∀ x ∈ xs, f x = some (g x)) → mapO f xs = some (xs.map g)
  | [], _ => rfl
  | x :: r, h => by
    show (f x).bind _ = _
    rw [h x List.mem_cons_self]
    show (mapO f r).bind _ = _
    rw [mapO_some fun y hy => h y (List.mem_cons_of_mem _ hy)]
    rfl
theorem compO_some {α β : Type} {p : α → Option Bool} {q : α → Bool} {f : α → Option β} {g : α → β} : ∀ {xs : List α}, (∀ x ∈ xs, p x = some (q x)) → (∀ x ∈ xs, q x = true → f x = some (g x)) → compO p f xs = some ((xs.filter q).map g)
  | [], _, _ => rfl
  | x :: r, h, h2 => by
    have ih := compO_some (fun y hy => h y (List.mem_cons_of_mem _ hy)) fun y hy => h2 y (List.mem_cons_of_mem _ hy)
    show (p x).bind _ = _
    rw [h x List.mem_cons_self]
    show (if q x = true then _ else _) = _
    by_cases hq : q x = true
    · rw [if_pos hq, h2 x List.mem_cons_self hq, ih, List.filter_cons_of_pos hq]
      rfl
    · rw [if_neg hq, ih, List.filter_cons_of_neg hq]
/-! ### sizes -/
theorem log_lt {n b : Nat} (hb : 0 < b) (h : n < 2 ^ b) : n.log2 < b := by
  rcases Nat.eq_zero_or_pos n with h0 | h0
  · subst h0
    exact hb
  · exact (Nat.log2_lt (Nat.ne_of_gt h0)).mpr h
theorem mulO_some {a b : Int} {m n : Nat} (ha : a.natAbs < 2 ^ m) (hb : b.natAbs < 2 ^ n) (hm : 0 < m) (hn : 0 < n) (h : m + n ≤ 134000000) : mulO a b = some (a * b) := by
  rw [mulO_eq]
  unfold mulO_d
  have h1 := log_lt hm ha
  have h2 := log_lt hn hb
  rw [if_pos (by omega)]
theorem fdivO_some {a b : Int} (h : b ≠ 0) : fdivO a b = some (a.fdiv b) := by
  rw [fdivO_eq]
  exact if_neg h
theorem fmodO_some {a b : Int} (h : b ≠ 0) : fmodO a b = some (a.fmod b) := by
  rw [fmodO_eq]
  exact if_neg h
theorem fmodO_pos {a b : Int} (h : 0 < b) : fmodO a b = some (a % b) := by
  rw [fmodO_some (by omega), Int.fmod_eq_emod_of_nonneg _ (by omega)]
theorem fdivO_pos {a b : Int} (h : 0 < b) : fdivO a b = some (a / b) := by
  rw [fdivO_some (by omega), Int.fdiv_eq_ediv_of_nonneg _ (by omega)]
/-! ### the greatest common divisor -/
theorem gcd_fmod (a b : Int) : Int.gcd b (a.fmod b) = Int.gcd a b := by
  rw [Int.fmod_def, Int.mul_comm, Int.gcd_sub_mul_right_right, Int.gcd_comm]
theorem natAbs_fmod_lt (a : Int) {b : Int} (h : b ≠ 0) : (a.fmod b).natAbs < b.natAbs := by
  rcases Int.lt_or_gt_of_ne h with hb | hb
  · have h1 := Int.fmod_def a b
    have h2 : (-a).fmod (-b) = -(a.fmod b) := by
      rw [Int.fmod_def, Int.fmod_def, Int.neg_fdiv_neg]
      grind
    have h3 := Int.fmod_lt_of_pos (-a) (show 0 < -b by omega)
    have h4 := Int.fmod_nonneg_of_pos (-a) (show 0 < -b by omega)
    omega
  · have h3 := Int.fmod_lt_of_pos a hb
    have h4 := Int.fmod_nonneg_of_pos a hb
    omega
theorem euclid : ∀ (n : Nat) (a b : Int), b.natAbs < n → ∃ g : Int, whileS (fun (s : Int × Int) => some (!decide (s.2 = (0 : Int)))) (fun (s : Int × Int) => Option.bind (some s.2) fun o => Option.bind (fmodO s.1 s.2) fun p => some (o, p)) n (a, b) = some (g, 0) ∧ g.natAbs = Int.gcd a b
  | 0, a, b, h => by omega
  | n + 1, a, b, h => by
    by_cases hb : b = 0
    · subst hb
      exact ⟨a, rfl, by simp⟩
    · obtain ⟨g, e, hg⟩ := euclid n b (a.fmod b) (by have := natAbs_fmod_lt a hb; omega)
      refine ⟨g, ?_, by rw [hg, gcd_fmod]⟩
      show (some (!decide (b = 0))).bind _ = _
      rw [decide_eq_false hb]
      show ((Option.bind (some b) fun o => Option.bind (fmodO a b) fun p => some (o, p)).bind _) = _
      rw [fmodO_some hb]
      exact e
/-! ### fractions as rational numbers -/
def toF (q : Rat) : Int × Int := (q.num, (q.den : Int))
theorem toF_inj {p q : Rat} (h : toF p = toF q) : p = q := by
  have h1 : p.num = q.num := congrArg Prod.fst h
  have h2 : (p.den : Int) = q.den := congrArg Prod.snd h
  exact Rat.ext h1 (by omega)
theorem toF_iff {p q : Rat} : toF p = toF q ↔ p = q := ⟨toF_inj, fun h => by rw [h]⟩
/-- the lowest terms of t / b -/
theorem low_terms {t b : Int} (hb : b ≠ 0) : let s : Int := if b < 0 then -(Int.gcd t b : Int) else Int.gcd t b; s ≠ 0 ∧ (t.fdiv s, b.fdiv s) = toF (Rat.divInt t b) := by
  have hg : 0 < Int.gcd t b := Int.gcd_pos_of_ne_zero_right _ hb
  have d1 : (Int.gcd t b : Int) ∣ t := Int.gcd_dvd_left ..
  have d2 : (Int.gcd t b : Int) ∣ b := Int.gcd_dvd_right ..
  have key : ∀ (s : Int), s.natAbs = Int.gcd t b → 0 < b.fdiv s → s ∣ t → s ∣ b → (t.fdiv s, b.fdiv s) = toF (Rat.divInt t b) := fun s hs hp e1 e2 => by
    have hs0 : s ≠ 0 := by omega
    obtain ⟨u, hu⟩ := e1
    obtain ⟨v, hv⟩ := e2
    have f1 : t.fdiv s = u := by rw [hu, Int.mul_fdiv_cancel_left _ hs0]
    have f2 : b.fdiv s = v := by rw [hv, Int.mul_fdiv_cancel_left _ hs0]
    rw [f2] at hp
    rw [f1, f2]
    have hco : Int.gcd u v = 1 := by
      have : Int.gcd (s * u) (s * v) = s.natAbs * Int.gcd u v := Int.gcd_mul_left ..
      rw [← hu, ← hv, hs] at this
      exact Nat.eq_of_mul_eq_mul_left hg (by omega)
    have hq : Rat.divInt t b = Rat.divInt u v := by
      rw [Rat.divInt_eq_divInt_iff hb (by omega), hu, hv]
      grind
    have hn : Rat.divInt u v = ⟨u, v.toNat, by omega, by
      show Nat.Coprime u.natAbs v.toNat
      have : v.toNat = v.natAbs := by omega
      rw [this]
      exact hco⟩ := by
      rw [Rat.mk_eq_divInt]
      congr 1
      omega
    rw [hq, hn]
    show (u, v) = (u, (v.toNat : Int))
    congr 1
    omega
  by_cases h : b < 0
  · simp only [h, if_true]
    refine ⟨by omega, key _ (by omega) ?_ (Int.neg_dvd.mpr d1) (Int.neg_dvd.mpr d2)⟩
    obtain ⟨v, hv⟩ := d2
    have : b.fdiv (-(Int.gcd t b : Int)) = -v := by
      have e : b = (-(Int.gcd t b : Int)) * (-v) := by grind
      conv => lhs; arg 1; rw [e]
      rw [Int.mul_fdiv_cancel_left _ (by omega)]
    rw [this]
    have : v < 0 := by
      rcases (show v < 0 ∨ 0 ≤ v by omega) with z | z
      · exact z
      · have := Int.mul_nonneg (show (0 : Int) ≤ Int.gcd t b by omega) z
        omega
    omega
  · simp only [h, if_false]
    refine ⟨by omega, key _ (by omega) ?_ d1 d2⟩
    obtain ⟨v, hv⟩ := d2
    have : b.fdiv (Int.gcd t b : Int) = v := by
      conv => lhs; arg 1; rw [hv]
      rw [Int.mul_fdiv_cancel_left _ (by omega)]
    rw [this]
    rcases (show 0 < v ∨ v ≤ 0 by omega) with z | z
    · exact z
    · have := Int.mul_nonneg (show (0 : Int) ≤ Int.gcd t b by omega) (show 0 ≤ -v by omega)
      grind

theorem divInt_cross {t b : Int} (hb : b ≠ 0) : (Rat.divInt t b).num * b = t * (Rat.divInt t b).den := by
  have h := Rat.num_divInt_den (Rat.divInt t b)
  have hp := (Rat.divInt t b).den_pos
  exact (Rat.divInt_eq_divInt_iff (by omega) hb).mp h

theorem divInt_le {t b : Int} (hb : b ≠ 0) : (Rat.divInt t b).num.natAbs ≤ t.natAbs ∧ (Rat.divInt t b).den ≤ b.natAbs := by
  have hx := divInt_cross (t := t) hb
  have hco := (Rat.divInt t b).reduced
  have hp := (Rat.divInt t b).den_pos
  generalize Rat.divInt t b = q at hx hco hp ⊢
  have e1 : q.num.natAbs * b.natAbs = t.natAbs * q.den := by
    have := congrArg Int.natAbs hx
    rw [Int.natAbs_mul, Int.natAbs_mul, Int.natAbs_natCast] at this
    exact this
  have d : q.den ∣ b.natAbs := Nat.Coprime.dvd_of_dvd_mul_left (Nat.Coprime.symm hco) ⟨t.natAbs, by rw [e1, Nat.mul_comm]⟩
  refine ⟨?_, Nat.le_of_dvd (by omega) d⟩
  obtain ⟨k, hk⟩ := d
  have hk0 : 0 < k := by
    rcases Nat.eq_zero_or_pos k with z | z
    · subst z
      rw [Nat.mul_zero] at hk
      omega
    · exact z
  have e2 : q.num.natAbs * k = t.natAbs := by
    have : q.den * (q.num.natAbs * k) = q.den * t.natAbs := by
      rw [hk] at e1
      rw [Nat.mul_comm q.den t.natAbs, ← e1, Nat.mul_left_comm]
    exact Nat.eq_of_mul_eq_mul_left hp this
  rw [← e2]
  exact Nat.le_mul_of_pos_right _ hk0
/-- tops and bottoms of at most so many bits -/
def Sz (b : Nat) (q : Rat) : Prop := q.num.natAbs < 2 ^ b ∧ q.den < 2 ^ b
theorem Sz.mono {a b : Nat} {q : Rat} (h : Sz a q) (hab : a ≤ b) : Sz b q := ⟨Nat.lt_of_lt_of_le h.1 (Nat.pow_le_pow_right (by decide) hab), Nat.lt_of_lt_of_le h.2 (Nat.pow_le_pow_right (by decide) hab)⟩
theorem Sz.pos {a : Nat} {q : Rat} (h : Sz a q) : 0 < a := by
  rcases Nat.eq_zero_or_pos a with z | z
  · subst z
    have := h.2
    have := q.den_pos
    omega
  · exact z
theorem lt_mul2 {a b m n : Nat} (h : a < 2 ^ m) (h2 : b < 2 ^ n) : a * b < 2 ^ (m + n) := by
  rw [Nat.pow_add]
  exact Nat.mul_lt_mul'' h h2
theorem add_eq_divInt (p q : Rat) : p + q = Rat.divInt (p.num * q.den + q.num * p.den) (p.den * q.den) := by
  have := Rat.divInt_add_divInt p.num q.num (d₁ := p.den) (d₂ := q.den) (by have := p.den_pos; omega) (by have := q.den_pos; omega)
  rw [Rat.num_divInt_den, Rat.num_divInt_den] at this
  exact this
theorem sub_eq_divInt (p q : Rat) : p - q = Rat.divInt (p.num * q.den - q.num * p.den) (p.den * q.den) := by
  rw [Rat.sub_eq_add_neg, add_eq_divInt]
  have e1 : (-q).num = -q.num := rfl
  have e2 : (-q).den = q.den := rfl
  rw [e1, e2, Int.neg_mul, Int.sub_eq_add_neg]
theorem mul_eq_divInt (p q : Rat) : p * q = Rat.divInt (p.num * q.num) (p.den * q.den) := by
  have := Rat.divInt_mul_divInt p.num q.num (d₁ := p.den) (d₂ := q.den)
  rw [Rat.num_divInt_den, Rat.num_divInt_den] at this
  exact this
theorem div_eq_divInt {p q : Rat} (hq : q ≠ 0) : p / q = Rat.divInt (p.num * q.den) (p.den * q.num) := by
  have hn : q.num ≠ 0 := fun z => hq (Rat.num_eq_zero.mp z)
  have hd : (q.den : Int) ≠ 0 := by have := q.den_pos; omega
  have e : p = Rat.divInt (p.num * q.den) (p.den * q.num) * q := by
    conv => rhs; rhs; rw [← Rat.num_divInt_den q]
    rw [Rat.divInt_mul_divInt]
    conv => lhs; rw [← Rat.num_divInt_den p]
    rw [Rat.divInt_eq_divInt_iff (by have := p.den_pos; omega) (by
      refine Int.mul_ne_zero (Int.mul_ne_zero ?_ hn) hd
      have := p.den_pos; omega)]
    grind
  generalize Rat.divInt (p.num * q.den) (p.den * q.num) = r at e
  rw [e]
  grind
theorem den_mul_ne (p q : Rat) : (p.den : Int) * q.den ≠ 0 := Int.mul_ne_zero (by have := p.den_pos; omega) (by have := q.den_pos; omega)
theorem natAbs_den (q : Rat) : ((q.den : Int)).natAbs = q.den := Int.natAbs_natCast _
theorem Sz.add {a b : Nat} {p q : Rat} (hp : Sz a p) (hq : Sz b q) : Sz (a + b + 1) (p + q) := by
  have h := divInt_le (t := p.num * q.den + q.num * p.den) (den_mul_ne p q)
  rw [← add_eq_divInt] at h
  have h1 := lt_mul2 hp.1 hq.2
  have h2 := lt_mul2 hq.1 hp.2
  have h3 := lt_mul2 hp.2 hq.2
  have e : 2 ^ (a + b + 1) = 2 ^ (a + b) * 2 := Nat.pow_succ ..
  rw [Nat.add_comm b a] at h2
  refine ⟨?_, ?_⟩
  · have h4 : (p.num * q.den + q.num * p.den).natAbs ≤ p.num.natAbs * q.den + q.num.natAbs * p.den := by
      refine Nat.le_trans (Int.natAbs_add_le ..) ?_
      rw [Int.natAbs_mul, Int.natAbs_mul, Int.natAbs_natCast, Int.natAbs_natCast]
      exact Nat.le_refl _
    omega
  · have h4 : ((p.den : Int) * q.den).natAbs = p.den * q.den := by rw [Int.natAbs_mul, Int.natAbs_natCast, Int.natAbs_natCast]
    omega
theorem Sz.neg {a : Nat} {p : Rat} (hp : Sz a p) : Sz a (-p) := ⟨by rw [show (-p).num = -p.num from rfl, Int.natAbs_neg]; exact hp.1, hp.2⟩
theorem Sz.sub {a b : Nat} {p q : Rat} (hp : Sz a p) (hq : Sz b q) : Sz (a + b + 1) (p - q) := by
  rw [Rat.sub_eq_add_neg]
  exact hp.add hq.neg
theorem Sz.mul {a b : Nat} {p q : Rat} (hp : Sz a p) (hq : Sz b q) : Sz (a + b) (p * q) := by
  have h := divInt_le (t := p.num * q.num) (den_mul_ne p q)
  rw [← mul_eq_divInt] at h
  rw [Int.natAbs_mul, Int.natAbs_mul, Int.natAbs_natCast, Int.natAbs_natCast] at h
  exact ⟨Nat.lt_of_le_of_lt h.1 (lt_mul2 hp.1 hq.1), Nat.lt_of_le_of_lt h.2 (lt_mul2 hp.2 hq.2)⟩
theorem Sz.div {a b : Nat} {p q : Rat} (hp : Sz a p) (hq : Sz b q) (h0 : q ≠ 0) : Sz (a + b) (p / q) := by
  have hn : q.num ≠ 0 := fun z => h0 (Rat.num_eq_zero.mp z)
  have h := divInt_le (t := p.num * q.den) (b := p.den * q.num) (Int.mul_ne_zero (by have := p.den_pos; omega) hn)
  rw [← div_eq_divInt h0] at h
  rw [Int.natAbs_mul, Int.natAbs_mul, Int.natAbs_natCast, Int.natAbs_natCast] at h
  exact ⟨Nat.lt_of_le_of_lt h.1 (lt_mul2 hp.1 hq.2), Nat.lt_of_le_of_lt h.2 (lt_mul2 hp.2 hq.1)⟩
theorem sz_int {n : Int} {a : Nat} (h : n.natAbs < 2 ^ a) (ha : 0 < a) : Sz a (n : Rat) := ⟨h, by show 1 < 2 ^ a; exact Nat.one_lt_two_pow (by omega)⟩
theorem sz_divInt {t b : Int} {a : Nat} (hb : b ≠ 0) (h : t.natAbs < 2 ^ a) (h2 : b.natAbs < 2 ^ a) : Sz a (Rat.divInt t b) := ⟨Nat.lt_of_le_of_lt (divInt_le hb).1 h, Nat.lt_of_le_of_lt (divInt_le hb).2 h2⟩
theorem mulO_den {a b : Nat} {p q : Rat} (hp : Sz a p) (hq : Sz b q) (h : a + b ≤ 134000000) : mulO p.den q.den = some ((p.den : Int) * q.den) := mulO_some (by rw [Int.natAbs_natCast]; exact hp.2) (by rw [Int.natAbs_natCast]; exact hq.2) hp.pos hq.pos h
theorem mulO_nd {a b : Nat} {p q : Rat} (hp : Sz a p) (hq : Sz b q) (h : a + b ≤ 134000000) : mulO p.num q.den = some (p.num * q.den) := mulO_some hp.1 (by rw [Int.natAbs_natCast]; exact hq.2) hp.pos hq.pos h
theorem mulO_dn {a b : Nat} {p q : Rat} (hp : Sz a p) (hq : Sz b q) (h : a + b ≤ 134000000) : mulO p.den q.num = some (p.den * q.num) := mulO_some (by rw [Int.natAbs_natCast]; exact hp.2) hq.1 hp.pos hq.pos h
theorem mulO_nn {a b : Nat} {p q : Rat} (hp : Sz a p) (hq : Sz b q) (h : a + b ≤ 134000000) : mulO p.num q.num = some (p.num * q.num) := mulO_some hp.1 hq.1 hp.pos hq.pos h

/-! ### more on loops -/
theorem forS_pre {S α : Type} {step : S → α → Option S} (P : List α → S → Prop) : ∀ {xs pre : List α} {s0 : S}, (∀ s x p post, p ++ x :: post = pre ++ xs → P p s → ∃ s', step s x = some s' ∧ P (p ++ [x]) s') → P pre s0 → ∃ s', forS step xs s0 = some s' ∧ P (pre ++ xs) s'
  | [], pre, s0, _, h0 => ⟨s0, rfl, by rw [List.append_nil]; exact h0⟩
  | x :: xs, pre, s0, h, h0 => by
    obtain ⟨s1, e, h1⟩ := h s0 x pre xs rfl h0
    obtain ⟨s2, e2, h2⟩ := forS_pre P (xs := xs) (pre := pre ++ [x]) (fun s y p post hy => h s y p post (by rw [hy, List.append_assoc]; rfl)) h1
    refine ⟨s2, ?_, by rw [List.append_assoc] at h2; exact h2⟩
    show (step s0 x).bind _ = _
    rw [e]
    exact e2
theorem forS_sum {α : Type} {step : Int → α → Option Int} {f : α → Int} : ∀ {xs : List α}, (∀ s x, x ∈ xs → step s x = some (s + f x)) → ∀ {s0 : Int}, forS step xs s0 = some (s0 + (xs.map f).sum)
  | [], _, s0 => by simp [forS]
  | x :: xs, h, s0 => by
    show (step s0 x).bind _ = _
    rw [h s0 x List.mem_cons_self]
    show forS step xs _ = _
    rw [forS_sum (f := f) (fun s y hy => h s y (List.mem_cons_of_mem _ hy)), List.map_cons, List.sum_cons, Int.add_assoc]
theorem forS_prod {α : Type} {step : Int → α → Option Int} {f : α → Int} (b : Nat) (hb : 0 < b) : ∀ {xs : List α}, (∀ s x, x ∈ xs → step s x = mulO s (f x)) → (∀ x ∈ xs, (f x).natAbs < 2 ^ b) → ∀ {s0 : Int} {c : Nat}, 0 < c → s0.natAbs < 2 ^ c → c + xs.length * b ≤ 134000000 → forS step xs s0 = some (s0 * (xs.map f).prod) ∧ (s0 * (xs.map f).prod).natAbs < 2 ^ (c + xs.length * b)
  | [], _, _, s0, c, _, hs, _ => by
    simp only [List.length_nil, Nat.zero_mul, Nat.add_zero, List.map_nil, List.prod_nil, Int.mul_one]
    exact ⟨rfl, hs⟩
  | x :: xs, h, hf, s0, c, hc, hs, hl => by
    have e1 : (x :: xs).length * b = b + xs.length * b := by rw [List.length_cons, Nat.succ_mul, Nat.add_comm]
    rw [e1] at hl ⊢
    have hx := hf x List.mem_cons_self
    have hm : (s0 * f x).natAbs < 2 ^ (c + b) := by rw [Int.natAbs_mul]; exact lt_mul2 hs hx
    obtain ⟨h1, h2⟩ := forS_prod b hb (xs := xs) (step := step) (f := f) (fun s y hy => h s y (List.mem_cons_of_mem _ hy)) (fun y hy => hf y (List.mem_cons_of_mem _ hy)) (s0 := s0 * f x) (c := c + b) (by omega) hm (by omega)
    have e2 : s0 * ((x :: xs).map f).prod = s0 * f x * (xs.map f).prod := by rw [List.map_cons, List.prod_cons, Int.mul_assoc]
    rw [e2, ← Nat.add_assoc]
    refine ⟨?_, h2⟩
    show (step s0 x).bind _ = _
    rw [h s0 x List.mem_cons_self, mulO_some hs hx hc hb (by omega)]
    exact h1
theorem forS_cat {α β : Type} {step : List β → α → Option (List β)} {f : α → List β} (B : Nat) : ∀ {xs : List α}, (∀ s x, x ∈ xs → s.length + (f x).length ≤ B → step s x = some (s ++ f x)) → ∀ {s0 : List β}, s0.length + (xs.flatMap f).length ≤ B → forS step xs s0 = some (s0 ++ xs.flatMap f)
  | [], _, s0, _ => by simp [forS]
  | x :: xs, h, s0, hl => by
    rw [List.flatMap_cons, List.length_append] at hl
    show (step s0 x).bind _ = _
    rw [h s0 x List.mem_cons_self (by omega)]
    show forS step xs _ = _
    rw [forS_cat B (f := f) (fun s y hy => h s y (List.mem_cons_of_mem _ hy)) (by rw [List.length_append]; omega), List.flatMap_cons, List.append_assoc]
theorem rng_nil {lo hi : Int} (h : hi ≤ lo) : rng lo hi = [] := by
  unfold rng
  rw [show (hi - lo).toNat = 0 by omega]
  rfl
theorem rng_cons {lo hi : Int} (h : lo < hi) : rng lo hi = lo :: rng (lo + 1) hi := by
  unfold rng
  obtain ⟨n, hn⟩ : ∃ n : Nat, (hi - lo).toNat = n + 1 := ⟨(hi - lo).toNat - 1, by omega⟩
  have h2 : (hi - (lo + 1)).toNat = n := by omega
  rw [hn, h2, List.range_succ_eq_map, List.map_cons, List.map_map]
  congr 1
  · simp
  · refine List.map_congr_left fun k _ => ?_
    show lo + ((k + 1 : Nat) : Int) = lo + 1 + (k : Int)
    omega
theorem rng_snoc {lo : Int} {n : Nat} : rng lo (lo + ((n + 1 : Nat) : Int)) = rng lo (lo + (n : Int)) ++ [lo + (n : Int)] := by
  unfold rng
  rw [show (lo + ((n + 1 : Nat) : Int) - lo).toNat = n + 1 by omega, show (lo + (n : Int) - lo).toNat = n by omega, List.range_succ, List.map_append]
  rfl
theorem rng_nat (n : Nat) : rng 0 (n : Int) = (List.range n).map fun (k : Nat) => (k : Int) := by
  unfold rng
  rw [show ((n : Int) - 0).toNat = n by omega]
  exact List.map_congr_left fun k _ => by omega
theorem forS_append {S α : Type} {step : S → α → Option S} : ∀ {xs ys : List α} {s0 : S}, forS step (xs ++ ys) s0 = (forS step xs s0).bind (forS step ys)
  | [], ys, s0 => rfl
  | x :: xs, ys, s0 => by
    show (step s0 x).bind _ = ((step s0 x).bind _).bind _
    cases step s0 x with
    | none => rfl
    | some s1 => exact forS_append
/-- a loop over a range, by number -/
theorem forS_rng {S : Type} {step : S → Int → Option S} (lo : Int) (P : Nat → S → Prop) : ∀ {n : Nat} {s0 : S}, (∀ s (i : Nat), i < n → P i s → ∃ s', step s (lo + (i : Int)) = some s' ∧ P (i + 1) s') → P 0 s0 → ∃ s', forS step (rng lo (lo + (n : Int))) s0 = some s' ∧ P n s'
  | 0, s0, _, h0 => ⟨s0, by rw [rng_nil (by omega)]; rfl, h0⟩
  | n + 1, s0, h, h0 => by
    obtain ⟨s1, e1, h1⟩ := forS_rng lo P (n := n) (fun s i hi => h s i (by omega)) h0
    obtain ⟨s2, e2, h2⟩ := h s1 n (by omega) h1
    refine ⟨s2, ?_, h2⟩
    rw [rng_snoc, forS_append, e1]
    show (step s1 _).bind _ = _
    rw [e2]
    rfl
/-! ### the script's cells -/
def Cell (z : Int) : Prop := ∃ b : Nat, 0 < b ∧ b ≤ 2000000 ∧ z.natAbs < 2 ^ b
theorem cell_zero : Cell 0 := ⟨1, by decide, by decide, by decide⟩
theorem cell_of {z : Int} (h : PySem.Builtin.Int.intBits z ≤ 1048576) : Cell z := by
  by_cases e : z = 0
  · rw [e]
    exact cell_zero
  · have h2 : z.natAbs.log2 + 1 ≤ 1048576 := by
      unfold PySem.Builtin.Int.intBits at h
      rw [if_neg (by rw [beq_iff_eq]; exact e)] at h
      exact h
    exact ⟨z.natAbs.log2 + 1, by omega, by omega, Nat.lt_log2_self⟩
theorem cells_ok {ns : List Int} (hl : ns.length ≤ 63) (hb : ∀ z ∈ ns, PySem.Builtin.Int.intBits z ≤ 1048576) : ∃ cs, catO (cutL (α := Int) ns none (some (63 : Int))) [(0 : Int)] = some cs ∧ cs.length = ns.length + 1 ∧ ∀ z ∈ cs, Cell z := by
  have e : cutL (α := Int) ns none (some (63 : Int)) = ns := by
    rw [show (63 : Int) = ((63 : Nat) : Int) from rfl, cut_take, List.take_of_length_le hl]
  refine ⟨ns ++ [0], ?_, by rw [List.length_append]; rfl, fun z hz => ?_⟩
  · rw [e, catO_some (by rw [List.length_singleton]; omega)]
  · rcases List.mem_append.mp hz with h | h
    · exact cell_of (hb z h)
    · rw [List.mem_singleton.mp h]
      exact cell_zero
theorem shrO_some {a b : Int} (h : 0 ≤ b) : shrO a b = some (a / 2 ^ b.toNat) := by
  rw [shrO_eq]
  unfold shrO_d
  rw [if_pos h]
theorem mapO_ok {α β : Type} {f : α → Option β} {Q : β → Prop} : ∀ {xs : List α}, (∀ x ∈ xs, ∃ y, f x = some y ∧ Q y) → ∃ ys, mapO f xs = some ys ∧ ys.length = xs.length ∧ ∀ y ∈ ys, Q y
  | [], _ => ⟨[], rfl, rfl, fun _ h => nomatch h⟩
  | x :: xs, h => by
    obtain ⟨y, e, hy⟩ := h x List.mem_cons_self
    obtain ⟨ys, e2, hl, h2⟩ := mapO_ok (xs := xs) fun z hz => h z (List.mem_cons_of_mem _ hz)
    refine ⟨y :: ys, ?_, by rw [List.length_cons, List.length_cons, hl], fun z hz => ?_⟩
    · show (f x).bind _ = _
      rw [e, e2]
      rfl
    · rcases List.mem_cons.mp hz with q | q
      · rw [q]; exact hy
      · exact h2 z q
theorem setO_some {α : Type} {xs : List α} {i : Int} {x : α} (h0 : 0 ≤ i) (h1 : i < xs.length) : setO xs i x = some (xs.set i.toNat x) := by
  unfold setO L2.ixN
  rw [if_pos h0, if_pos (by omega)]
  rfl
/-! ### that a mirror gives something, and what of it -/
def Ok {α : Type u} (m : Option α) (P : α → Prop) : Prop := ∃ a, m = some a ∧ P a
theorem ok_some {α : Type u} {a : α} {P : α → Prop} (h : P a) : Ok (some a) P := ⟨a, rfl, h⟩
theorem ok_bind {α : Type u} {β : Type w} {m : Option α} {k : α → Option β} (P : α → Prop) {Q : β → Prop} (h : Ok m P) (h2 : ∀ a, P a → Ok (k a) Q) : Ok (m.bind k) Q := by
  obtain ⟨a, e, ha⟩ := h
  rw [e]
  exact h2 a ha
theorem ok_is {α : Type u} {m : Option α} {a : α} {P : α → Prop} (e : m = some a) (h : P a) : Ok m P := ⟨a, e, h⟩
theorem ok_mono {α : Type u} {m : Option α} {P Q : α → Prop} (h : Ok m P) (f : ∀ a, P a → Q a) : Ok m Q := by
  obtain ⟨a, e, ha⟩ := h
  exact ⟨a, e, f a ha⟩
theorem ok_if {α : Type u} {c : Bool} {a b : Option α} {P : α → Prop} (h1 : c = true → Ok a P) (h2 : c = false → Ok b P) : Ok (if c = true then a else b) P := by
  cases c with
  | true => exact h1 rfl
  | false => exact h2 rfl
theorem ok_for {S α : Type} {step : S → α → Option S} (I : S → Prop) {xs : List α} {s0 : S} (h0 : I s0) (h : ∀ s x, x ∈ xs → I s → Ok (step s x) I) : Ok (forS step xs s0) I := forS_ok I (fun s x hx hs => h s x hx hs) h0
theorem ok_forp {S α : Type} {step : S → α → Option S} (I : List α → S → Prop) {xs : List α} {s0 : S} (h0 : I [] s0) (h : ∀ s x p, x ∈ xs → p.length + 1 ≤ xs.length → (p ++ [x]) <+: xs → I p s → Ok (step s x) (I (p ++ [x]))) : Ok (forS step xs s0) (I xs) := by
  obtain ⟨s, e, hs⟩ := forS_pre (xs := xs) (pre := []) I (fun s x p post hp hs => h s x p (by
    have : x ∈ p ++ x :: post := List.mem_append_right _ List.mem_cons_self
    rw [hp] at this
    exact this) (by
    have := congrArg List.length hp
    simp only [List.length_append, List.length_cons, List.length_nil] at this
    omega) ⟨post, by rw [List.append_assoc]; exact hp⟩ hs) h0
  exact ⟨s, e, hs⟩
theorem ok_map {α β : Type} {f : α → Option β} (Q : β → Prop) {xs : List α} (h : ∀ x ∈ xs, Ok (f x) Q) : Ok (mapO f xs) fun ys => ys.length = xs.length ∧ ∀ y ∈ ys, Q y := mapO_ok h
theorem ok_filter {α : Type} {p : α → Option Bool} : ∀ {xs : List α}, (∀ x ∈ xs, Ok (p x) fun _ => True) → Ok (compO p (fun x => some x) xs) fun ys => ys.Sublist xs
  | [], _ => ⟨[], rfl, List.Sublist.refl _⟩
  | x :: xs, h => by
    obtain ⟨b, e, _⟩ := h x List.mem_cons_self
    obtain ⟨ys, e2, h2⟩ := ok_filter (xs := xs) fun y hy => h y (List.mem_cons_of_mem _ hy)
    cases b with
    | true =>
      refine ⟨x :: ys, ?_, h2.cons₂ x⟩
      simp only [compO, e, e2, Option.bind_some, if_true]
    | false =>
      refine ⟨ys, ?_, h2.cons x⟩
      simp only [compO, e, e2, Option.bind_some, Bool.false_eq_true, if_false]
theorem ok_mul {a b : Int} (m n : Nat) (ha : a.natAbs < 2 ^ m) (hb : b.natAbs < 2 ^ n) (h : m + n ≤ 134000000 := by decide) (hm : 0 < m := by decide) (hn : 0 < n := by decide) : Ok (mulO a b) fun c => c = a * b := ⟨_, mulO_some ha hb hm hn h, rfl⟩
theorem ok_ix {α : Type} {xs : List α} {i : Int} {P : α → Prop} (h : ∀ x ∈ xs, P x) (h0 : 0 ≤ i) (h1 : i < xs.length) : Ok (ixO xs i) P := by
  obtain ⟨a, e, ha⟩ := ixO_lt h0 h1
  exact ⟨a, e, h a ha⟩
theorem ok_rng {lo hi : Int} (h0 : -1000000 ≤ lo) (h1 : hi ≤ 1000000) (h2 : lo ≤ 1000000) (h3 : -1000000 ≤ hi) : Ok (rngO lo hi) fun xs => xs = rng lo hi := ⟨_, rngO_some h0 h1 h2 h3, rfl⟩
theorem ok_eq {α : Type u} {m : Option α} {a : α} (h : Ok m fun x => x = a) : m = some a := by
  obtain ⟨x, e, h⟩ := h
  rw [e, h]
/-- a loop that tests: it goes through -/
theorem ok_loop {S ρ α : Type} {step : S → α → Option (Lp S ρ)} (I : S → Prop) {xs : List α} {s0 : S} (h0 : I s0) (h : ∀ s x, x ∈ xs → I s → Ok (step s x) fun l => ∃ s', (l = .nx s' ∨ l = .ct s') ∧ I s') : Ok (forL step xs s0) fun l => ∃ s', l = .nx s' ∧ I s' := by
  obtain ⟨s', e, hs⟩ := forL_nx (step := step) I (fun s x hx hs => by
    obtain ⟨l, e, s', hl, hi⟩ := h s x hx hs
    refine ⟨s', ?_, hi⟩
    rcases hl with q | q
    · rw [e, q]; exact .inl rfl
    · rw [e, q]; exact .inr rfl) h0
  exact ⟨_, e, s', rfl, hs⟩
theorem forS_prod2 {α : Type} {step : Int → α → Option Int} {f : α → Int} (B b : Nat) : ∀ {xs : List α}, (∀ s x, x ∈ xs → s.natAbs < 2 ^ B → step s x = some (s * f x)) → (∀ x ∈ xs, (f x).natAbs < 2 ^ b) → ∀ {s0 : Int} {c : Nat}, s0.natAbs < 2 ^ c → c + xs.length * b ≤ B → forS step xs s0 = some (s0 * (xs.map f).prod) ∧ (s0 * (xs.map f).prod).natAbs < 2 ^ (c + xs.length * b)
  | [], _, _, s0, c, hs, _ => by
    simp only [List.length_nil, Nat.zero_mul, Nat.add_zero, List.map_nil, List.prod_nil, Int.mul_one]
    exact ⟨rfl, hs⟩
  | x :: xs, h, hf, s0, c, hs, hl => by
    have e1 : (x :: xs).length * b = b + xs.length * b := by rw [List.length_cons, Nat.succ_mul, Nat.add_comm]
    rw [e1] at hl ⊢
    have hx := hf x List.mem_cons_self
    have hm : (s0 * f x).natAbs < 2 ^ (c + b) := by rw [Int.natAbs_mul]; exact lt_mul2 hs hx
    obtain ⟨h1, h2⟩ := forS_prod2 B b (xs := xs) (step := step) (f := f) (fun s y hy => h s y (List.mem_cons_of_mem _ hy)) (fun y hy => hf y (List.mem_cons_of_mem _ hy)) (s0 := s0 * f x) (c := c + b) hm (by omega)
    have e2 : s0 * ((x :: xs).map f).prod = s0 * f x * (xs.map f).prod := by rw [List.map_cons, List.prod_cons, Int.mul_assoc]
    rw [e2, ← Nat.add_assoc]
    refine ⟨?_, h2⟩
    show (step s0 x).bind _ = _
    rw [h s0 x List.mem_cons_self (Nat.lt_of_lt_of_le hs (Nat.pow_le_pow_right (by decide) (by omega)))]
    exact h1
theorem rng_lt (lo hi : Int) : (rng lo hi).Pairwise (· < ·) := by
  unfold rng
  rw [List.pairwise_map]
  exact List.pairwise_lt_range.imp fun h => by omega
theorem rng_nodup (lo hi : Int) : (rng lo hi).Nodup := (rng_lt lo hi).imp fun h => by omega
theorem sum_flatMap {α β : Type} (f : α → List β) (h : β → Int) : ∀ l : List α, ((l.flatMap f).map h).sum = (l.map fun a => ((f a).map h).sum).sum
  | [] => rfl
  | a :: r => by
    rw [List.flatMap_cons, List.map_append, List.sum_append, List.map_cons, List.sum_cons, sum_flatMap f h r]
theorem take_ok {ns : List Int} {n : Nat} (hl : ns.length ≤ 63) : catO (cutL (α := Int) ns none (some (n : Int))) [(0 : Int)] = some (ns.take n ++ [0]) ∧ (ns.take n ++ [0]).length ≤ 64 := by
  have h : (ns.take n).length ≤ 63 := by rw [List.length_take]; omega
  rw [cut_take, catO_some (by rw [List.length_singleton]; omega), List.length_append, List.length_singleton]
  exact ⟨rfl, by omega⟩
theorem nodup_flatMap_ {α β : Type} {f : α → List β} : ∀ {l : List α}, l.Nodup → (∀ a ∈ l, (f a).Nodup) → (∀ a ∈ l, ∀ b ∈ l, a ≠ b → ∀ x ∈ f a, x ∉ f b) → (l.flatMap f).Nodup
  | [], _, _, _ => List.nodup_nil
  | a :: r, h, h1, h2 => by
    rw [List.nodup_cons] at h
    rw [List.flatMap_cons, List.nodup_append]
    refine ⟨h1 a List.mem_cons_self, nodup_flatMap_ h.2 (fun b hb => h1 b (List.mem_cons_of_mem _ hb)) (fun b hb c hc => h2 b (List.mem_cons_of_mem _ hb) c (List.mem_cons_of_mem _ hc)), fun x hx y hy e => ?_⟩
    subst e
    obtain ⟨b, hb, hx2⟩ := List.mem_flatMap.mp hy
    exact h2 a List.mem_cons_self b (List.mem_cons_of_mem _ hb) (fun e => h.1 (e ▸ hb)) x hx hx2
theorem nodup_map_ {α β : Type} {f : α → β} : ∀ {l : List α}, l.Nodup → (∀ a ∈ l, ∀ b ∈ l, f a = f b → a = b) → (l.map f).Nodup
  | [], _, _ => List.nodup_nil
  | a :: r, h, h1 => by
    rw [List.nodup_cons] at h
    rw [List.map_cons, List.nodup_cons]
    refine ⟨fun hm => ?_, nodup_map_ h.2 fun b hb c hc => h1 b (List.mem_cons_of_mem _ hb) c (List.mem_cons_of_mem _ hc)⟩
    obtain ⟨b, hb, e⟩ := List.mem_map.mp hm
    exact h.1 (h1 b (List.mem_cons_of_mem _ hb) a List.mem_cons_self e ▸ hb)
theorem len_flatMap {α β : Type} {f : α → List β} (n : Nat) : ∀ {l : List α}, (∀ a ∈ l, (f a).length = n) → (l.flatMap f).length = l.length * n
  | [], _ => by simp
  | a :: r, h => by
    rw [List.flatMap_cons, List.length_append, h a List.mem_cons_self, len_flatMap n fun b hb => h b (List.mem_cons_of_mem _ hb), List.length_cons, Nat.succ_mul, Nat.add_comm]
theorem cut_len2 {α : Type} (xs : List α) {a b : Int} (h0 : 0 ≤ a) (h1 : a ≤ b) : (cutL xs (some a) (some b)).length ≤ (b - a).toNat ∧ ∀ x ∈ cutL xs (some a) (some b), x ∈ xs := by
  obtain ⟨m, rfl⟩ : ∃ m : Nat, a = (m : Int) := ⟨a.toNat, by omega⟩
  obtain ⟨n, rfl⟩ : ∃ n : Nat, b = (n : Int) := ⟨b.toNat, by omega⟩
  unfold cutL
  rw [HT.sIx_nat, HT.sIx_nat]
  refine ⟨?_, fun x hx => List.mem_of_mem_drop (List.mem_of_mem_take hx)⟩
  rw [List.length_take, List.length_drop]
  omega
theorem cut_init {α : Type} (xs : List α) (x : α) : cutL (xs ++ [x]) none (some (-1)) = xs := by
  unfold cutL
  rw [HT.sIx_none]
  show List.take (((-1 : Int) + ((xs ++ [x]).length : Int)).toNat - 0) (List.drop 0 (xs ++ [x])) = xs
  rw [List.drop_zero, List.length_append, List.length_singleton, show ((-1 : Int) + ((xs.length + 1 : Nat) : Int)).toNat - 0 = xs.length by omega, List.take_left']
  rfl
theorem whileL_then {S ρ : Type} {c : S → Option Bool} {b : S → Option (Lp S ρ)} (P : S → Prop) (μ : S → Nat) (h : ∀ s, P s → ∃ t, c s = some t ∧ (t = true → ∃ s', (b s = some (.nx s') ∨ b s = some (.ct s')) ∧ P s' ∧ μ s' < μ s)) : ∀ (n : Nat) (s0 : S), P s0 → μ s0 < n → ∃ s', whileL c b n s0 = some (.nx s') ∧ P s' ∧ c s' = some false
  | 0, _, _, hn => absurd hn (by omega)
  | n + 1, s0, h0, hn => by
    obtain ⟨t, ec, ht⟩ := h s0 h0
    cases t with
    | false =>
      refine ⟨s0, ?_, h0, ec⟩
      rw [whileL, ec]
      rfl
    | true =>
      obtain ⟨s1, e, h1, hm⟩ := ht rfl
      obtain ⟨s2, e2, h2⟩ := whileL_then P μ h n s1 h1 (by omega)
      refine ⟨s2, ?_, h2⟩
      rw [whileL, ec]
      rcases e with e | e
      · rw [e]; exact e2
      · rw [e]; exact e2
theorem mod_eq_ {p A B k : Int} (h : A = B + p * k) : A % p = B % p := by rw [h, Int.add_mul_emod_self_left]
theorem repO_one {α : Type} {x : α} {n : Int} (h : 1 ≤ n) (h2 : n ≤ 1000) : repO [x] n = some (List.replicate n.toNat x) := by
  rw [repO_some (by simp) h h2 (by simp)]
  congr 1
  induction n.toNat with
  | zero => rfl
  | succ m ih => rw [List.replicate_succ, List.replicate_succ, List.flatten_cons, ih]; rfl
theorem whileL_fin {S ρ : Type} {β : Type u} {c : S → Option Bool} {b : S → Option (Lp S ρ)} {n : Nat} {s0 : S} {k : S → Option β} {r : ρ → Option β} {T : Option β} (P : S → Prop) (μ : S → Nat) (h0 : P s0) (hn : μ s0 < n) (h : ∀ s, P s → ∃ t, c s = some t ∧ (t = true → ∃ s', (b s = some (.nx s') ∨ b s = some (.ct s')) ∧ P s' ∧ μ s' < μ s))
    (hk : ∀ s, P s → c s = some false → k s = T) : (Option.bind (whileL c b n s0) fun l => l.els k r) = T := by
  obtain ⟨s', e, h1, h2⟩ := whileL_then P μ h n s0 h0 hn
  rw [e]
  exact hk s' h1 h2
theorem forS_filter {α : Type} {step : List α → α → Option (List α)} {q : α → Bool} (B : Nat) : ∀ {xs : List α}, (∀ s x, x ∈ xs → s.length < B → step s x = some (if q x = true then s ++ [x] else s)) → ∀ {s0 : List α}, s0.length + xs.length ≤ B → forS step xs s0 = some (s0 ++ xs.filter q)
  | [], _, s0, _ => by simp [forS]
  | x :: xs, h, s0, hl => by
    rw [List.length_cons] at hl
    show (step s0 x).bind _ = _
    rw [h s0 x List.mem_cons_self (by omega)]
    show forS step xs _ = _
    by_cases hq : q x = true
    · rw [if_pos hq, forS_filter B (q := q) (fun s y hy => h s y (List.mem_cons_of_mem _ hy)) (by rw [List.length_append, List.length_singleton]; omega), List.filter_cons_of_pos hq, List.append_assoc]
      rfl
    · rw [if_neg hq, forS_filter B (q := q) (fun s y hy => h s y (List.mem_cons_of_mem _ hy)) (by omega), List.filter_cons_of_neg hq]
theorem bits_all : ∀ {ns : List Int}, (∀ z ∈ ns, PySem.Builtin.Int.intBits z ≤ 1048576) → ∃ B : Nat, 0 < B ∧ B ≤ 1048576 ∧ ∀ z ∈ ns, z.natAbs < 2 ^ B
  | [], _ => ⟨1, by decide, by decide, fun _ h => nomatch h⟩
  | z :: r, h => by
    obtain ⟨B, b0, b1, hB⟩ := bits_all (ns := r) fun y hy => h y (List.mem_cons_of_mem _ hy)
    have hz : ∃ c : Nat, c ≤ 1048576 ∧ z.natAbs < 2 ^ c := by
      by_cases e : z = 0
      · exact ⟨1, by decide, by rw [e]; decide⟩
      · have h2 := h z List.mem_cons_self
        unfold PySem.Builtin.Int.intBits at h2
        rw [if_neg (by rw [beq_iff_eq]; exact e)] at h2
        exact ⟨z.natAbs.log2 + 1, h2, Nat.lt_log2_self⟩
    obtain ⟨c, c1, hc⟩ := hz
    refine ⟨max B c, by omega, by omega, fun y hy => ?_⟩
    rcases List.mem_cons.mp hy with q | q
    · rw [q]
      exact Nat.lt_of_lt_of_le hc (Nat.pow_le_pow_right (by decide) (by omega))
    · exact Nat.lt_of_lt_of_le (hB y q) (Nat.pow_le_pow_right (by decide) (by omega))
theorem sum_bound (c : Nat) : ∀ {l : List Int}, (∀ y ∈ l, y.natAbs ≤ c) → l.sum.natAbs ≤ l.length * c
  | [], _ => by simp
  | y :: r, h => by
    have ih := sum_bound c (l := r) fun z hz => h z (List.mem_cons_of_mem _ hz)
    have := h y List.mem_cons_self
    rw [List.sum_cons, List.length_cons, Nat.succ_mul]
    omega
theorem flat_get {α : Type} {f : Nat → List α} {M : Nat} (hf : ∀ k, (f k).length = M) : ∀ (n k r : Nat), k < n → r < M → ((List.range n).flatMap f)[k * M + r]? = (f k)[r]?
  | 0, k, r, hk, _ => absurd hk (by omega)
  | n + 1, k, r, hk, hr => by
    have hl : ((List.range n).flatMap f).length = n * M := by rw [len_flatMap M fun k _ => hf k, List.length_range]
    rw [List.range_succ, List.flatMap_append]
    by_cases hkn : k < n
    · have h1 : (k + 1) * M ≤ n * M := Nat.mul_le_mul_right _ hkn
      rw [Nat.succ_mul] at h1
      rw [List.getElem?_append_left (by omega), flat_get hf n k r hkn hr]
    · have e : k = n := by omega
      subst e
      rw [List.getElem?_append_right (by omega), hl, Nat.add_sub_cancel_left, List.flatMap_cons, List.flatMap_nil, List.append_nil]
theorem range_blocks (N : Nat) : ∀ n : Nat, (List.range n).flatMap (fun k => (List.range N).map fun q => k * N + q) = List.range (n * N)
  | 0 => by simp
  | n + 1 => by
    rw [List.range_succ, List.flatMap_append, range_blocks N n, List.flatMap_cons, List.flatMap_nil, List.append_nil, Nat.succ_mul, List.range_add]
theorem cell_le {z : Int} {B : Nat} (h0 : 0 < B) (h1 : B ≤ 2000000) (h : z.natAbs < 2 ^ B) : Cell z := ⟨B, h0, h1, h⟩
end Tf
set_option Elab.async false
set_option linter.all false
set_option maxRecDepth 100000
set_option maxHeartbeats 4000000
namespace Tf
open PySem PySem.Spec L2 PyProof.Rows
noncomputable def m_mix (cell : Int) (j : Int) : Option Int :=
  if (decide ((cell % 2) = (1 : Int))) = true then Option.bind (shrO cell ((1 : Int) + (10 * j))) fun v1 => some (v1 % 1024) else Option.bind (Option.bind (Option.bind (mulO cell ((2 * j) + (3 : Int))) fun v2 => some (v2 + j)) fun v3 => some (v3 % 2147483629)) fun number => Option.bind (Option.bind (Option.bind (Option.bind (mulO number number) fun v4 => some (v4 + (1 : Int))) fun v5 => some (v5 * 48271)) fun v6 => some (v6 % 2147483629)) fun number_1 => Option.bind (mulO number_1 number_1) fun v7 => some (v7 % 2147483587)
noncomputable def m_model (cell : Int) : Option (List (Tup Int)) :=
  Option.bind (some ([] : (List (Tup Int)))) fun found => Option.bind (Option.bind (Option.bind (Option.bind (Option.bind (m_mix cell (1 : Int)) fun v1 => some (v1 % 6)) fun v2 => some ((1 : Int) + v2)) fun v3 => rngO 0 v3) fun xs18 => forS (fun (s4 : (List (Tup Int))) (x5 : Int) => Option.bind (Option.bind (m_mix cell ((2 : Int) + x5)) fun v6 => some (v6 % 64)) fun mask => Option.bind (Option.bind (Option.bind (Option.bind (rngO 0 (6 : Int)) fun v12 => compO (fun (x9 : Int) => Option.bind (Option.bind (shrO mask x9) fun v10 => some (v10 % 2)) fun v11 => some (decide (v11 = (1 : Int)))) (fun (x9 : Int) => some x9) v12) fun v13 => Option.bind (Option.bind (Option.bind (m_mix cell ((10 : Int) + x5)) fun v7 => some (v7 % 5)) fun v8 => some (some v8)) fun v14 => some (cutL v13 none v14)) fun v15 => some (show Tup Int from v15)) fun effect => Option.bind (if (!memB effect s4) = true then Option.bind (appO s4 effect) fun found_1 => some found_1 else some s4) fun s16 => some s16) xs18 found) fun (s17 : (List (Tup Int))) => some s17
noncomputable def m_text (model_here : (List (Tup Int))) : Option Str :=
  Option.bind (some ([] : (List Str))) fun found => Option.bind (forS (fun (s1 : (List Str)) (x2 : (Tup Int)) => Option.bind (Option.bind (mapO (fun (x3 : Int) => strIO x3) x2) fun v4 => joinO (" " : Str) v4) fun word => Option.bind (if (decide (x2 = (tupOf (α := Int) ([] : List Int)))) = true then Option.bind (some ("mean" : Str)) fun word_1 => some word_1 else some word) fun s5 => Option.bind (appO s1 s5) fun found_1 => some found_1) model_here found) fun (s6 : (List Str)) => joinO (", " : Str) s6
noncomputable def m_show_numbers (numbers : (Tup Int)) : Option Str :=
  Option.bind (mapO (fun (x1 : Int) => strIO x1) numbers) fun v2 => joinO (" " : Str) v2
noncomputable def m_show_effect (effect : (Tup Int)) : Option Str :=
  if (decide (effect = (tupOf (α := Int) ([] : List Int)))) = true then some ("mean" : Str) else m_show_numbers effect
noncomputable def m_show_model (model : (List (Tup Int))) : Option Str :=
  Option.bind (mapO (fun (x1 : (Tup Int)) => m_show_effect x1) model) fun v2 => joinO (", " : Str) v2
noncomputable def m_told (text_here : Tx) : Option (Option (List (Tup Int))) :=
  if (!(Tx.isS text_here)) = true then some (none : (Option (List (Tup Int)))) else Option.bind (some ([] : (List (Tup Int)))) fun found => Option.bind (Option.bind (Option.bind (Tx.s? text_here) fun v1 => splitO v1 (", " : Str)) fun xs14 => forL (fun (s2 : (List (Tup Int))) (x3 : Str) => Option.bind (some (tupOf (α := Int) ([] : List Int))) fun effect => if (!decide (x3 = ("mean" : Str))) = true then Option.bind (Option.bind (splitO x3 (" " : Str)) fun xs12 => forL (fun (s4 : (Tup Int)) (x5 : Str) => if (!memB (α := Str) x5 (tupOf (α := Str) [("0" : Str), ("1" : Str), ("2" : Str), ("3" : Str), ("4" : Str), ("5" : Str)])) = true then Option.bind (some (none : (Option (List (Tup Int))))) fun r => some (.rt r) else Option.bind (andO (!decide (s4 = (tupOf (α := Int) ([] : List Int)))) (Option.bind (ixO (α := Int) s4 ((List.length (α := Int) s4 : Int) - (1 : Int))) fun v6 => Option.bind (intSO x5) fun v7 => some (decide (v7 ≤ v6)))) fun c8 => if c8 = true then Option.bind (some (none : (Option (List (Tup Int))))) fun r => some (.rt r) else Option.bind (Option.bind (show Option (Tup Int) from Option.bind (intSO x5) fun v9 => some [v9]) fun v10 => catT (α := Int) s4 v10) fun effect_1 => some (.nx effect_1)) xs12 effect) fun l => l.els (fun (s11 : (Tup Int)) => if (memB s11 s2) = true then Option.bind (some (none : (Option (List (Tup Int))))) fun r => some (.rt r) else Option.bind (appO s2 s11) fun found_1 => some (.nx found_1)) fun q => some (.rt q) else if (memB effect s2) = true then Option.bind (some (none : (Option (List (Tup Int))))) fun r => some (.rt r) else Option.bind (appO s2 effect) fun found_2 => some (.nx found_2)) xs14 found) fun l => l.els (fun (s13 : (List (Tup Int))) => some (some s13)) some
noncomputable def m_read_effect (text : Str) : Option (Ex (Tup Int)) :=
  if (decide (text = ("mean" : Str))) = true then okX (some (tupOf (α := Int) ([] : List Int))) else Option.bind (splitO text (" " : Str)) fun words => bindX (forX (fun (s1 : Unit) (x2 : Str) => Option.bind (Option.bind (Option.bind (lenSO x2) fun v3 => some (!decide (v3 = (1 : Int)))) fun v4 => orO v4 (some (!isIn x2 ("012345" : Str)))) fun c5 => if c5 = true then some (.err .noText) else okX (some ())) words ()) fun (s6 : Unit) => bindX (forX (fun (s7 : Unit) (x8 : (Str × Str)) => if (geS x8.1 x8.2) = true then some (.err .noText) else okX (some ())) (List.zip (cutL words none (some (-1))) (cutL words (some (1 : Int)) none)) ()) fun (s9 : Unit) => okX (Option.bind (mapO (fun (x10 : Str) => intSO x10) words) fun v11 => some (show Tup Int from v11))
noncomputable def m_read_model (text : Tx) : Option (Ex (List (Tup Int))) :=
  if (!(Tx.isS text)) = true then some (.err .noText) else bindX (Option.bind (Option.bind (Tx.s? text) fun v1 => splitO v1 (", " : Str)) fun v3 => mapX (fun (x2 : Str) => m_read_effect x2) v3) fun model => bindX (forX (fun (s4 : Unit) (x5 : (Tup Int)) => if (decide ((1 : Int) < (cntP (α := Tup Int) model x5))) = true then some (.err .noText) else okX (some ())) model ()) fun (s6 : Unit) => okX (some model)
noncomputable def m_whole (found : Int) : Option Bool :=
  some (true && (!false))
noncomputable def m_is_model (found : (List (Tup Int))) (due : (List (Tup Int))) : Option Bool :=
  if ((!true) || (!decide (found = due))) = true then some false else Option.bind (forL (fun (s1 : Unit) (x2 : (Tup Int)) => Option.bind (orO (!true) (Option.bind (compO (fun (x3 : Int) => Option.bind (m_whole x3) fun v4 => some (!v4)) (fun (x3 : Int) => some x3) x2) fun v5 => some (!decide (v5 = ([] : (List Int)))))) fun c6 => if c6 = true then Option.bind (some false) fun r => some (.rt r) else some (.nx ())) found ()) fun l => l.els (fun (s7 : Unit) => some true) some
noncomputable def m_right (text_here : Tx) : Option Bool :=
  Option.bind (m_told text_here) fun due => Option.bind (some (none : (Option Er))) fun error => Option.bind (some (none : (Option (List (Tup Int))))) fun found => Option.bind (m_read_model text_here) fun r2 => Option.bind (tryO [.noText] r2 found error) fun p1 => if (Option.isSome due) = true then andO (Option.isNone p1.2) (Option.bind p1.1 fun v3 => Option.bind due fun v4 => m_is_model v3 v4) else Option.bind (isEs [.noText] p1.2 [(.one .noEffect), (.one .noRow), (.one .noThing), (.one .noFit)]) fun c5 => if c5 = true then some false else Option.bind (isE [.noText] p1.2 (.one .noText)) fun v6 => andO v6 (isE [.noText] p1.2 .value)
noncomputable def m_odd (cell : Int) : Option Tx :=
  Option.bind (some [(Tx.str ("" : Str)), (Tx.str (" " : Str)), (Tx.str ("," : Str)), (Tx.str (", " : Str)), (Tx.str ("mean," : Str)), (Tx.str ("mean, " : Str)), (Tx.str ("mean,0" : Str)), (Tx.str ("mean , 0" : Str)), (Tx.str (" mean" : Str)), (Tx.str ("mean " : Str)), (Tx.str ("Mean" : Str)), (Tx.str ("mean 0" : Str))]) fun some' => Option.bind (catO some' [(Tx.str ("0 mean" : Str)), (Tx.str ("6" : Str)), (Tx.str ("0 0" : Str)), (Tx.str ("1 0" : Str)), (Tx.str ("01" : Str)), (Tx.str ("-1" : Str)), (Tx.str ("0  1" : Str)), (Tx.str ("mean, mean" : Str)), (Tx.str ("0 1, 0 1" : Str)), (Tx.str ("0\n" : Str)), Tx.non, ((fun _ => Tx.lst) [(tupOf (α := Int) ([] : List Int))])]) fun some'_1 => Option.bind (Option.bind (m_mix cell (30 : Int)) fun v1 => some (v1 % 24)) fun v2 => ixO some'_1 v2
noncomputable def m_spoiled (text_here : Str) (cell : Int) : Option Tx :=
  Option.bind (some ("   ,,01234567mean-+\n\t" : Str)) fun signs => Option.bind (Option.bind (m_mix cell (31 : Int)) fun v1 => some (v1 % 8)) fun way => Option.bind (Option.bind (m_mix cell (32 : Int)) fun v3 => Option.bind (Option.bind (lenSO text_here) fun v2 => some (v2 + (1 : Int))) fun v4 => fmodO v3 v4) fun at' => Option.bind (Option.bind (Option.bind (m_mix cell (33 : Int)) fun v5 => Option.bind (lenSO signs) fun v6 => fmodO v5 v6) fun v7 => ixSO signs v7) fun sign => if (decide (way = (0 : Int))) = true then Option.bind (Option.bind (Option.bind (slSO text_here none (some at')) fun v8 => addSO v8 sign) fun v9 => Option.bind (slSO text_here (some at') none) fun v10 => addSO v9 v10) fun v11 => some (Tx.str v11) else if (decide (way = (1 : Int))) = true then Option.bind (Option.bind (slSO text_here none (some at')) fun v12 => Option.bind (slSO text_here (some (at' + (1 : Int))) none) fun v13 => addSO v12 v13) fun v14 => some (Tx.str v14) else if (decide (way < (5 : Int))) = true then Option.bind (Option.bind (Option.bind (slSO text_here none (some at')) fun v15 => addSO v15 sign) fun v16 => Option.bind (slSO text_here (some (at' + (1 : Int))) none) fun v17 => addSO v16 v17) fun v18 => some (Tx.str v18) else if (decide (way = (5 : Int))) = true then m_odd cell else if (decide (way = (6 : Int))) = true then Option.bind (Option.bind (addSO text_here (", " : Str)) fun v24 => Option.bind (Option.bind (splitO text_here (", " : Str)) fun v22 => Option.bind (Option.bind (m_mix cell (34 : Int)) fun v20 => Option.bind (Option.bind (splitO text_here (", " : Str)) fun v19 => some (v19.length : Int)) fun v21 => fmodO v20 v21) fun v23 => ixO v22 v23) fun v25 => addSO v24 v25) fun v26 => some (Tx.str v26) else some (Tx.str text_here)
noncomputable def m_divisor (one : Int) (other : Int) : Option Int :=
  Option.bind (whileS (fun (s1 : Int × Int) => some (!decide (s1.2 = (0 : Int)))) (fun (s1 : Int × Int) => Option.bind (some s1.2) fun one_1 => Option.bind (fmodO s1.1 s1.2) fun other_1 => some (one_1, other_1)) ((other).natAbs + 1) (one, other)) fun (s2 : Int × Int) => some (s2.1.natAbs : Int)
noncomputable def m_fraction (cell : Int) : Option (Int × Int) :=
  Option.bind (Option.bind (Option.bind (m_mix cell (40 : Int)) fun v1 => some (v1 % 13)) fun v2 => some (v2 - (6 : Int))) fun top => Option.bind (Option.bind (Option.bind (Option.bind (m_mix cell (41 : Int)) fun v3 => some (v3 % 3)) fun v4 => some (decide (v4 = (0 : Int)))) fun c5 => if c5 = true then Option.bind (some ((((cell + ((10 : Int) ^ 40)) - (1 : Int)) % ((2 * ((10 : Int) ^ 40)) - (1 : Int))) - (((10 : Int) ^ 40) - (1 : Int)))) fun top_1 => some top_1 else some top) fun s6 => Option.bind (Option.bind (Option.bind (m_mix cell (42 : Int)) fun v7 => some (v7 % 6)) fun v8 => some ((1 : Int) + v8)) fun bottom => Option.bind (Option.bind (Option.bind (Option.bind (m_mix cell (43 : Int)) fun v9 => some (v9 % 4)) fun v10 => some (decide (v10 = (0 : Int)))) fun c11 => if c11 = true then Option.bind (Option.bind (Option.bind (Option.bind (mulO cell cell) fun v12 => some (v12 + (5 : Int))) fun v13 => some (v13 % (((10 : Int) ^ 40) - (1 : Int)))) fun v14 => some ((1 : Int) + v14)) fun bottom_1 => some bottom_1 else some bottom) fun s15 => Option.bind (m_divisor s6 s15) fun by' => Option.bind (fdivO s6 by') fun v16 => Option.bind (fdivO s15 by') fun v17 => some (v16, v17)
noncomputable def m_show_fraction (number : (Int × Int)) : Option Str :=
  Option.bind (some number) fun u1 => if (decide (u1.2 = (1 : Int))) = true then strIO u1.1 else (fun acc => Option.bind (strIO u1.1) fun y4 => Option.bind (addSO acc y4) (fun acc => Option.bind (some ("/" : Str)) fun y3 => Option.bind (addSO acc y3) (fun acc => Option.bind (strIO u1.2) fun y2 => Option.bind (addSO acc y2) (fun acc => some acc)))) Str.empty
noncomputable def m_show_fractions (numbers : (List (Int × Int))) : Option Str :=
  Option.bind (mapO (fun (x1 : (Int × Int)) => m_show_fraction x1) numbers) fun v2 => joinO (" " : Str) v2
noncomputable def m_shown (numbers : (List (Int × Int))) : Option Str :=
  Option.bind (some ([] : (List Str))) fun found => Option.bind (forS (fun (s1 : (List Str)) (x2 : (Int × Int)) => Option.bind (strIO x2.1) fun word => Option.bind (if (!decide (x2.2 = (1 : Int))) = true then Option.bind (Option.bind (addSO word ("/" : Str)) fun v3 => Option.bind (strIO x2.2) fun v4 => addSO v3 v4) fun word_1 => some word_1 else some word) fun s5 => Option.bind (appO s1 s5) fun found_1 => some found_1) numbers found) fun (s6 : (List Str)) => joinO (" " : Str) s6
noncomputable def m_law (script : Scr) : Option Bool :=
  Option.bind (catO (cutL (α := Int) script none (some (63 : Int))) [(0 : Int)]) fun cells => Option.bind (forL (fun (s1 : Unit) (x2 : Int) => Option.bind (m_model x2) fun model_here => Option.bind (m_text model_here) fun text_here => Option.bind (m_show_model model_here) fun found => Option.bind (orO (!true) (orO (!decide (found = text_here)) (Option.bind (m_model x2) fun v3 => some (!decide (model_here = v3))))) fun c4 => if c4 = true then Option.bind (some false) fun r => some (.rt r) else Option.bind (Option.bind (Option.bind (m_right (Tx.str found)) fun v5 => some (!v5)) fun v8 => orO v8 (Option.bind (Option.bind (m_spoiled text_here x2) fun v6 => m_right v6) fun v7 => some (!v7))) fun c9 => if c9 = true then Option.bind (some false) fun r => some (.rt r) else some (.nx ())) cells ()) fun l => l.els (fun (s10 : Unit) => Option.bind (mapO (fun (x11 : Int) => m_fraction x11) (cutL (α := Int) script none (some (63 : Int)))) fun numbers => Option.bind (some numbers) fun kept => Option.bind (m_show_fractions numbers) fun found_1 => andO true (Option.bind (Option.bind (m_shown kept) fun v12 => some (decide (found_1 = v12))) fun v14 => andO v14 (andO (decide (numbers = kept)) (Option.bind (m_show_fractions ([] : (List (Int × Int)))) fun v13 => some (decide (v13 = ("" : Str))))))) some
noncomputable def n_mix (cell : Int) (j : Int) : Option Int :=
  if (decide ((cell % 2) = (1 : Int))) = true then Option.bind (shrO cell ((1 : Int) + (10 * j))) fun v1 => some (v1 % 1024) else Option.bind (Option.bind (Option.bind (mulO cell ((2 * j) + (3 : Int))) fun v2 => some (v2 + j)) fun v3 => some (v3 % 2147483629)) fun number => Option.bind (Option.bind (Option.bind (Option.bind (mulO number number) fun v4 => some (v4 + (1 : Int))) fun v5 => some (v5 * 48271)) fun v6 => some (v6 % 2147483629)) fun number_1 => Option.bind (mulO number_1 number_1) fun v7 => some (v7 % 2147483587)
noncomputable def n_model (cell : Int) : Option (List (List Int)) :=
  Option.bind (some ([] : (List (List Int)))) fun found => Option.bind (Option.bind (Option.bind (Option.bind (Option.bind (n_mix cell (1 : Int)) fun v1 => some (v1 % 6)) fun v2 => some ((1 : Int) + v2)) fun v3 => rngO 0 v3) fun xs18 => forS (fun (s4 : (List (List Int))) (x5 : Int) => Option.bind (Option.bind (n_mix cell ((2 : Int) + x5)) fun v6 => some (v6 % 64)) fun mask => Option.bind (Option.bind (Option.bind (Option.bind (rngO 0 (6 : Int)) fun v12 => compO (fun (x9 : Int) => Option.bind (Option.bind (shrO mask x9) fun v10 => some (v10 % 2)) fun v11 => some (decide (v11 = (1 : Int)))) (fun (x9 : Int) => some x9) v12) fun v13 => Option.bind (Option.bind (Option.bind (n_mix cell ((10 : Int) + x5)) fun v7 => some (v7 % 5)) fun v8 => some (some v8)) fun v14 => some (cutL v13 none v14)) fun v15 => some (v15)) fun effect => Option.bind (if (!memB effect s4) = true then Option.bind (appO s4 effect) fun found_1 => some found_1 else some s4) fun s16 => some s16) xs18 found) fun (s17 : (List (List Int))) => some s17
noncomputable def n_text (model_here : (List (List Int))) : Option Str :=
  Option.bind (some ([] : (List Str))) fun found => Option.bind (forS (fun (s1 : (List Str)) (x2 : (List Int)) => Option.bind (Option.bind (mapO (fun (x3 : Int) => strIO x3) x2) fun v4 => joinO (" " : Str) v4) fun word => Option.bind (if (decide (x2 = (([] : List Int)))) = true then Option.bind (some ("mean" : Str)) fun word_1 => some word_1 else some word) fun s5 => Option.bind (appO s1 s5) fun found_1 => some found_1) model_here found) fun (s6 : (List Str)) => joinO (", " : Str) s6
noncomputable def n_show_numbers (numbers : (List Int)) : Option Str :=
  Option.bind (mapO (fun (x1 : Int) => strIO x1) numbers) fun v2 => joinO (" " : Str) v2
noncomputable def n_show_effect (effect : (List Int)) : Option Str :=
  if (decide (effect = (([] : List Int)))) = true then some ("mean" : Str) else n_show_numbers effect
noncomputable def n_show_model (model : (List (List Int))) : Option Str :=
  Option.bind (mapO (fun (x1 : (List Int)) => n_show_effect x1) model) fun v2 => joinO (", " : Str) v2
noncomputable def n_told (text_here : Tx) : Option (Option (List (List Int))) :=
  if (!(Tx.isS text_here)) = true then some (none : (Option (List (List Int)))) else Option.bind (some ([] : (List (List Int)))) fun found => Option.bind (Option.bind (Option.bind (Tx.s? text_here) fun v1 => splitO v1 (", " : Str)) fun xs14 => forL (fun (s2 : (List (List Int))) (x3 : Str) => Option.bind (some (([] : List Int))) fun effect => if (!decide (x3 = ("mean" : Str))) = true then Option.bind (Option.bind (splitO x3 (" " : Str)) fun xs12 => forL (fun (s4 : (List Int)) (x5 : Str) => if (!memB (α := Str) x5 ([("0" : Str), ("1" : Str), ("2" : Str), ("3" : Str), ("4" : Str), ("5" : Str)])) = true then Option.bind (some (none : (Option (List (List Int))))) fun r => some (.rt r) else Option.bind (andO (!decide (s4 = (([] : List Int)))) (Option.bind (ixO (α := Int) s4 ((List.length (α := Int) s4 : Int) - (1 : Int))) fun v6 => Option.bind (intSO x5) fun v7 => some (decide (v7 ≤ v6)))) fun c8 => if c8 = true then Option.bind (some (none : (Option (List (List Int))))) fun r => some (.rt r) else Option.bind (Option.bind (Option.bind (intSO x5) fun v9 => some [v9]) fun v10 => catO (α := Int) s4 v10) fun effect_1 => some (.nx effect_1)) xs12 effect) fun l => l.els (fun (s11 : (List Int)) => if (memB s11 s2) = true then Option.bind (some (none : (Option (List (List Int))))) fun r => some (.rt r) else Option.bind (appO s2 s11) fun found_1 => some (.nx found_1)) fun q => some (.rt q) else if (memB effect s2) = true then Option.bind (some (none : (Option (List (List Int))))) fun r => some (.rt r) else Option.bind (appO s2 effect) fun found_2 => some (.nx found_2)) xs14 found) fun l => l.els (fun (s13 : (List (List Int))) => some (some s13)) some
noncomputable def n_read_effect (text : Str) : Option (Ex (List Int)) :=
  if (decide (text = ("mean" : Str))) = true then okX (some (([] : List Int))) else Option.bind (splitO text (" " : Str)) fun words => bindX (forX (fun (s1 : Unit) (x2 : Str) => Option.bind (Option.bind (Option.bind (lenSO x2) fun v3 => some (!decide (v3 = (1 : Int)))) fun v4 => orO v4 (some (!isIn x2 ("012345" : Str)))) fun c5 => if c5 = true then some (.err .noText) else okX (some ())) words ()) fun (s6 : Unit) => bindX (forX (fun (s7 : Unit) (x8 : (Str × Str)) => if (geS x8.1 x8.2) = true then some (.err .noText) else okX (some ())) (List.zip (cutL words none (some (-1))) (cutL words (some (1 : Int)) none)) ()) fun (s9 : Unit) => okX (Option.bind (mapO (fun (x10 : Str) => intSO x10) words) fun v11 => some (v11))
noncomputable def n_read_model (text : Tx) : Option (Ex (List (List Int))) :=
  if (!(Tx.isS text)) = true then some (.err .noText) else bindX (Option.bind (Option.bind (Tx.s? text) fun v1 => splitO v1 (", " : Str)) fun v3 => mapX (fun (x2 : Str) => n_read_effect x2) v3) fun model => bindX (forX (fun (s4 : Unit) (x5 : (List Int)) => if (decide ((1 : Int) < (cntP (α := List Int) model x5))) = true then some (.err .noText) else okX (some ())) model ()) fun (s6 : Unit) => okX (some model)
noncomputable def n_whole (found : Int) : Option Bool :=
  some (true && (!false))
noncomputable def n_is_model (found : (List (List Int))) (due : (List (List Int))) : Option Bool :=
  if ((!true) || (!decide (found = due))) = true then some false else Option.bind (forL (fun (s1 : Unit) (x2 : (List Int)) => Option.bind (orO (!true) (Option.bind (compO (fun (x3 : Int) => Option.bind (n_whole x3) fun v4 => some (!v4)) (fun (x3 : Int) => some x3) x2) fun v5 => some (!decide (v5 = ([] : (List Int)))))) fun c6 => if c6 = true then Option.bind (some false) fun r => some (.rt r) else some (.nx ())) found ()) fun l => l.els (fun (s7 : Unit) => some true) some
noncomputable def n_right (text_here : Tx) : Option Bool :=
  Option.bind (n_told text_here) fun due => Option.bind (some (none : (Option Er))) fun error => Option.bind (some (none : (Option (List (List Int))))) fun found => Option.bind (n_read_model text_here) fun r2 => Option.bind (tryO [.noText] r2 found error) fun p1 => if (Option.isSome due) = true then andO (Option.isNone p1.2) (Option.bind p1.1 fun v3 => Option.bind due fun v4 => n_is_model v3 v4) else Option.bind (isEs [.noText] p1.2 [(.one .noEffect), (.one .noRow), (.one .noThing), (.one .noFit)]) fun c5 => if c5 = true then some false else Option.bind (isE [.noText] p1.2 (.one .noText)) fun v6 => andO v6 (isE [.noText] p1.2 .value)
noncomputable def n_odd (cell : Int) : Option Tx :=
  Option.bind (some [(Tx.str ("" : Str)), (Tx.str (" " : Str)), (Tx.str ("," : Str)), (Tx.str (", " : Str)), (Tx.str ("mean," : Str)), (Tx.str ("mean, " : Str)), (Tx.str ("mean,0" : Str)), (Tx.str ("mean , 0" : Str)), (Tx.str (" mean" : Str)), (Tx.str ("mean " : Str)), (Tx.str ("Mean" : Str)), (Tx.str ("mean 0" : Str))]) fun some' => Option.bind (catO some' [(Tx.str ("0 mean" : Str)), (Tx.str ("6" : Str)), (Tx.str ("0 0" : Str)), (Tx.str ("1 0" : Str)), (Tx.str ("01" : Str)), (Tx.str ("-1" : Str)), (Tx.str ("0  1" : Str)), (Tx.str ("mean, mean" : Str)), (Tx.str ("0 1, 0 1" : Str)), (Tx.str ("0\n" : Str)), Tx.non, ((fun _ => Tx.lst) [(([] : List Int))])]) fun some'_1 => Option.bind (Option.bind (n_mix cell (30 : Int)) fun v1 => some (v1 % 24)) fun v2 => ixO some'_1 v2
noncomputable def n_spoiled (text_here : Str) (cell : Int) : Option Tx :=
  Option.bind (some ("   ,,01234567mean-+\n\t" : Str)) fun signs => Option.bind (Option.bind (n_mix cell (31 : Int)) fun v1 => some (v1 % 8)) fun way => Option.bind (Option.bind (n_mix cell (32 : Int)) fun v3 => Option.bind (Option.bind (lenSO text_here) fun v2 => some (v2 + (1 : Int))) fun v4 => fmodO v3 v4) fun at' => Option.bind (Option.bind (Option.bind (n_mix cell (33 : Int)) fun v5 => Option.bind (lenSO signs) fun v6 => fmodO v5 v6) fun v7 => ixSO signs v7) fun sign => if (decide (way = (0 : Int))) = true then Option.bind (Option.bind (Option.bind (slSO text_here none (some at')) fun v8 => addSO v8 sign) fun v9 => Option.bind (slSO text_here (some at') none) fun v10 => addSO v9 v10) fun v11 => some (Tx.str v11) else if (decide (way = (1 : Int))) = true then Option.bind (Option.bind (slSO text_here none (some at')) fun v12 => Option.bind (slSO text_here (some (at' + (1 : Int))) none) fun v13 => addSO v12 v13) fun v14 => some (Tx.str v14) else if (decide (way < (5 : Int))) = true then Option.bind (Option.bind (Option.bind (slSO text_here none (some at')) fun v15 => addSO v15 sign) fun v16 => Option.bind (slSO text_here (some (at' + (1 : Int))) none) fun v17 => addSO v16 v17) fun v18 => some (Tx.str v18) else if (decide (way = (5 : Int))) = true then n_odd cell else if (decide (way = (6 : Int))) = true then Option.bind (Option.bind (addSO text_here (", " : Str)) fun v24 => Option.bind (Option.bind (splitO text_here (", " : Str)) fun v22 => Option.bind (Option.bind (n_mix cell (34 : Int)) fun v20 => Option.bind (Option.bind (splitO text_here (", " : Str)) fun v19 => some (v19.length : Int)) fun v21 => fmodO v20 v21) fun v23 => ixO v22 v23) fun v25 => addSO v24 v25) fun v26 => some (Tx.str v26) else some (Tx.str text_here)
noncomputable def n_divisor (one : Int) (other : Int) : Option Int :=
  Option.bind (whileS (fun (s1 : Int × Int) => some (!decide (s1.2 = (0 : Int)))) (fun (s1 : Int × Int) => Option.bind (some s1.2) fun one_1 => Option.bind (fmodO s1.1 s1.2) fun other_1 => some (one_1, other_1)) ((other).natAbs + 1) (one, other)) fun (s2 : Int × Int) => some (s2.1.natAbs : Int)
noncomputable def n_fraction (cell : Int) : Option (Int × Int) :=
  Option.bind (Option.bind (Option.bind (n_mix cell (40 : Int)) fun v1 => some (v1 % 13)) fun v2 => some (v2 - (6 : Int))) fun top => Option.bind (Option.bind (Option.bind (Option.bind (n_mix cell (41 : Int)) fun v3 => some (v3 % 3)) fun v4 => some (decide (v4 = (0 : Int)))) fun c5 => if c5 = true then Option.bind (some ((((cell + ((10 : Int) ^ 40)) - (1 : Int)) % ((2 * ((10 : Int) ^ 40)) - (1 : Int))) - (((10 : Int) ^ 40) - (1 : Int)))) fun top_1 => some top_1 else some top) fun s6 => Option.bind (Option.bind (Option.bind (n_mix cell (42 : Int)) fun v7 => some (v7 % 6)) fun v8 => some ((1 : Int) + v8)) fun bottom => Option.bind (Option.bind (Option.bind (Option.bind (n_mix cell (43 : Int)) fun v9 => some (v9 % 4)) fun v10 => some (decide (v10 = (0 : Int)))) fun c11 => if c11 = true then Option.bind (Option.bind (Option.bind (Option.bind (mulO cell cell) fun v12 => some (v12 + (5 : Int))) fun v13 => some (v13 % (((10 : Int) ^ 40) - (1 : Int)))) fun v14 => some ((1 : Int) + v14)) fun bottom_1 => some bottom_1 else some bottom) fun s15 => Option.bind (n_divisor s6 s15) fun by' => Option.bind (fdivO s6 by') fun v16 => Option.bind (fdivO s15 by') fun v17 => some (v16, v17)
noncomputable def n_show_fraction (number : (Int × Int)) : Option Str :=
  Option.bind (some number) fun u1 => if (decide (u1.2 = (1 : Int))) = true then strIO u1.1 else (fun acc => Option.bind (strIO u1.1) fun y4 => Option.bind (addSO acc y4) (fun acc => Option.bind (some ("/" : Str)) fun y3 => Option.bind (addSO acc y3) (fun acc => Option.bind (strIO u1.2) fun y2 => Option.bind (addSO acc y2) (fun acc => some acc)))) Str.empty
noncomputable def n_show_fractions (numbers : (List (Int × Int))) : Option Str :=
  Option.bind (mapO (fun (x1 : (Int × Int)) => n_show_fraction x1) numbers) fun v2 => joinO (" " : Str) v2
noncomputable def n_shown (numbers : (List (Int × Int))) : Option Str :=
  Option.bind (some ([] : (List Str))) fun found => Option.bind (forS (fun (s1 : (List Str)) (x2 : (Int × Int)) => Option.bind (strIO x2.1) fun word => Option.bind (if (!decide (x2.2 = (1 : Int))) = true then Option.bind (Option.bind (addSO word ("/" : Str)) fun v3 => Option.bind (strIO x2.2) fun v4 => addSO v3 v4) fun word_1 => some word_1 else some word) fun s5 => Option.bind (appO s1 s5) fun found_1 => some found_1) numbers found) fun (s6 : (List Str)) => joinO (" " : Str) s6
noncomputable def n_law (script : Scr) : Option Bool :=
  Option.bind (catO (cutL (α := Int) script none (some (63 : Int))) [(0 : Int)]) fun cells => Option.bind (forL (fun (s1 : Unit) (x2 : Int) => Option.bind (n_model x2) fun model_here => Option.bind (n_text model_here) fun text_here => Option.bind (n_show_model model_here) fun found => Option.bind (orO (!true) (orO (!decide (found = text_here)) (Option.bind (n_model x2) fun v3 => some (!decide (model_here = v3))))) fun c4 => if c4 = true then Option.bind (some false) fun r => some (.rt r) else Option.bind (Option.bind (Option.bind (n_right (Tx.str found)) fun v5 => some (!v5)) fun v8 => orO v8 (Option.bind (Option.bind (n_spoiled text_here x2) fun v6 => n_right v6) fun v7 => some (!v7))) fun c9 => if c9 = true then Option.bind (some false) fun r => some (.rt r) else some (.nx ())) cells ()) fun l => l.els (fun (s10 : Unit) => Option.bind (mapO (fun (x11 : Int) => n_fraction x11) (cutL (α := Int) script none (some (63 : Int)))) fun numbers => Option.bind (some numbers) fun kept => Option.bind (n_show_fractions numbers) fun found_1 => andO true (Option.bind (Option.bind (n_shown kept) fun v12 => some (decide (found_1 = v12))) fun v14 => andO v14 (andO (decide (numbers = kept)) (Option.bind (n_show_fractions ([] : (List (Int × Int)))) fun v13 => some (decide (v13 = ("" : Str))))))) some
theorem mn_mix : @m_mix = n_mix := by
  unfold m_mix n_mix
  rfl
theorem mn_model : @m_model = n_model := by
  unfold m_model n_model
  rw [mn_mix]
  first | done | rfl
theorem mn_text : @m_text = n_text := by
  unfold m_text n_text
  rfl
theorem mn_show_numbers : @m_show_numbers = n_show_numbers := by
  unfold m_show_numbers n_show_numbers
  rfl
theorem mn_show_effect : @m_show_effect = n_show_effect := by
  unfold m_show_effect n_show_effect
  rw [mn_show_numbers]
  first | done | rfl
theorem mn_show_model : @m_show_model = n_show_model := by
  unfold m_show_model n_show_model
  rw [mn_show_effect]
  first | done | rfl
theorem mn_told : @m_told = n_told := by
  unfold m_told n_told
  rfl
theorem mn_read_effect : @m_read_effect = n_read_effect := by
  unfold m_read_effect n_read_effect
  rfl
theorem mn_read_model : @m_read_model = n_read_model := by
  unfold m_read_model n_read_model
  rw [mn_read_effect]
  first | done | rfl
theorem mn_whole : @m_whole = n_whole := by
  unfold m_whole n_whole
  rfl
theorem mn_is_model : @m_is_model = n_is_model := by
  unfold m_is_model n_is_model
  rw [mn_whole]
  first | done | rfl
theorem mn_right : @m_right = n_right := by
  unfold m_right n_right
  rw [mn_told]
  rw [mn_read_model]
  rw [mn_is_model]
  first | done | rfl
theorem mn_odd : @m_odd = n_odd := by
  unfold m_odd n_odd
  rw [mn_mix]
  first | done | rfl
theorem mn_spoiled : @m_spoiled = n_spoiled := by
  unfold m_spoiled n_spoiled
  rw [mn_mix]
  rw [mn_odd]
  first | done | rfl
theorem mn_divisor : @m_divisor = n_divisor := by
  unfold m_divisor n_divisor
  rfl
theorem mn_fraction : @m_fraction = n_fraction := by
  unfold m_fraction n_fraction
  rw [mn_mix]
  rw [mn_divisor]
  first | done | rfl
theorem mn_show_fraction : @m_show_fraction = n_show_fraction := by
  unfold m_show_fraction n_show_fraction
  rfl
theorem mn_show_fractions : @m_show_fractions = n_show_fractions := by
  unfold m_show_fractions n_show_fractions
  rw [mn_show_fraction]
  first | done | rfl
theorem mn_shown : @m_shown = n_shown := by
  unfold m_shown n_shown
  rfl
theorem mn_law : @m_law = n_law := by
  unfold m_law n_law
  rw [mn_model]
  rw [mn_text]
  rw [mn_show_model]
  rw [mn_right]
  rw [mn_spoiled]
  rw [mn_fraction]
  rw [mn_show_fractions]
  rw [mn_shown]
  first | done | rfl
end Tf
set_option linter.all false
set_option maxRecDepth 100000
set_option maxHeartbeats 4000000
namespace Tf
theorem mix_ok {cell j : Int} (hc : Cell cell) (h0 : 0 ≤ j) (h1 : j ≤ 100000) : ∃ m, n_mix cell j = some m ∧ 0 ≤ m ∧ m < 2147483629 := by
  obtain ⟨b, b0, b1, hb⟩ := hc
  unfold n_mix
  by_cases hp : cell % 2 = 1
  · rw [if_pos (decide_eq_true hp), shrO_some (by omega)]
    exact ⟨_, rfl, by omega, by omega⟩
  · rw [if_neg (by rw [decide_eq_false hp]; exact Bool.false_ne_true), mulO_some (m := b) (n := 20) hb (by show _ < 1048576; omega) b0 (by decide) (by omega)]
    simp only [Option.bind_some]
    have n0 : 0 ≤ (cell * (2 * j + 3) + j) % 2147483629 := by omega
    have n1 : (cell * (2 * j + 3) + j) % 2147483629 < 2147483629 := by omega
    generalize (cell * (2 * j + 3) + j) % 2147483629 = n at n0 n1
    rw [mulO_some (m := 32) (n := 32) (by omega) (by omega) (by decide) (by decide) (by decide)]
    simp only [Option.bind_some]
    have k0 : 0 ≤ (n * n + 1) * 48271 % 2147483629 := by omega
    have k1 : (n * n + 1) * 48271 % 2147483629 < 2147483629 := by omega
    generalize (n * n + 1) * 48271 % 2147483629 = k at k0 k1
    rw [mulO_some (m := 32) (n := 32) (by omega) (by omega) (by decide) (by decide) (by decide)]
    exact ⟨_, rfl, by omega, by omega⟩
open PySem (Str)
/-! texts -/
theorem lenSO_some {a : Str} (h : a.length ≤ 16777216) : lenSO a = some (a.length : Int) := by
  rw [lenSO_eq]
  exact if_pos h
theorem splitO_some {a b : Str} (hb : (b.length == 0) = false) (h : a.length + 2 ≤ 16777216) : splitO a b = some (PySem.Txt.split a b) := by
  rw [splitO_eq]
  exact if_pos ⟨hb, h⟩
theorem joinO_some {a : Str} {ys : List Str} (h : (ys.map (·.length)).sum + ys.length * a.length ≤ 16777216) : joinO a ys = some (PySem.Txt.join a ys) := by
  rw [joinO_eq]
  exact if_pos h
theorem addSO_some {a b : Str} (h : a.length + b.length ≤ 16777216) : addSO a b = some (a ++ b) := by
  rw [addSO_eq]
  exact if_pos h
theorem slSO_some {a : Str} {lo hi : Option Int} (h : a.length ≤ 16777216) : slSO a lo hi = some (L2.cutS a lo hi) := by
  rw [slSO_eq]
  exact if_pos h
theorem strIO_some {i : Int} (h : i.natAbs.log2 < 1920) : strIO i = some ((toString i : String) : Str) := by
  rw [strIO_eq]
  exact if_pos h
theorem len_app (a b : Str) : (a ++ b).length = a.length + b.length := by
  show (a.cps ++ b.cps).size = _
  rw [Array.size_append]
  rfl
theorem len_cut (a : Str) (lo hi : Option Int) : (L2.cutS a lo hi).length ≤ a.length := by
  show ((List.take _ (List.drop _ a.cps.toList)).toArray).size ≤ a.cps.size
  rw [List.size_toArray, List.length_take, List.length_drop, Array.length_toList]
  omega
theorem str_ext {a b : Str} (h : a.cps.toList = b.cps.toList) : a = b := by
  cases a with
  | mk x =>
    cases b with
    | mk y =>
      have e : x = y := Array.toList_inj.mp h
      rw [e]
theorem join_cps (a : Str) (ys : List Str) : (PySem.Txt.join a ys).length ≤ (ys.map (·.length)).sum + ys.length * a.length := by
  rw [TL.join_eq]
  exact PySem.StrLaws.join_length_le a ys
/-! a single figure -/
abbrev fig (k : Nat) : Str := ⟨#[48 + k]⟩
theorem fig0 : ("0" : Str) = fig 0 := by decide +kernel
theorem fig1 : ("1" : Str) = fig 1 := by decide +kernel
theorem fig2 : ("2" : Str) = fig 2 := by decide +kernel
theorem fig3 : ("3" : Str) = fig 3 := by decide +kernel
theorem fig4 : ("4" : Str) = fig 4 := by decide +kernel
theorem fig5 : ("5" : Str) = fig 5 := by decide +kernel
theorem int_fig {k : Nat} (h : k < 10) : intSO (fig k) = some (k : Int) := by
  rw [intSO_eq]
  have key : ∀ k : Fin 10, intSO_d (fig k.val) = some (k.val : Int) := by decide +kernel
  exact key ⟨k, h⟩
theorem len_one {w : Str} (h : w.length = 1) : ∃ c, w = ⟨#[c]⟩ := by
  cases w with
  | mk x =>
    have h : x.size = 1 := h
    obtain ⟨c, hc⟩ : ∃ c, x = #[c] := ⟨x[0], by
      apply Array.ext
      · simp [h]
      · intro i h1 h2
        have : i = 0 := by omega
        subst this
        rfl⟩
    exact ⟨c, by rw [hc]⟩
theorem isIn_one (c : Nat) (z : Str) : isIn ⟨#[c]⟩ z = decide (c ∈ z.cps.toList) := by
  rw [isIn_eq]
  exact PySem.StrLaws.found_one z c
/-- a word of one figure below n -/
def Dig (n : Nat) (w : Str) : Prop := ∃ k, k < n ∧ w = fig k
instance (n : Nat) (w : Str) : Decidable (Dig n w) := decidable_of_iff (w ∈ (List.range n).map fig) ⟨fun h => by
  obtain ⟨k, hk, rfl⟩ := List.mem_map.mp h
  exact ⟨k, List.mem_range.mp hk, rfl⟩, fun ⟨k, hk, e⟩ => List.mem_map.mpr ⟨k, List.mem_range.mpr hk, e.symm⟩⟩
def figV (w : Str) : Int := (w.cps.toList.headD 48 : Int) - 48
theorem figV_fig (k : Nat) : figV (fig k) = k := by
  show ((48 + k : Nat) : Int) - 48 = k
  omega
theorem dig_int {n : Nat} (hn : n ≤ 10) {w : Str} (h : Dig n w) : intSO w = some (figV w) := by
  obtain ⟨k, hk, rfl⟩ := h
  rw [int_fig (by omega), figV_fig]
theorem dig5 (w : Str) : memB (α := Str) w (tupOf (α := Str) [("0" : Str), ("1" : Str), ("2" : Str), ("3" : Str), ("4" : Str)]) = decide (Dig 5 w) := by
  rw [memB_eq]
  refine decide_eq_decide.mpr ?_
  show w ∈ [("0" : Str), ("1" : Str), ("2" : Str), ("3" : Str), ("4" : Str)] ↔ _
  rw [fig0, fig1, fig2, fig3, fig4]
  constructor
  · intro h
    simp only [List.mem_cons, List.not_mem_nil, or_false] at h
    rcases h with h | h | h | h | h
    · exact ⟨0, by decide, h⟩
    · exact ⟨1, by decide, h⟩
    · exact ⟨2, by decide, h⟩
    · exact ⟨3, by decide, h⟩
    · exact ⟨4, by decide, h⟩
  · rintro ⟨k, hk, rfl⟩
    have hk : k = 0 ∨ k = 1 ∨ k = 2 ∨ k = 3 ∨ k = 4 := by omega
    rcases hk with rfl | rfl | rfl | rfl | rfl <;> simp
theorem dig6 (w : Str) : memB (α := Str) w (tupOf (α := Str) [("0" : Str), ("1" : Str), ("2" : Str), ("3" : Str), ("4" : Str), ("5" : Str)]) = decide (Dig 6 w) := by
  rw [memB_eq]
  refine decide_eq_decide.mpr ?_
  show w ∈ [("0" : Str), ("1" : Str), ("2" : Str), ("3" : Str), ("4" : Str), ("5" : Str)] ↔ _
  rw [fig0, fig1, fig2, fig3, fig4, fig5]
  constructor
  · intro h
    simp only [List.mem_cons, List.not_mem_nil, or_false] at h
    rcases h with h | h | h | h | h | h
    · exact ⟨0, by decide, h⟩
    · exact ⟨1, by decide, h⟩
    · exact ⟨2, by decide, h⟩
    · exact ⟨3, by decide, h⟩
    · exact ⟨4, by decide, h⟩
    · exact ⟨5, by decide, h⟩
  · rintro ⟨k, hk, rfl⟩
    have hk : k = 0 ∨ k = 1 ∨ k = 2 ∨ k = 3 ∨ k = 4 ∨ k = 5 := by omega
    rcases hk with rfl | rfl | rfl | rfl | rfl | rfl <;> simp
theorem sign5 : (("01234" : Str).cps.toList) = [48, 49, 50, 51, 52] := by decide +kernel
theorem sign6 : (("012345" : Str).cps.toList) = [48, 49, 50, 51, 52, 53] := by decide +kernel
/-- len(word) != 1 or word not in the signs -/
theorem step_test {n : Nat} {S : Str} {w : Str} (hS : ∀ c, c ∈ S.cps.toList ↔ ∃ k, k < n ∧ c = 48 + k) (hw : w.length ≤ 16777216) :
    (Option.bind (Option.bind (Option.bind (lenSO w) fun v3 => some (!decide (v3 = (1 : Int)))) fun v4 => orO v4 (some (!isIn w S)))) = fun (k : Bool → Option (Ex Unit)) => k (!decide (Dig n w)) := by
  funext k
  rw [lenSO_some hw]
  simp only [Option.bind_some]
  by_cases h1 : w.length = 1
  · obtain ⟨c, rfl⟩ := len_one h1
    have e : decide (((⟨#[c]⟩ : Str).length : Int) = 1) = true := by rw [h1]; rfl
    rw [e, isIn_one]
    show Option.bind (some (!decide (c ∈ S.cps.toList))) k = _
    have e2 : decide (c ∈ S.cps.toList) = decide (Dig n ⟨#[c]⟩) := decide_eq_decide.mpr <| (hS c).trans ⟨fun ⟨j, hj, e⟩ => ⟨j, hj, by rw [e]⟩, fun ⟨j, hj, e⟩ => ⟨j, hj, by
      have := congrArg (fun s : Str => s.cps.toList) e
      simpa using this⟩⟩
    rw [e2]
    rfl
  · have e : decide ((w.length : Int) = 1) = false := decide_eq_false (by omega)
    rw [e]
    have e2 : decide (Dig n w) = false := decide_eq_false (by
      rintro ⟨j, _, rfl⟩
      exact h1 rfl)
    rw [e2]
    rfl
theorem in5 (c : Nat) : c ∈ ("01234" : Str).cps.toList ↔ ∃ k, k < 5 ∧ c = 48 + k := by
  rw [sign5]
  simp only [List.mem_cons, List.not_mem_nil, or_false]
  constructor
  · intro h
    exact ⟨c - 48, by omega, by omega⟩
  · rintro ⟨k, hk, rfl⟩
    omega
theorem in6 (c : Nat) : c ∈ ("012345" : Str).cps.toList ↔ ∃ k, k < 6 ∧ c = 48 + k := by
  rw [sign6]
  simp only [List.mem_cons, List.not_mem_nil, or_false]
  constructor
  · intro h
    exact ⟨c - 48, by omega, by omega⟩
  · rintro ⟨k, hk, rfl⟩
    omega
/-- a loop that only looks -/
theorem forX_look {α : Type} {step : Unit → α → Option (Ex Unit)} {e : Er} {p : α → Bool} : ∀ {xs : List α}, (∀ x ∈ xs, step () x = some (if p x = true then .ok () else .err e)) → forX step xs () = some (if xs.all p = true then .ok () else .err e)
  | [], _ => rfl
  | x :: r, h => by
    show bindX (step () x) _ = _
    rw [h x List.mem_cons_self, List.all_cons]
    by_cases hp : p x = true
    · rw [if_pos hp, hp, Bool.true_and]
      exact forX_look fun y hy => h y (List.mem_cons_of_mem _ hy)
    · rw [if_neg hp]
      simp only [Bool.not_eq_true] at hp
      rw [hp]
      rfl
def exO {α : Type} (e : Er) : Option α → Ex α
  | some v => .ok v
  | none => .err e
theorem mapX_look {α β : Type} {f : α → Option (Ex β)} {g : α → Option β} {e : Er} : ∀ {xs : List α}, (∀ x ∈ xs, f x = some (exO e (g x))) → mapX f xs = some (exO e (mapO g xs))
  | [], _ => rfl
  | x :: r, h => by
    show bindX (f x) _ = some (exO e ((g x).bind fun y => (mapO g r).bind fun ys => some (y :: ys)))
    rw [h x List.mem_cons_self]
    have ih := mapX_look (xs := r) fun y hy => h y (List.mem_cons_of_mem _ hy)
    cases g x with
    | none => rfl
    | some v =>
      show bindX (mapX f r) _ = _
      rw [ih]
      cases mapO g r <;> rfl
theorem split_parts {x y a : Str} (h : a ∈ PySem.Txt.split x y) : a.length ≤ x.length := PyProof.Rows.part_short h
theorem forL_look {α ρ : Type} {step : Unit → α → Option (Lp Unit ρ)} {q : ρ} {p : α → Bool} : ∀ {xs : List α}, (∀ x ∈ xs, step () x = some (if p x = true then .nx () else .rt q)) → forL step xs () = some (if xs.all p = true then .nx () else .rt q)
  | [], _ => rfl
  | x :: r, h => by
    show (step () x).bind _ = _
    rw [h x List.mem_cons_self, List.all_cons]
    by_cases hp : p x = true
    · rw [if_pos hp, hp, Bool.true_and]
      exact forL_look fun y hy => h y (List.mem_cons_of_mem _ hy)
    · rw [if_neg hp]
      simp only [Bool.not_eq_true] at hp
      rw [hp]
      rfl
theorem str_fig {k : Nat} (h : k < 10) : ((toString ((k : Nat) : Int) : String) : Str) = fig k := by
  have key : ∀ k : Fin 10, ((toString ((k.val : Nat) : Int) : String) : Str) = fig k.val := by decide +kernel
  exact key ⟨k, h⟩
theorem strI_fig {x : Int} (h0 : 0 ≤ x) (h1 : x < 10) : strIO x = some (fig x.toNat) := by
  rw [strIO_some (by
    have : x.natAbs < 2 ^ 4 := by show _ < 16; omega
    rcases Nat.eq_zero_or_pos x.natAbs with z | z
    · rw [z]; decide
    · have := (Nat.log2_lt (by omega)).mpr this
      omega)]
  have e : x = ((x.toNat : Nat) : Int) := by omega
  have := str_fig (k := x.toNat) (by omega)
  rw [← e] at this
  rw [this]
theorem sum_le {α : Type} {f : α → Nat} {b : Nat} : ∀ {l : List α}, (∀ x ∈ l, f x ≤ b) → (l.map f).sum ≤ l.length * b
  | [], _ => Nat.zero_le _
  | x :: r, h => by
    rw [List.map_cons, List.sum_cons, List.length_cons, Nat.succ_mul]
    have := h x List.mem_cons_self
    have := sum_le (l := r) fun y hy => h y (List.mem_cons_of_mem _ hy)
    omega
theorem wlen : ((" " : Str)).length = 1 := by decide +kernel
theorem ixSO_some {a : Str} {i : Int} (h : a.length ≤ 1000) (h0 : 0 ≤ i) (h1 : i < (a.length : Int)) : ∃ c, ixSO a i = some ⟨#[c]⟩ := by
  have hl : a.cps.toList.length = a.length := by rw [Array.length_toList]; rfl
  obtain ⟨c, e, _⟩ := ixO_lt (xs := a.cps.toList) (i := i) h0 (by rw [hl]; exact h1)
  refine ⟨c, ?_⟩
  rw [ixSO_eq]
  unfold ixSO_d
  rw [if_pos (by omega)]
  have e2 : L2.atI a.cps.toList i = some c := e
  rw [e2]
  rfl
def shB : Tx → Bool
  | .str s => decide (s.length + 2 ≤ 1000000)
  | _ => true
def Sh (t : Tx) : Prop := match t with
  | .str s => s.length + 2 ≤ 1000000
  | _ => True
theorem sh_of {t : Tx} (h : shB t = true) : Sh t := by
  cases t with
  | str s => exact of_decide_eq_true (p := s.length + 2 ≤ 1000000) h
  | _ => trivial
theorem cell_shift {z k : Int} (h : PySem.Builtin.Int.intBits z ≤ 1048576) (k0 : 0 ≤ k) (k1 : k ≤ 1000) : Cell (z + k) := by
  have key : ∀ B : Nat, 10 ≤ B → z.natAbs < 2 ^ B → (z + k).natAbs < 2 ^ (B + 1) := fun B hB hz => by
    have h10 : (2 : Nat) ^ 10 ≤ 2 ^ B := Nat.pow_le_pow_right (by decide) hB
    have e10 : (2 : Nat) ^ 10 = 1024 := by decide
    rw [Nat.pow_succ]
    omega
  have hB : ∃ B : Nat, 10 ≤ B ∧ B ≤ 1048586 ∧ z.natAbs < 2 ^ B := by
    by_cases e : z = 0
    · exact ⟨10, by decide, by decide, by rw [e]; decide⟩
    · have h2 : z.natAbs.log2 + 1 ≤ 1048576 := by
        unfold PySem.Builtin.Int.intBits at h
        rw [if_neg (by rw [beq_iff_eq]; exact e)] at h
        exact h
      exact ⟨z.natAbs.log2 + 1 + 10, by omega, by omega, Nat.lt_of_lt_of_le Nat.lt_log2_self (Nat.pow_le_pow_right (by decide) (by omega))⟩
  obtain ⟨B, b0, b1, hz⟩ := hB
  exact cell_le (B := B + 1) (by omega) (by omega) (key B b0 hz)
theorem forS_map {α β : Type} {step : List β → α → Option (List β)} {g : α → β} (M : Nat) : ∀ {xs : List α}, (∀ s x, x ∈ xs → s.length < M → step s x = some (s ++ [g x])) → ∀ {s0 : List β}, s0.length + xs.length ≤ M → forS step xs s0 = some (s0 ++ xs.map g)
  | [], _, s0, _ => by simp [forS]
  | x :: xs, h, s0, hl => by
    rw [List.length_cons] at hl
    show (step s0 x).bind _ = _
    rw [h s0 x List.mem_cons_self (by omega)]
    show forS step xs _ = _
    rw [forS_map M (g := g) (fun s y hy => h s y (List.mem_cons_of_mem _ hy)) (by rw [List.length_append, List.length_singleton]; omega), List.append_assoc]
    rfl
def comma : Str := ", "
theorem wsp_ne : ((" " : Str).length == 0) = false := by decide +kernel
theorem com_ne : ((", " : Str).length == 0) = false := by decide +kernel
/-- the numbers rise, behind one -/
def rise : Option Int → List Int → Bool
  | _, [] => true
  | o, x :: r => (match o with | none => true | some y => decide (y < x)) && rise (some x) r
def eff (p : Str) : Option (List Int) := if p = ("mean" : Str) then some [] else if (PySem.Txt.split p (" " : Str)).all (fun w => decide (Dig 6 w)) = true ∧ rise none ((PySem.Txt.split p (" " : Str)).map figV) = true then some ((PySem.Txt.split p (" " : Str)).map figV) else none
theorem words_val {ws : List Str} (h : ws.all (fun w => decide (Dig 6 w)) = true) : mapO (fun (x7 : Str) => intSO x7) ws = some (ws.map figV) := mapO_some fun w hw => dig_int (n := 6) (by decide) (of_decide_eq_true (List.all_eq_true.mp h w hw))
theorem geS_fig (a b : Nat) : geS (fig a) (fig b) = decide ((b : Int) ≤ a) := by
  unfold geS
  have e : ((fig a).cps.toList < (fig b).cps.toList) ↔ a < b := by
    show ([48 + a] : List Nat) < [48 + b] ↔ _
    rw [List.cons_lt_cons_iff]
    simp
  by_cases h : a < b
  · rw [decide_eq_true (e.mpr h), decide_eq_false (by omega)]
    rfl
  · rw [decide_eq_false (fun z => h (e.mp z)), decide_eq_true (by omega)]
    rfl
theorem zip_rise : ∀ (w : Str) (ws : List Str), (w :: ws).all (fun w => decide (Dig 6 w)) = true → ((List.zip (w :: ws) ws).all fun x => !geS x.1 x.2) = rise (some (figV w)) (ws.map figV)
  | _, [], _ => rfl
  | w, v :: r, h => by
    rw [List.all_cons, Bool.and_eq_true] at h
    have ih := zip_rise v r h.2
    rw [List.zip_cons_cons, List.all_cons, ih, List.map_cons]
    show _ = (decide (figV w < figV v) && rise (some (figV v)) (r.map figV))
    obtain ⟨a, _, rfl⟩ := of_decide_eq_true h.1
    rw [List.all_cons, Bool.and_eq_true] at h
    obtain ⟨b, _, rfl⟩ := of_decide_eq_true h.2.1
    rw [geS_fig, figV_fig, figV_fig]
    congr 1
    by_cases q : (a : Int) < b
    · rw [decide_eq_true q, decide_eq_false (by omega)]
      rfl
    · rw [decide_eq_false q, decide_eq_true (by omega)]
      rfl
theorem zip_take : ∀ (l m : List Str) (k : Nat), m.length ≤ k → List.zip (l.take k) m = List.zip l m
  | _, [], _, _ => by rw [List.zip_nil_right, List.zip_nil_right]
  | [], _, _, _ => by rw [List.take_nil]
  | a :: l, b :: m, 0, h => by simp at h
  | a :: l, b :: m, k + 1, h => by
    rw [List.take_succ_cons, List.zip_cons_cons, List.zip_cons_cons, zip_take l m k (by simpa using h)]
theorem zip_drop (l : List Str) : List.zip (cutL l none (some (-1))) (cutL l (some (1 : Int)) none) = List.zip l l.tail := by
  have e1 : cutL l none (some (-1)) = l.take (l.length - 1) := by
    unfold cutL HT.sIx
    cases l with
    | nil => rfl
    | cons a r =>
      simp
      omega
  have e2 : cutL l (some (1 : Int)) none = l.tail := by
    unfold cutL HT.sIx
    cases l with
    | nil => rfl
    | cons a r =>
      simp
  rw [e1, e2]
  exact zip_take l l.tail _ (by rw [List.length_tail]; exact Nat.le_refl _)
theorem read_effect_eq {p : Str} (hp : p.length + 2 ≤ 1000000) : n_read_effect p = some (exO .noText (eff p)) := by
  unfold n_read_effect eff
  by_cases hm : p = ("mean" : Str)
  · rw [if_pos (decide_eq_true hm), if_pos hm]
    rfl
  rw [if_neg (by rw [decide_eq_true_eq]; exact hm), if_neg hm, splitO_some wsp_ne (by omega)]
  simp only [Option.bind_some]
  have hw : ∀ w ∈ PySem.Txt.split p (" " : Str), w.length ≤ 16777216 := fun w hw => by
    have := split_parts hw
    omega
  have pos := PyProof.Rows.split_pos p (" " : Str)
  generalize PySem.Txt.split p (" " : Str) = ws at hw pos
  rw [forX_look (e := .noText) (p := fun w => decide (Dig 6 w)) fun w hm => by
    have e := congrFun (step_test (n := 6) in6 (hw w hm)) fun c5 => if c5 = true then some (.err .noText) else okX (some ())
    rw [e]
    cases decide (Dig 6 w) <;> rfl]
  by_cases ha : ws.all (fun w => decide (Dig 6 w)) = true
  · rw [if_pos ha]
    show bindX (forX _ (List.zip (cutL ws none (some (-1))) (cutL ws (some (1 : Int)) none)) ()) _ = _
    rw [zip_drop, forX_look (e := .noText) (p := fun x : Str × Str => !geS x.1 x.2) fun x _ => by cases geS x.1 x.2 <;> rfl]
    obtain ⟨w, r, rfl⟩ : ∃ w r, ws = w :: r := by
      cases ws with
      | nil => simp at pos
      | cons a b => exact ⟨a, b, rfl⟩
    have e := zip_rise w r ha
    show bindX (some (if ((List.zip (w :: r) r).all fun x => !geS x.1 x.2) = true then Ex.ok () else .err .noText)) _ = _
    rw [e]
    have e2 : rise none ((w :: r).map figV) = rise (some (figV w)) (r.map figV) := by
      show (true && _) = _
      rw [Bool.true_and]
    rw [e2]
    by_cases hr : rise (some (figV w)) (r.map figV) = true
    · rw [if_pos hr, if_pos ⟨ha, hr⟩, words_val ha]
      rfl
    · rw [if_neg hr, if_neg (fun z => hr z.2)]
      rfl
  · have e2 : (if ws.all (fun w => decide (Dig 6 w)) = true ∧ rise none (ws.map figV) = true then some (ws.map figV) else none) = none := if_neg (fun z => ha z.1)
    rw [if_neg ha, e2]
    rfl
/-- the model that a text tells -/
def md (s : Str) : Option (List (List Int)) := (mapO eff (PySem.Txt.split s (", " : Str))).bind fun vs => if vs.Nodup then some vs else none
theorem cnt_nodup {vs : List (List Int)} : (vs.all fun x => !decide ((1 : Int) < cntP (α := List Int) vs x)) = true ↔ vs.Nodup := by
  have e : ∀ x, cntP (α := List Int) vs x = ((vs.count x : Nat) : Int) := fun x => by
    unfold cntP List.count
    congr 1
    refine List.countP_congr fun y _ => ?_
    rw [decide_eq_true_eq, beq_iff_eq]
  rw [List.all_eq_true, List.nodup_iff_count]
  constructor
  · intro h a
    by_cases ha : a ∈ vs
    · have := h a ha
      rw [e] at this
      simp at this
      omega
    · rw [List.count_eq_zero.mpr ha]
      omega
  · intro h a _
    rw [e]
    have := h a
    simp
    omega
theorem read_model_eq {s : Str} (hs : s.length + 2 ≤ 1000000) : n_read_model (.str s) = some (exO .noText (md s)) := by
  unfold n_read_model md
  simp only [Tx.isS, Bool.not_true, Bool.false_eq_true, if_false, Tx.s?, Option.bind_some]
  rw [splitO_some com_ne (by omega)]
  simp only [Option.bind_some]
  have hw : ∀ w ∈ PySem.Txt.split s (", " : Str), w.length ≤ s.length := fun w hw => split_parts hw
  generalize PySem.Txt.split s (", " : Str) = ps at hw
  rw [mapX_look (e := .noText) (g := eff) fun p hm => read_effect_eq (Nat.le_trans (Nat.add_le_add_right (hw p hm) 2) (by omega))]
  cases hv : mapO eff ps with
  | none => rfl
  | some vs =>
    show bindX (forX _ vs ()) _ = _
    rw [forX_look (e := .noText) (p := fun x => !decide ((1 : Int) < cntP (α := List Int) vs x)) fun x _ => by cases decide ((1 : Int) < cntP (α := List Int) vs x) <;> rfl]
    by_cases h : vs.Nodup
    · rw [if_pos (cnt_nodup.mpr h)]
      simp only [Option.bind_some, if_pos h]
      rfl
    · rw [if_neg (fun z => h (cnt_nodup.mp z))]
      simp only [Option.bind_some, if_neg h]
      rfl
/-! the judge -/
def goE : List Int → List Str → Option (List Int)
  | acc, [] => some acc
  | acc, w :: r => if Dig 6 w then (if acc ≠ [] ∧ figV w ≤ acc.getLastD 0 then none else goE (acc ++ [figV w]) r) else none
theorem last_opt (acc : List Int) : acc.getLast? = if acc = [] then none else some (acc.getLastD 0) := by
  cases acc with
  | nil => rfl
  | cons a r =>
    rw [if_neg (List.cons_ne_nil _ _), List.getLastD_eq_getLast?, List.getLast?_eq_some_getLast (List.cons_ne_nil a r)]
    rfl
theorem goE_eq : ∀ (ws : List Str) (acc : List Int), goE acc ws = if ws.all (fun w => decide (Dig 6 w)) = true ∧ rise acc.getLast? (ws.map figV) = true then some (acc ++ ws.map figV) else none
  | [], acc => by
    rw [if_pos ⟨rfl, rfl⟩]
    show some acc = some (acc ++ [])
    rw [List.append_nil]
  | w :: r, acc => by
    show (if Dig 6 w then _ else _) = _
    by_cases hd : Dig 6 w
    · rw [if_pos hd, List.all_cons, decide_eq_true hd, Bool.true_and, List.map_cons]
      have er : rise acc.getLast? (figV w :: r.map figV) = (!decide (acc ≠ [] ∧ figV w ≤ acc.getLastD 0) && rise (some (figV w)) (r.map figV)) := by
        rw [last_opt]
        by_cases ha : acc = []
        · rw [if_pos ha, decide_eq_false (fun z => z.1 ha)]
          rfl
        · rw [if_neg ha]
          show (decide (acc.getLastD 0 < figV w) && _) = _
          congr 1
          by_cases q : figV w ≤ acc.getLastD 0
          · have e1 : decide (acc ≠ [] ∧ figV w ≤ acc.getLastD 0) = true := decide_eq_true ⟨ha, q⟩
            have e2 : decide (acc.getLastD 0 < figV w) = false := decide_eq_false (by omega)
            rw [e1, e2]
            rfl
          · have e1 : decide (acc ≠ [] ∧ figV w ≤ acc.getLastD 0) = false := decide_eq_false (fun z => q z.2)
            have e2 : decide (acc.getLastD 0 < figV w) = true := decide_eq_true (by omega)
            rw [e1, e2]
            rfl
      rw [er]
      by_cases hc : acc ≠ [] ∧ figV w ≤ acc.getLastD 0
      · rw [if_pos hc, decide_eq_true hc, if_neg (by rw [Bool.not_true, Bool.false_and]; exact fun z => Bool.false_ne_true z.2)]
      · rw [if_neg hc, decide_eq_false hc, goE_eq r (acc ++ [figV w]), List.getLast?_concat, List.append_assoc]
        simp only [Bool.not_false, Bool.true_and, List.singleton_append]
    · rw [if_neg hd, if_neg (by rw [List.all_cons, decide_eq_false hd, Bool.false_and]; exact fun z => Bool.false_ne_true z.1)]
theorem goE_nil (ws : List Str) : goE [] ws = if ws.all (fun w => decide (Dig 6 w)) = true ∧ rise none (ws.map figV) = true then some (ws.map figV) else none := goE_eq ws []
def goM : List (List Int) → List Str → Option (List (List Int))
  | found, [] => some found
  | found, p :: r => (eff p).bind fun e => if e ∈ found then none else goM (found ++ [e]) r
theorem goM_eq : ∀ (ps : List Str) (found : List (List Int)), found.Nodup → goM found ps = (mapO eff ps).bind fun vs => if (found ++ vs).Nodup then some (found ++ vs) else none
  | [], found, h => by
    show some found = if (found ++ []).Nodup then some (found ++ []) else none
    rw [List.append_nil, if_pos h]
  | p :: r, found, h => by
    show (eff p).bind _ = ((eff p).bind fun y => (mapO eff r).bind fun ys => some (y :: ys)).bind _
    cases eff p with
    | none => rfl
    | some e =>
      simp only [Option.bind_some]
      by_cases he : e ∈ found
      · rw [if_pos he]
        cases mapO eff r with
        | none => rfl
        | some vs =>
          simp only [Option.bind_some]
          rw [if_neg (fun z => (List.nodup_append.mp z).2.2 e he e List.mem_cons_self rfl)]
      · rw [if_neg he]
        have h2 : (found ++ [e]).Nodup := List.nodup_append.mpr ⟨h, by simp, fun a ha b hb => by
          rw [List.mem_singleton.mp hb]
          exact fun z => he (z ▸ ha)⟩
        rw [goM_eq r (found ++ [e]) h2]
        cases mapO eff r with
        | none => rfl
        | some vs => simp only [Option.bind_some, List.append_assoc, List.singleton_append]
def lpGo {S ρ α : Type} (step : S → α → Option (Lp S ρ)) (r : List α) : Lp S ρ → Option (Lp S ρ)
  | .nx s' => forL step r s'
  | .ct s' => forL step r s'
  | .bk s' => some (.nx s')
  | .rt q => some (.rt q)
theorem forL_opt {S ρ α : Type} {step : S → α → Option (Lp S ρ)} {x : α} {r : List α} {s : S} {T : Option (Lp S ρ)} (o : Lp S ρ) (h : step s x = some o) (h2 : lpGo step r o = T) : forL step (x :: r) s = T := by
  show (step s x).bind _ = _
  rw [h]
  cases o <;> exact h2
theorem told_eq {s : Str} (hs : s.length + 2 ≤ 1000000) : n_told (.str s) = some (md s) := by
  unfold n_told
  simp only [Tx.isS, Bool.not_true, Bool.false_eq_true, if_false, Tx.s?, Option.bind_some]
  rw [splitO_some com_ne (by omega)]
  simp only [Option.bind_some]
  have hw : ∀ w ∈ PySem.Txt.split s (", " : Str), w.length ≤ s.length := fun w hw => split_parts hw
  have big := PyProof.Rows.split_le s (", " : Str)
  have e : md s = goM [] (PySem.Txt.split s (", " : Str)) := by
    rw [goM_eq _ _ List.nodup_nil]
    rfl
  rw [e]
  generalize PySem.Txt.split s (", " : Str) = ps at hw big
  -- a piece's words
  have inner : ∀ (ws : List Str) (acc : List Int), acc.length + ws.length ≤ 1000000 → forL (fun (s4 : (List Int)) (x5 : Str) => if (!memB (α := Str) x5 ([("0" : Str), ("1" : Str), ("2" : Str), ("3" : Str), ("4" : Str), ("5" : Str)])) = true then some (.rt (none : (Option (List (List Int))))) else Option.bind (andO (!decide (s4 = (([] : List Int)))) (Option.bind (ixO (α := Int) s4 ((List.length (α := Int) s4 : Int) - (1 : Int))) fun v6 => Option.bind (intSO x5) fun v7 => some (decide (v7 ≤ v6)))) fun c8 => if c8 = true then some (.rt (none : (Option (List (List Int))))) else Option.bind (Option.bind (Option.bind (intSO x5) fun v9 => some [v9]) fun v10 => catO (α := Int) s4 v10) fun effect_1 => some (.nx effect_1)) ws acc
      = some (match goE acc ws with | some v => .nx v | none => .rt none) := by
    intro ws
    induction ws with
    | nil => intro acc _; rfl
    | cons w r ih =>
      intro acc hl
      rw [List.length_cons] at hl
      have eg : goE acc (w :: r) = if Dig 6 w then (if acc ≠ [] ∧ figV w ≤ acc.getLastD 0 then none else goE (acc ++ [figV w]) r) else none := rfl
      rw [eg]
      show Option.bind (if (!memB (α := Str) w (tupOf (α := Str) [("0" : Str), ("1" : Str), ("2" : Str), ("3" : Str), ("4" : Str), ("5" : Str)])) = true then _ else _) _ = _
      rw [dig6]
      by_cases hd : Dig 6 w
      · have ei : intSO w = some (figV w) := dig_int (n := 6) (by decide) hd
        rw [decide_eq_true hd, if_neg (by decide), if_pos hd, ei]
        simp only [Option.bind_some]
        have test : andO (!decide (acc = ([] : List Int))) (Option.bind (ixO (α := Int) acc ((List.length (α := Int) acc : Int) - (1 : Int))) fun v6 => some (decide (figV w ≤ v6))) = some (decide (acc ≠ [] ∧ figV w ≤ acc.getLastD 0)) := by
          by_cases ha : acc = []
          · rw [decide_eq_true ha, decide_eq_false (fun z => z.1 ha)]
            rfl
          · have pos : 0 < acc.length := List.length_pos_iff.mpr ha
            have ex : ixO (α := Int) acc ((List.length (α := Int) acc : Int) - (1 : Int)) = some (acc.getLastD 0) := by
              rw [atI_get (by omega)]
              have e1 : ((acc.length : Int) - 1).toNat = acc.length - 1 := by omega
              rw [e1, ← List.getLast?_eq_getElem?, last_opt, if_neg ha]
            rw [decide_eq_false ha, ex]
            show some (decide (figV w ≤ acc.getLastD 0)) = _
            congr 1
            exact decide_eq_decide.mpr ⟨fun h => ⟨ha, h⟩, fun h => h.2⟩
        rw [test]
        simp only [Option.bind_some]
        by_cases hc : acc ≠ [] ∧ figV w ≤ acc.getLastD 0
        · rw [decide_eq_true hc, if_pos rfl, if_pos hc]
          rfl
        · rw [decide_eq_false hc, if_neg Bool.false_ne_true, if_neg hc, catO_some (by rw [List.length_singleton]; omega)]
          simp only [Option.bind_some]
          exact ih (acc ++ [figV w]) (by rw [List.length_append, List.length_singleton]; omega)
      · rw [decide_eq_false hd, if_pos (show (!false) = true from rfl), if_neg hd]
        rfl
  have key : ∀ (qs : List Str) (found : List (List Int)), (∀ w ∈ qs, w.length ≤ s.length) → found.length + qs.length ≤ 1000000 →
      forL (fun (s2 : (List (List Int))) (x3 : Str) => if (!decide (x3 = ("mean" : Str))) = true then Option.bind (Option.bind (splitO x3 (" " : Str)) fun xs12 => forL (fun (s4 : (List Int)) (x5 : Str) => if (!memB (α := Str) x5 ([("0" : Str), ("1" : Str), ("2" : Str), ("3" : Str), ("4" : Str), ("5" : Str)])) = true then some (.rt (none : (Option (List (List Int))))) else Option.bind (andO (!decide (s4 = (([] : List Int)))) (Option.bind (ixO (α := Int) s4 ((List.length (α := Int) s4 : Int) - (1 : Int))) fun v6 => Option.bind (intSO x5) fun v7 => some (decide (v7 ≤ v6)))) fun c8 => if c8 = true then some (.rt (none : (Option (List (List Int))))) else Option.bind (Option.bind (Option.bind (intSO x5) fun v9 => some [v9]) fun v10 => catO (α := Int) s4 v10) fun effect_1 => some (.nx effect_1)) xs12 ([] : List Int)) fun l => l.els (fun (s11 : (List Int)) => if (memB s11 s2) = true then some (.rt (none : (Option (List (List Int))))) else Option.bind (appO s2 s11) fun found_1 => some (.nx found_1)) fun r => some (.rt r) else if (memB ([] : List Int) s2) = true then some (.rt (none : (Option (List (List Int))))) else Option.bind (appO s2 ([] : List Int)) fun found_2 => some (.nx found_2)) qs found
        = some (match goM found qs with | some L => .nx L | none => .rt none) := by
    intro qs
    induction qs with
    | nil => intro found _ _; rfl
    | cons x r ih =>
      intro found hq hl
      have hx := hq x List.mem_cons_self
      rw [List.length_cons] at hl
      have eg : goM found (x :: r) = (eff x).bind fun e => if e ∈ found then none else goM (found ++ [e]) r := rfl
      rw [eg]
      have add : ∀ v : List Int, (if (memB v found) = true then some (.rt (none : (Option (List (List Int))))) else Option.bind (appO found v) fun found_1 => some (.nx found_1) : Option (Lp (List (List Int)) (Option (List (List Int))))) = some (if v ∈ found then (.rt none) else .nx (found ++ [v])) := fun v => by
        rw [memB_eq]
        by_cases hv : v ∈ found
        · rw [decide_eq_true hv, if_pos rfl, if_pos hv]
        · rw [decide_eq_false hv, if_neg Bool.false_ne_true, if_neg hv, appO_some (by omega)]
          rfl
      refine forL_opt (match eff x with | some v => if v ∈ found then .rt none else .nx (found ++ [v]) | none => .rt none) ?_ ?_
      rotate_left
      · cases eff x with
        | none => rfl
        | some v =>
          by_cases hv : v ∈ found
          · simp only [if_pos hv, Option.bind_some]
            rfl
          · simp only [if_neg hv, Option.bind_some]
            exact ih (found ++ [v]) (fun w hw => hq w (List.mem_cons_of_mem _ hw)) (by rw [List.length_append, List.length_singleton]; omega)
      show (if (!decide (x = ("mean" : Str))) = true then _ else _ : Option (Lp (List (List Int)) (Option (List (List Int))))) = _
      unfold eff
      by_cases hm : x = ("mean" : Str)
      · rw [if_neg (by rw [decide_eq_true hm]; decide), if_pos hm]
        exact add []
      · rw [if_pos (by rw [decide_eq_false hm]; rfl), if_neg hm, splitO_some wsp_ne (by omega)]
        simp only [Option.bind_some]
        have wl := PyProof.Rows.split_le x (" " : Str)
        generalize PySem.Txt.split x (" " : Str) = ws at wl
        rw [inner ws [] (by rw [List.length_nil]; omega), goE_nil]
        by_cases hg : ws.all (fun w => decide (Dig 6 w)) = true ∧ rise none (ws.map figV) = true
        · rw [if_pos hg]
          exact add (ws.map figV)
        · rw [if_neg hg]
          rfl
  rw [key ps [] (fun w hm => hw w hm) (by rw [List.length_nil]; omega)]
  simp only [Option.bind_some]
  cases goM [] ps <;> rfl
theorem told_oth {t : Tx} (h : t.isS = false) : n_told t = some none := by
  unfold n_told
  rw [h]
  rfl
theorem read_oth {t : Tx} (h : t.isS = false) : n_read_model t = some (.err .noText) := by
  unfold n_read_model
  rw [h]
  rfl
theorem wholes : ∀ x : List Int, compO (fun (x3 : Int) => Option.bind (n_whole x3) fun v4 => some (!v4)) (fun (x3 : Int) => some x3) x = some []
  | [] => rfl
  | a :: r => wholes r
theorem is_model_ok (L : List (List Int)) : n_is_model L L = some true := by
  unfold n_is_model
  rw [if_neg (by simp)]
  refine forL_then (fun _ => True) (fun s x _ _ => ?_) trivial fun s _ => rfl
  refine ⟨(), .inl ?_, trivial⟩
  rw [wholes x]
  rfl
theorem right_ok {t : Tx} (h : Sh t) : n_right t = some true := by
  have fin : ∀ o : Option (List (List Int)), n_told t = some o → n_read_model t = some (exO .noText o) → n_right t = some true := by
    intro o e1 e2
    unfold n_right
    rw [e1, e2]
    cases o with
    | none => rfl
    | some L =>
      simp only [Option.bind_some, exO, tryO, Option.isSome_some, if_true, Option.isNone_none, andO]
      exact is_model_ok L
  cases t with
  | str s => exact fin _ (told_eq h) (read_model_eq h)
  | non => exact fin none (told_oth rfl) (read_oth rfl)
  | int i => exact fin none (told_oth rfl) (read_oth rfl)
  | lst => exact fin none (told_oth rfl) (read_oth rfl)
def ModOk (M : List (List Int)) : Prop := M.length ≤ 6 ∧ ∀ t ∈ M, t.length ≤ 6 ∧ ∀ x ∈ t, 0 ≤ x ∧ x < 6
def word (t : List Int) : Str := if t = [] then ("mean" : Str) else PySem.Txt.join (" " : Str) (t.map fun x => fig x.toNat)
theorem clen : ((", " : Str)).length = 2 := by decide +kernel
theorem mlen : (("mean" : Str)).length = 4 := by decide +kernel
theorem word_ok {t : List Int} (h1 : t.length ≤ 6) (h2 : ∀ x ∈ t, 0 ≤ x ∧ x < 6) : mapO (fun (x3 : Int) => strIO x3) t = some (t.map fun x => fig x.toNat) ∧ joinO (" " : Str) (t.map fun x => fig x.toNat) = some (PySem.Txt.join (" " : Str) (t.map fun x => fig x.toNat)) ∧ (word t).length ≤ 12 := by
  have s1 : ((t.map fun x => fig x.toNat).map (·.length)).sum ≤ (t.map fun x => fig x.toNat).length * 1 := sum_le fun y hy => by
    obtain ⟨x, _, rfl⟩ := List.mem_map.mp hy
    exact Nat.le_refl 1
  rw [List.length_map] at s1
  have guard : ((t.map fun x => fig x.toNat).map (·.length)).sum + (t.map fun x => fig x.toNat).length * (" " : Str).length ≤ 12 := by
    rw [wlen, List.length_map]
    omega
  refine ⟨mapO_some fun x hx => strI_fig (h2 x hx).1 (by have := (h2 x hx).2; omega), joinO_some (by omega), ?_⟩
  unfold word
  split
  · rw [mlen]
    decide
  · exact Nat.le_trans (join_cps _ _) guard
theorem text_ok {M : List (List Int)} (h : ModOk M) : ∃ T, n_text M = some T ∧ n_show_model M = some T ∧ T.length ≤ 100 := by
  have s1 : ((M.map word).map (·.length)).sum ≤ (M.map word).length * 12 := sum_le fun y hy => by
    obtain ⟨x, hx, rfl⟩ := List.mem_map.mp hy
    exact (word_ok (h.2 x hx).1 (h.2 x hx).2).2.2
  rw [List.length_map] at s1
  have guard : ((M.map word).map (·.length)).sum + (M.map word).length * (", " : Str).length ≤ 100 := by
    rw [clen, List.length_map]
    have := h.1
    omega
  have ej : joinO (", " : Str) (M.map word) = some (PySem.Txt.join (", " : Str) (M.map word)) := joinO_some (by omega)
  refine ⟨PySem.Txt.join (", " : Str) (M.map word), ?_, ?_, Nat.le_trans (join_cps _ _) guard⟩
  · unfold n_text
    simp only [Option.bind_some]
    rw [forS_map 100 (g := word) (fun s x hx hs => by
      obtain ⟨e1, e2, _⟩ := word_ok (h.2 x hx).1 (h.2 x hx).2
      rw [e1]
      simp only [Option.bind_some]
      rw [e2]
      simp only [Option.bind_some]
      by_cases he : x = []
      · have ed : decide (x = (tupOf (α := Int) ([] : List Int))) = true := decide_eq_true he
        have ew : word x = ("mean" : Str) := if_pos he
        rw [ed, ew]
        simp only [if_true, Option.bind_some]
        rw [appO_some (by omega)]
        rfl
      · have ed : decide (x = (tupOf (α := Int) ([] : List Int))) = false := decide_eq_false he
        have ew : word x = PySem.Txt.join (" " : Str) (x.map fun x => fig x.toNat) := if_neg he
        rw [ed, ew]
        simp only [Bool.false_eq_true, if_false, Option.bind_some]
        rw [appO_some (by omega)]
        rfl) (by rw [List.length_nil]; have := h.1; omega)]
    simp only [Option.bind_some, List.nil_append]
    exact ej
  · unfold n_show_model
    rw [mapO_some (g := word) fun x hx => by
      obtain ⟨e1, e2, _⟩ := word_ok (h.2 x hx).1 (h.2 x hx).2
      unfold n_show_effect
      by_cases he : x = []
      · have ed : decide (x = (tupOf (α := Int) ([] : List Int))) = true := decide_eq_true he
        have ew : word x = ("mean" : Str) := if_pos he
        rw [if_pos ed, ew]
      · have ed : decide (x = (tupOf (α := Int) ([] : List Int))) = false := decide_eq_false he
        have ew : word x = PySem.Txt.join (" " : Str) (x.map fun x => fig x.toNat) := if_neg he
        rw [ed, ew, if_neg Bool.false_ne_true]
        unfold n_show_numbers
        rw [e1]
        simp only [Option.bind_some]
        exact e2]
    simp only [Option.bind_some]
    exact ej
theorem model_ok {cell : Int} (hc : Cell cell) : Ok (n_model cell) ModOk := by
  unfold n_model
  simp only [Option.bind_some]
  obtain ⟨m, em, m0, m1⟩ := mix_ok (j := 1) hc (by decide) (by decide)
  rw [em]
  simp only [Option.bind_some]
  rw [rngO_some (by decide) (by omega) (by omega) (by omega)]
  simp only [Option.bind_some]
  refine ok_bind ModOk ?_ fun s hs => ok_some hs
  refine ok_mono (ok_forp (fun q (s : List (List Int)) => s.length ≤ q.length ∧ ∀ t ∈ s, t.length ≤ 6 ∧ ∀ x ∈ t, 0 ≤ x ∧ x < 6) (xs := rng 0 (1 + m % 6)) ⟨Nat.le_refl _, fun _ h => nomatch h⟩ fun s x q hx hq _ hs => ?_) fun M hM => ⟨?_, hM.2⟩
  · have hx := rng_mem.mp hx
    rw [rng_len] at hq
    obtain ⟨a, ea, a0, a1⟩ := mix_ok (j := 2 + x) hc (by omega) (by omega)
    obtain ⟨b, eb, b0, b1⟩ := mix_ok (j := 10 + x) hc (by omega) (by omega)
    rw [ea]
    simp only [Option.bind_some]
    rw [rngO_some (by decide) (by decide) (by decide) (by decide)]
    simp only [Option.bind_some]
    obtain ⟨ys, ey, hy⟩ := ok_filter (xs := rng 0 6) (p := fun (x9 : Int) => Option.bind (Option.bind (shrO (a % 64) x9) fun v10 => some (v10 % 2)) fun v11 => some (decide (v11 = (1 : Int)))) fun y hy => by
      have hy := rng_mem.mp hy
      rw [shrO_some hy.1]
      exact ok_some trivial
    rw [ey]
    simp only [Option.bind_some]
    rw [eb]
    simp only [Option.bind_some]
    have l6 : ys.length ≤ 6 := Nat.le_trans hy.length_le (by rw [rng_len]; decide)
    have hv : (cutL ys none (some (b % 5))).length ≤ 6 ∧ ∀ x ∈ cutL ys none (some (b % 5)), 0 ≤ x ∧ x < 6 := by
      refine ⟨?_, fun z hz => ?_⟩
      · unfold cutL
        rw [List.length_take, List.length_drop]
        omega
      · exact rng_mem.mp (hy.subset (List.mem_of_mem_drop (List.mem_of_mem_take hz)))
    cases memB (cutL ys none (some (b % 5))) s with
    | true =>
      refine ok_some ⟨?_, hs.2⟩
      rw [List.length_append]
      have := hs.1
      omega
    | false =>
      simp only [Bool.not_false, if_true]
      rw [appO_some (by have := hs.1; omega)]
      refine ok_some ⟨?_, fun t ht => ?_⟩
      · rw [List.length_append, List.length_append]
        have := hs.1
        simp
        exact this
      · rcases List.mem_append.mp ht with h | h
        · exact hs.2 t h
        · rw [List.mem_singleton.mp h]
          exact hv
  · have := hM.1
    rw [rng_len] at this
    omega
theorem signs_len : (("   ,,01234567mean-+\n\t" : Str)).length = 21 := by decide +kernel
theorem odd_ok {cell : Int} (hc : Cell cell) : Ok (n_odd cell) Sh := by
  obtain ⟨m, em, m0, m1⟩ := mix_ok (j := 30) hc (by decide) (by decide)
  unfold n_odd
  rw [em]
  simp only [Option.bind_some]
  rw [catO_some (by simp)]
  simp only [Option.bind_some]
  refine ok_ix (fun t ht => sh_of ?_) (by omega) (by simp; omega)
  revert t
  rw [← List.all_eq_true]
  decide +kernel
theorem spoiled_ok {T : Str} {cell : Int} (hT : T.length ≤ 5000) (hc : Cell cell) : Ok (n_spoiled T cell) Sh := by
  obtain ⟨m1, e1, a1, b1⟩ := mix_ok (j := 31) hc (by decide) (by decide)
  obtain ⟨m2, e2, a2, b2⟩ := mix_ok (j := 32) hc (by decide) (by decide)
  obtain ⟨m3, e3, a3, b3⟩ := mix_ok (j := 33) hc (by decide) (by decide)
  obtain ⟨m4, e4, a4, b4⟩ := mix_ok (j := 34) hc (by decide) (by decide)
  unfold n_spoiled
  rw [e1, e2, e3, e4, lenSO_some (show T.length ≤ 16777216 by omega)]
  simp only [Option.bind_some]
  rw [lenSO_some (show (("   ,,01234567mean-+\n\t" : Str)).length ≤ 16777216 by rw [signs_len]; decide), signs_len]
  simp only [Option.bind_some]
  rw [fmodO_pos (by omega), fmodO_pos (by decide)]
  simp only [Option.bind_some]
  obtain ⟨c, ec⟩ := ixSO_some (a := ("   ,,01234567mean-+\n\t" : Str)) (i := m3 % ((21 : Nat) : Int)) (by rw [signs_len]; decide) (by omega) (by rw [signs_len]; omega)
  rw [ec]
  simp only [Option.bind_some]
  have c1 : ∀ lo hi, slSO T lo hi = some (L2.cutS T lo hi) := fun lo hi => slSO_some (by omega)
  have l1 : ∀ lo hi, (L2.cutS T lo hi).length ≤ 5000 := fun lo hi => Nat.le_trans (len_cut T lo hi) hT
  have one : (⟨#[c]⟩ : Str).length = 1 := rfl
  simp only [c1, Option.bind_some]
  by_cases w0 : (decide (m1 % 8 = (0 : Int))) = true
  · rw [if_pos w0, addSO_some (by rw [one]; have := l1 none (some (m2 % ((T.length : Int) + 1))); omega)]
    simp only [Option.bind_some]
    rw [addSO_some (by rw [len_app, one]; have := l1 none (some (m2 % ((T.length : Int) + 1))); have := l1 (some (m2 % ((T.length : Int) + 1))) none; omega)]
    refine ok_some ?_
    show (_ ++ _ : Str).length + 2 ≤ 1000000
    rw [len_app, len_app, one]
    have := l1 none (some (m2 % ((T.length : Int) + 1)))
    have := l1 (some (m2 % ((T.length : Int) + 1))) none
    omega
  rw [if_neg w0]
  have q1 := l1 none (some (m2 % ((T.length : Int) + 1)))
  have q2 := l1 (some (m2 % ((T.length : Int) + 1) + 1)) none
  by_cases w1 : (decide (m1 % 8 = (1 : Int))) = true
  · rw [if_pos w1, addSO_some (by omega)]
    refine ok_some ?_
    show (_ ++ _ : Str).length + 2 ≤ 1000000
    rw [len_app]
    omega
  rw [if_neg w1]
  by_cases w2 : (decide (m1 % 8 < (5 : Int))) = true
  · rw [if_pos w2, addSO_some (by rw [one]; omega)]
    simp only [Option.bind_some]
    rw [addSO_some (by rw [len_app, one]; omega)]
    refine ok_some ?_
    show (_ ++ _ : Str).length + 2 ≤ 1000000
    rw [len_app, len_app, one]
    omega
  rw [if_neg w2]
  by_cases w3 : (decide (m1 % 8 = (5 : Int))) = true
  · rw [if_pos w3]
    exact odd_ok hc
  rw [if_neg w3]
  by_cases w4 : (decide (m1 % 8 = (6 : Int))) = true
  · rw [if_pos w4, addSO_some (by rw [clen]; omega), splitO_some com_ne (by omega)]
    simp only [Option.bind_some]
    have pos := PyProof.Rows.split_pos T (", " : Str)
    have hw : ∀ w ∈ PySem.Txt.split T (", " : Str), w.length ≤ T.length := fun w hw => split_parts hw
    generalize PySem.Txt.split T (", " : Str) = ps at pos hw
    rw [fmodO_pos (by omega)]
    simp only [Option.bind_some]
    obtain ⟨w, ew, hwm⟩ := ixO_lt (xs := ps) (i := m4 % (ps.length : Int)) (Int.emod_nonneg _ (by omega)) (Int.emod_lt_of_pos _ (by omega))
    have := hw w hwm
    rw [ew]
    simp only [Option.bind_some]
    rw [addSO_some (by rw [len_app, clen]; omega)]
    refine ok_some ?_
    show (_ ++ _ : Str).length + 2 ≤ 1000000
    rw [len_app, len_app, clen]
    omega
  · rw [if_neg w4]
    refine ok_some ?_
    show T.length + 2 ≤ 1000000
    omega
theorem divisor_eq (a b : Int) : n_divisor a b = some (Int.gcd a b : Int) := by
  obtain ⟨g, e, hg⟩ := euclid (b.natAbs + 1) a b (by omega)
  unfold n_divisor
  rw [e]
  show some (g.natAbs : Int) = _
  rw [hg]
/-- a fraction of the law: small, below a bottom that is no zero -/
def FrOk (q : Int × Int) : Prop := q.1.natAbs < 2 ^ 200 ∧ q.2.natAbs < 2 ^ 200
theorem fdiv_small {a g : Int} (hg : 0 < g) {B : Nat} (h : a.natAbs < B) : (a.fdiv g).natAbs < B ∨ (a.fdiv g).natAbs ≤ B := by
  right
  rw [Int.fdiv_eq_ediv_of_nonneg _ (Int.le_of_lt hg)]
  have h1 : a / g ≤ a.natAbs := by
    rcases Int.lt_or_le a 0 with h | h
    · have := Int.ediv_neg_of_neg_of_pos h hg
      omega
    · have := Int.ediv_le_self g h
      omega
  have h2 : -(a.natAbs : Int) ≤ a / g := by
    rw [Int.le_ediv_iff_mul_le hg]
    have : (a.natAbs : Int) * 1 ≤ a.natAbs * g := Int.mul_le_mul_of_nonneg_left (by omega) (by omega)
    rw [Int.neg_mul]
    omega
  omega
theorem fraction_ok {z : Int} (hc : Cell z) : Ok (n_fraction z) FrOk := by
  obtain ⟨m1, e1, a1, b1⟩ := mix_ok (j := 40) hc (by decide) (by decide)
  obtain ⟨m2, e2, a2, b2⟩ := mix_ok (j := 41) hc (by decide) (by decide)
  obtain ⟨m3, e3, a3, b3⟩ := mix_ok (j := 42) hc (by decide) (by decide)
  obtain ⟨m4, e4, a4, b4⟩ := mix_ok (j := 43) hc (by decide) (by decide)
  unfold n_fraction
  rw [e1, e2, e3, e4]
  simp only [Option.bind_some]
  have big : (10 : Int) ^ 40 < 2 ^ 140 := by decide
  have top : ∃ t : Int, (if decide (m2 % 3 = (0 : Int)) = true then Option.bind (some ((((z + ((10 : Int) ^ 40)) - (1 : Int)) % ((2 * ((10 : Int) ^ 40)) - (1 : Int))) - (((10 : Int) ^ 40) - (1 : Int)))) fun top_1 => some top_1 else some (m1 % 13 - 6)) = some t ∧ t.natAbs < 10 ^ 40 := by
    split
    · refine ⟨_, rfl, ?_⟩
      have := Int.emod_nonneg (z + (10 : Int) ^ 40 - 1) (show (2 * (10 : Int) ^ 40 - 1) ≠ 0 by decide)
      have := Int.emod_lt_of_pos (z + (10 : Int) ^ 40 - 1) (show 0 < (2 * (10 : Int) ^ 40 - 1) by decide)
      omega
    · exact ⟨_, rfl, by omega⟩
  simp only [Option.bind_some] at top
  obtain ⟨t, et, ht⟩ := top
  rw [et]
  simp only [Option.bind_some]
  obtain ⟨bz, p0, p1, hz⟩ := hc
  have bot : ∃ b : Int, (if decide (m4 % 4 = (0 : Int)) = true then Option.bind (Option.bind (Option.bind (Option.bind (mulO z z) fun v12 => some (v12 + (5 : Int))) fun v13 => some (v13 % (((10 : Int) ^ 40) - (1 : Int)))) fun v14 => some ((1 : Int) + v14)) fun bottom_1 => some bottom_1 else some (1 + m3 % 6)) = some b ∧ 0 < b ∧ b.natAbs ≤ 10 ^ 40 := by
    split
    · rw [mulO_some hz hz p0 p0 (by omega)]
      simp only [Option.bind_some]
      refine ⟨_, rfl, ?_⟩
      have := Int.emod_nonneg (z * z + 5) (show ((10 : Int) ^ 40 - 1) ≠ 0 by decide)
      have := Int.emod_lt_of_pos (z * z + 5) (show 0 < ((10 : Int) ^ 40 - 1) by decide)
      constructor <;> omega
    · exact ⟨_, rfl, by omega, by omega⟩
  obtain ⟨b, eb, b0, hb⟩ := bot
  rw [eb]
  simp only [Option.bind_some]
  rw [divisor_eq]
  simp only [Option.bind_some]
  have hg : (0 : Int) < (Int.gcd t b : Int) := by
    have : 0 < Int.gcd t b := Int.gcd_pos_of_ne_zero_right _ (by omega)
    omega
  rw [fdivO_some (by omega), fdivO_some (by omega)]
  simp only [Option.bind_some]
  have big2 : (10 : Nat) ^ 40 < 2 ^ 200 := by decide
  refine ok_some ⟨?_, ?_⟩
  · show (t.fdiv _).natAbs < _
    rcases fdiv_small hg (B := 10 ^ 40) ht with h | h <;> omega
  · show (b.fdiv _).natAbs < _
    rcases fdiv_small hg (B := 10 ^ 40 + 1) (show b.natAbs < 10 ^ 40 + 1 by omega) with h | h <;> omega
def numT (i : Int) : Str := ((toString i : String) : Str)
theorem num_some {i : Int} (h : i.natAbs < 2 ^ 200) : strIO i = some (numT i) := strIO_some (by
  rcases Nat.eq_zero_or_pos i.natAbs with z | z
  · rw [z]; decide
  · have := (Nat.log2_lt (by omega)).mpr h
    omega)
theorem numT_len {i : Int} (h : i.natAbs < 2 ^ 200) : (numT i).length ≤ 201 := by
  have e : (numT i).length = (toString i).length := PySem.ofString_length _
  rw [e]
  refine PySem.int_text_length_le (k := 200) (by decide) ?_
  rcases Nat.eq_zero_or_pos i.natAbs with z | z
  · rw [z]; decide
  · exact (Nat.log2_lt (by omega)).mpr h
theorem slash_len : (("/" : Str)).length = 1 := by decide +kernel
theorem empty_add (a : Str) : Str.empty ++ a = a := str_ext (by
  show (#[] ++ a.cps).toList = a.cps.toList
  rw [Array.toList_append]
  rfl)
def frT (q : Int × Int) : Str := if q.2 = 1 then numT q.1 else (numT q.1 ++ ("/" : Str)) ++ numT q.2
theorem frT_len {q : Int × Int} (h : FrOk q) : (frT q).length ≤ 403 := by
  have h1 := numT_len h.1
  have h2 := numT_len h.2
  unfold frT
  split
  · omega
  · rw [len_app, len_app, slash_len]
    omega
theorem show_fraction_eq {q : Int × Int} (h : FrOk q) : n_show_fraction q = some (frT q) := by
  have h1 := numT_len h.1
  have h2 := numT_len h.2
  unfold n_show_fraction frT
  simp only [Option.bind_some]
  by_cases hq : q.2 = 1
  · rw [if_pos (decide_eq_true hq), if_pos hq]
    exact num_some h.1
  · rw [if_neg (by rw [decide_eq_false hq]; exact Bool.false_ne_true), if_neg hq, num_some h.1, num_some h.2]
    have l0 : (Str.empty).length = 0 := rfl
    simp only [Option.bind_some]
    rw [addSO_some (by rw [l0]; omega)]
    simp only [Option.bind_some]
    rw [addSO_some (by rw [len_app, l0, slash_len]; omega)]
    simp only [Option.bind_some]
    rw [addSO_some (by rw [len_app, len_app, l0, slash_len]; omega), empty_add]
    rfl
theorem shown_eq {L : List (Int × Int)} (hl : L.length ≤ 63) (h : ∀ q ∈ L, FrOk q) : ∃ T, n_show_fractions L = some T ∧ n_shown L = some T := by
  have s1 : ((L.map frT).map (·.length)).sum ≤ (L.map frT).length * 403 := sum_le fun y hy => by
    obtain ⟨q, hq, rfl⟩ := List.mem_map.mp hy
    exact frT_len (h q hq)
  rw [List.length_map] at s1
  have ej : joinO (" " : Str) (L.map frT) = some (PySem.Txt.join (" " : Str) (L.map frT)) := joinO_some (by
    rw [wlen, List.length_map]
    omega)
  refine ⟨PySem.Txt.join (" " : Str) (L.map frT), ?_, ?_⟩
  · unfold n_show_fractions
    rw [mapO_some (g := frT) fun q hq => show_fraction_eq (h q hq)]
    simp only [Option.bind_some]
    exact ej
  · unfold n_shown
    simp only [Option.bind_some]
    rw [forS_map 100 (g := frT) (fun s q hq hs => by
      have h1 := numT_len (h q hq).1
      have h2 := numT_len (h q hq).2
      rw [num_some (h q hq).1, num_some (h q hq).2]
      simp only [Option.bind_some]
      unfold frT
      by_cases e : q.2 = 1
      · rw [if_neg (by rw [decide_eq_true e]; exact Bool.false_ne_true), if_pos e]
        simp only [Option.bind_some]
        rw [appO_some (by omega)]
        rfl
      · rw [if_pos (by rw [decide_eq_false e]; rfl), if_neg e, addSO_some (by rw [slash_len]; omega)]
        simp only [Option.bind_some]
        rw [addSO_some (by rw [len_app, slash_len]; omega)]
        simp only [Option.bind_some]
        rw [appO_some (by omega)]
        rfl) (by rw [List.length_nil]; omega)]
    simp only [Option.bind_some, List.nil_append]
    exact ej
theorem law_trueN (ns : List Int) (hl : ns.length ≤ 63) (hb : ∀ z ∈ ns, PySem.Builtin.Int.intBits z ≤ 1048576) : n_law ns = some true := by
  obtain ⟨cells, ec, _, hc⟩ := cells_ok hl hb
  unfold n_law
  rw [ec]
  simp only [Option.bind_some]
  refine forL_then (fun _ => True) (fun s x hx _ => ?_) trivial fun s _ => ?_
  · refine ⟨(), .inl ?_, trivial⟩
    have hcell := hc x hx
    obtain ⟨M, eM, hM⟩ := model_ok hcell
    obtain ⟨T, e1, e2, hT⟩ := text_ok hM
    obtain ⟨t, et, ht⟩ := spoiled_ok (T := T) (by omega) hcell
    have sh : Sh (.str T) := by
      show T.length + 2 ≤ 1000000
      omega
    rw [eM]
    simp only [Option.bind_some]
    rw [e1]
    simp only [Option.bind_some]
    rw [e2]
    simp only [Option.bind_some, decide_true, Bool.not_true, orO, Bool.false_eq_true, if_false]
    rw [right_ok sh, et]
    simp only [Option.bind_some, Bool.not_true, Bool.false_eq_true, if_false]
    rw [right_ok ht]
    rfl
  · have ecut : cutL (α := Int) ns none (some (63 : Int)) = ns := by
      rw [show (63 : Int) = ((63 : Nat) : Int) from rfl, cut_take, List.take_of_length_le hl]
    rw [ecut]
    obtain ⟨L, eL, lL, hL⟩ := mapO_ok (xs := ns) (Q := FrOk) fun z hz => fraction_ok (cell_of (hb z hz))
    rw [show mapO (fun (x11 : Int) => n_fraction x11) ns = some L from eL]
    simp only [Option.bind_some]
    obtain ⟨T, e1, e2⟩ := shown_eq (by omega) hL
    obtain ⟨T0, e3, e4⟩ := shown_eq (L := []) (by decide) (fun _ h => nomatch h)
    have e5 : n_show_fractions ([] : (List (Int × Int))) = some ("" : Str) := by
      rw [e3]
      have : some T0 = joinO (" " : Str) [] := by
        rw [← e4]
        rfl
      rw [this, joinO_some (by decide)]
      congr 1
    rw [e1]
    simp only [Option.bind_some]
    rw [e2, e5]
    simp only [Option.bind_some, decide_true]
    rfl

theorem law_true (ns : List Int) (hl : ns.length ≤ 63) (hb : ∀ z ∈ ns, PySem.Builtin.Int.intBits z ≤ 1048576) : m_law ns = some true := (congrFun mn_law ns).trans (law_trueN ns hl hb)

end Tf
set_option Elab.async false
set_option linter.all false
set_option maxRecDepth 100000
set_option maxHeartbeats 4000000
namespace Tf
open PySem PySem.Spec L2 PyProof.Rows
def topS (i : Nat) : Stmt := PySem.Challenge.pw_trialfield_k92_models_as_texts.main.body.getD i (.Pass ⟨0, 0, 0, 0⟩)
structure Blt (K : Fg) (mg : Str → Option Value) : Type where
  dummy : True
  g_THINGS : ∃ u, mg "THINGS" = some u ∧ RelV (V.str ("012345" : Str)) u
  ValueError' : mg "ValueError" = none
  abs' : mg "abs" = none
  bool' : mg "bool" = none
  int' : mg "int" = none
  isinstance' : mg "isinstance" = none
  len' : mg "len" = none
  list' : mg "list" = none
  range' : mg "range" = none
  str' : mg "str" = none
  tuple' : mg "tuple" = none
  zip' : mg "zip" = none
abbrev s_mix : Stmt := topS 18
abbrev N_mix : List Str := ["_law_cell", "_law_j", "_law_number"]
theorem sc_mix : FnScope N_mix ["_law_cell", "_law_j"] (defScope s_mix) := ⟨rfl, rfl, rfl, by decide +kernel, rfl, by decide +kernel, by decide +kernel⟩
abbrev sp_mix (K : Fg) [Nms K] : Sp := SpF (K := K) (ι := Int × Int × Unit) (ρ := Int) (fun p => [vl p.1, vl p.2.1]) (fun p => m_mix p.1 p.2.1) (RVt K Int)
set_option maxHeartbeats 4000000 in
theorem ok_mix {P : Program} {w : World} {K : Fg} [Nms K] {mg : Str → Option Value} {base : Heap} {fa : Addr} {fd : FuncData} (F : Fun K "_law_mix" "_law_mix" s_mix fa fd) (B : Blt K mg) (hN : base.NoSeer) (ht : P.given.tree = none) (EX : Xf K mg [.noText] [.one .noEffect, .one .noRow, .one .noThing, .one .noFit, .one .noText, .value]) : FnOk P w K mg base CX0 41 fa fd ["_law_cell", "_law_j"] (sp_mix K) :=
  fn_okB (k := 40) F sc_mix (fun _ => rfl) fun cdv A outer s H E hr => by
    have sc := sc_mix
    have hu64 := hr.units
    have hP : FdR P (A.deeper (envOfC "_law_mix" (defScope s_mix) s.heap.objs.size fa cdv)) (envOfC "_law_mix" (defScope s_mix) s.heap.objs.size fa cdv :: outer) base := ⟨hN, ht, ⟨_, _, rfl, sc.gen, sc.co, rfl, rfl⟩, depth_of hr (by decide)⟩
    have hu65 := hu_65 hr
    refine ⟨_, (pss_cons (ps_if (pt_cmpR (op_eqP hu64) (pe_op op_mod (pv 0) pe_int) pe_int (nomark _)) (pss_cons (ps_ret (pe_op op_mod (pe_op op_shr (pv 0) (pe_op op_add pe_int (pe_op op_mul pe_int (pv 1)))) pe_int)) pss_nil) pss_nil) (pss_cons (ps_set (i := 2) sc.nd rfl (.inl rfl) (pe_op op_mod (pe_op op_add (pe_op op_mulT (pv 0) (pe_op op_add (pe_op op_mul pe_int (pv 1)) pe_int)) (pv 1)) pe_int)) (pss_cons (ps_set (i := 2) sc.nd rfl (.inl rfl) (pe_op op_mod (pe_op op_mul (pe_op op_add (pe_op op_mulT (pv 2) (pv 2)) pe_int) pe_int) pe_int)) (pss_cons (ps_ret (pe_op op_mod (pe_op op_mulT (pv 2) (pv 2)) pe_int)) pss_nil)))), ?_⟩
    rintro ⟨cell, j, _⟩
    show Sx (RVt K Int) .rt _ ([vl cell, vl j, .no] : Env K) (m_mix cell j)
    unfold m_mix
    exact sx_ifP (et_is (et_test (ev_eqG (ev_modL (by decide) (ev_var rfl)) ev_int)) rfl) (sx_assoc (sx_ret (ev_is (ev_modL (by decide) (ev_shr (ev_var rfl) (ev_add ev_int (ev_mulL (by decide) (ev_var rfl))))) rfl))) (sx_skip (sx_asg (ev_is (ev_modL (by decide) (ev_add (ev_mul (ev_var rfl) (ev_add (ev_mulL (by decide) (ev_var rfl)) ev_int)) (ev_var rfl))) rfl) (fun number => sx_asg (ev_is (ev_modL (by decide) (ev_mulR (by decide) (ev_add (ev_mul (ev_var rfl) (ev_var rfl)) ev_int))) rfl) (fun number_1 => sx_ret (ev_is (ev_modL (by decide) (ev_mul (ev_var rfl) (ev_var rfl))) rfl)))))
abbrev s_model : Stmt := topS 20
abbrev N_model : List Str := ["_law_cell", "_law_found", "_law_k", "_law_mask", "_law_effect", "_law_j"]
theorem sc_model : FnScope N_model ["_law_cell"] (defScope s_model) := ⟨rfl, rfl, rfl, by decide +kernel, rfl, by decide +kernel, by decide +kernel⟩
abbrev sp_model (K : Fg) [Nms K] : Sp := SpF (K := K) (ι := Int × Unit) (ρ := (List (Tup Int))) (fun p => [vl p.1]) (fun p => m_model p.1) (RNt K (Tup Int))
set_option maxHeartbeats 4000000 in
theorem ok_model {P : Program} {w : World} {K : Fg} [Nms K] {mg : Str → Option Value} {base : Heap} {fa : Addr} {fd : FuncData} (F : Fun K "_law_model" "_law_model" s_model fa fd) (B : Blt K mg) (hN : base.NoSeer) (ht : P.given.tree = none) (EX : Xf K mg [.noText] [.one .noEffect, .one .noRow, .one .noThing, .one .noFit, .one .noText, .value]) (C_mix : Cal P w K mg base 41 "_law_mix" ["_law_cell", "_law_j"] (sp_mix K)) : FnOk P w K mg base CX0 42 fa fd ["_law_cell"] (sp_model K) :=
  fn_okB (k := 41) F sc_model (fun _ => rfl) fun cdv A outer s H E hr => by
    have sc := sc_model
    have hu64 := hr.units
    have hP : FdR P (A.deeper (envOfC "_law_model" (defScope s_model) s.heap.objs.size fa cdv)) (envOfC "_law_model" (defScope s_model) s.heap.objs.size fa cdv :: outer) base := ⟨hN, ht, ⟨_, _, rfl, sc.gen, sc.co, rfl, rfl⟩, depth_of hr (by decide)⟩
    have hu65 := hu_65 hr
    refine ⟨_, (pss_cons (ps_set (i := 1) sc.nd rfl (.inl rfl) (pe_lst pa_nil)) (pss_cons (ps_for PassesOwn.never rfl (pi_range1 (by rfl) B.range' (pa_cons (pe_op op_add pe_int (pe_op op_mod (pe_cal C_mix hr (by decide) (by rfl) (pa_cons (pv 0) (pa_cons pe_int pa_nil))) pe_int)) pa_nil)) (pg_name (i := 2) sc.nd rfl (.inl rfl)) (pss_cons (ps_set (i := 3) sc.nd rfl (.inr rfl) (pe_op op_mod (pe_cal C_mix hr (by decide) (by rfl) (pa_cons (pv 0) (pa_cons (pe_op op_add pe_int (pv 2)) pa_nil))) pe_int)) (pss_cons (ps_set (i := 4) sc.nd rfl (.inl rfl) (pe_callTy call_tuple_of (by rfl) B.tuple' (by decide +kernel) (pa_cons (pe_slice sl_list (pe_lc (own := [("_law_j", 5)]) (g := gName 5) (by rfl) sc.nd (pi_range1 (by rfl) B.range' (pa_cons pe_int pa_nil)) (blkOk_by (own := [("_law_j", 5)]) (N := N_model) (sc := defScope s_model) (by decide +kernel)) (fun _ _ _ _ _ => (pg_name (i := 5) sc.nd rfl (.inl rfl))) (fun _ _ _ _ _ => pts_one (pt_cmpR (opK (K := K) (r := rEqP) (op_eqP hu64) rfl) (pe_op op_mod (pe_op op_shr (pv 3) (pv 5)) pe_int) pe_int (nomark _))) (fun _ _ _ _ _ => (pv 5))) po_none (po_some (pe_op op_mod (pe_cal C_mix hr (by decide) (by rfl) (pa_cons (pv 0) (pa_cons (pe_op op_add pe_int (pv 2)) pa_nil))) pe_int))) pa_nil))) (pss_cons (ps_if (pt_cmpR (op_notInP hu65) (pv 4) (pv 1) rfl) (pss_cons (ps_expr (pe_bm PySem.F.plainAttrs_list PySem.F.slot_list_append PySem.F.type_list_append mt_append (pv 1) (pa_cons (pv 4) pa_nil))) pss_nil) pss_nil) pss_nil)))) (pss_cons (ps_ret (pv 1)) pss_nil))), ?_⟩
    rintro ⟨cell, _⟩
    show Sx (RNt K (Tup Int)) .rt _ ([vl cell, .no, .no, .no, .no, .no] : Env K) (m_model cell)
    unfold m_model
    exact sx_asgN (ev_is (ev_lst eh_nil) rfl) (fun found => sx_for (enc := (fun (s4 : (List (Tup Int))) => ([vl cell, ow s4, .no, .no, .no, .no] : Env K))) (ei_is (ei_rng1 (ev_add ev_int (ev_modL (by decide) (ev_call (ea_cons (ev_var rfl) (ea_cons ev_int ea_nil)))))) rfl) rfl (fun s4 x5 => sx_asg (ev_is (ev_modL (by decide) (ev_call (ea_cons (ev_var rfl) (ea_cons (ev_add ev_int (ev_var rfl)) ea_nil)))) rfl) (fun mask => sx_asg (ev_is (ev_tuple (ev_rdN (ev_sl (ev_rdN (ev_comp (ei_rng1 ev_int) (by decide) rfl (fun x9 => et_is (et_test (ev_eqG (ev_modL (by decide) (ev_shr (ev_var rfl) (ev_var rfl))) ev_int)) rfl) (fun x9 => ev_is (ev_var rfl) rfl))) eo_none (eo_some (ev_modL (by decide) (ev_call (ea_cons (ev_var rfl) (ea_cons (ev_add ev_int (ev_var rfl)) ea_nil)))))))) rfl) (fun effect => sx_ifJP (enc := (fun (s16 : (List (Tup Int))) => ([vl cell, ow s16, vl x5, vl mask, vl effect, .no] : Env K))) (et_is (et_test (ev_notIn (ev_var rfl) (ev_varL rfl))) rfl) (sx_appP rfl (ev_is (ev_var rfl) rfl) (fun found_1 => sx_end (.same _ (.same _ (.same _ (.same _ (.same _ (.no _ .nil)))))))) (sx_end (.same _ (.same _ (.same _ (.same _ (.same _ (.no _ .nil))))))) (fun s16 => sx_end (.same _ (.same _ (.no _ (.no _ (.no _ (.no _ .nil)))))))))) (fun s17 => sx_retOwn rfl))
abbrev s_text : Stmt := topS 21
abbrev N_text : List Str := ["_law_model_here", "_law_found", "_law_effect", "_law_word", "_law_thing"]
theorem sc_text : FnScope N_text ["_law_model_here"] (defScope s_text) := ⟨rfl, rfl, rfl, by decide +kernel, rfl, by decide +kernel, by decide +kernel⟩
abbrev sp_text (K : Fg) [Nms K] : Sp := SpF (K := K) (ι := (List (Tup Int)) × Unit) (ρ := Str) (fun p => [vl p.1]) (fun p => m_text p.1) (RVt K Str)
set_option maxHeartbeats 4000000 in
theorem ok_text {P : Program} {w : World} {K : Fg} [Nms K] {mg : Str → Option Value} {base : Heap} {fa : Addr} {fd : FuncData} (F : Fun K "_law_text" "_law_text" s_text fa fd) (B : Blt K mg) (hN : base.NoSeer) (ht : P.given.tree = none) (EX : Xf K mg [.noText] [.one .noEffect, .one .noRow, .one .noThing, .one .noFit, .one .noText, .value]) : FnOk P w K mg base CX0 41 fa fd ["_law_model_here"] (sp_text K) :=
  fn_okB (k := 40) F sc_text (fun _ => rfl) fun cdv A outer s H E hr => by
    have sc := sc_text
    have hu64 := hr.units
    have hP : FdR P (A.deeper (envOfC "_law_text" (defScope s_text) s.heap.objs.size fa cdv)) (envOfC "_law_text" (defScope s_text) s.heap.objs.size fa cdv :: outer) base := ⟨hN, ht, ⟨_, _, rfl, sc.gen, sc.co, rfl, rfl⟩, depth_of hr (by decide)⟩
    have hu65 := hu_65 hr
    refine ⟨_, (pss_cons (ps_set (i := 1) sc.nd rfl (.inl rfl) (pe_lst pa_nil)) (pss_cons (ps_for PassesOwn.never rfl (pi_list (pv 0)) (pg_name (i := 2) sc.nd rfl (.inl rfl)) (pss_cons (ps_set (i := 3) sc.nd rfl (.inl rfl) (meK (K := K) (r := rJoin) (peJ pe_str (pe_lc (own := [("_law_thing", 4)]) (g := gName 4) (by rfl) sc.nd (pi_tup (pv 2)) (blkOk_by (own := [("_law_thing", 4)]) (N := N_text) (sc := defScope s_text) (by decide +kernel)) (fun _ _ _ _ _ => (pg_name (i := 4) sc.nd rfl (.inl rfl))) (fun _ _ _ _ _ => pts_nil) (fun _ _ _ _ _ => (pe_callTy call_str_int (by rfl) B.str' (by decide +kernel) (pa_cons (pv 4) pa_nil))))) rfl)) (pss_cons (ps_if (pt_cmpR (op_eqP hu64) (pv 2) (pe_tup pa_nil) (nomark _)) (pss_cons (ps_set (i := 3) sc.nd rfl (.inl rfl) pe_str) pss_nil) pss_nil) (pss_cons (ps_expr (pe_bm PySem.F.plainAttrs_list PySem.F.slot_list_append PySem.F.type_list_append mt_append (pv 1) (pa_cons (pv 3) pa_nil))) pss_nil)))) (pss_cons (ps_ret (meK (K := K) (r := rJoin) (peJ pe_str (pv 1)) rfl)) pss_nil))), ?_⟩
    rintro ⟨model_here, _⟩
    show Sx (RVt K Str) .rt _ ([vl model_here, .no, .no, .no, .no] : Env K) (m_text model_here)
    unfold m_text
    exact sx_asgN (ev_is (ev_lst eh_nil) rfl) (fun found => sx_forQ (enc := (fun (s1 : (List Str)) => ([vl model_here, ow s1, .no, .no, .no] : Env K))) (ei_is (ei_list (ev_var rfl)) rfl) rfl (fun s1 x2 => sx_asg (ev_is (ev_join ev_str (ev_rdN (ev_lc (ei_tup (ev_var rfl)) (by decide) (fun x3 => ev_is (ev_strI (ev_var rfl)) rfl)))) rfl) (fun word => sx_ifJP (enc := (fun (s5 : Str) => ([vl model_here, ow s1, vl x2, vl s5, .no] : Env K))) (et_is (et_test (ev_eqG (ev_var rfl) (ev_tupH eh_nil))) rfl) (sx_asg (ev_is ev_str rfl) (fun word_1 => sx_end (.same _ (.same _ (.same _ (.same _ (.no _ .nil))))))) (sx_end (.same _ (.same _ (.same _ (.same _ (.no _ .nil)))))) (fun s5 => sx_appP rfl (ev_is (ev_var rfl) rfl) (fun found_1 => sx_end (.same _ (.same _ (.no _ (.no _ (.no _ .nil))))))))) (fun s6 => sx_ret (ev_is (ev_join ev_str (ev_varL rfl)) rfl)))
abbrev s_show_numbers : Stmt := topS 11
abbrev N_show_numbers : List Str := ["numbers", "number"]
theorem sc_show_numbers : FnScope N_show_numbers ["numbers"] (defScope s_show_numbers) := ⟨rfl, rfl, rfl, by decide +kernel, rfl, by decide +kernel, by decide +kernel⟩
abbrev sp_show_numbers (K : Fg) [Nms K] : Sp := SpF (K := K) (ι := (Tup Int) × Unit) (ρ := Str) (fun p => [vl p.1]) (fun p => m_show_numbers p.1) (RVt K Str)
set_option maxHeartbeats 4000000 in
theorem ok_show_numbers {P : Program} {w : World} {K : Fg} [Nms K] {mg : Str → Option Value} {base : Heap} {fa : Addr} {fd : FuncData} (F : Fun K "show_numbers" "show_numbers" s_show_numbers fa fd) (B : Blt K mg) (hN : base.NoSeer) (ht : P.given.tree = none) (EX : Xf K mg [.noText] [.one .noEffect, .one .noRow, .one .noThing, .one .noFit, .one .noText, .value]) : FnOk P w K mg base CX0 41 fa fd ["numbers"] (sp_show_numbers K) :=
  fn_okB (k := 40) F sc_show_numbers (fun _ => rfl) fun cdv A outer s H E hr => by
    have sc := sc_show_numbers
    have hu64 := hr.units
    have hP : FdR P (A.deeper (envOfC "show_numbers" (defScope s_show_numbers) s.heap.objs.size fa cdv)) (envOfC "show_numbers" (defScope s_show_numbers) s.heap.objs.size fa cdv :: outer) base := ⟨hN, ht, ⟨_, _, rfl, sc.gen, sc.co, rfl, rfl⟩, depth_of hr (by decide)⟩
    have hu65 := hu_65 hr
    refine ⟨_, (pss_cons (ps_ret (meK (K := K) (r := rJoin) (peJ pe_str (pe_lc (own := [("number", 1)]) (g := gName 1) (by rfl) sc.nd (pi_tup (pv 0)) (blkOk_by (own := [("number", 1)]) (N := N_show_numbers) (sc := defScope s_show_numbers) (by decide +kernel)) (fun _ _ _ _ _ => (pg_name (i := 1) sc.nd rfl (.inl rfl))) (fun _ _ _ _ _ => pts_nil) (fun _ _ _ _ _ => (pe_callTy call_str_int (by rfl) B.str' (by decide +kernel) (pa_cons (pv 1) pa_nil))))) rfl)) pss_nil), ?_⟩
    rintro ⟨numbers, _⟩
    show Sx (RVt K Str) .rt _ ([vl numbers, .no] : Env K) (m_show_numbers numbers)
    unfold m_show_numbers
    exact sx_ret (ev_is (ev_join ev_str (ev_rdN (ev_lc (ei_tup (ev_var rfl)) (by decide) (fun x1 => ev_is (ev_strI (ev_var rfl)) rfl)))) rfl)
abbrev s_show_effect : Stmt := topS 12
abbrev N_show_effect : List Str := ["effect"]
theorem sc_show_effect : FnScope N_show_effect ["effect"] (defScope s_show_effect) := ⟨rfl, rfl, rfl, by decide +kernel, rfl, by decide +kernel, by decide +kernel⟩
abbrev sp_show_effect (K : Fg) [Nms K] : Sp := SpF (K := K) (ι := (Tup Int) × Unit) (ρ := Str) (fun p => [vl p.1]) (fun p => m_show_effect p.1) (RVt K Str)
set_option maxHeartbeats 4000000 in
theorem ok_show_effect {P : Program} {w : World} {K : Fg} [Nms K] {mg : Str → Option Value} {base : Heap} {fa : Addr} {fd : FuncData} (F : Fun K "show_effect" "show_effect" s_show_effect fa fd) (B : Blt K mg) (hN : base.NoSeer) (ht : P.given.tree = none) (EX : Xf K mg [.noText] [.one .noEffect, .one .noRow, .one .noThing, .one .noFit, .one .noText, .value]) (C_show_numbers : Cal P w K mg base 41 "show_numbers" ["numbers"] (sp_show_numbers K)) : FnOk P w K mg base CX0 42 fa fd ["effect"] (sp_show_effect K) :=
  fn_okB (k := 41) F sc_show_effect (fun _ => rfl) fun cdv A outer s H E hr => by
    have sc := sc_show_effect
    have hu64 := hr.units
    have hP : FdR P (A.deeper (envOfC "show_effect" (defScope s_show_effect) s.heap.objs.size fa cdv)) (envOfC "show_effect" (defScope s_show_effect) s.heap.objs.size fa cdv :: outer) base := ⟨hN, ht, ⟨_, _, rfl, sc.gen, sc.co, rfl, rfl⟩, depth_of hr (by decide)⟩
    have hu65 := hu_65 hr
    refine ⟨_, (pss_cons (ps_if (pt_cmpR (op_eqP hu64) (pv 0) (pe_tup pa_nil) (nomark _)) (pss_cons (ps_ret pe_str) pss_nil) pss_nil) (pss_cons (ps_ret (pe_cal C_show_numbers hr (by decide) (by rfl) (pa_cons (pv 0) pa_nil))) pss_nil)), ?_⟩
    rintro ⟨effect, _⟩
    show Sx (RVt K Str) .rt _ ([vl effect] : Env K) (m_show_effect effect)
    unfold m_show_effect
    exact sx_ifP (et_is (et_test (ev_eqG (ev_var rfl) (ev_tupH eh_nil))) rfl) (sx_assoc (sx_ret (ev_is ev_str rfl))) (sx_skip (sx_ret (ev_is (ev_call (ea_cons (ev_var rfl) ea_nil)) rfl)))
abbrev s_show_model : Stmt := topS 13
abbrev N_show_model : List Str := ["model", "effect"]
theorem sc_show_model : FnScope N_show_model ["model"] (defScope s_show_model) := ⟨rfl, rfl, rfl, by decide +kernel, rfl, by decide +kernel, by decide +kernel⟩
abbrev sp_show_model (K : Fg) [Nms K] : Sp := SpF (K := K) (ι := (List (Tup Int)) × Unit) (ρ := Str) (fun p => [vl p.1]) (fun p => m_show_model p.1) (RVt K Str)
set_option maxHeartbeats 4000000 in
theorem ok_show_model {P : Program} {w : World} {K : Fg} [Nms K] {mg : Str → Option Value} {base : Heap} {fa : Addr} {fd : FuncData} (F : Fun K "show_model" "show_model" s_show_model fa fd) (B : Blt K mg) (hN : base.NoSeer) (ht : P.given.tree = none) (EX : Xf K mg [.noText] [.one .noEffect, .one .noRow, .one .noThing, .one .noFit, .one .noText, .value]) (C_show_effect : Cal P w K mg base 42 "show_effect" ["effect"] (sp_show_effect K)) : FnOk P w K mg base CX0 43 fa fd ["model"] (sp_show_model K) :=
  fn_okB (k := 42) F sc_show_model (fun _ => rfl) fun cdv A outer s H E hr => by
    have sc := sc_show_model
    have hu64 := hr.units
    have hP : FdR P (A.deeper (envOfC "show_model" (defScope s_show_model) s.heap.objs.size fa cdv)) (envOfC "show_model" (defScope s_show_model) s.heap.objs.size fa cdv :: outer) base := ⟨hN, ht, ⟨_, _, rfl, sc.gen, sc.co, rfl, rfl⟩, depth_of hr (by decide)⟩
    have hu65 := hu_65 hr
    refine ⟨_, (pss_cons (ps_ret (meK (K := K) (r := rJoin) (peJ pe_str (pe_lc (own := [("effect", 1)]) (g := gName 1) (by rfl) sc.nd (pi_list (pv 0)) (blkOk_by (own := [("effect", 1)]) (N := N_show_model) (sc := defScope s_show_model) (by decide +kernel)) (fun _ _ _ _ _ => (pg_name (i := 1) sc.nd rfl (.inl rfl))) (fun _ _ _ _ _ => pts_nil) (fun _ _ _ _ _ => (pe_cal C_show_effect hr (by decide) (by rfl) (pa_cons (pv 1) pa_nil))))) rfl)) pss_nil), ?_⟩
    rintro ⟨model, _⟩
    show Sx (RVt K Str) .rt _ ([vl model, .no] : Env K) (m_show_model model)
    unfold m_show_model
    exact sx_ret (ev_is (ev_join ev_str (ev_rdN (ev_lc (ei_list (ev_var rfl)) (by decide) (fun x1 => ev_is (ev_call (ea_cons (ev_var rfl) ea_nil)) rfl)))) rfl)
abbrev s_told : Stmt := topS 24
abbrev N_told : List Str := ["_law_text_here", "_law_found", "_law_piece", "_law_effect", "_law_word"]
theorem sc_told : FnScope N_told ["_law_text_here"] (defScope s_told) := ⟨rfl, rfl, rfl, by decide +kernel, rfl, by decide +kernel, by decide +kernel⟩
abbrev sp_told (K : Fg) [Nms K] : Sp := SpF (K := K) (ι := Tx × Unit) (ρ := (Option (List (Tup Int)))) (fun p => [vl p.1]) (fun p => m_told p.1) (RVt K (Option (List (Tup Int))))
set_option maxHeartbeats 4000000 in
theorem ok_told {P : Program} {w : World} {K : Fg} [Nms K] {mg : Str → Option Value} {base : Heap} {fa : Addr} {fd : FuncData} (F : Fun K "_law_told" "_law_told" s_told fa fd) (B : Blt K mg) (hN : base.NoSeer) (ht : P.given.tree = none) (EX : Xf K mg [.noText] [.one .noEffect, .one .noRow, .one .noThing, .one .noFit, .one .noText, .value]) : FnOk P w K mg base CX0 41 fa fd ["_law_text_here"] (sp_told K) :=
  fn_okB (k := 40) F sc_told (fun _ => rfl) fun cdv A outer s H E hr => by
    have sc := sc_told
    have hu64 := hr.units
    have hP : FdR P (A.deeper (envOfC "_law_told" (defScope s_told) s.heap.objs.size fa cdv)) (envOfC "_law_told" (defScope s_told) s.heap.objs.size fa cdv :: outer) base := ⟨hN, ht, ⟨_, _, rfl, sc.gen, sc.co, rfl, rfl⟩, depth_of hr (by decide)⟩
    have hu65 := hu_65 hr
    refine ⟨_, (pss_cons (ps_if (pt_not (pt_val (pe_callB call_isi (by rfl) B.isinstance' (by decide +kernel) (pa_cons (pv 0) (pa_cons (pe_bltn (v := .ty "str") (by rfl) B.str' (by decide +kernel) rfl) pa_nil))))) (pss_cons (ps_ret pe_non) pss_nil) pss_nil) (pss_cons (ps_set (i := 1) sc.nd rfl (.inl rfl) (pe_lst pa_nil)) (pss_cons (ps_for PassesOwn.never rfl (pi_list (pe_split (pv 0) pe_str)) (pg_name (i := 2) sc.nd rfl (.inl rfl)) (pss_cons (ps_set (i := 3) sc.nd rfl (.inl rfl) (pe_tup pa_nil)) (pss_cons (ps_if (pt_cmpR op_ne (pv 2) pe_str (nomark _)) (pss_cons (ps_for PassesOwn.never rfl (pi_list (pe_split (pv 2) pe_str)) (pg_name (i := 4) sc.nd rfl (.inl rfl)) (pss_cons (ps_if (pt_cmpR (op_notInP hu65) (pv 4) (pe_tup (pa_cons pe_str (pa_cons pe_str (pa_cons pe_str (pa_cons pe_str (pa_cons pe_str (pa_cons pe_str pa_nil))))))) rfl) (pss_cons (ps_ret pe_non) pss_nil) pss_nil) (pss_cons (ps_if (PW.pt (pw_and (pt_cmpR (op_neP hu64) (pv 3) (pe_tup pa_nil) (nomark _)) (pw_and1 (pt_cmpR op_ge (pe_ix ix_tup (pv 3) (pe_op op_sub (pe_callB call_len_seq (by rfl) B.len' (by decide +kernel) (pa_cons (pv 3) pa_nil)) pe_int) (fun _ _ => rfl)) (pe_callTy call_int_str (by rfl) B.int' (by decide +kernel) (pa_cons (pv 4) pa_nil)) (nomark _))))) (pss_cons (ps_ret pe_non) pss_nil) pss_nil) (pss_cons (ps_set (i := 3) sc.nd rfl (.inl rfl) (pe_op op_catA (pv 3) (pe_tup (pa_cons (pe_callTy call_int_str (by rfl) B.int' (by decide +kernel) (pa_cons (pv 4) pa_nil)) pa_nil)))) pss_nil)))) pss_nil) pss_nil) (pss_cons (ps_if (pt_cmpR (op_inP hu65) (pv 3) (pv 1) rfl) (pss_cons (ps_ret pe_non) pss_nil) pss_nil) (pss_cons (ps_expr (pe_bm PySem.F.plainAttrs_list PySem.F.slot_list_append PySem.F.type_list_append mt_append (pv 1) (pa_cons (pv 3) pa_nil))) pss_nil))))) (pss_cons (ps_ret (pv 1)) pss_nil)))), ?_⟩
    rintro ⟨text_here, _⟩
    show Sx (RVt K (Option (List (Tup Int)))) .rt _ ([vl text_here, .no, .no, .no, .no] : Env K) (m_told text_here)
    unfold m_told
    exact sx_ifP (et_is (et_not (et_B (ev_isiTx (fun _ => kit_ty (by decide +kernel)) (fun _ => kit_ty (by decide +kernel)) (fun _ => kit_ty (by decide +kernel)) (fun _ => kit_ty (by decide +kernel)) (ev_var rfl)))) rfl) (sx_assoc (sx_ret (ev_is ev_none rfl))) (sx_skip (sx_asgN (ev_is (ev_lst eh_nil) rfl) (fun found => sx_forR (enc := (fun (s2 : (List (Tup Int))) => ([vl text_here, ow s2, .no, .no, .no] : Env K))) (ei_is (ei_list (ev_froz (ev_split (ev_txU (ev_var rfl)) ev_str))) rfl) rfl (fun s2 x3 => sx_asg (ev_is (ev_tupH eh_nil) rfl) (fun effect => sx_ifP (et_is (et_test (ev_neS (ev_var rfl) ev_str)) rfl) (sx_assoc (sx_forP (enc := (fun (s4 : (Tup Int)) => ([vl text_here, ow s2, vl x3, vl s4, .no] : Env K))) (ei_is (ei_list (ev_froz (ev_split (ev_var rfl) ev_str))) rfl) rfl (fun s4 x5 => sx_ifP (et_is (et_test (ev_notInT (ev_var rfl) (ev_tupH (eh_cons ev_str (eh_cons ev_str (eh_cons ev_str (eh_cons ev_str (eh_cons ev_str (eh_cons ev_str eh_nil))))))))) rfl) (sx_assoc (sx_retL (ev_is ev_none rfl))) (sx_skip (sx_if (et_is (et_and (et_test (ev_neG (ev_var rfl) (ev_tupH eh_nil))) (et_test (ev_ge (ev_ixT (ev_var rfl) (ev_sub (ev_lenT (ev_var rfl)) ev_int)) (ev_intS (ev_var rfl))))) rfl) (sx_assoc (sx_retL (ev_is ev_none rfl))) (sx_skip (sx_asg (ev_is (ev_catT (ev_var rfl) (ev_tupH (eh_cons (ev_intS (ev_var rfl)) eh_nil))) rfl) (fun effect_1 => sx_endL (.same _ (.same _ (.same _ (.same _ (.no _ .nil))))))))))) (fun s11 => sx_skip (sx_ifP (et_is (et_test (ev_in (ev_var rfl) (ev_varL rfl))) rfl) (sx_assoc (sx_retL (ev_is ev_none rfl))) (sx_skip (sx_appP rfl (ev_is (ev_var rfl) rfl) (fun found_1 => sx_endL (.same _ (.same _ (.no _ (.no _ (.no _ .nil)))))))))))) (sx_skip (sx_ifP (et_is (et_test (ev_in (ev_var rfl) (ev_varL rfl))) rfl) (sx_assoc (sx_retL (ev_is ev_none rfl))) (sx_skip (sx_appP rfl (ev_is (ev_var rfl) rfl) (fun found_2 => sx_endL (.same _ (.same _ (.no _ (.no _ (.no _ .nil)))))))))))) (fun s13 => sx_fz 1 rfl (sx_ret (ev_is (ev_some (ev_var rfl)) rfl))))))
abbrev s_read_effect : Stmt := topS 9
abbrev N_read_effect : List Str := ["text", "words", "word", "one", "other"]
theorem sc_read_effect : FnScope N_read_effect ["text"] (defScope s_read_effect) := ⟨rfl, rfl, rfl, by decide +kernel, rfl, by decide +kernel, by decide +kernel⟩
abbrev sp_read_effect (K : Fg) [Nms K] : Sp := SpX (K := K) (ι := Str × Unit) (ρ := (Tup Int)) (fun p => [vl p.1]) (fun p => m_read_effect p.1) (RVt K (Tup Int))
set_option maxHeartbeats 4000000 in
theorem ok_read_effect {P : Program} {w : World} {K : Fg} [Nms K] {mg : Str → Option Value} {base : Heap} {fa : Addr} {fd : FuncData} (F : Fun K "read_effect" "read_effect" s_read_effect fa fd) (B : Blt K mg) (hN : base.NoSeer) (ht : P.given.tree = none) (EX : Xf K mg [.noText] [.one .noEffect, .one .noRow, .one .noThing, .one .noFit, .one .noText, .value]) : FnOk P w K mg base (L2.CX P w) 41 fa fd ["text"] (sp_read_effect K) :=
  fn_okX (k := 40) F sc_read_effect (fun _ => rfl) fun cdv A outer s H E hr => by
    have sc := sc_read_effect
    have hu64 := hr.units
    have hP : FdR P (A.deeper (envOfC "read_effect" (defScope s_read_effect) s.heap.objs.size fa cdv)) (envOfC "read_effect" (defScope s_read_effect) s.heap.objs.size fa cdv :: outer) base := ⟨hN, ht, ⟨_, _, rfl, sc.gen, sc.co, rfl, rfl⟩, depth_of hr (by decide)⟩
    have hu65 := hu_65 hr
    refine ⟨_, (pss_cons (ps_if (pt_cmpR op_eq (pv 0) pe_str (nomark _)) (pss_cons (ps_ret (pe_tup pa_nil)) pss_nil) pss_nil) (pss_cons (ps_set (i := 1) sc.nd rfl (.inl rfl) (pe_split (pv 0) pe_str)) (pss_cons (ps_for (passes_of rfl) rfl (pi_list (pv 1)) (pg_name (i := 2) sc.nd rfl (.inl rfl)) (pss_cons (ps_if (PW.pt (pw_or (pt_cmpR (op_neP hu64) (pe_callB call_len_str (by rfl) B.len' (by decide +kernel) (pa_cons (pv 2) pa_nil)) pe_int (nomark _)) (pw_or1 (pt_cmpR op_notin_str (pv 2) (pe_cst (v := .str ("012345" : Str)) (by rfl) B.g_THINGS) rfl)))) (pss_cons (ps_raiseE (EX.r .noText (by decide)).c rfl (by rfl) (takes_of rfl rfl rfl rfl)) pss_nil) pss_nil) pss_nil)) (pss_cons (ps_for (passes_of rfl) rfl (pi_zip (by rfl) B.zip' (pa_cons (pe_slice sl_list (pv 1) po_none (po_some (pe_un un_neg pe_int))) (pa_cons (pe_slice sl_list (pv 1) (po_some pe_int) po_none) pa_nil))) (pg_tup rfl (pgs_cons (pg_name (i := 3) sc.nd rfl (.inl rfl)) (pgs_cons (pg_name (i := 4) sc.nd rfl (.inl rfl)) pgs_nil))) (pss_cons (ps_if (pt_cmpR op_ge_str (pv 3) (pv 4) (nomark _)) (pss_cons (ps_raiseE (EX.r .noText (by decide)).c rfl (by rfl) (takes_of rfl rfl rfl rfl)) pss_nil) pss_nil) pss_nil)) (pss_cons (ps_ret (pe_callTy call_tuple_of (by rfl) B.tuple' (by decide +kernel) (pa_cons (pe_lc (own := [("word", 2)]) (g := gName 2) (by rfl) sc.nd (pi_list (pv 1)) (blkOk_by (own := [("word", 2)]) (N := N_read_effect) (sc := defScope s_read_effect) (by decide +kernel)) (fun _ _ _ _ _ => (pg_name (i := 2) sc.nd rfl (.inl rfl))) (fun _ _ _ _ _ => pts_nil) (fun _ _ _ _ _ => (pe_callTy call_int_str (by rfl) B.int' (by decide +kernel) (pa_cons (pv 2) pa_nil)))) pa_nil))) pss_nil))))), ?_⟩
    rintro ⟨text, _⟩
    show Sx (RVt K (Tup Int)) (Xl .rt (wE K E)) _ ([vl text, .no, .no, .no, .no] : Env K) (m_read_effect text)
    unfold m_read_effect
    exact sx_ifP (et_is (et_test (ev_eqS (ev_var rfl) ev_str)) rfl) (sx_assoc (sx_okX (sx_ret (ev_is (ev_tupH eh_nil) rfl)))) (sx_skip (sx_asg (ev_is (ev_froz (ev_split (ev_var rfl) ev_str)) rfl) (fun words => sx_forXQ (enc := (fun (s1 : Unit) => ([vl text, vl words, .no, .no, .no] : Env K))) (ei_is (ei_list (ev_var rfl)) rfl) rfl (fun s1 x2 => sx_if (et_is (et_or (et_test (ev_neG (ev_lenS (ev_var rfl)) ev_int)) (et_test (ev_notInS (ev_var rfl) ev_str))) rfl) (sx_assoc (sx_raise)) (sx_okX (sx_skip (sx_end (.same _ (.same _ (.no _ (.no _ (.no _ .nil))))))))) (fun s6 => sx_forXQ (enc := (fun (s7 : Unit) => ([vl text, vl words, .no, .no, .no] : Env K))) (ei_is (ei_zip (ev_froz (ev_sl (ev_rd (ev_var rfl)) eo_none (eo_some (ev_neg ev_int)))) (ev_froz (ev_sl (ev_rd (ev_var rfl)) (eo_some ev_int) eo_none))) rfl) rfl (fun s7 x8 => sx_ifP (et_is (et_test (ev_geS (ev_var rfl) (ev_var rfl))) rfl) (sx_assoc (sx_raise)) (sx_okX (sx_skip (sx_end (.same _ (.same _ (.no _ (.no _ (.no _ .nil))))))))) (fun s9 => sx_okX (sx_ret (ev_is (ev_tuple (ev_rdN (ev_lc (ei_list (ev_var rfl)) (by decide) (fun x10 => ev_is (ev_intS (ev_var rfl)) rfl)))) rfl)))))))
abbrev s_read_model : Stmt := topS 10
abbrev N_read_model : List Str := ["text", "model", "effect", "part"]
theorem sc_read_model : FnScope N_read_model ["text"] (defScope s_read_model) := ⟨rfl, rfl, rfl, by decide +kernel, rfl, by decide +kernel, by decide +kernel⟩
abbrev sp_read_model (K : Fg) [Nms K] : Sp := SpX (K := K) (ι := Tx × Unit) (ρ := (List (Tup Int))) (fun p => [vl p.1]) (fun p => m_read_model p.1) (RVt K (List (Tup Int)))
set_option maxHeartbeats 4000000 in
theorem ok_read_model {P : Program} {w : World} {K : Fg} [Nms K] {mg : Str → Option Value} {base : Heap} {fa : Addr} {fd : FuncData} (F : Fun K "read_model" "read_model" s_read_model fa fd) (B : Blt K mg) (hN : base.NoSeer) (ht : P.given.tree = none) (EX : Xf K mg [.noText] [.one .noEffect, .one .noRow, .one .noThing, .one .noFit, .one .noText, .value]) (C_read_effect : CalX P w K mg base 41 "read_effect" ["text"] (sp_read_effect K)) : FnOk P w K mg base (L2.CX P w) 42 fa fd ["text"] (sp_read_model K) :=
  fn_okX (k := 41) F sc_read_model (fun _ => rfl) fun cdv A outer s H E hr => by
    have sc := sc_read_model
    have hu64 := hr.units
    have hP : FdR P (A.deeper (envOfC "read_model" (defScope s_read_model) s.heap.objs.size fa cdv)) (envOfC "read_model" (defScope s_read_model) s.heap.objs.size fa cdv :: outer) base := ⟨hN, ht, ⟨_, _, rfl, sc.gen, sc.co, rfl, rfl⟩, depth_of hr (by decide)⟩
    have hu65 := hu_65 hr
    refine ⟨_, (pss_cons (ps_if (pt_not (pt_val (pe_callB call_isi (by rfl) B.isinstance' (by decide +kernel) (pa_cons (pv 0) (pa_cons (pe_bltn (v := .ty "str") (by rfl) B.str' (by decide +kernel) rfl) pa_nil))))) (pss_cons (ps_raiseE (EX.r .noText (by decide)).c rfl (by rfl) (takes_of rfl rfl rfl rfl)) pss_nil) pss_nil) (pss_cons (ps_setLcX (i := 1) (own := [("part", 3)]) (g := gName 3) rfl rfl rfl sc.nd (takes_of rfl rfl rfl rfl) rfl rfl (sw_true rfl rfl rfl (by decide +kernel)) (pi_list (pe_split (pv 0) pe_str)) (blkOk_by (own := [("part", 3)]) (N := N_read_model) (sc := defScope s_read_model) (by decide +kernel)) (fun _ _ _ _ _ _ => (pg_name (i := 3) sc.nd rfl (.inl rfl))) (fun _ _ _ _ _ _ hx => (pe_calXc C_read_effect hr (by decide) (by rfl) hx (pa_cons (pv 3) pa_nil)))) (pss_cons (ps_for (passes_of rfl) rfl (pi_list (pv 1)) (pg_name (i := 2) sc.nd rfl (.inl rfl)) (pss_cons (ps_if (pt_cmpR op_gt (pe_bm PySem.F.plainAttrs_list PySem.F.slot_list_count PySem.F.type_list_count (mt_countP hu65) (pv 1) (pa_cons (pv 2) pa_nil)) pe_int (nomark _)) (pss_cons (ps_raiseE (EX.r .noText (by decide)).c rfl (by rfl) (takes_of rfl rfl rfl rfl)) pss_nil) pss_nil) pss_nil)) (pss_cons (ps_ret (pv 1)) pss_nil)))), ?_⟩
    rintro ⟨text, _⟩
    show Sx (RVt K (List (Tup Int))) (Xl .rt (wE K E)) _ ([vl text, .no, .no, .no] : Env K) (m_read_model text)
    unfold m_read_model
    exact sx_ifP (et_is (et_not (et_B (ev_isiTx (fun _ => kit_ty (by decide +kernel)) (fun _ => kit_ty (by decide +kernel)) (fun _ => kit_ty (by decide +kernel)) (fun _ => kit_ty (by decide +kernel)) (ev_var rfl)))) rfl) (sx_assoc (sx_raise)) (sx_skip (sx_asgX (evx_is (evx_froz (ev_lcX (ei_list (ev_froz (ev_split (ev_txU (ev_var rfl)) ev_str))) (by decide) (fun x2 => evx_is (ev_callXc (ea_cons (ev_var rfl) ea_nil)) rfl))) rfl) (fun model => sx_forXQ (enc := (fun (s4 : Unit) => ([vl text, vl model, .no, .no] : Env K))) (ei_is (ei_list (ev_var rfl)) rfl) rfl (fun s4 x5 => sx_ifP (et_is (et_test (ev_gt (ev_countP (ev_rd (ev_var rfl)) (ev_var rfl)) ev_int)) rfl) (sx_assoc (sx_raise)) (sx_okX (sx_skip (sx_end (.same _ (.same _ (.no _ (.no _ .nil)))))))) (fun s6 => sx_okX (sx_ret (ev_is (ev_var rfl) rfl))))))
abbrev s_whole : Stmt := topS 17
abbrev N_whole : List Str := ["_law_found"]
theorem sc_whole : FnScope N_whole ["_law_found"] (defScope s_whole) := ⟨rfl, rfl, rfl, by decide +kernel, rfl, by decide +kernel, by decide +kernel⟩
abbrev sp_whole (K : Fg) [Nms K] : Sp := SpF (K := K) (ι := Int × Unit) (ρ := Bool) (fun p => [vl p.1]) (fun p => m_whole p.1) (RVt K Bool)
set_option maxHeartbeats 4000000 in
theorem ok_whole {P : Program} {w : World} {K : Fg} [Nms K] {mg : Str → Option Value} {base : Heap} {fa : Addr} {fd : FuncData} (F : Fun K "_law_whole" "_law_whole" s_whole fa fd) (B : Blt K mg) (hN : base.NoSeer) (ht : P.given.tree = none) (EX : Xf K mg [.noText] [.one .noEffect, .one .noRow, .one .noThing, .one .noFit, .one .noText, .value]) : FnOk P w K mg base CX0 41 fa fd ["_law_found"] (sp_whole K) :=
  fn_okB (k := 40) F sc_whole (fun _ => rfl) fun cdv A outer s H E hr => by
    have sc := sc_whole
    have hu64 := hr.units
    have hP : FdR P (A.deeper (envOfC "_law_whole" (defScope s_whole) s.heap.objs.size fa cdv)) (envOfC "_law_whole" (defScope s_whole) s.heap.objs.size fa cdv :: outer) base := ⟨hN, ht, ⟨_, _, rfl, sc.gen, sc.co, rfl, rfl⟩, depth_of hr (by decide)⟩
    have hu65 := hu_65 hr
    refine ⟨_, (pss_cons (ps_ret (pe_and (pe_callB call_isi (by rfl) B.isinstance' (by decide +kernel) (pa_cons (pv 0) (pa_cons (pe_bltn (v := .ty "int") (by rfl) B.int' (by decide +kernel) rfl) pa_nil))) (pe_one (pe_not (pe_callB call_isi (by rfl) B.isinstance' (by decide +kernel) (pa_cons (pv 0) (pa_cons (pe_bltn (v := .ty "bool") (by rfl) B.bool' (by decide +kernel) rfl) pa_nil))))))) pss_nil), ?_⟩
    rintro ⟨found, _⟩
    show Sx (RVt K Bool) .rt _ ([vl found] : Env K) (m_whole found)
    unfold m_whole
    exact sx_ret (ev_is (ev_andP (ev_isi (b := true) (fun _ => kit_ty (by decide +kernel)) (ev_var rfl)) (ev_not (ev_isi (b := false) (fun _ => kit_ty (by decide +kernel)) (ev_var rfl)))) rfl)
abbrev s_is_model : Stmt := topS 25
abbrev N_is_model : List Str := ["_law_found", "_law_due", "_law_effect", "_law_thing"]
theorem sc_is_model : FnScope N_is_model ["_law_found", "_law_due"] (defScope s_is_model) := ⟨rfl, rfl, rfl, by decide +kernel, rfl, by decide +kernel, by decide +kernel⟩
abbrev sp_is_model (K : Fg) [Nms K] : Sp := SpF (K := K) (ι := (List (Tup Int)) × (List (Tup Int)) × Unit) (ρ := Bool) (fun p => [vl p.1, vl p.2.1]) (fun p => m_is_model p.1 p.2.1) (RVt K Bool)
set_option maxHeartbeats 4000000 in
theorem ok_is_model {P : Program} {w : World} {K : Fg} [Nms K] {mg : Str → Option Value} {base : Heap} {fa : Addr} {fd : FuncData} (F : Fun K "_law_is_model" "_law_is_model" s_is_model fa fd) (B : Blt K mg) (hN : base.NoSeer) (ht : P.given.tree = none) (EX : Xf K mg [.noText] [.one .noEffect, .one .noRow, .one .noThing, .one .noFit, .one .noText, .value]) (C_whole : Cal P w K mg base 41 "_law_whole" ["_law_found"] (sp_whole K)) : FnOk P w K mg base CX0 42 fa fd ["_law_found", "_law_due"] (sp_is_model K) :=
  fn_okB (k := 41) F sc_is_model (fun _ => rfl) fun cdv A outer s H E hr => by
    have sc := sc_is_model
    have hu64 := hr.units
    have hP : FdR P (A.deeper (envOfC "_law_is_model" (defScope s_is_model) s.heap.objs.size fa cdv)) (envOfC "_law_is_model" (defScope s_is_model) s.heap.objs.size fa cdv :: outer) base := ⟨hN, ht, ⟨_, _, rfl, sc.gen, sc.co, rfl, rfl⟩, depth_of hr (by decide)⟩
    have hu65 := hu_65 hr
    refine ⟨_, (pss_cons (ps_if (PW.pt (pw_or (pt_not (pt_val (pe_callB call_isi (by rfl) B.isinstance' (by decide +kernel) (pa_cons (pv 0) (pa_cons (pe_bltn (v := .ty "list") (by rfl) B.list' (by decide +kernel) rfl) pa_nil))))) (pw_or1 (pt_cmpR (op_neP hu64) (pv 0) (pv 1) (nomark _))))) (pss_cons (ps_ret pe_bl) pss_nil) pss_nil) (pss_cons (ps_for PassesOwn.never rfl (pi_list (pv 0)) (pg_name (i := 2) sc.nd rfl (.inl rfl)) (pss_cons (ps_if (PW.pt (pw_or (pt_not (pt_val (pe_callB call_isi (by rfl) B.isinstance' (by decide +kernel) (pa_cons (pv 2) (pa_cons (pe_bltn (v := .ty "tuple") (by rfl) B.tuple' (by decide +kernel) rfl) pa_nil))))) (pw_or1 (pt_cmpR (op_neP hu64) (pe_lc (own := [("_law_thing", 3)]) (g := gName 3) (by rfl) sc.nd (pi_tup (pv 2)) (blkOk_by (own := [("_law_thing", 3)]) (N := N_is_model) (sc := defScope s_is_model) (by decide +kernel)) (fun _ _ _ _ _ => (pg_name (i := 3) sc.nd rfl (.inl rfl))) (fun _ _ _ _ _ => pts_one (pt_not (pt_val (pe_cal C_whole hr (by decide) (by rfl) (pa_cons (pv 3) pa_nil))))) (fun _ _ _ _ _ => (pv 3))) (pe_lst pa_nil) (nomark _))))) (pss_cons (ps_ret pe_bl) pss_nil) pss_nil) pss_nil)) (pss_cons (ps_ret pe_bl) pss_nil))), ?_⟩
    rintro ⟨found, due, _⟩
    show Sx (RVt K Bool) .rt _ ([vl found, vl due, .no, .no] : Env K) (m_is_model found due)
    unfold m_is_model
    exact sx_ifP (et_is (et_orP (et_not (et_B (ev_isiL (b := true) (fun _ => kit_ty (by decide +kernel)) (ev_rd (ev_var rfl))))) (et_test (ev_neG (ev_var rfl) (ev_var rfl)))) rfl) (sx_assoc (sx_ret (ev_is ev_bl rfl))) (sx_skip (sx_forRQ (enc := (fun (s1 : Unit) => ([vl found, vl due, .no, .no] : Env K))) (ei_is (ei_list (ev_var rfl)) rfl) rfl (fun s1 x2 => sx_if (et_is (et_or (et_not (et_B (ev_isi (b := true) (fun _ => kit_ty (by decide +kernel)) (ev_var rfl)))) (et_test (ev_neG (ev_rdN (ev_comp (ei_tup (ev_var rfl)) (by decide) rfl (fun x3 => et_is (et_not (et_B (ev_call (ea_cons (ev_var rfl) ea_nil)))) rfl) (fun x3 => ev_is (ev_var rfl) rfl))) (ev_rdN (ev_lst eh_nil))))) rfl) (sx_assoc (sx_retL (ev_is ev_bl rfl))) (sx_skip (sx_endL (.same _ (.same _ (.no _ (.no _ .nil))))))) (fun s7 => sx_ret (ev_is ev_bl rfl))))
abbrev s_right : Stmt := topS 26
abbrev N_right : List Str := ["_law_text_here", "_law_due", "_law_error", "_law_found", "e"]
theorem sc_right : FnScope N_right ["_law_text_here"] (defScope s_right) := ⟨rfl, rfl, rfl, by decide +kernel, rfl, by decide +kernel, by decide +kernel⟩
abbrev sp_right (K : Fg) [Nms K] : Sp := SpF (K := K) (ι := Tx × Unit) (ρ := Bool) (fun p => [vl p.1]) (fun p => m_right p.1) (RVt K Bool)
set_option maxHeartbeats 4000000 in
theorem ok_right {P : Program} {w : World} {K : Fg} [Nms K] {mg : Str → Option Value} {base : Heap} {fa : Addr} {fd : FuncData} (F : Fun K "_law_right" "_law_right" s_right fa fd) (B : Blt K mg) (hN : base.NoSeer) (ht : P.given.tree = none) (EX : Xf K mg [.noText] [.one .noEffect, .one .noRow, .one .noThing, .one .noFit, .one .noText, .value]) (C_is_model : Cal P w K mg base 42 "_law_is_model" ["_law_found", "_law_due"] (sp_is_model K)) (C_told : Cal P w K mg base 41 "_law_told" ["_law_text_here"] (sp_told K)) (C_read_model : CalX P w K mg base 42 "read_model" ["text"] (sp_read_model K)) : FnOk P w K mg base CX0 43 fa fd ["_law_text_here"] (sp_right K) :=
  fn_okB (k := 42) F sc_right (fun _ => rfl) fun cdv A outer s H E hr => by
    have sc := sc_right
    have hu64 := hr.units
    have hP : FdR P (A.deeper (envOfC "_law_right" (defScope s_right) s.heap.objs.size fa cdv)) (envOfC "_law_right" (defScope s_right) s.heap.objs.size fa cdv :: outer) base := ⟨hN, ht, ⟨_, _, rfl, sc.gen, sc.co, rfl, rfl⟩, depth_of hr (by decide)⟩
    have hu65 := hu_65 hr
    refine ⟨_, (pss_cons (ps_set (i := 1) sc.nd rfl (.inl rfl) (pe_cal C_told hr (by decide) (by rfl) (pa_cons (pv 0) pa_nil))) (pss_cons (ps_set (i := 2) sc.nd rfl (.inl rfl) pe_non) (pss_cons (ps_set (i := 3) sc.nd rfl (.inl rfl) pe_non) (pss_cons (ps_tryE (i := 4) rfl rfl rfl sc.nd rfl rfl (by rfl) EX.t (fun W pn xe tk => pss_cons (ps_set (i := 3) sc.nd rfl (.inl rfl) (pe_calX C_read_model hr (by decide) (by rfl) tk (pa_cons (pv 0) pa_nil))) pss_nil) (fun a pn => pss_cons (ps_set (i := 2) sc.nd rfl (.inl rfl) (pv 4)) pss_nil)) (pss_cons (ps_if (pt_cmpR op_notN (pv 1) pe_non (nomark _)) (pss_cons (ps_ret (pe_and (pe_cmpR op_isN (pv 2) pe_non (nomark _)) (pe_one (pe_cal C_is_model hr (by decide) (by rfl) (pa_cons (pv 3) (pa_cons (pv 1) pa_nil)))))) pss_nil) pss_nil) (pss_cons (ps_if (pt_val (pe_callB call_isXs (by rfl) B.isinstance' (by decide +kernel) (pa_cons (pv 2) (pa_cons (pe_tup (pa_cons (pe_glob (v := .ref _) (by rfl) (EX.g .noEffect) rfl) (pa_cons (pe_glob (v := .ref _) (by rfl) (EX.g .noRow) rfl) (pa_cons (pe_glob (v := .ref _) (by rfl) (EX.g .noThing) rfl) (pa_cons (pe_glob (v := .ref _) (by rfl) (EX.g .noFit) rfl) pa_nil))))) pa_nil)))) (pss_cons (ps_ret pe_bl) pss_nil) pss_nil) (pss_cons (ps_ret (pe_and (pe_callB call_isX (by rfl) B.isinstance' (by decide +kernel) (pa_cons (pv 2) (pa_cons (pe_glob (v := .ref _) (by rfl) (EX.g .noText) rfl) pa_nil))) (pe_one (pe_callB call_isX (by rfl) B.isinstance' (by decide +kernel) (pa_cons (pv 2) (pa_cons (pe_bltn (v := .ty "ValueError") (by rfl) B.ValueError' (by decide +kernel) rfl) pa_nil)))))) pss_nil))))))), ?_⟩
    rintro ⟨text_here, _⟩
    show Sx (RVt K Bool) .rt _ ([vl text_here, .no, .no, .no, .no] : Env K) (m_right text_here)
    unfold m_right
    exact sx_asg (ev_is (ev_call (ea_cons (ev_var rfl) ea_nil)) rfl) (fun due => sx_asg (ev_is ev_none rfl) (fun error => sx_asg (ev_is ev_none rfl) (fun found => sx_tryX (er := [.noText]) (i := 4) (by decide) (by decide) (by decide) (show 4 < 5 by decide) rfl rfl (fun e he => (EX.r e he).m) (fun W => evx_is (ev_callX (ea_cons (ev_var rfl) ea_nil)) rfl) (fun p1 => sx_ifP (et_is (et_test (ev_notN (ev_var rfl))) rfl) (sx_assoc (sx_ret (ev_is (ev_and (ev_isN (ev_var rfl)) (ev_call (ea_cons (ev_deopt (ev_var rfl)) (ea_cons (ev_deopt (ev_var rfl)) ea_nil)))) rfl))) (sx_skip (sx_if (et_is (et_B (ev_isEs (ts := [(.one .noEffect), (.one .noRow), (.one .noThing), (.one .noFit)]) (cvs := [.ref (Nms.c K  .noEffect), .ref (Nms.c K  .noRow), .ref (Nms.c K  .noThing), .ref (Nms.c K  .noFit)]) (.cons (.own _) (.cons (.own _) (.cons (.own _) (.cons (.own _) .nil)))) (fun e he => ⟨(EX.r e he).x, fun t ht => EX.k e he t (by revert ht; revert t; decide)⟩) (ev_var rfl) (fun _ _ _ q => ⟨(show 4 ≤ sizeLine by decide), q⟩))) rfl) (sx_assoc (sx_ret (ev_is ev_bl rfl))) (sx_skip (sx_ret (ev_is (ev_and (ev_isE (t := (.one .noText)) (.own _) (fun e he => ⟨(EX.r e he).x, EX.k e he ((.one .noText)) (by decide)⟩) (ev_var rfl)) (ev_isE (t := .value) (.ty _) (fun e he => ⟨(EX.r e he).x, EX.k e he (.value) (by decide)⟩) (ev_var rfl))) rfl)))))))))
abbrev s_odd : Stmt := topS 22
abbrev N_odd : List Str := ["_law_cell", "_law_some"]
theorem sc_odd : FnScope N_odd ["_law_cell"] (defScope s_odd) := ⟨rfl, rfl, rfl, by decide +kernel, rfl, by decide +kernel, by decide +kernel⟩
abbrev sp_odd (K : Fg) [Nms K] : Sp := SpF (K := K) (ι := Int × Unit) (ρ := Tx) (fun p => [vl p.1]) (fun p => m_odd p.1) (RVt K Tx)
set_option maxHeartbeats 4000000 in
theorem ok_odd {P : Program} {w : World} {K : Fg} [Nms K] {mg : Str → Option Value} {base : Heap} {fa : Addr} {fd : FuncData} (F : Fun K "_law_odd" "_law_odd" s_odd fa fd) (B : Blt K mg) (hN : base.NoSeer) (ht : P.given.tree = none) (EX : Xf K mg [.noText] [.one .noEffect, .one .noRow, .one .noThing, .one .noFit, .one .noText, .value]) (C_mix : Cal P w K mg base 41 "_law_mix" ["_law_cell", "_law_j"] (sp_mix K)) : FnOk P w K mg base CX0 42 fa fd ["_law_cell"] (sp_odd K) :=
  fn_okB (k := 41) F sc_odd (fun _ => rfl) fun cdv A outer s H E hr => by
    have sc := sc_odd
    have hu64 := hr.units
    have hP : FdR P (A.deeper (envOfC "_law_odd" (defScope s_odd) s.heap.objs.size fa cdv)) (envOfC "_law_odd" (defScope s_odd) s.heap.objs.size fa cdv :: outer) base := ⟨hN, ht, ⟨_, _, rfl, sc.gen, sc.co, rfl, rfl⟩, depth_of hr (by decide)⟩
    have hu65 := hu_65 hr
    refine ⟨_, (pss_cons (ps_set (i := 1) sc.nd rfl (.inl rfl) (pe_lst (pa_cons pe_str (pa_cons pe_str (pa_cons pe_str (pa_cons pe_str (pa_cons pe_str (pa_cons pe_str (pa_cons pe_str (pa_cons pe_str (pa_cons pe_str (pa_cons pe_str (pa_cons pe_str (pa_cons pe_str pa_nil)))))))))))))) (pss_cons (ps_set (i := 1) sc.nd rfl (.inl rfl) (pe_op op_cat (pv 1) (pe_lst (pa_cons pe_str (pa_cons pe_str (pa_cons pe_str (pa_cons pe_str (pa_cons pe_str (pa_cons pe_str (pa_cons pe_str (pa_cons pe_str (pa_cons pe_str (pa_cons pe_str (pa_cons pe_non (pa_cons (pe_lst (pa_cons (pe_tup pa_nil) pa_nil)) pa_nil))))))))))))))) (pss_cons (ps_ret (pe_ix ix_list (pv 1) (pe_op op_mod (pe_cal C_mix hr (by decide) (by rfl) (pa_cons (pv 0) (pa_cons pe_int pa_nil))) pe_int) (fun _ _ => rfl))) pss_nil))), ?_⟩
    rintro ⟨cell, _⟩
    show Sx (RVt K Tx) .rt _ ([vl cell, .no] : Env K) (m_odd cell)
    unfold m_odd
    exact sx_asg (ev_is (ev_froz (ev_lst (eh_cons (ev_txS ev_str) (eh_cons (ev_txS ev_str) (eh_cons (ev_txS ev_str) (eh_cons (ev_txS ev_str) (eh_cons (ev_txS ev_str) (eh_cons (ev_txS ev_str) (eh_cons (ev_txS ev_str) (eh_cons (ev_txS ev_str) (eh_cons (ev_txS ev_str) (eh_cons (ev_txS ev_str) (eh_cons (ev_txS ev_str) (eh_cons (ev_txS ev_str) eh_nil)))))))))))))) rfl) (fun some' => sx_asg (ev_is (ev_froz (ev_cat (ev_rd (ev_var rfl)) (ev_rdN (ev_lst (eh_cons (ev_txS ev_str) (eh_cons (ev_txS ev_str) (eh_cons (ev_txS ev_str) (eh_cons (ev_txS ev_str) (eh_cons (ev_txS ev_str) (eh_cons (ev_txS ev_str) (eh_cons (ev_txS ev_str) (eh_cons (ev_txS ev_str) (eh_cons (ev_txS ev_str) (eh_cons (ev_txS ev_str) (eh_cons ev_txN (eh_cons (ev_txL (α := (Tup Int)) (ev_froz (ev_lst (eh_cons (ev_tupH eh_nil) eh_nil)))) eh_nil)))))))))))))))) rfl) (fun some'_1 => sx_ret (ev_is (ev_ix (ev_rd (ev_var rfl)) (ev_modL (by decide) (ev_call (ea_cons (ev_var rfl) (ea_cons ev_int ea_nil))))) rfl)))
abbrev s_spoiled : Stmt := topS 23
abbrev N_spoiled : List Str := ["_law_text_here", "_law_cell", "_law_signs", "_law_way", "_law_at", "_law_sign"]
theorem sc_spoiled : FnScope N_spoiled ["_law_text_here", "_law_cell"] (defScope s_spoiled) := ⟨rfl, rfl, rfl, by decide +kernel, rfl, by decide +kernel, by decide +kernel⟩
abbrev sp_spoiled (K : Fg) [Nms K] : Sp := SpF (K := K) (ι := Str × Int × Unit) (ρ := Tx) (fun p => [vl p.1, vl p.2.1]) (fun p => m_spoiled p.1 p.2.1) (RVt K Tx)
set_option maxHeartbeats 4000000 in
theorem ok_spoiled {P : Program} {w : World} {K : Fg} [Nms K] {mg : Str → Option Value} {base : Heap} {fa : Addr} {fd : FuncData} (F : Fun K "_law_spoiled" "_law_spoiled" s_spoiled fa fd) (B : Blt K mg) (hN : base.NoSeer) (ht : P.given.tree = none) (EX : Xf K mg [.noText] [.one .noEffect, .one .noRow, .one .noThing, .one .noFit, .one .noText, .value]) (C_mix : Cal P w K mg base 41 "_law_mix" ["_law_cell", "_law_j"] (sp_mix K)) (C_odd : Cal P w K mg base 42 "_law_odd" ["_law_cell"] (sp_odd K)) : FnOk P w K mg base CX0 43 fa fd ["_law_text_here", "_law_cell"] (sp_spoiled K) :=
  fn_okB (k := 42) F sc_spoiled (fun _ => rfl) fun cdv A outer s H E hr => by
    have sc := sc_spoiled
    have hu64 := hr.units
    have hP : FdR P (A.deeper (envOfC "_law_spoiled" (defScope s_spoiled) s.heap.objs.size fa cdv)) (envOfC "_law_spoiled" (defScope s_spoiled) s.heap.objs.size fa cdv :: outer) base := ⟨hN, ht, ⟨_, _, rfl, sc.gen, sc.co, rfl, rfl⟩, depth_of hr (by decide)⟩
    have hu65 := hu_65 hr
    refine ⟨_, (pss_cons (ps_set (i := 2) sc.nd rfl (.inl rfl) pe_str) (pss_cons (ps_set (i := 3) sc.nd rfl (.inl rfl) (pe_op op_mod (pe_cal C_mix hr (by decide) (by rfl) (pa_cons (pv 1) (pa_cons pe_int pa_nil))) pe_int)) (pss_cons (ps_set (i := 4) sc.nd rfl (.inl rfl) (pe_op op_modN (pe_cal C_mix hr (by decide) (by rfl) (pa_cons (pv 1) (pa_cons pe_int pa_nil))) (pe_op op_add (pe_callB call_len_str (by rfl) B.len' (by decide +kernel) (pa_cons (pv 0) pa_nil)) pe_int))) (pss_cons (ps_set (i := 5) sc.nd rfl (.inl rfl) (pe_ix ix_str (pv 2) (pe_op op_modN (pe_cal C_mix hr (by decide) (by rfl) (pa_cons (pv 1) (pa_cons pe_int pa_nil))) (pe_callB call_len_str (by rfl) B.len' (by decide +kernel) (pa_cons (pv 2) pa_nil))) (fun _ _ => rfl))) (pss_cons (ps_if (pt_cmpR (op_eqP hu64) (pv 3) pe_int (nomark _)) (pss_cons (ps_ret (pe_op op_add_str (pe_op op_add_str (pe_slice sl_str (pv 0) po_none (po_some (pv 4))) (pv 5)) (pe_slice sl_str (pv 0) (po_some (pv 4)) po_none))) pss_nil) pss_nil) (pss_cons (ps_if (pt_cmpR (op_eqP hu64) (pv 3) pe_int (nomark _)) (pss_cons (ps_ret (pe_op op_add_str (pe_slice sl_str (pv 0) po_none (po_some (pv 4))) (pe_slice sl_str (pv 0) (po_some (pe_op op_add (pv 4) pe_int)) po_none))) pss_nil) pss_nil) (pss_cons (ps_if (pt_cmpR op_lt (pv 3) pe_int (nomark _)) (pss_cons (ps_ret (pe_op op_add_str (pe_op op_add_str (pe_slice sl_str (pv 0) po_none (po_some (pv 4))) (pv 5)) (pe_slice sl_str (pv 0) (po_some (pe_op op_add (pv 4) pe_int)) po_none))) pss_nil) pss_nil) (pss_cons (ps_if (pt_cmpR (op_eqP hu64) (pv 3) pe_int (nomark _)) (pss_cons (ps_ret (pe_cal C_odd hr (by decide) (by rfl) (pa_cons (pv 1) pa_nil))) pss_nil) pss_nil) (pss_cons (ps_if (pt_cmpR (op_eqP hu64) (pv 3) pe_int (nomark _)) (pss_cons (ps_ret (pe_op op_add_str (pe_op op_add_str (pv 0) pe_str) (pe_ix ix_list (pe_split (pv 0) pe_str) (pe_op op_modN (pe_cal C_mix hr (by decide) (by rfl) (pa_cons (pv 1) (pa_cons pe_int pa_nil))) (pe_callB call_len_seq (by rfl) B.len' (by decide +kernel) (pa_cons (pe_split (pv 0) pe_str) pa_nil))) (fun _ _ => rfl)))) pss_nil) pss_nil) (pss_cons (ps_ret (pv 0)) pss_nil)))))))))), ?_⟩
    rintro ⟨text_here, cell, _⟩
    show Sx (RVt K Tx) .rt _ ([vl text_here, vl cell, .no, .no, .no, .no] : Env K) (m_spoiled text_here cell)
    unfold m_spoiled
    exact sx_asg (ev_is ev_str rfl) (fun signs => sx_asg (ev_is (ev_modL (by decide) (ev_call (ea_cons (ev_var rfl) (ea_cons ev_int ea_nil)))) rfl) (fun way => sx_asg (ev_is (ev_fmod (ev_call (ea_cons (ev_var rfl) (ea_cons ev_int ea_nil))) (ev_add (ev_lenS (ev_var rfl)) ev_int)) rfl) (fun at' => sx_asg (ev_is (ev_ixS (ev_var rfl) (ev_fmod (ev_call (ea_cons (ev_var rfl) (ea_cons ev_int ea_nil))) (ev_lenS (ev_var rfl)))) rfl) (fun sign => sx_ifP (et_is (et_test (ev_eqG (ev_var rfl) ev_int)) rfl) (sx_assoc (sx_ret (ev_is (ev_txS (ev_addS (ev_addS (ev_slS (ev_var rfl) eo_none (eo_some (ev_var rfl))) (ev_var rfl)) (ev_slS (ev_var rfl) (eo_some (ev_var rfl)) eo_none))) rfl))) (sx_skip (sx_ifP (et_is (et_test (ev_eqG (ev_var rfl) ev_int)) rfl) (sx_assoc (sx_ret (ev_is (ev_txS (ev_addS (ev_slS (ev_var rfl) eo_none (eo_some (ev_var rfl))) (ev_slS (ev_var rfl) (eo_some (ev_add (ev_var rfl) ev_int)) eo_none))) rfl))) (sx_skip (sx_ifP (et_is (et_test (ev_lt (ev_var rfl) ev_int)) rfl) (sx_assoc (sx_ret (ev_is (ev_txS (ev_addS (ev_addS (ev_slS (ev_var rfl) eo_none (eo_some (ev_var rfl))) (ev_var rfl)) (ev_slS (ev_var rfl) (eo_some (ev_add (ev_var rfl) ev_int)) eo_none))) rfl))) (sx_skip (sx_ifP (et_is (et_test (ev_eqG (ev_var rfl) ev_int)) rfl) (sx_assoc (sx_ret (ev_is (ev_call (ea_cons (ev_var rfl) ea_nil)) rfl))) (sx_skip (sx_ifP (et_is (et_test (ev_eqG (ev_var rfl) ev_int)) rfl) (sx_assoc (sx_ret (ev_is (ev_txS (ev_addS (ev_addS (ev_var rfl) ev_str) (ev_ix (ev_rdN (ev_split (ev_var rfl) ev_str)) (ev_fmod (ev_call (ea_cons (ev_var rfl) (ea_cons ev_int ea_nil))) (ev_len (ev_rdN (ev_split (ev_var rfl) ev_str))))))) rfl))) (sx_skip (sx_ret (ev_is (ev_txS (ev_var rfl)) rfl)))))))))))))))
abbrev s_divisor : Stmt := topS 19
abbrev N_divisor : List Str := ["_law_one", "_law_other"]
theorem sc_divisor : FnScope N_divisor ["_law_one", "_law_other"] (defScope s_divisor) := ⟨rfl, rfl, rfl, by decide +kernel, rfl, by decide +kernel, by decide +kernel⟩
abbrev sp_divisor (K : Fg) [Nms K] : Sp := SpF (K := K) (ι := Int × Int × Unit) (ρ := Int) (fun p => [vl p.1, vl p.2.1]) (fun p => m_divisor p.1 p.2.1) (RVt K Int)
set_option maxHeartbeats 4000000 in
theorem ok_divisor {P : Program} {w : World} {K : Fg} [Nms K] {mg : Str → Option Value} {base : Heap} {fa : Addr} {fd : FuncData} (F : Fun K "_law_divisor" "_law_divisor" s_divisor fa fd) (B : Blt K mg) (hN : base.NoSeer) (ht : P.given.tree = none) (EX : Xf K mg [.noText] [.one .noEffect, .one .noRow, .one .noThing, .one .noFit, .one .noText, .value]) : FnOk P w K mg base CX0 41 fa fd ["_law_one", "_law_other"] (sp_divisor K) :=
  fn_okB (k := 40) F sc_divisor (fun _ => rfl) fun cdv A outer s H E hr => by
    have sc := sc_divisor
    have hu64 := hr.units
    have hP : FdR P (A.deeper (envOfC "_law_divisor" (defScope s_divisor) s.heap.objs.size fa cdv)) (envOfC "_law_divisor" (defScope s_divisor) s.heap.objs.size fa cdv :: outer) base := ⟨hN, ht, ⟨_, _, rfl, sc.gen, sc.co, rfl, rfl⟩, depth_of hr (by decide)⟩
    have hu65 := hu_65 hr
    refine ⟨_, (pss_cons (ps_while PassesOwn.never (pt_cmpR (op_neP hu64) (pv 1) pe_int (nomark _)) (pss_cons (ps_par (i := 0) (j := 1) (by rfl) sc.nd rfl rfl (by decide) rfl rfl (pa_cons (pv 1) (pa_cons (pe_op op_modN (pv 0) (pv 1)) pa_nil)) (by rfl)) pss_nil)) (pss_cons (ps_ret (pe_callB call_abs (by rfl) B.abs' (by decide +kernel) (pa_cons (pv 0) pa_nil))) pss_nil)), ?_⟩
    rintro ⟨one, other, _⟩
    show Sx (RVt K Int) .rt _ ([vl one, vl other] : Env K) (m_divisor one other)
    unfold m_divisor
    exact sx_while (enc := (fun (s1 : Int × Int) => ([vl s1.1, vl s1.2] : Env K))) _ rfl (fun s1 => et_is (et_test (ev_neG (ev_var rfl) ev_int)) rfl) (fun s1 => sx_par (ev_is (ev_var rfl) rfl) (ev_is (ev_fmod (ev_var rfl) (ev_var rfl)) rfl) (fun one_1 other_1 => sx_end (.same _ (.same _ .nil)))) (fun s2 => sx_ret (ev_is (ev_abs (ev_var rfl)) rfl))
abbrev s_fraction : Stmt := topS 27
abbrev N_fraction : List Str := ["_law_cell", "_law_top", "_law_bottom", "_law_by"]
theorem sc_fraction : FnScope N_fraction ["_law_cell"] (defScope s_fraction) := ⟨rfl, rfl, rfl, by decide +kernel, rfl, by decide +kernel, by decide +kernel⟩
abbrev sp_fraction (K : Fg) [Nms K] : Sp := SpF (K := K) (ι := Int × Unit) (ρ := (Int × Int)) (fun p => [vl p.1]) (fun p => m_fraction p.1) (RVt K (Int × Int))
set_option maxHeartbeats 4000000 in
theorem ok_fraction {P : Program} {w : World} {K : Fg} [Nms K] {mg : Str → Option Value} {base : Heap} {fa : Addr} {fd : FuncData} (F : Fun K "_law_fraction" "_law_fraction" s_fraction fa fd) (B : Blt K mg) (hN : base.NoSeer) (ht : P.given.tree = none) (EX : Xf K mg [.noText] [.one .noEffect, .one .noRow, .one .noThing, .one .noFit, .one .noText, .value]) (C_divisor : Cal P w K mg base 41 "_law_divisor" ["_law_one", "_law_other"] (sp_divisor K)) (C_mix : Cal P w K mg base 41 "_law_mix" ["_law_cell", "_law_j"] (sp_mix K)) : FnOk P w K mg base CX0 42 fa fd ["_law_cell"] (sp_fraction K) :=
  fn_okB (k := 41) F sc_fraction (fun _ => rfl) fun cdv A outer s H E hr => by
    have sc := sc_fraction
    have hu64 := hr.units
    have hP : FdR P (A.deeper (envOfC "_law_fraction" (defScope s_fraction) s.heap.objs.size fa cdv)) (envOfC "_law_fraction" (defScope s_fraction) s.heap.objs.size fa cdv :: outer) base := ⟨hN, ht, ⟨_, _, rfl, sc.gen, sc.co, rfl, rfl⟩, depth_of hr (by decide)⟩
    have hu65 := hu_65 hr
    refine ⟨_, (pss_cons (ps_set (i := 1) sc.nd rfl (.inl rfl) (pe_op op_sub (pe_op op_mod (pe_cal C_mix hr (by decide) (by rfl) (pa_cons (pv 0) (pa_cons pe_int pa_nil))) pe_int) pe_int)) (pss_cons (ps_if (pt_cmpR (op_eqP hu64) (pe_op op_mod (pe_cal C_mix hr (by decide) (by rfl) (pa_cons (pv 0) (pa_cons pe_int pa_nil))) pe_int) pe_int (nomark _)) (pss_cons (ps_set (i := 1) sc.nd rfl (.inl rfl) (pe_op op_sub (pe_op op_mod (pe_op op_sub (pe_op op_add (pv 0) (pe_op op_pow pe_int pe_int)) pe_int) (pe_op op_sub (pe_op op_mul pe_int (pe_op op_pow pe_int pe_int)) pe_int)) (pe_op op_sub (pe_op op_pow pe_int pe_int) pe_int))) pss_nil) pss_nil) (pss_cons (ps_set (i := 2) sc.nd rfl (.inl rfl) (pe_op op_add pe_int (pe_op op_mod (pe_cal C_mix hr (by decide) (by rfl) (pa_cons (pv 0) (pa_cons pe_int pa_nil))) pe_int))) (pss_cons (ps_if (pt_cmpR (op_eqP hu64) (pe_op op_mod (pe_cal C_mix hr (by decide) (by rfl) (pa_cons (pv 0) (pa_cons pe_int pa_nil))) pe_int) pe_int (nomark _)) (pss_cons (ps_set (i := 2) sc.nd rfl (.inl rfl) (pe_op op_add pe_int (pe_op op_mod (pe_op op_add (pe_op op_mulT (pv 0) (pv 0)) pe_int) (pe_op op_sub (pe_op op_pow pe_int pe_int) pe_int)))) pss_nil) pss_nil) (pss_cons (ps_set (i := 3) sc.nd rfl (.inl rfl) (pe_cal C_divisor hr (by decide) (by rfl) (pa_cons (pv 1) (pa_cons (pv 2) pa_nil)))) (pss_cons (ps_ret (pe_tup (pa_cons (pe_op (op_fdivP hP) (pv 1) (pv 3)) (pa_cons (pe_op (op_fdivP hP) (pv 2) (pv 3)) pa_nil)))) pss_nil)))))), ?_⟩
    rintro ⟨cell, _⟩
    show Sx (RVt K (Int × Int)) .rt _ ([vl cell, .no, .no, .no] : Env K) (m_fraction cell)
    unfold m_fraction
    exact sx_asg (ev_is (ev_sub (ev_modL (by decide) (ev_call (ea_cons (ev_var rfl) (ea_cons ev_int ea_nil)))) ev_int) rfl) (fun top => sx_ifJ (enc := (fun (s6 : Int) => ([vl cell, vl s6, .no, .no] : Env K))) (et_is (et_test (ev_eqG (ev_modL (by decide) (ev_call (ea_cons (ev_var rfl) (ea_cons ev_int ea_nil)))) ev_int)) rfl) (sx_asg (ev_is (ev_sub (ev_modP (ev_sub (ev_add (ev_var rfl) (ev_powL (by decide))) ev_int) (ev_sub (ev_mulL (by decide) (ev_powL (by decide))) ev_int) (by decide)) (ev_sub (ev_powL (by decide)) ev_int)) rfl) (fun top_1 => sx_end (.same _ (.same _ (.no _ (.no _ .nil)))))) (sx_end (.same _ (.same _ (.no _ (.no _ .nil))))) (fun s6 => sx_asg (ev_is (ev_add ev_int (ev_modL (by decide) (ev_call (ea_cons (ev_var rfl) (ea_cons ev_int ea_nil))))) rfl) (fun bottom => sx_ifJ (enc := (fun (s15 : Int) => ([vl cell, vl s6, vl s15, .no] : Env K))) (et_is (et_test (ev_eqG (ev_modL (by decide) (ev_call (ea_cons (ev_var rfl) (ea_cons ev_int ea_nil)))) ev_int)) rfl) (sx_asg (ev_is (ev_add ev_int (ev_modP (ev_add (ev_mul (ev_var rfl) (ev_var rfl)) ev_int) (ev_sub (ev_powL (by decide)) ev_int) (by decide))) rfl) (fun bottom_1 => sx_end (.same _ (.same _ (.same _ (.no _ .nil)))))) (sx_end (.same _ (.same _ (.same _ (.no _ .nil))))) (fun s15 => sx_asg (ev_is (ev_call (ea_cons (ev_var rfl) (ea_cons (ev_var rfl) ea_nil))) rfl) (fun by' => sx_ret (ev_is (ev_t2 (ev_fdiv (ev_var rfl) (ev_var rfl)) (ev_fdiv (ev_var rfl) (ev_var rfl))) rfl))))))
abbrev s_show_fraction : Stmt := topS 14
abbrev N_show_fraction : List Str := ["number", "top", "bottom"]
theorem sc_show_fraction : FnScope N_show_fraction ["number"] (defScope s_show_fraction) := ⟨rfl, rfl, rfl, by decide +kernel, rfl, by decide +kernel, by decide +kernel⟩
abbrev sp_show_fraction (K : Fg) [Nms K] : Sp := SpF (K := K) (ι := (Int × Int) × Unit) (ρ := Str) (fun p => [vl p.1]) (fun p => m_show_fraction p.1) (RVt K Str)
set_option maxHeartbeats 4000000 in
theorem ok_show_fraction {P : Program} {w : World} {K : Fg} [Nms K] {mg : Str → Option Value} {base : Heap} {fa : Addr} {fd : FuncData} (F : Fun K "show_fraction" "show_fraction" s_show_fraction fa fd) (B : Blt K mg) (hN : base.NoSeer) (ht : P.given.tree = none) (EX : Xf K mg [.noText] [.one .noEffect, .one .noRow, .one .noThing, .one .noFit, .one .noText, .value]) : FnOk P w K mg base CX0 41 fa fd ["number"] (sp_show_fraction K) :=
  fn_okB (k := 40) F sc_show_fraction (fun _ => rfl) fun cdv A outer s H E hr => by
    have sc := sc_show_fraction
    have hu64 := hr.units
    have hP : FdR P (A.deeper (envOfC "show_fraction" (defScope s_show_fraction) s.heap.objs.size fa cdv)) (envOfC "show_fraction" (defScope s_show_fraction) s.heap.objs.size fa cdv :: outer) base := ⟨hN, ht, ⟨_, _, rfl, sc.gen, sc.co, rfl, rfl⟩, depth_of hr (by decide)⟩
    have hu65 := hu_65 hr
    refine ⟨_, (pss_cons (ps_asg (pv 0) (pg_tup rfl (pgs_cons (pg_name (i := 1) sc.nd rfl (.inl rfl)) (pgs_cons (pg_name (i := 2) sc.nd rfl (.inl rfl)) pgs_nil)))) (pss_cons (ps_if (pt_cmpR (op_eqP hu64) (pv 2) pe_int (nomark _)) (pss_cons (ps_ret (pe_callTy call_str_int (by rfl) B.str' (by decide +kernel) (pa_cons (pv 1) pa_nil))) pss_nil) pss_nil) (pss_cons (ps_ret (pe_joined (.cons (pe_fmt (pv 1)) (.cons pe_str (.cons (pe_fmt (pv 2)) .nil))))) pss_nil))), ?_⟩
    rintro ⟨number, _⟩
    show Sx (RVt K Str) .rt _ ([vl number, .no, .no] : Env K) (m_show_fraction number)
    unfold m_show_fraction
    exact sx_unp (ev_is (ev_var rfl) rfl) (fun u1 => sx_ifP (et_is (et_test (ev_eqG (ev_var rfl) ev_int)) rfl) (sx_assoc (sx_ret (ev_is (ev_strI (ev_var rfl)) rfl))) (sx_skip (sx_ret (ev_is (ev_joined (ej_cons (ev_is (ev_fmtI (ev_var rfl)) rfl) (ej_cons (ev_is ev_str rfl) (ej_cons (ev_is (ev_fmtI (ev_var rfl)) rfl) ej_nil)))) rfl))))
abbrev s_show_fractions : Stmt := topS 15
abbrev N_show_fractions : List Str := ["numbers", "number"]
theorem sc_show_fractions : FnScope N_show_fractions ["numbers"] (defScope s_show_fractions) := ⟨rfl, rfl, rfl, by decide +kernel, rfl, by decide +kernel, by decide +kernel⟩
abbrev sp_show_fractions (K : Fg) [Nms K] : Sp := SpF (K := K) (ι := (List (Int × Int)) × Unit) (ρ := Str) (fun p => [vl p.1]) (fun p => m_show_fractions p.1) (RVt K Str)
set_option maxHeartbeats 4000000 in
theorem ok_show_fractions {P : Program} {w : World} {K : Fg} [Nms K] {mg : Str → Option Value} {base : Heap} {fa : Addr} {fd : FuncData} (F : Fun K "show_fractions" "show_fractions" s_show_fractions fa fd) (B : Blt K mg) (hN : base.NoSeer) (ht : P.given.tree = none) (EX : Xf K mg [.noText] [.one .noEffect, .one .noRow, .one .noThing, .one .noFit, .one .noText, .value]) (C_show_fraction : Cal P w K mg base 41 "show_fraction" ["number"] (sp_show_fraction K)) : FnOk P w K mg base CX0 42 fa fd ["numbers"] (sp_show_fractions K) :=
  fn_okB (k := 41) F sc_show_fractions (fun _ => rfl) fun cdv A outer s H E hr => by
    have sc := sc_show_fractions
    have hu64 := hr.units
    have hP : FdR P (A.deeper (envOfC "show_fractions" (defScope s_show_fractions) s.heap.objs.size fa cdv)) (envOfC "show_fractions" (defScope s_show_fractions) s.heap.objs.size fa cdv :: outer) base := ⟨hN, ht, ⟨_, _, rfl, sc.gen, sc.co, rfl, rfl⟩, depth_of hr (by decide)⟩
    have hu65 := hu_65 hr
    refine ⟨_, (pss_cons (ps_ret (meK (K := K) (r := rJoin) (peJ pe_str (pe_lc (own := [("number", 1)]) (g := gName 1) (by rfl) sc.nd (pi_list (pv 0)) (blkOk_by (own := [("number", 1)]) (N := N_show_fractions) (sc := defScope s_show_fractions) (by decide +kernel)) (fun _ _ _ _ _ => (pg_name (i := 1) sc.nd rfl (.inl rfl))) (fun _ _ _ _ _ => pts_nil) (fun _ _ _ _ _ => (pe_cal C_show_fraction hr (by decide) (by rfl) (pa_cons (pv 1) pa_nil))))) rfl)) pss_nil), ?_⟩
    rintro ⟨numbers, _⟩
    show Sx (RVt K Str) .rt _ ([vl numbers, .no] : Env K) (m_show_fractions numbers)
    unfold m_show_fractions
    exact sx_ret (ev_is (ev_join ev_str (ev_rdN (ev_lc (ei_list (ev_var rfl)) (by decide) (fun x1 => ev_is (ev_call (ea_cons (ev_var rfl) ea_nil)) rfl)))) rfl)
abbrev s_shown : Stmt := topS 28
abbrev N_shown : List Str := ["_law_numbers", "_law_found", "_law_top", "_law_bottom", "_law_word"]
theorem sc_shown : FnScope N_shown ["_law_numbers"] (defScope s_shown) := ⟨rfl, rfl, rfl, by decide +kernel, rfl, by decide +kernel, by decide +kernel⟩
abbrev sp_shown (K : Fg) [Nms K] : Sp := SpF (K := K) (ι := (List (Int × Int)) × Unit) (ρ := Str) (fun p => [vl p.1]) (fun p => m_shown p.1) (RVt K Str)
set_option maxHeartbeats 4000000 in
theorem ok_shown {P : Program} {w : World} {K : Fg} [Nms K] {mg : Str → Option Value} {base : Heap} {fa : Addr} {fd : FuncData} (F : Fun K "_law_shown" "_law_shown" s_shown fa fd) (B : Blt K mg) (hN : base.NoSeer) (ht : P.given.tree = none) (EX : Xf K mg [.noText] [.one .noEffect, .one .noRow, .one .noThing, .one .noFit, .one .noText, .value]) : FnOk P w K mg base CX0 41 fa fd ["_law_numbers"] (sp_shown K) :=
  fn_okB (k := 40) F sc_shown (fun _ => rfl) fun cdv A outer s H E hr => by
    have sc := sc_shown
    have hu64 := hr.units
    have hP : FdR P (A.deeper (envOfC "_law_shown" (defScope s_shown) s.heap.objs.size fa cdv)) (envOfC "_law_shown" (defScope s_shown) s.heap.objs.size fa cdv :: outer) base := ⟨hN, ht, ⟨_, _, rfl, sc.gen, sc.co, rfl, rfl⟩, depth_of hr (by decide)⟩
    have hu65 := hu_65 hr
    refine ⟨_, (pss_cons (ps_set (i := 1) sc.nd rfl (.inl rfl) (pe_lst pa_nil)) (pss_cons (ps_for PassesOwn.never rfl (pi_list (pv 0)) (pg_tup rfl (pgs_cons (pg_name (i := 2) sc.nd rfl (.inl rfl)) (pgs_cons (pg_name (i := 3) sc.nd rfl (.inl rfl)) pgs_nil))) (pss_cons (ps_set (i := 4) sc.nd rfl (.inl rfl) (pe_callTy call_str_int (by rfl) B.str' (by decide +kernel) (pa_cons (pv 2) pa_nil))) (pss_cons (ps_if (pt_cmpR (op_neP hu64) (pv 3) pe_int (nomark _)) (pss_cons (ps_set (i := 4) sc.nd rfl (.inl rfl) (pe_op op_add_str (pe_op op_add_str (pv 4) pe_str) (pe_callTy call_str_int (by rfl) B.str' (by decide +kernel) (pa_cons (pv 3) pa_nil)))) pss_nil) pss_nil) (pss_cons (ps_expr (pe_bm PySem.F.plainAttrs_list PySem.F.slot_list_append PySem.F.type_list_append mt_append (pv 1) (pa_cons (pv 4) pa_nil))) pss_nil)))) (pss_cons (ps_ret (meK (K := K) (r := rJoin) (peJ pe_str (pv 1)) rfl)) pss_nil))), ?_⟩
    rintro ⟨numbers, _⟩
    show Sx (RVt K Str) .rt _ ([vl numbers, .no, .no, .no, .no] : Env K) (m_shown numbers)
    unfold m_shown
    exact sx_asgN (ev_is (ev_lst eh_nil) rfl) (fun found => sx_forQ (enc := (fun (s1 : (List Str)) => ([vl numbers, ow s1, .no, .no, .no] : Env K))) (ei_is (ei_list2 (ev_var rfl)) rfl) rfl (fun s1 x2 => sx_asg (ev_is (ev_strI (ev_var rfl)) rfl) (fun word => sx_ifJP (enc := (fun (s5 : Str) => ([vl numbers, ow s1, vl x2.1, vl x2.2, vl s5] : Env K))) (et_is (et_test (ev_neG (ev_var rfl) ev_int)) rfl) (sx_asg (ev_is (ev_addS (ev_addS (ev_var rfl) ev_str) (ev_strI (ev_var rfl))) rfl) (fun word_1 => sx_end (.same _ (.same _ (.same _ (.same _ (.same _ .nil))))))) (sx_end (.same _ (.same _ (.same _ (.same _ (.same _ .nil)))))) (fun s5 => sx_appP rfl (ev_is (ev_var rfl) rfl) (fun found_1 => sx_end (.same _ (.same _ (.no _ (.no _ (.no _ .nil))))))))) (fun s6 => sx_ret (ev_is (ev_join ev_str (ev_varL rfl)) rfl)))
abbrev s_law : Stmt := topS 29
abbrev N_law : List Str := ["_law_script", "_law_cells", "_law_cell", "_law_model_here", "_law_text_here", "_law_found", "_law_numbers", "_law_kept"]
theorem sc_law : FnScope N_law ["_law_script"] (defScope s_law) := ⟨rfl, rfl, rfl, by decide +kernel, rfl, by decide +kernel, by decide +kernel⟩
abbrev sp_law (K : Fg) : Sp := SpF (K := K) (ι := Scr × Unit) (ρ := Bool) (fun p => [vl p.1]) (fun p => m_law p.1) (RVt K Bool)
set_option maxHeartbeats 4000000 in
theorem ok_law {P : Program} {w : World} {K : Fg} [Nms K] {mg : Str → Option Value} {base : Heap} {fa : Addr} {fd : FuncData} (F : Fun K "law" "law" s_law fa fd) (B : Blt K mg) (hN : base.NoSeer) (ht : P.given.tree = none) (EX : Xf K mg [.noText] [.one .noEffect, .one .noRow, .one .noThing, .one .noFit, .one .noText, .value]) (C_fraction : Cal P w K mg base 42 "_law_fraction" ["_law_cell"] (sp_fraction K)) (C_model : Cal P w K mg base 42 "_law_model" ["_law_cell"] (sp_model K)) (C_right : Cal P w K mg base 43 "_law_right" ["_law_text_here"] (sp_right K)) (C_shown : Cal P w K mg base 41 "_law_shown" ["_law_numbers"] (sp_shown K)) (C_spoiled : Cal P w K mg base 43 "_law_spoiled" ["_law_text_here", "_law_cell"] (sp_spoiled K)) (C_text : Cal P w K mg base 41 "_law_text" ["_law_model_here"] (sp_text K)) (C_show_fractions : Cal P w K mg base 42 "show_fractions" ["numbers"] (sp_show_fractions K)) (C_show_model : Cal P w K mg base 43 "show_model" ["model"] (sp_show_model K)) : FnOk P w K mg base CX0 44 fa fd ["_law_script"] (sp_law K) :=
  fn_okB (k := 43) F sc_law (fun _ => rfl) fun cdv A outer s H E hr => by
    have sc := sc_law
    have hu64 := hr.units
    have hP : FdR P (A.deeper (envOfC "law" (defScope s_law) s.heap.objs.size fa cdv)) (envOfC "law" (defScope s_law) s.heap.objs.size fa cdv :: outer) base := ⟨hN, ht, ⟨_, _, rfl, sc.gen, sc.co, rfl, rfl⟩, depth_of hr (by decide)⟩
    have hu65 := hu_65 hr
    refine ⟨_, (pss_cons (ps_set (i := 1) sc.nd rfl (.inl rfl) (pe_op op_cat (pe_slice sl_list (pv 0) po_none (po_some pe_int)) (pe_lst (pa_cons pe_int pa_nil)))) (pss_cons (ps_for PassesOwn.never rfl (pi_list (pv 1)) (pg_name (i := 2) sc.nd rfl (.inl rfl)) (pss_cons (ps_set (i := 3) sc.nd rfl (.inl rfl) (pe_cal C_model hr (by decide) (by rfl) (pa_cons (pv 2) pa_nil))) (pss_cons (ps_set (i := 4) sc.nd rfl (.inl rfl) (pe_cal C_text hr (by decide) (by rfl) (pa_cons (pv 3) pa_nil))) (pss_cons (ps_set (i := 5) sc.nd rfl (.inl rfl) (pe_cal C_show_model hr (by decide) (by rfl) (pa_cons (pv 3) pa_nil))) (pss_cons (ps_if (PW.pt (pw_or (pt_not (pt_val (pe_callB call_isi (by rfl) B.isinstance' (by decide +kernel) (pa_cons (pv 5) (pa_cons (pe_bltn (v := .ty "str") (by rfl) B.str' (by decide +kernel) rfl) pa_nil))))) (pw_or (pt_cmpR op_ne (pv 5) (pv 4) (nomark _)) (pw_or1 (pt_cmpR (op_neP hu64) (pv 3) (pe_cal C_model hr (by decide) (by rfl) (pa_cons (pv 2) pa_nil)) (nomark _)))))) (pss_cons (ps_ret pe_bl) pss_nil) pss_nil) (pss_cons (ps_if (PW.pt (pw_or (pt_not (pt_val (pe_cal C_right hr (by decide) (by rfl) (pa_cons (pv 5) pa_nil)))) (pw_or1 (pt_not (pt_val (pe_cal C_right hr (by decide) (by rfl) (pa_cons (pe_cal C_spoiled hr (by decide) (by rfl) (pa_cons (pv 4) (pa_cons (pv 2) pa_nil))) pa_nil))))))) (pss_cons (ps_ret pe_bl) pss_nil) pss_nil) pss_nil)))))) (pss_cons (ps_setLc (i := 6) (own := [("_law_cell", 2)]) (g := gName 2) (by rfl) sc.nd rfl rfl (sw_true rfl rfl rfl (by decide +kernel)) (pi_list (pe_slice sl_list (pv 0) po_none (po_some pe_int))) (blkOk_by (own := [("_law_cell", 2)]) (N := N_law) (sc := defScope s_law) (by decide +kernel)) (fun _ _ _ _ _ => (pg_name (i := 2) sc.nd rfl (.inl rfl))) (fun _ _ _ _ _ => pts_nil) (fun _ _ _ _ _ => (pe_cal C_fraction hr (by decide) (by rfl) (pa_cons (pv 2) pa_nil)))) (pss_cons (ps_set (i := 7) sc.nd rfl (.inl rfl) (pe_callTy call_list_of (by rfl) B.list' (by decide +kernel) (pa_cons (pv 6) pa_nil))) (pss_cons (ps_set (i := 5) sc.nd rfl (.inl rfl) (pe_cal C_show_fractions hr (by decide) (by rfl) (pa_cons (pv 6) pa_nil))) (pss_cons (ps_ret (pe_and (pe_callB call_isi (by rfl) B.isinstance' (by decide +kernel) (pa_cons (pv 5) (pa_cons (pe_bltn (v := .ty "str") (by rfl) B.str' (by decide +kernel) rfl) pa_nil))) (pe_and (pe_cmpR op_eq (pv 5) (pe_cal C_shown hr (by decide) (by rfl) (pa_cons (pv 7) pa_nil)) (nomark _)) (pe_and (pe_cmpR (op_eqP hu64) (pv 6) (pv 7) (nomark _)) (pe_one (pe_cmpR op_eq (pe_cal C_show_fractions hr (by decide) (by rfl) (pa_cons (pe_lst pa_nil) pa_nil)) pe_str (nomark _))))))) pss_nil)))))), ?_⟩
    rintro ⟨script, _⟩
    show Sx (RVt K Bool) .rt _ ([vl script, .no, .no, .no, .no, .no, .no, .no] : Env K) (m_law script)
    unfold m_law
    exact sx_asg (ev_is (ev_froz (ev_cat (ev_rdN (ev_slScr (ev_var rfl) eo_none (eo_some ev_int))) (ev_rdN (ev_lst (eh_cons ev_int eh_nil))))) rfl) (fun cells => sx_forRQ (enc := (fun (s1 : Unit) => ([vl script, vl cells, .no, .no, .no, .no, .no, .no] : Env K))) (ei_is (ei_list (ev_var rfl)) rfl) rfl (fun s1 x2 => sx_asg (ev_is (ev_froz (ev_call (ea_cons (ev_var rfl) ea_nil))) rfl) (fun model_here => sx_asg (ev_is (ev_call (ea_cons (ev_var rfl) ea_nil)) rfl) (fun text_here => sx_asg (ev_is (ev_call (ea_cons (ev_var rfl) ea_nil)) rfl) (fun found => sx_if (et_is (et_or (et_not (et_B (ev_isi (b := true) (fun _ => kit_ty (by decide +kernel)) (ev_var rfl)))) (et_or (et_test (ev_neS (ev_var rfl) (ev_var rfl))) (et_test (ev_neG (ev_var rfl) (ev_rdN (ev_call (ea_cons (ev_var rfl) ea_nil))))))) rfl) (sx_assoc (sx_retL (ev_is ev_bl rfl))) (sx_skip (sx_if (et_is (et_or (et_not (et_B (ev_call (ea_cons (ev_txS (ev_var rfl)) ea_nil)))) (et_not (et_B (ev_call (ea_cons (ev_call (ea_cons (ev_var rfl) (ea_cons (ev_var rfl) ea_nil))) ea_nil))))) rfl) (sx_assoc (sx_retL (ev_is ev_bl rfl))) (sx_skip (sx_endL (.same _ (.same _ (.no _ (.no _ (.no _ (.no _ (.no _ (.no _ .nil)))))))))))))))) (fun s10 => sx_asg (ev_is (ev_froz (ev_lc (ei_list (ev_froz (ev_slScr (ev_var rfl) eo_none (eo_some ev_int)))) (by decide) (fun x11 => ev_is (ev_call (ea_cons (ev_var rfl) ea_nil)) rfl))) rfl) (fun numbers => sx_asg (ev_is (ev_froz (ev_list (ev_rd (ev_var rfl)))) rfl) (fun kept => sx_asg (ev_is (ev_call (ea_cons (ev_var rfl) ea_nil)) rfl) (fun found_1 => sx_ret (ev_is (ev_and (ev_isi (b := true) (fun _ => kit_ty (by decide +kernel)) (ev_var rfl)) (ev_and (ev_eqS (ev_var rfl) (ev_call (ea_cons (ev_var rfl) ea_nil))) (ev_and (ev_eqG (ev_var rfl) (ev_var rfl)) (ev_eqS (ev_call (ea_cons (ev_froz (ev_lst eh_nil)) ea_nil)) ev_str)))) rfl))))))
end Tf
set_option Elab.async false
set_option linter.all false
set_option maxRecDepth 100000
set_option maxHeartbeats 4000000
namespace Tf
open PySem PySem.Spec L2 PyProof.Rows
theorem all_mk {l : PySem.W.OpenLaw} {w : World} {K : Fg} {h : Heap} {mg : Str → Option Value} {fa f0 f1 f2 f3 f4 f5 f6 f7 f8 f9 f10 f11 f12 f13 f14 f15 f16 f17 f18 f19 : Addr} (ht : l.prog.given.tree = none) (X : K.In h) (G : h.Ns mainGlobals mg) (hfa : mg "law" = some (.ref fa))
    {od0 an0 od1 an1 od2 an2 od3 an3 od4 an4 od5 an5 od6 an6 od7 an7 od8 an8 od9 an9 od10 an10 od11 an11 od12 an12 od13 an13 od14 an14 od15 an15 od16 an16 od17 an17 od18 an18 od19 an19 : Option Addr} {sl0 sl1 sl2 sl3 sl4 sl5 sl6 sl7 sl8 sl9 sl10 sl11 sl12 sl13 sl14 sl15 sl16 sl17 sl18 sl19 : Array (Option Value)} {oc0 kV0 dc0 pm0 cd0 ct0 oc1 kV1 dc1 pm1 cd1 ct1 oc2 kV2 dc2 pm2 cd2 ct2 oc3 kV3 dc3 pm3 cd3 ct3 oc4 kV4 dc4 pm4 cd4 ct4 oc5 kV5 dc5 pm5 cd5 ct5 oc6 kV6 dc6 pm6 cd6 ct6 oc7 kV7 dc7 pm7 cd7 ct7 oc8 kV8 dc8 pm8 cd8 ct8 oc9 kV9 dc9 pm9 cd9 ct9 oc10 kV10 dc10 pm10 cd10 ct10 oc11 kV11 dc11 pm11 cd11 ct11 oc12 kV12 dc12 pm12 cd12 ct12 oc13 kV13 dc13 pm13 cd13 ct13 oc14 kV14 dc14 pm14 cd14 ct14 oc15 kV15 dc15 pm15 cd15 ct15 oc16 kV16 dc16 pm16 cd16 ct16 oc17 kV17 dc17 pm17 cd17 ct17 oc18 kV18 dc18 pm18 cd18 ct18 oc19 kV19 dc19 pm19 cd19 ct19 : Value}
    (a0 : PySem.W.nsIn K mainGlobals "_law_mix" = some (some (.ref f0))) (l0 : K.lookup f0 = some ⟨oc0, od0, .func (PySem.W.fnOf "_law_mix" "_law_mix" (defArgs s_mix) (defBody s_mix) (defScope s_mix) .none kV0 dc0 pm0 an0 cd0 ct0), sl0⟩) (c0 : PySem.W.codeIn K cd0 "_law_mix" = true) (k0 : PySem.W.keepIn K (.ref f0) = true)
    (a1 : PySem.W.nsIn K mainGlobals "_law_model" = some (some (.ref f1))) (l1 : K.lookup f1 = some ⟨oc1, od1, .func (PySem.W.fnOf "_law_model" "_law_model" (defArgs s_model) (defBody s_model) (defScope s_model) .none kV1 dc1 pm1 an1 cd1 ct1), sl1⟩) (c1 : PySem.W.codeIn K cd1 "_law_model" = true) (k1 : PySem.W.keepIn K (.ref f1) = true)
    (a2 : PySem.W.nsIn K mainGlobals "_law_text" = some (some (.ref f2))) (l2 : K.lookup f2 = some ⟨oc2, od2, .func (PySem.W.fnOf "_law_text" "_law_text" (defArgs s_text) (defBody s_text) (defScope s_text) .none kV2 dc2 pm2 an2 cd2 ct2), sl2⟩) (c2 : PySem.W.codeIn K cd2 "_law_text" = true) (k2 : PySem.W.keepIn K (.ref f2) = true)
    (a3 : PySem.W.nsIn K mainGlobals "show_numbers" = some (some (.ref f3))) (l3 : K.lookup f3 = some ⟨oc3, od3, .func (PySem.W.fnOf "show_numbers" "show_numbers" (defArgs s_show_numbers) (defBody s_show_numbers) (defScope s_show_numbers) .none kV3 dc3 pm3 an3 cd3 ct3), sl3⟩) (c3 : PySem.W.codeIn K cd3 "show_numbers" = true) (k3 : PySem.W.keepIn K (.ref f3) = true)
    (a4 : PySem.W.nsIn K mainGlobals "show_effect" = some (some (.ref f4))) (l4 : K.lookup f4 = some ⟨oc4, od4, .func (PySem.W.fnOf "show_effect" "show_effect" (defArgs s_show_effect) (defBody s_show_effect) (defScope s_show_effect) .none kV4 dc4 pm4 an4 cd4 ct4), sl4⟩) (c4 : PySem.W.codeIn K cd4 "show_effect" = true) (k4 : PySem.W.keepIn K (.ref f4) = true)
    (a5 : PySem.W.nsIn K mainGlobals "show_model" = some (some (.ref f5))) (l5 : K.lookup f5 = some ⟨oc5, od5, .func (PySem.W.fnOf "show_model" "show_model" (defArgs s_show_model) (defBody s_show_model) (defScope s_show_model) .none kV5 dc5 pm5 an5 cd5 ct5), sl5⟩) (c5 : PySem.W.codeIn K cd5 "show_model" = true) (k5 : PySem.W.keepIn K (.ref f5) = true)
    (a6 : PySem.W.nsIn K mainGlobals "_law_told" = some (some (.ref f6))) (l6 : K.lookup f6 = some ⟨oc6, od6, .func (PySem.W.fnOf "_law_told" "_law_told" (defArgs s_told) (defBody s_told) (defScope s_told) .none kV6 dc6 pm6 an6 cd6 ct6), sl6⟩) (c6 : PySem.W.codeIn K cd6 "_law_told" = true) (k6 : PySem.W.keepIn K (.ref f6) = true)
    (a7 : PySem.W.nsIn K mainGlobals "read_effect" = some (some (.ref f7))) (l7 : K.lookup f7 = some ⟨oc7, od7, .func (PySem.W.fnOf "read_effect" "read_effect" (defArgs s_read_effect) (defBody s_read_effect) (defScope s_read_effect) .none kV7 dc7 pm7 an7 cd7 ct7), sl7⟩) (c7 : PySem.W.codeIn K cd7 "read_effect" = true) (k7 : PySem.W.keepIn K (.ref f7) = true)
    (a8 : PySem.W.nsIn K mainGlobals "read_model" = some (some (.ref f8))) (l8 : K.lookup f8 = some ⟨oc8, od8, .func (PySem.W.fnOf "read_model" "read_model" (defArgs s_read_model) (defBody s_read_model) (defScope s_read_model) .none kV8 dc8 pm8 an8 cd8 ct8), sl8⟩) (c8 : PySem.W.codeIn K cd8 "read_model" = true) (k8 : PySem.W.keepIn K (.ref f8) = true)
    (a9 : PySem.W.nsIn K mainGlobals "_law_whole" = some (some (.ref f9))) (l9 : K.lookup f9 = some ⟨oc9, od9, .func (PySem.W.fnOf "_law_whole" "_law_whole" (defArgs s_whole) (defBody s_whole) (defScope s_whole) .none kV9 dc9 pm9 an9 cd9 ct9), sl9⟩) (c9 : PySem.W.codeIn K cd9 "_law_whole" = true) (k9 : PySem.W.keepIn K (.ref f9) = true)
    (a10 : PySem.W.nsIn K mainGlobals "_law_is_model" = some (some (.ref f10))) (l10 : K.lookup f10 = some ⟨oc10, od10, .func (PySem.W.fnOf "_law_is_model" "_law_is_model" (defArgs s_is_model) (defBody s_is_model) (defScope s_is_model) .none kV10 dc10 pm10 an10 cd10 ct10), sl10⟩) (c10 : PySem.W.codeIn K cd10 "_law_is_model" = true) (k10 : PySem.W.keepIn K (.ref f10) = true)
    (a11 : PySem.W.nsIn K mainGlobals "_law_right" = some (some (.ref f11))) (l11 : K.lookup f11 = some ⟨oc11, od11, .func (PySem.W.fnOf "_law_right" "_law_right" (defArgs s_right) (defBody s_right) (defScope s_right) .none kV11 dc11 pm11 an11 cd11 ct11), sl11⟩) (c11 : PySem.W.codeIn K cd11 "_law_right" = true) (k11 : PySem.W.keepIn K (.ref f11) = true)
    (a12 : PySem.W.nsIn K mainGlobals "_law_odd" = some (some (.ref f12))) (l12 : K.lookup f12 = some ⟨oc12, od12, .func (PySem.W.fnOf "_law_odd" "_law_odd" (defArgs s_odd) (defBody s_odd) (defScope s_odd) .none kV12 dc12 pm12 an12 cd12 ct12), sl12⟩) (c12 : PySem.W.codeIn K cd12 "_law_odd" = true) (k12 : PySem.W.keepIn K (.ref f12) = true)
    (a13 : PySem.W.nsIn K mainGlobals "_law_spoiled" = some (some (.ref f13))) (l13 : K.lookup f13 = some ⟨oc13, od13, .func (PySem.W.fnOf "_law_spoiled" "_law_spoiled" (defArgs s_spoiled) (defBody s_spoiled) (defScope s_spoiled) .none kV13 dc13 pm13 an13 cd13 ct13), sl13⟩) (c13 : PySem.W.codeIn K cd13 "_law_spoiled" = true) (k13 : PySem.W.keepIn K (.ref f13) = true)
    (a14 : PySem.W.nsIn K mainGlobals "_law_divisor" = some (some (.ref f14))) (l14 : K.lookup f14 = some ⟨oc14, od14, .func (PySem.W.fnOf "_law_divisor" "_law_divisor" (defArgs s_divisor) (defBody s_divisor) (defScope s_divisor) .none kV14 dc14 pm14 an14 cd14 ct14), sl14⟩) (c14 : PySem.W.codeIn K cd14 "_law_divisor" = true) (k14 : PySem.W.keepIn K (.ref f14) = true)
    (a15 : PySem.W.nsIn K mainGlobals "_law_fraction" = some (some (.ref f15))) (l15 : K.lookup f15 = some ⟨oc15, od15, .func (PySem.W.fnOf "_law_fraction" "_law_fraction" (defArgs s_fraction) (defBody s_fraction) (defScope s_fraction) .none kV15 dc15 pm15 an15 cd15 ct15), sl15⟩) (c15 : PySem.W.codeIn K cd15 "_law_fraction" = true) (k15 : PySem.W.keepIn K (.ref f15) = true)
    (a16 : PySem.W.nsIn K mainGlobals "show_fraction" = some (some (.ref f16))) (l16 : K.lookup f16 = some ⟨oc16, od16, .func (PySem.W.fnOf "show_fraction" "show_fraction" (defArgs s_show_fraction) (defBody s_show_fraction) (defScope s_show_fraction) .none kV16 dc16 pm16 an16 cd16 ct16), sl16⟩) (c16 : PySem.W.codeIn K cd16 "show_fraction" = true) (k16 : PySem.W.keepIn K (.ref f16) = true)
    (a17 : PySem.W.nsIn K mainGlobals "show_fractions" = some (some (.ref f17))) (l17 : K.lookup f17 = some ⟨oc17, od17, .func (PySem.W.fnOf "show_fractions" "show_fractions" (defArgs s_show_fractions) (defBody s_show_fractions) (defScope s_show_fractions) .none kV17 dc17 pm17 an17 cd17 ct17), sl17⟩) (c17 : PySem.W.codeIn K cd17 "show_fractions" = true) (k17 : PySem.W.keepIn K (.ref f17) = true)
    (a18 : PySem.W.nsIn K mainGlobals "_law_shown" = some (some (.ref f18))) (l18 : K.lookup f18 = some ⟨oc18, od18, .func (PySem.W.fnOf "_law_shown" "_law_shown" (defArgs s_shown) (defBody s_shown) (defScope s_shown) .none kV18 dc18 pm18 an18 cd18 ct18), sl18⟩) (c18 : PySem.W.codeIn K cd18 "_law_shown" = true) (k18 : PySem.W.keepIn K (.ref f18) = true)
    (a19 : PySem.W.nsIn K mainGlobals "law" = some (some (.ref f19))) (l19 : K.lookup f19 = some ⟨oc19, od19, .func (PySem.W.fnOf "law" "law" (defArgs s_law) (defBody s_law) (defScope s_law) .none kV19 dc19 pm19 an19 cd19 ct19), sl19⟩) (c19 : PySem.W.codeIn K cd19 "law" = true) (k19 : PySem.W.keepIn K (.ref f19) = true)
    {tn0 : Tok} (an0 : PySem.W.nsIn K mainGlobals "THINGS" = some (some (.str ("012345" : Str) tn0)))
    (z_ValueError : PySem.W.nsIn K mainGlobals "ValueError" = some none)
    (z_abs : PySem.W.nsIn K mainGlobals "abs" = some none)
    (z_bool : PySem.W.nsIn K mainGlobals "bool" = some none)
    (z_int : PySem.W.nsIn K mainGlobals "int" = some none)
    (z_isinstance : PySem.W.nsIn K mainGlobals "isinstance" = some none)
    (z_len : PySem.W.nsIn K mainGlobals "len" = some none)
    (z_list : PySem.W.nsIn K mainGlobals "list" = some none)
    (z_range : PySem.W.nsIn K mainGlobals "range" = some none)
    (z_str : PySem.W.nsIn K mainGlobals "str" = some none)
    (z_tuple : PySem.W.nsIn K mainGlobals "tuple" = some none)
    (z_zip : PySem.W.nsIn K mainGlobals "zip" = some none)
    {xt x0 x1 x2 x3 x4 : Addr} (xgt : PySem.W.nsIn K mainGlobals "TrialError" = some (some (.ref xt)))
    (xg0 : PySem.W.nsIn K mainGlobals "NoEffect" = some (some (.ref x0)))
    (xg1 : PySem.W.nsIn K mainGlobals "NoText" = some (some (.ref x1)))
    (xg2 : PySem.W.nsIn K mainGlobals "NoRow" = some (some (.ref x2)))
    (xg3 : PySem.W.nsIn K mainGlobals "NoThing" = some (some (.ref x3)))
    (xg4 : PySem.W.nsIn K mainGlobals "NoFit" = some (some (.ref x4)))
    (ydx0 : PySem.W.hasDictIn K x0 = true)
    (ytx0 : PySem.W.typeIn K (.ref x0) = some (.type "type"))
    (ysx0 : PySem.W.subIn K (.ref x0) (.type "BaseException") = some true)
    (ydx4 : PySem.W.hasDictIn K x4 = true)
    (ytx4 : PySem.W.typeIn K (.ref x4) = some (.type "type"))
    (ysx4 : PySem.W.subIn K (.ref x4) (.type "BaseException") = some true)
    (ydx2 : PySem.W.hasDictIn K x2 = true)
    (ytx2 : PySem.W.typeIn K (.ref x2) = some (.type "type"))
    (ysx2 : PySem.W.subIn K (.ref x2) (.type "BaseException") = some true)
    (ydx1 : PySem.W.hasDictIn K x1 = true)
    (ytx1 : PySem.W.typeIn K (.ref x1) = some (.type "type"))
    (ysx1 : PySem.W.subIn K (.ref x1) (.type "BaseException") = some true)
    (ydx3 : PySem.W.hasDictIn K x3 = true)
    (ytx3 : PySem.W.typeIn K (.ref x3) = some (.type "type"))
    (ysx3 : PySem.W.subIn K (.ref x3) (.type "BaseException") = some true)
    (ydxt : PySem.W.hasDictIn K xt = true)
    (ytxt : PySem.W.typeIn K (.ref xt) = some (.type "type"))
    (ysxt : PySem.W.subIn K (.ref xt) (.type "BaseException") = some true)
    (xq1 : PySem.W.excIn K x1 [.type "ValueError", .type "Exception", .type "BaseException", .type "object"] "ValueError.__new__" = true)
    (xk1 : PySem.W.keepIn K (.ref x1) = true)
    (xa1 : PySem.W.findIn K (.ref x1) "__getattribute__" = some (some (.builtin "BaseException.__getattribute__")))
    (xb1 : PySem.W.findIn K (.ref x1) "__getattr__" = some none)
    (xe1 : PySem.W.findIn K (.ref x1) "__class__" = some (some (.builtin "object.__class__")))
    (xo1 : PySem.W.mroIn K x1 (.type "object") = some true)
    (xv1 : PySem.W.subIn K (.ref x1) (.type "ValueError") = some true)
    (xi1_NoEffect : PySem.W.subIn K (.ref x1) (.ref x0) = some false)
    (xi1_NoFit : PySem.W.subIn K (.ref x1) (.ref x4) = some false)
    (xi1_NoRow : PySem.W.subIn K (.ref x1) (.ref x2) = some false)
    (xi1_NoText : PySem.W.subIn K (.ref x1) (.ref x1) = some true)
    (xi1_NoThing : PySem.W.subIn K (.ref x1) (.ref x3) = some false)
    (xi1_TrialError : PySem.W.subIn K (.ref x1) (.ref xt) = some true)
    (xhn : PySem.W.specialIn K (.builtin "object.__class__") "__get__" = some (some (.builtin "getset_descriptor.__get__"))) (xht : PySem.W.takesIn K (.builtin "object.__class__") = some true)
    : ∃ fd : FuncData, (∀ (s : Shared) (v : Value), BindsTo s fd ⟨[v], []⟩ [("_law_script", v)]) ∧ ∀ base : Heap, K.In base → base.Ns mainGlobals mg → base.NoSeer → FnOk l.prog w K mg base CX0 44 fa fd ["_law_script"] (sp_law K) := by
  have e := hfa.symm.trans (PySem.W.mg_of X G a19)
  cases e
  let B : Blt K mg := ⟨trivial, ⟨_, PySem.W.mg_of X G an0, ⟨_, rfl⟩⟩, PySem.W.mg_none_of X G z_ValueError, PySem.W.mg_none_of X G z_abs, PySem.W.mg_none_of X G z_bool, PySem.W.mg_none_of X G z_int, PySem.W.mg_none_of X G z_isinstance, PySem.W.mg_none_of X G z_len, PySem.W.mg_none_of X G z_list, PySem.W.mg_none_of X G z_range, PySem.W.mg_none_of X G z_str, PySem.W.mg_none_of X G z_tuple, PySem.W.mg_none_of X G z_zip⟩
  letI NM : Nms K := ⟨fun | .noEffect => x0 | .noText => x1 | .noRow => x2 | .noThing => x3 | .noFit => x4, xt⟩
  have EX : Xf K mg [.noText] [.one .noEffect, .one .noRow, .one .noThing, .one .noFit, .one .noText, .value] := ⟨PySem.W.mg_of X G xgt, fun | .noEffect => PySem.W.mg_of X G xg0 | .noText => PySem.W.mg_of X G xg1 | .noRow => PySem.W.mg_of X G xg2 | .noThing => PySem.W.mg_of X G xg3 | .noFit => PySem.W.mg_of X G xg4, List.forall_mem_cons.2 ⟨⟨⟨PySem.W.mg_of X G xg1, xq1, xk1, ysx1, ytx1⟩, ⟨xa1, xb1, ysx1, ydx1, xe1, xhn, xht, xo1⟩, PySem.W.exm_ref ysxt ydxt ytxt xi1_TrialError⟩, List.forall_mem_nil _⟩, List.forall_mem_cons.2 ⟨List.forall_mem_cons.2 ⟨kit_own ydx0 ytx0 xi1_NoEffect xi1_NoText, List.forall_mem_cons.2 ⟨kit_own ydx2 ytx2 xi1_NoRow xi1_NoText, List.forall_mem_cons.2 ⟨kit_own ydx3 ytx3 xi1_NoThing xi1_NoText, List.forall_mem_cons.2 ⟨kit_own ydx4 ytx4 xi1_NoFit xi1_NoText, List.forall_mem_cons.2 ⟨kit_own ydx1 ytx1 xi1_NoText xi1_NoText, List.forall_mem_cons.2 ⟨kit_val xv1, List.forall_mem_nil _⟩⟩⟩⟩⟩⟩, List.forall_mem_nil _⟩⟩
  refine ⟨PySem.W.fnOf "law" "law" (defArgs s_law) (defBody s_law) (defScope s_law) .none kV19 dc19 pm19 an19 cd19 ct19, fun s v => .of_eq rfl, fun base _ _ hN => ?_⟩
  have F0 := fun_mk (st := s_mix) l0 c0 k0
  have b0 := F0.binds (ps := ["_law_cell", "_law_j"]) fun _ _ _ _ _ _ us hl => match us, hl with | [_, _], _ => rfl
  let C_mix : Cal l.prog w K mg base 41 "_law_mix" ["_law_cell", "_law_j"] (sp_mix K) := ⟨_, _, ok_mix F0 B hN ht EX , F0.kp, b0, PySem.W.mg_of X G a0⟩
  have F1 := fun_mk (st := s_model) l1 c1 k1
  have b1 := F1.binds (ps := ["_law_cell"]) fun _ _ _ _ _ _ us hl => match us, hl with | [_], _ => rfl
  let C_model : Cal l.prog w K mg base 42 "_law_model" ["_law_cell"] (sp_model K) := ⟨_, _, ok_model F1 B hN ht EX C_mix, F1.kp, b1, PySem.W.mg_of X G a1⟩
  have F2 := fun_mk (st := s_text) l2 c2 k2
  have b2 := F2.binds (ps := ["_law_model_here"]) fun _ _ _ _ _ _ us hl => match us, hl with | [_], _ => rfl
  let C_text : Cal l.prog w K mg base 41 "_law_text" ["_law_model_here"] (sp_text K) := ⟨_, _, ok_text F2 B hN ht EX , F2.kp, b2, PySem.W.mg_of X G a2⟩
  have F3 := fun_mk (st := s_show_numbers) l3 c3 k3
  have b3 := F3.binds (ps := ["numbers"]) fun _ _ _ _ _ _ us hl => match us, hl with | [_], _ => rfl
  let C_show_numbers : Cal l.prog w K mg base 41 "show_numbers" ["numbers"] (sp_show_numbers K) := ⟨_, _, ok_show_numbers F3 B hN ht EX , F3.kp, b3, PySem.W.mg_of X G a3⟩
  have F4 := fun_mk (st := s_show_effect) l4 c4 k4
  have b4 := F4.binds (ps := ["effect"]) fun _ _ _ _ _ _ us hl => match us, hl with | [_], _ => rfl
  let C_show_effect : Cal l.prog w K mg base 42 "show_effect" ["effect"] (sp_show_effect K) := ⟨_, _, ok_show_effect F4 B hN ht EX C_show_numbers, F4.kp, b4, PySem.W.mg_of X G a4⟩
  have F5 := fun_mk (st := s_show_model) l5 c5 k5
  have b5 := F5.binds (ps := ["model"]) fun _ _ _ _ _ _ us hl => match us, hl with | [_], _ => rfl
  let C_show_model : Cal l.prog w K mg base 43 "show_model" ["model"] (sp_show_model K) := ⟨_, _, ok_show_model F5 B hN ht EX C_show_effect, F5.kp, b5, PySem.W.mg_of X G a5⟩
  have F6 := fun_mk (st := s_told) l6 c6 k6
  have b6 := F6.binds (ps := ["_law_text_here"]) fun _ _ _ _ _ _ us hl => match us, hl with | [_], _ => rfl
  let C_told : Cal l.prog w K mg base 41 "_law_told" ["_law_text_here"] (sp_told K) := ⟨_, _, ok_told F6 B hN ht EX , F6.kp, b6, PySem.W.mg_of X G a6⟩
  have F7 := fun_mk (st := s_read_effect) l7 c7 k7
  have b7 := F7.binds (ps := ["text"]) fun _ _ _ _ _ _ us hl => match us, hl with | [_], _ => rfl
  let C_read_effect : CalX l.prog w K mg base 41 "read_effect" ["text"] (sp_read_effect K) := ⟨_, _, ok_read_effect F7 B hN ht EX , F7.kp, b7, PySem.W.mg_of X G a7⟩
  have F8 := fun_mk (st := s_read_model) l8 c8 k8
  have b8 := F8.binds (ps := ["text"]) fun _ _ _ _ _ _ us hl => match us, hl with | [_], _ => rfl
  let C_read_model : CalX l.prog w K mg base 42 "read_model" ["text"] (sp_read_model K) := ⟨_, _, ok_read_model F8 B hN ht EX C_read_effect, F8.kp, b8, PySem.W.mg_of X G a8⟩
  have F9 := fun_mk (st := s_whole) l9 c9 k9
  have b9 := F9.binds (ps := ["_law_found"]) fun _ _ _ _ _ _ us hl => match us, hl with | [_], _ => rfl
  let C_whole : Cal l.prog w K mg base 41 "_law_whole" ["_law_found"] (sp_whole K) := ⟨_, _, ok_whole F9 B hN ht EX , F9.kp, b9, PySem.W.mg_of X G a9⟩
  have F10 := fun_mk (st := s_is_model) l10 c10 k10
  have b10 := F10.binds (ps := ["_law_found", "_law_due"]) fun _ _ _ _ _ _ us hl => match us, hl with | [_, _], _ => rfl
  let C_is_model : Cal l.prog w K mg base 42 "_law_is_model" ["_law_found", "_law_due"] (sp_is_model K) := ⟨_, _, ok_is_model F10 B hN ht EX C_whole, F10.kp, b10, PySem.W.mg_of X G a10⟩
  have F11 := fun_mk (st := s_right) l11 c11 k11
  have b11 := F11.binds (ps := ["_law_text_here"]) fun _ _ _ _ _ _ us hl => match us, hl with | [_], _ => rfl
  let C_right : Cal l.prog w K mg base 43 "_law_right" ["_law_text_here"] (sp_right K) := ⟨_, _, ok_right F11 B hN ht EX C_is_model C_told C_read_model, F11.kp, b11, PySem.W.mg_of X G a11⟩
  have F12 := fun_mk (st := s_odd) l12 c12 k12
  have b12 := F12.binds (ps := ["_law_cell"]) fun _ _ _ _ _ _ us hl => match us, hl with | [_], _ => rfl
  let C_odd : Cal l.prog w K mg base 42 "_law_odd" ["_law_cell"] (sp_odd K) := ⟨_, _, ok_odd F12 B hN ht EX C_mix, F12.kp, b12, PySem.W.mg_of X G a12⟩
  have F13 := fun_mk (st := s_spoiled) l13 c13 k13
  have b13 := F13.binds (ps := ["_law_text_here", "_law_cell"]) fun _ _ _ _ _ _ us hl => match us, hl with | [_, _], _ => rfl
  let C_spoiled : Cal l.prog w K mg base 43 "_law_spoiled" ["_law_text_here", "_law_cell"] (sp_spoiled K) := ⟨_, _, ok_spoiled F13 B hN ht EX C_mix C_odd, F13.kp, b13, PySem.W.mg_of X G a13⟩
  have F14 := fun_mk (st := s_divisor) l14 c14 k14
  have b14 := F14.binds (ps := ["_law_one", "_law_other"]) fun _ _ _ _ _ _ us hl => match us, hl with | [_, _], _ => rfl
  let C_divisor : Cal l.prog w K mg base 41 "_law_divisor" ["_law_one", "_law_other"] (sp_divisor K) := ⟨_, _, ok_divisor F14 B hN ht EX , F14.kp, b14, PySem.W.mg_of X G a14⟩
  have F15 := fun_mk (st := s_fraction) l15 c15 k15
  have b15 := F15.binds (ps := ["_law_cell"]) fun _ _ _ _ _ _ us hl => match us, hl with | [_], _ => rfl
  let C_fraction : Cal l.prog w K mg base 42 "_law_fraction" ["_law_cell"] (sp_fraction K) := ⟨_, _, ok_fraction F15 B hN ht EX C_divisor C_mix, F15.kp, b15, PySem.W.mg_of X G a15⟩
  have F16 := fun_mk (st := s_show_fraction) l16 c16 k16
  have b16 := F16.binds (ps := ["number"]) fun _ _ _ _ _ _ us hl => match us, hl with | [_], _ => rfl
  let C_show_fraction : Cal l.prog w K mg base 41 "show_fraction" ["number"] (sp_show_fraction K) := ⟨_, _, ok_show_fraction F16 B hN ht EX , F16.kp, b16, PySem.W.mg_of X G a16⟩
  have F17 := fun_mk (st := s_show_fractions) l17 c17 k17
  have b17 := F17.binds (ps := ["numbers"]) fun _ _ _ _ _ _ us hl => match us, hl with | [_], _ => rfl
  let C_show_fractions : Cal l.prog w K mg base 42 "show_fractions" ["numbers"] (sp_show_fractions K) := ⟨_, _, ok_show_fractions F17 B hN ht EX C_show_fraction, F17.kp, b17, PySem.W.mg_of X G a17⟩
  have F18 := fun_mk (st := s_shown) l18 c18 k18
  have b18 := F18.binds (ps := ["_law_numbers"]) fun _ _ _ _ _ _ us hl => match us, hl with | [_], _ => rfl
  let C_shown : Cal l.prog w K mg base 41 "_law_shown" ["_law_numbers"] (sp_shown K) := ⟨_, _, ok_shown F18 B hN ht EX , F18.kp, b18, PySem.W.mg_of X G a18⟩
  have F19 := fun_mk (st := s_law) l19 c19 k19
  exact ok_law F19 B hN ht EX C_fraction C_model C_right C_shown C_spoiled C_text C_show_fractions C_show_model

end Tf
open PySem PySem.W PyProof.Rows
set_option maxHeartbeats 0 in
theorem PySem.Challenge.cw_trialfield_k92_models_as_texts_holds : PySem.Challenge.rw_trialfield_k92_models_as_texts.Holds := by
  w_on; o_law; k_head; (case hw => w_witness2)
  k_fill
  refine Tf.walk_ofS (l := PySem.Challenge.rw_trialfield_k92_models_as_texts) (n := 63) (k := 44) (x := "_law_script") (sp := fun w => Tf.sp_law _) rfl (by decide) rfl ⟨rfl, by decide, by decide⟩ (by decide +kernel) (fun w h Y => PySem.W.kIn_of Y) ?F (fun _ H a ns hl hb hS => ⟨H, (ns, ()), true, L2.Same.refl H, .cons ⟨a, rfl, hS, hl⟩ .nil, Tf.law_true ns hl hb, fun v F' H' g h => h⟩)
  case F =>
    intro w mg fa h KX G hmg
    refine' Tf.all_mk rfl KX G hmg ?a0 ?l0 ?c0 ?k0 ?a1 ?l1 ?c1 ?k1 ?a2 ?l2 ?c2 ?k2 ?a3 ?l3 ?c3 ?k3 ?a4 ?l4 ?c4 ?k4 ?a5 ?l5 ?c5 ?k5 ?a6 ?l6 ?c6 ?k6 ?a7 ?l7 ?c7 ?k7 ?a8 ?l8 ?c8 ?k8 ?a9 ?l9 ?c9 ?k9 ?a10 ?l10 ?c10 ?k10 ?a11 ?l11 ?c11 ?k11 ?a12 ?l12 ?c12 ?k12 ?a13 ?l13 ?c13 ?k13 ?a14 ?l14 ?c14 ?k14 ?a15 ?l15 ?c15 ?k15 ?a16 ?l16 ?c16 ?k16 ?a17 ?l17 ?c17 ?k17 ?a18 ?l18 ?c18 ?k18 ?a19 ?l19 ?c19 ?k19 ?an0 ?z_ValueError ?z_abs ?z_bool ?z_int ?z_isinstance ?z_len ?z_list ?z_range ?z_str ?z_tuple ?z_zip ?xgt ?xg0 ?xg1 ?xg2 ?xg3 ?xg4 ?ydx0 ?ytx0 ?ysx0 ?ydx4 ?ytx4 ?ysx4 ?ydx2 ?ytx2 ?ysx2 ?ydx1 ?ytx1 ?ysx1 ?ydx3 ?ytx3 ?ysx3 ?ydxt ?ytxt ?ysxt ?xq1 ?xk1 ?xa1 ?xb1 ?xe1 ?xo1 ?xv1 ?xi1_NoEffect ?xi1_NoFit ?xi1_NoRow ?xi1_NoText ?xi1_NoThing ?xi1_TrialError ?xhn ?xht
    (case a0 => k_is)
    (case l0 => k_is)
    (case c0 => k_is)
    (case k0 => k_is)
    (case a1 => k_is)
    (case l1 => k_is)
    (case c1 => k_is)
    (case k1 => k_is)
    (case a2 => k_is)
    (case l2 => k_is)
    (case c2 => k_is)
    (case k2 => k_is)
    (case a3 => k_is)
    (case l3 => k_is)
    (case c3 => k_is)
    (case k3 => k_is)
    (case a4 => k_is)
    (case l4 => k_is)
    (case c4 => k_is)
    (case k4 => k_is)
    (case a5 => k_is)
    (case l5 => k_is)
    (case c5 => k_is)
    (case k5 => k_is)
    (case a6 => k_is)
    (case l6 => k_is)
    (case c6 => k_is)
    (case k6 => k_is)
    (case a7 => k_is)
    (case l7 => k_is)
    (case c7 => k_is)
    (case k7 => k_is)
    (case a8 => k_is)
    (case l8 => k_is)
    (case c8 => k_is)
    (case k8 => k_is)
    (case a9 => k_is)
    (case l9 => k_is)
    (case c9 => k_is)
    (case k9 => k_is)
    (case a10 => k_is)
    (case l10 => k_is)
    (case c10 => k_is)
    (case k10 => k_is)
    (case a11 => k_is)
    (case l11 => k_is)
    (case c11 => k_is)
    (case k11 => k_is)
    (case a12 => k_is)
    (case l12 => k_is)
    (case c12 => k_is)
    (case k12 => k_is)
    (case a13 => k_is)
    (case l13 => k_is)
    (case c13 => k_is)
    (case k13 => k_is)
    (case a14 => k_is)
    (case l14 => k_is)
    (case c14 => k_is)
    (case k14 => k_is)
    (case a15 => k_is)
    (case l15 => k_is)
    (case c15 => k_is)
    (case k15 => k_is)
    (case a16 => k_is)
    (case l16 => k_is)
    (case c16 => k_is)
    (case k16 => k_is)
    (case a17 => k_is)
    (case l17 => k_is)
    (case c17 => k_is)
    (case k17 => k_is)
    (case a18 => k_is)
    (case l18 => k_is)
    (case c18 => k_is)
    (case k18 => k_is)
    (case a19 => k_is)
    (case l19 => k_is)
    (case c19 => k_is)
    (case k19 => k_is)
    (case an0 => k_is)
    (case z_ValueError => k_is)
    (case z_abs => k_is)
    (case z_bool => k_is)
    (case z_int => k_is)
    (case z_isinstance => k_is)
    (case z_len => k_is)
    (case z_list => k_is)
    (case z_range => k_is)
    (case z_str => k_is)
    (case z_tuple => k_is)
    (case z_zip => k_is)
    (case xgt => k_is)
    (case xg0 => k_is)
    (case xg1 => k_is)
    (case xg2 => k_is)
    (case xg3 => k_is)
    (case xg4 => k_is)
    (case ydx0 => k_is)
    (case ytx0 => k_is)
    (case ysx0 => k_is)
    (case ydx4 => k_is)
    (case ytx4 => k_is)
    (case ysx4 => k_is)
    (case ydx2 => k_is)
    (case ytx2 => k_is)
    (case ysx2 => k_is)
    (case ydx1 => k_is)
    (case ytx1 => k_is)
    (case ysx1 => k_is)
    (case ydx3 => k_is)
    (case ytx3 => k_is)
    (case ysx3 => k_is)
    (case ydxt => k_is)
    (case ytxt => k_is)
    (case ysxt => k_is)
    (case xq1 => k_exc)
    (case xk1 => k_is)
    (case xa1 => k_is)
    (case xb1 => k_is)
    (case xe1 => k_is)
    (case xo1 => k_is)
    (case xv1 => k_is)
    (case xi1_NoEffect => first | rfl | k_is)
    (case xi1_NoFit => first | rfl | k_is)
    (case xi1_NoRow => first | rfl | k_is)
    (case xi1_NoText => first | rfl | k_is)
    (case xi1_NoThing => first | rfl | k_is)
    (case xi1_TrialError => first | rfl | k_is)
    (case xhn => k_is)
    (case xht => k_is)
