import PyProof.Rows.All
import Wide.All
import OpenK.AllK
import Wide.FinOn
import HandS.ForMost
import HandS.Conv
import HandS.Defaults
import HandS.HeadHook1
import HandS.HeadHook2
import HandS.Style
import HandS.TupAny
import HandS.Deep
import KE.SortData
import KE.DataMinMax
import HandS.IsInst
import PyProof.LongRange
import PyProof.ListRange
import PyProof.CollectWalk
import HandS.Text
import HandS.Flow
import HandS.Iter
import HandS.More
import KE.KEqDict
import KE.KStateDown
import Lean
import HandS.Ends
import HandS.Words
import HandS.WordsExc
import HandS.Head0
import HandS.Head1
import HandS.Head2
import HandS.HeadEnd
import PySem.Challenge.RW_wayhold_k06_whole_spares_and_waits
set_option Elab.async false
set_option linter.all false
set_option maxRecDepth 100000
set_option maxHeartbeats 4000000
/-! Core of a typed layer over HandS: what slots hold, how a block changes them. -/
namespace Wf
open PySem L2

/-! ### heaps -/
def vw : Option HO → Option HO
  | some (.frz o (.tup xs)) => some (.frz o (.tup xs))
  | some (.frz _ u) => some u
  | x => x
def Vw (H : Hp) : Hp := fun a => vw (H a)
theorem Vw_of {H : Hp} {a : Addr} {u : HO} (h : H a = some u) (n : ∀ o w, u ≠ .frz o w) : Vw H a = some u := by
  unfold Vw; rw [h]
  cases u <;> first | rfl | exact absurd rfl (n _ _)
theorem vw_frz {o : Obj} {u : HO} : vw (some (.frz o u)) = some u ∨ vw (some (.frz o u)) = some (.frz o u) := by
  cases u <;> first | exact .inl rfl | exact .inr rfl
theorem rd_of {H : Hp} {a : Addr} {u : HO} (h : Vw H a = some u) : Rd H a u := by
  unfold Vw at h
  cases q : H a with
  | none => rw [q] at h; cases h
  | some w =>
    rw [q] at h
    cases w <;> first
      | (rename_i o w'
         rcases vw_frz (o := o) (u := w') with e | e
         · rw [e] at h; cases h; exact .inr ⟨_, q⟩
         · rw [e] at h; cases h; exact .inl q)
      | (have e : some _ = some u := h; cases e; exact .inl q)
theorem tup_of {H : Hp} {a : Addr} {xs : List V} (h : Vw H a = some (.tup xs)) : H a = some (.tup xs) := by
  unfold Vw at h
  cases q : H a with
  | none => rw [q] at h; cases h
  | some w =>
    rw [q] at h
    cases w with
    | frz o u => cases u <;> cases h
    | _ => exact h
theorem Same.vw {H H' : Hp} (h : Same H H') : Same (Vw H) (Vw H') := by
  intro a u e
  unfold Vw at *
  cases q : H a with
  | none => rw [q] at e; cases e
  | some w => rw [h a w q]; rw [q] at e; exact e
theorem vw_some {H : Hp} {p : Addr} (h : H p ≠ none) : Vw H p ≠ none := by
  intro e
  unfold Vw at e
  cases q : H p with
  | none => exact h q
  | some w =>
    rw [q] at e
    cases w with
    | frz o u => cases u <;> cases e
    | _ => cases e
theorem of_vw {H : Hp} {p : Addr} {o : HO} (h : Vw H p = some o) : H p ≠ none := by
  intro e
  unfold Vw at h; rw [e] at h; cases h
theorem ne_none {H : Hp} {p : Addr} {o : HO} (h : H p = some o) : H p ≠ none := by rw [h]; intro e; cases e
theorem ex_of {H : Hp} {p : Addr} (h : H p ≠ none) : ∃ o, H p = some o := by
  cases q : H p with
  | none => exact absurd q h
  | some o => exact ⟨o, rfl⟩

structure Good (F H : Hp) (D : List Addr) : Prop where
  fh : Same F (Vw H)
  nd : D.Nodup
  dF : ∀ p ∈ D, F p = none
  dH : ∀ p ∈ D, H p ≠ none
structure Grow (F H F' H' : Hp) : Prop where
  ff : Same F F'
  fh : Same F' (Vw H')
  hh : Same H H'
  new : ∀ p, F p = none → H p ≠ none → F' p = none
structure Step (F H : Hp) (D : List Addr) (F' H' : Hp) (D' : List Addr) : Prop where
  ff : Same F F'
  fh : Same F' (Vw H')
  keep : ∀ p o, H p = some o → p ∉ D → H' p = some o
  dom : ∀ p, H p ≠ none → H' p ≠ none
  new : ∀ p, F p = none → H p ≠ none → p ∉ D → F' p = none
  nd : D'.Nodup
  dF : ∀ p ∈ D', F' p = none
  dH : ∀ p ∈ D', H' p ≠ none
  dN : ∀ p ∈ D', p ∈ D ∨ H p = none
section
variable {F H F1 H1 F2 H2 : Hp} {D D1 D2 : List Addr}
theorem Grow.refl (h : Same F (Vw H)) : Grow F H F H := ⟨.refl _, h, .refl _, fun _ h _ => h⟩
theorem same_ne {H H' : Hp} (s : Same H H') {p : Addr} (h : H p ≠ none) : H' p ≠ none := by
  obtain ⟨o, e⟩ := ex_of h
  exact ne_none (s p o e)
theorem Grow.trans (a : Grow F H F1 H1) (b : Grow F1 H1 F2 H2) : Grow F H F2 H2 :=
  ⟨a.ff.trans b.ff, b.fh, a.hh.trans b.hh, fun p h h' => b.new p (a.new p h h') (same_ne a.hh h')⟩
theorem Good.grow (g : Good F H D) (a : Grow F H F1 H1) : Good F1 H1 D :=
  ⟨a.fh, g.nd, fun p hp => a.new p (g.dF p hp) (g.dH p hp), fun p hp => same_ne a.hh (g.dH p hp)⟩
theorem Good.nil (h : Same F (Vw H)) : Good F H [] := ⟨h, List.nodup_nil, fun _ z => (by cases z), fun _ z => (by cases z)⟩
theorem Good.sub (g : Good F H D) (s : D1.Sublist D) : Good F H D1 := ⟨g.fh, g.nd.sublist s, fun p hp => g.dF p (s.mem hp), fun p hp => g.dH p (s.mem hp)⟩
theorem Step.good (a : Step F H D F1 H1 D1) : Good F1 H1 D1 := ⟨a.fh, a.nd, a.dF, a.dH⟩
theorem Step.refl (g : Good F H D) : Step F H D F H D := ⟨.refl _, g.fh, fun _ _ h _ => h, fun _ h => h, fun _ h _ _ => h, g.nd, g.dF, g.dH, fun _ h => .inl h⟩
theorem Step.of (g : Good F H D) (a : Grow F H F1 H1) : Step F H D F1 H1 D :=
  ⟨a.ff, a.fh, fun p o h _ => a.hh p o h, fun p h => same_ne a.hh h, fun p h h' _ => a.new p h h', (g.grow a).nd, (g.grow a).dF, (g.grow a).dH, fun _ h => .inl h⟩
theorem Step.trans (a : Step F H D F1 H1 D1) (b : Step F1 H1 D1 F2 H2 D2) : Step F H D F2 H2 D2 where
  ff := a.ff.trans b.ff
  fh := b.fh
  keep := fun p o h n => b.keep p o (a.keep p o h n) fun z => (a.dN p z).elim n fun q => by rw [h] at q; cases q
  dom := fun p h => b.dom p (a.dom p h)
  new := fun p h h' n => b.new p (a.new p h h' n) (a.dom p h') fun z => (a.dN p z).elim n h'
  nd := b.nd
  dF := b.dF
  dH := b.dH
  dN := fun p hp => (b.dN p hp).elim (fun z => a.dN p z) fun z => .inr (by
    cases q : H p with
    | none => rfl
    | some o => exact absurd z (a.dom p (ne_none q)))
theorem Step.sub (a : Step F H D F1 H1 D1) (s : D2.Sublist D1) : Step F H D F1 H1 D2 :=
  ⟨a.ff, a.fh, a.keep, a.dom, a.new, a.nd.sublist s, fun p hp => a.dF p (s.mem hp), fun p hp => a.dH p (s.mem hp), fun p hp => a.dN p (s.mem hp)⟩
theorem Step.grow (a : Step F H [] F1 H1 D1) : Grow F H F1 H1 := ⟨a.ff, a.fh, fun p o h => a.keep p o h (by simp), fun p h h' => a.new p h h' (by simp)⟩
/-- a new object, frozen -/
theorem Grow.laid {p : Addr} {o : HO} (h : Same F (Vw H)) (n : H p = none) (z : ∀ a w, o ≠ .frz a w) : Grow F H (upd F p o) (upd H p o) := by
  have nF : F p = none := by
    cases q : F p with
    | none => rfl
    | some u => exact absurd n (of_vw (h p u q))
  refine ⟨fun b u e => by rw [upd_ne (ne_of_none e nF)]; exact e, fun b u e => ?_, fun b u e => by rw [upd_ne (ne_of_none e n)]; exact e, fun b h1 h2 => ?_⟩
  · by_cases hb : b = p
    · subst hb; rw [upd_same] at e; cases e
      exact Vw_of upd_same z
    · rw [upd_ne hb] at e
      have := h b u e
      unfold Vw at this ⊢
      rw [upd_ne hb]; exact this
  · have hb : b ≠ p := fun e => h2 (e ▸ n)
    rw [upd_ne hb]; exact h1
/-- a new object, not frozen -/
theorem Grow.made {p : Addr} {o : HO} (h : Same F (Vw H)) (n : H p = none) : Grow F H F (upd H p o) := by
  refine ⟨.refl _, fun b u e => ?_, fun b u e => by rw [upd_ne (ne_of_none e n)]; exact e, fun b h1 _ => h1⟩
  have hv := h b u e
  have hb : b ≠ p := fun z => of_vw hv (z ▸ n)
  unfold Vw at hv ⊢
  rw [upd_ne hb]; exact hv
end

/-! ### what a value stands for -/
structure Rp (α : Type) where
  ok : Hp → V → α → Prop
  mono : ∀ {F G : Hp} {v : V} {x : α}, Same F G → ok F v x → ok G v x
/-- no object behind it -/
class Scal {α : Type} (R : Rp α) : Prop where
  all : ∀ {F G : Hp} {v : V} {x : α}, R.ok F v x → R.ok G v x
def rI : Rp Int := ⟨fun _ v x => v = .int x, fun _ h => h⟩
def rB : Rp Bool := ⟨fun _ v x => v = .bl x, fun _ h => h⟩
/-- a text of use: not too long, its signs are code points -/
def niceS (x : Str) : Bool := decide (x.length ≤ 100000) && PySem.PyData.strOk x
def rS : Rp Str := ⟨fun _ v x => v = .str x ∧ niceS x = true, fun _ h => h⟩
def rN : Rp Unit := ⟨fun _ v _ => v = .non, fun _ h => h⟩
instance : Scal rI := ⟨fun h => h⟩
instance : Scal rB := ⟨fun h => h⟩
instance : Scal rS := ⟨fun h => h⟩
instance : Scal rN := ⟨fun h => h⟩
theorem prd_mono {α : Type} {R : Rp α} {F G : Hp} (s : Same F G) {vs : List V} {xs : List α} (h : Paired (R.ok F) vs xs) : Paired (R.ok G) vs xs := Paired.mapP h fun _ _ q => R.mono s q
def rL {α : Type} (R : Rp α) : Rp (List α) := ⟨fun F v xs => xs.length ≤ sizeLine ∧ ∃ p vs, v = .ref p ∧ F p = some (.lst vs) ∧ Paired (R.ok F) vs xs,
  fun s ⟨z, p, vs, e, h, q⟩ => ⟨z, p, vs, e, s _ _ h, prd_mono s q⟩⟩
/-- a tuple of any length -/
def rV {α : Type} (R : Rp α) : Rp (List α) := ⟨fun F v xs => xs.length ≤ sizeLine ∧ ∃ p vs, v = .ref p ∧ F p = some (.tup vs) ∧ Paired (R.ok F) vs xs,
  fun s ⟨z, p, vs, e, h, q⟩ => ⟨z, p, vs, e, s _ _ h, prd_mono s q⟩⟩
def rO {α : Type} (R : Rp α) : Rp (Option α) := ⟨fun F v x => match x with | none => v = .non | some y => R.ok F v y,
  fun {F G v x} s h => by cases x with | none => exact h | some y => exact R.mono s h⟩
instance {α : Type} (R : Rp α) [Scal R] : Scal (rO R) := ⟨fun {F G v x} h => by cases x with | none => exact h | some y => exact Scal.all (R := R) h⟩
/-- several values, one behind the other -/
structure Rw (α : Type) where
  ok : Hp → List V → α → Prop
  mono : ∀ {F G : Hp} {vs : List V} {x : α}, Same F G → ok F vs x → ok G vs x
def w1 {α : Type} (R : Rp α) : Rw α := ⟨fun F vs x => ∃ v, vs = [v] ∧ R.ok F v x, fun s ⟨v, e, h⟩ => ⟨v, e, R.mono s h⟩⟩
def wc {α β : Type} (R : Rp α) (T : Rw β) : Rw (α × β) := ⟨fun F vs x => ∃ v r, vs = v :: r ∧ R.ok F v x.1 ∧ T.ok F r x.2, fun s ⟨v, r, e, h, q⟩ => ⟨v, r, e, R.mono s h, T.mono s q⟩⟩
def rT {α : Type} (T : Rw α) : Rp α := ⟨fun F v x => ∃ p vs, v = .ref p ∧ F p = some (.tup vs) ∧ T.ok F vs x,
  fun s ⟨p, vs, e, h, q⟩ => ⟨p, vs, e, s _ _ h, T.mono s q⟩⟩
/-- through an equivalence of forms -/
def rM {α β : Type} (R : Rp α) (f : β → α) : Rp β := ⟨fun F v x => R.ok F v (f x), fun s h => R.mono s h⟩
instance {α β : Type} (R : Rp α) (f : β → α) [Scal R] : Scal (rM R f) := ⟨fun h => Scal.all (R := R) h⟩
/-- keys of a dict: ints or texts -/
structure KF (κ : Type) where
  f : κ → Key
  inj : ∀ {a b : κ}, f a = f b → a = b
  nice : κ → Prop
  R : Rp κ
  sc : ∀ {F G : Hp} {v : V} {k : κ}, R.ok F v k → R.ok G v k
  to : ∀ {F : Hp} {v : V} {k : κ}, R.ok F v k → v = kV (f k) ∧ nice k
  of : ∀ {F : Hp} {k : κ}, nice k → R.ok F (kV (f k)) k
def kS : KF Str := ⟨.inr, fun e => Sum.inr.inj e, fun x => niceS x = true, rS, fun h => h, fun h => ⟨h.1, h.2⟩, fun h => ⟨rfl, h⟩⟩
def kI : KF Int := ⟨.inl, fun e => Sum.inl.inj e, fun _ => True, rI, fun h => h, fun h => ⟨h, trivial⟩, fun _ => rfl⟩
/-- keys that are tuples of ints and texts -/
structure KT' (κ : Type) where
  f : κ → List Key
  inj : ∀ {a b : κ}, f a = f b → a = b
  nice : κ → Prop
  T : Rw κ
  to : ∀ {F : Hp} {vs : List V} {k : κ}, T.ok F vs k → vs = (f k).map kV ∧ nice k
  of : ∀ {F : Hp} {k : κ}, nice k → T.ok F ((f k).map kV) k
def t1 {κ : Type} (A : KF κ) : KT' κ := ⟨fun k => [A.f k], fun e => A.inj (List.cons.inj e).1, A.nice, w1 A.R,
  fun ⟨v, e, h⟩ => ⟨by rw [e, (A.to h).1]; rfl, (A.to h).2⟩, fun h => ⟨_, rfl, A.of h⟩⟩
def tc {κ κ' : Type} (A : KF κ) (B : KT' κ') : KT' (κ × κ') := ⟨fun k => A.f k.1 :: B.f k.2, fun {a b} e => Prod.ext (A.inj (List.cons.inj e).1) (B.inj (List.cons.inj e).2), fun k => A.nice k.1 ∧ B.nice k.2, wc A.R B.T,
  fun ⟨v, r, e, h, q⟩ => ⟨by rw [e, (A.to h).1, (B.to q).1]; rfl, (A.to h).2, (B.to q).2⟩, fun h => ⟨_, _, rfl, A.of h.1, B.of h.2⟩⟩
theorem kv_mono {κ κ' α : Type} {f : κ' → κ} {n : κ' → Prop} {R : Rp α} {F G : Hp} (s : Same F G) {vs : List (κ × V)} {xs : List (κ' × α)} (h : Paired (fun (a : κ × V) (b : κ' × α) => a.1 = f b.1 ∧ n b.1 ∧ R.ok F a.2 b.2) vs xs) :
    Paired (fun (a : κ × V) (b : κ' × α) => a.1 = f b.1 ∧ n b.1 ∧ R.ok G a.2 b.2) vs xs := Paired.mapP h fun _ _ z => ⟨z.1, z.2.1, R.mono s z.2.2⟩
/-- a dict: keys ints or texts; keys tuples of such -/
def rK {κ α : Type} (A : KF κ) (R : Rp α) : Rp (List (κ × α)) := ⟨fun F v xs => xs.length ≤ sizeLine ∧ ∃ p vs, v = .ref p ∧ F p = some (.dK vs) ∧ Paired (fun (a : Key × V) (b : κ × α) => a.1 = A.f b.1 ∧ A.nice b.1 ∧ R.ok F a.2 b.2) vs xs,
  fun s ⟨z, p, vs, e, h, q⟩ => ⟨z, p, vs, e, s _ _ h, kv_mono s q⟩⟩
def rKT {κ α : Type} (A : KT' κ) (R : Rp α) : Rp (List (κ × α)) := ⟨fun F v xs => xs.length ≤ sizeLine ∧ ∃ p vs, v = .ref p ∧ F p = some (.dT vs) ∧ Paired (fun (a : List Key × V) (b : κ × α) => a.1 = A.f b.1 ∧ A.nice b.1 ∧ R.ok F a.2 b.2) vs xs,
  fun s ⟨z, p, vs, e, h, q⟩ => ⟨z, p, vs, e, s _ _ h, kv_mono s q⟩⟩

/-! ### what is one's own, and may change -/
structure Rs (α : Type) where
  ok : Hp → Hp → List Addr → V → α → Prop
  rd : Rp α
  frame : ∀ {F H : Hp} {D : List Addr} {v : V} {x : α} {F' H' : Hp}, Same F F' → (∀ p ∈ D, H' p = H p) → ok F H D v x → ok F' H' D v x
  read : ∀ {F H : Hp} {D : List Addr} {v : V} {x : α} {G : Hp}, (∀ p ∈ D, G p = vw (H p)) → Same F G → ok F H D v x → rd.ok G v x
def oL {α : Type} (R : Rp α) : Rs (List α) where
  ok := fun F H D v xs => xs.length ≤ sizeLine ∧ ∃ p vs, v = .ref p ∧ D = [p] ∧ H p = some (.lst vs) ∧ Paired (R.ok F) vs xs
  rd := rL R
  frame := fun s k ⟨z, p, vs, e, d, h, q⟩ => ⟨z, p, vs, e, d, by rw [k p (by rw [d]; exact List.mem_singleton.mpr rfl)]; exact h, prd_mono s q⟩
  read := fun k s ⟨z, p, vs, e, d, h, q⟩ => ⟨z, p, vs, e, by rw [k p (by rw [d]; exact List.mem_singleton.mpr rfl), h]; rfl, prd_mono s q⟩
def oK {κ α : Type} (A : KF κ) (R : Rp α) : Rs (List (κ × α)) where
  ok := fun F H D v xs => xs.length ≤ sizeLine ∧ ∃ p vs, v = .ref p ∧ D = [p] ∧ H p = some (.dK vs) ∧ Paired (fun (a : Key × V) (b : κ × α) => a.1 = A.f b.1 ∧ A.nice b.1 ∧ R.ok F a.2 b.2) vs xs
  rd := rK A R
  frame := fun s k ⟨z, p, vs, e, d, h, q⟩ => ⟨z, p, vs, e, d, by rw [k p (by rw [d]; exact List.mem_singleton.mpr rfl)]; exact h, kv_mono s q⟩
  read := fun k s ⟨z, p, vs, e, d, h, q⟩ => ⟨z, p, vs, e, by rw [k p (by rw [d]; exact List.mem_singleton.mpr rfl), h]; rfl, kv_mono s q⟩
def oKT {κ α : Type} (A : KT' κ) (R : Rp α) : Rs (List (κ × α)) where
  ok := fun F H D v xs => xs.length ≤ sizeLine ∧ ∃ p vs, v = .ref p ∧ D = [p] ∧ H p = some (.dT vs) ∧ Paired (fun (a : List Key × V) (b : κ × α) => a.1 = A.f b.1 ∧ A.nice b.1 ∧ R.ok F a.2 b.2) vs xs
  rd := rKT A R
  frame := fun s k ⟨z, p, vs, e, d, h, q⟩ => ⟨z, p, vs, e, d, by rw [k p (by rw [d]; exact List.mem_singleton.mpr rfl)]; exact h, kv_mono s q⟩
  read := fun k s ⟨z, p, vs, e, d, h, q⟩ => ⟨z, p, vs, e, by rw [k p (by rw [d]; exact List.mem_singleton.mpr rfl), h]; rfl, kv_mono s q⟩

/-! ### slots -/
inductive Slot : Type 1
  | any
  | is {α : Type} (R : Rp α) (x : α)
  | res {α : Type} (A : Rs α) (x : α)
def Slot.ok (F H : Hp) (D : List Addr) : Slot → Option V → Prop
  | .any, _ => D = []
  | .is R x, o => D = [] ∧ ∃ v, o = some v ∧ R.ok F v x
  | .res A x, o => ∃ v, o = some v ∧ A.ok F H D v x
abbrev Gm := List Slot
def Env (F H : Hp) : List Addr → Gm → St → Prop
  | D, [], σ => D = [] ∧ σ = []
  | _, _ :: _, [] => False
  | D, s :: Γ, o :: σ => ∃ D1 D2, D = D1 ++ D2 ∧ s.ok F H D1 o ∧ Env F H D2 Γ σ
section
variable {F H F' H' : Hp} {D : List Addr} {Γ : Gm} {σ : St}
theorem Slot.mono {s : Slot} {o : Option V} (f : Same F F') (k : ∀ p ∈ D, H' p = H p) (h : s.ok F H D o) : s.ok F' H' D o := by
  cases s with
  | any => exact h
  | is R x => obtain ⟨d, v, e, q⟩ := h; exact ⟨d, v, e, R.mono f q⟩
  | res A x => obtain ⟨v, e, q⟩ := h; exact ⟨v, e, A.frame f k q⟩
theorem Env.mono (f : Same F F') : ∀ {D : List Addr} {Γ : Gm} {σ : St}, (∀ p ∈ D, H' p = H p) → Env F H D Γ σ → Env F' H' D Γ σ
  | _, [], _, _, h => h
  | _, _ :: _, [], _, h => h
  | _, _ :: _, _ :: _, k, ⟨D1, D2, e, h, q⟩ => ⟨D1, D2, e, Slot.mono f (fun p hp => k p (by rw [e]; exact List.mem_append_left _ hp)) h, Env.mono f (fun p hp => k p (by rw [e]; exact List.mem_append_right _ hp)) q⟩
theorem Env.grow {F1 H1 : Hp} (g : Good F H D) (a : Grow F H F1 H1) (e : Env F H D Γ σ) : Env F1 H1 D Γ σ := e.mono a.ff fun p hp => by
  obtain ⟨o, h⟩ := ex_of (g.dH p hp)
  rw [h]; exact a.hh p o h
theorem Env.get : ∀ {D : List Addr} {Γ : Gm} {σ : St} {i : Nat} {s : Slot}, Env F H D Γ σ → Γ[i]? = some s → ∃ D1 o, σ[i]? = some o ∧ D1.Sublist D ∧ s.ok F H D1 o
  | _, [], _, _, _, _, e => by simp at e
  | _, _ :: _, [], _, _, h, _ => h.elim
  | D, s :: Γ, o :: σ, 0, s', ⟨D1, D2, e, h, q⟩, he => by
    have : s = s' := by simpa using he
    subst this
    exact ⟨D1, o, rfl, by rw [e]; exact List.sublist_append_left _ _, h⟩
  | D, s :: Γ, o :: σ, i + 1, s', ⟨D1, D2, e, h, q⟩, he => by
    obtain ⟨D3, o', h1, h2, h3⟩ := Env.get (i := i) (s := s') q (by simpa using he)
    exact ⟨D3, o', by simpa using h1, by rw [e]; exact h2.trans (List.sublist_append_right _ _), h3⟩
theorem Env.len : ∀ {D : List Addr} {Γ : Gm} {σ : St}, Env F H D Γ σ → σ.length = Γ.length
  | _, [], _, ⟨_, e⟩ => by rw [e]; rfl
  | _, _ :: _, [], h => h.elim
  | _, _ :: _, _ :: _, ⟨_, _, _, _, q⟩ => by simp [q.len]
/-- a slot gets a value of no object of one's own -/
theorem Env.set {s' : Slot} {o' : Option V} (hs : s'.ok F H [] o') : ∀ {D : List Addr} {Γ : Gm} {σ : St} (i : Nat), Env F H D Γ σ → ∃ D', D'.Sublist D ∧ Env F H D' (Γ.set i s') (σ.set i o')
  | D, [], σ, _, h => ⟨D, List.Sublist.refl _, by obtain ⟨e, e'⟩ := h; subst e'; exact ⟨e, rfl⟩⟩
  | _, _ :: _, [], _, h => h.elim
  | D, s :: Γ, o :: σ, 0, ⟨D1, D2, e, h, q⟩ => ⟨D2, by rw [e]; exact List.sublist_append_right _ _, [], D2, rfl, hs, q⟩
  | D, s :: Γ, o :: σ, i + 1, ⟨D1, D2, e, h, q⟩ => by
    obtain ⟨D3, h1, h2⟩ := Env.set hs i q
    exact ⟨D1 ++ D3, by rw [e]; exact (List.Sublist.refl _).append h1, D1, D3, rfl, h, h2⟩
/-- the slot at i and its part of what is owned changes, all else is as it was -/
theorem Env.upd {s s' : Slot} {o' : Option V} {D1' : List Addr} : ∀ {D : List Addr} {Γ : Gm} {σ : St} (i : Nat), Env F H D Γ σ → Γ[i]? = some s →
    ∃ Da D1 Db o, D = Da ++ D1 ++ Db ∧ σ[i]? = some o ∧ s.ok F H D1 o ∧ ∀ {F' H' : Hp} {s' : Slot} {o' : Option V} {D1' : List Addr}, Same F F' → (∀ p ∈ Da ++ Db, H' p = H p) → s'.ok F' H' D1' o' → Env F' H' (Da ++ D1' ++ Db) (Γ.set i s') (σ.set i o')
  | _, [], _, _, _, e => by simp at e
  | _, _ :: _, [], _, h, _ => h.elim
  | D, s0 :: Γ, o0 :: σ, 0, ⟨D1, D2, e, h, q⟩, he => by
    have : s0 = s := by simpa using he
    subst this
    refine ⟨[], D1, D2, o0, by simpa using e, rfl, h, fun {F' H' s' o' D1'} f k hs => ?_⟩
    exact ⟨D1', D2, rfl, hs, Env.mono f (fun p hp => k p (by simpa using hp)) q⟩
  | D, s0 :: Γ, o0 :: σ, i + 1, ⟨D1, D2, e, h, q⟩, he => by
    obtain ⟨Da, Dm, Db, o, e1, h1, h2, h3⟩ := Env.upd (s' := s') (o' := o') (D1' := D1') i q (by simpa using he)
    refine ⟨D1 ++ Da, Dm, Db, o, by rw [e, e1]; simp, by simpa using h1, h2, fun {F' H' s' o' D1'} f k hs => ?_⟩
    exact ⟨D1, Da ++ D1' ++ Db, by simp, Slot.mono f (fun p hp => k p (by simp [hp])) h, h3 f (fun p hp => k p (by
      rcases List.mem_append.mp hp with z | z
      · simp [z]
      · simp [z])) hs⟩
end

/-! ### reading what is one's own, as if it stood still -/
def Slot.vw : Slot → Slot
  | .res A x => .is A.rd x
  | s => s
def view (Γ : Gm) : Gm := Γ.map Slot.vw
def ovl (F H : Hp) (D : List Addr) : Hp := fun p => if p ∈ D then Wf.vw (H p) else F p
section
variable {F H : Hp} {D : List Addr} {Γ : Gm} {σ : St}
theorem ovl_in {p : Addr} (h : p ∈ D) : ovl F H D p = Wf.vw (H p) := if_pos h
theorem ovl_out {p : Addr} (h : p ∉ D) : ovl F H D p = F p := if_neg h
theorem Good.ovl (g : Good F H D) : Same F (Wf.ovl F H D) ∧ Same (Wf.ovl F H D) (Vw H) := by
  refine ⟨fun p o e => ?_, fun p o e => ?_⟩
  · rw [ovl_out fun hp => ?_]; exact e
    rw [g.dF p hp] at e; cases e
  · by_cases hp : p ∈ D
    · rw [ovl_in hp] at e; exact e
    · rw [ovl_out hp] at e; exact g.fh p o e
theorem Env.view {G : Hp} (s : Same F G) : ∀ {D : List Addr} {Γ : Gm} {σ : St}, (∀ p ∈ D, G p = Wf.vw (H p)) → Env F H D Γ σ → Env G H [] (Wf.view Γ) σ
  | _, [], _, _, ⟨_, e⟩ => ⟨rfl, e⟩
  | _, _ :: _, [], _, h => h.elim
  | _, s0 :: Γ, o :: σ, k, ⟨D1, D2, e, h, q⟩ => by
    refine ⟨[], [], rfl, ?_, Env.view s (fun p hp => k p (by rw [e]; exact List.mem_append_right _ hp)) q⟩
    cases s0 with
    | any => rfl
    | is R x => obtain ⟨d, v, e', q'⟩ := h; exact ⟨rfl, v, e', R.mono s q'⟩
    | res A x => obtain ⟨v, e', q'⟩ := h; exact ⟨rfl, v, e', A.read (fun p hp => k p (by rw [e]; exact List.mem_append_left _ hp)) s q'⟩
theorem Good.view (g : Good F H D) (e : Env F H D Γ σ) : Env (Wf.ovl F H D) H [] (Wf.view Γ) σ := e.view g.ovl.1 fun p hp => ovl_in hp
end

/-! ### where a body stands -/
structure Ctx (X : Cx) (P : Program) (w : World) (K : PySem.W.Frag) (mg : Str → Option Value) (base : Heap) (NN : List Str) (sc : Scope) (k : Nat) (d : Bool) : Prop where
  prog : X.prog = P
  w : X.w = w
  K : X.K = K
  mg : X.mg = mg
  base : X.base = base
  N : X.N = NN
  sc : X.env.scope = sc
  calm : X.calm = true
  room : Room k X.A
  nd : NN.Nodup
  fn : d = true → ∀ x, X.fn x = true
  own : PassesOwn (model X.prog X.w) X.A X.env X.xe
def visB (sc : Scope) (x : Str) : Bool := match sc.names.lookup x with
  | some .local => true
  | some .cell => true
  | some .free => true
  | _ => false
def locB (sc : Scope) (d : Bool) (x : Str) : Bool := match sc.names.lookup x with
  | some .local => true
  | some .cell => d
  | _ => false
def gloB (sc : Scope) (x : Str) : Bool := match sc.names.lookup x with
  | some .globalImplicit => true
  | _ => false
section
variable {X : Cx} {P : Program} {w : World} {K : PySem.W.Frag} {mg : Str → Option Value} {base : Heap} {N : List Str} {sc : Scope} {k : Nat} {d : Bool}
theorem Ctx.vis (C : Ctx X P w K mg base N sc k d) {x : Str} (h : visB sc x = true) : Vis X.env.scope x := by
  rw [C.sc]
  unfold visB at h
  split at h
  · exact .inl (by assumption)
  · exact .inr (.inl (by assumption))
  · exact .inr (.inr (by assumption))
  · cases h
theorem Ctx.gl (C : Ctx X P w K mg base N sc k d) {x : Str} (h : gloB sc x = true) : Gl X x := by
  show X.env.scope.names.lookup x = _
  rw [C.sc]
  unfold gloB at h
  split at h
  · assumption
  · cases h
theorem Ctx.loc (C : Ctx X P w K mg base N sc k d) {x : Str} (h : locB sc d x = true) : Loc X.env.scope x ∧ (X.fn x = true ∨ X.env.scope.names.lookup x = some .local) := by
  rw [C.sc]
  unfold locB at h
  split at h
  · exact ⟨.inl (by assumption), .inr (by assumption)⟩
  · exact ⟨.inr (by assumption), .inl (C.fn h x)⟩
  · cases h
theorem Ctx.hu (C : Ctx X P w K mg base N sc k d) : X.A.units + 1 < cLine := hu_of C.room
end

/-! ### what expressions, tests, statements do, as the weakest that is asked -/
structure WpE (X : Cx) (e : Expr) (σ : St) (H : Hp) (Q : VK) : Prop where
  go : ∀ pins s, Inv X pins σ H s → wpAny (model X.prog X.w) X.A (eval e X.env) (EP X pins σ Q) X.xe s
structure WpT (X : Cx) (e : Expr) (σ : St) (H : Hp) (Q : Bool → Hp → Prop) : Prop where
  go : ∀ pins s, Inv X pins σ H s → wpAny (model X.prog X.w) X.A (isTrue e X.env (eval e X.env)) (TP X pins σ Q) X.xe s
structure WpW (X : Cx) (e : Expr) (σ : St) (H : Hp) (Q : Bool → Hp → Prop) : Prop where
  go : ∀ whole pins s, Inv X pins σ H s → wpAny (model X.prog X.w) X.A (isTrue e X.env whole) (TP X pins σ Q) X.xe s
structure WpA (X : Cx) (es : List Expr) (σ : St) (H : Hp) (Q : List V → Hp → Prop) : Prop where
  go : ∀ pos pins s, Inv X pins σ H s → wpAny (model X.prog X.w) X.A (spliced (backTo pos (starEach es X.env))) (AP X pins σ Q) X.xe s
structure WpS (X : Cx) (st : Stmt) (D : Ends) (σ : St) (H : Hp) : Prop where
  go : ∀ pins s, Inv X pins σ H s → wpAny (model X.prog X.w) X.A (exec st X.env) (SP X pins D) X.xe s
structure WpB (X : Cx) (st : List Stmt) (D : Ends) (σ : St) (H : Hp) : Prop where
  go : ∀ pins s, Inv X pins σ H s → wpAny (model X.prog X.w) X.A (execs st X.env) (SP X pins D) X.xe s
def wpE (X : Cx) (e : Expr) : TE := WpE X e
def wpT (X : Cx) (e : Expr) : TT := WpT X e
def wpW (X : Cx) (e : Expr) : TT := WpW X e
def wpA (X : Cx) (es : List Expr) : TA := WpA X es
def wpS (X : Cx) (st : Stmt) : TS := WpS X st
def wpB (X : Cx) (st : List Stmt) : TS := WpB X st
section
variable {X : Cx}
theorem pe_ (e : Expr) : PE X e (wpE X e) := ⟨fun pins s _ _ _ I h => h.go pins s I⟩
theorem pt_ (e : Expr) : PT X e (wpT X e) := ⟨fun pins s _ _ _ I h => h.go pins s I⟩
theorem pw_ (e : Expr) : PW X e (wpW X e) := ⟨fun wh pins s _ _ _ I h => h.go wh pins s I⟩
theorem pa_ (es : List Expr) : PA X es (wpA X es) := ⟨fun pos pins s _ _ _ I h => h.go pos pins s I⟩
theorem ps_ (st : Stmt) : PS X st (wpS X st) := ⟨fun pins s _ _ _ I h => h.go pins s I⟩
theorem pb_ (st : List Stmt) : PSs X st (wpB X st) := ⟨fun pins s _ _ _ I h => h.go pins s I⟩
theorem _root_.L2.PE.wp {e : Expr} {t : TE} (h : PE X e t) {σ : St} {H : Hp} {Q : VK} (q : t σ H Q) : wpE X e σ H Q := ⟨fun pins s I => h.run pins s σ H Q I q⟩
theorem _root_.L2.PT.wp {e : Expr} {t : TT} (h : PT X e t) {σ : St} {H : Hp} {Q : Bool → Hp → Prop} (q : t σ H Q) : wpT X e σ H Q := ⟨fun pins s I => h.run pins s σ H Q I q⟩
theorem _root_.L2.PW.wp {e : Expr} {t : TT} (h : PW X e t) {σ : St} {H : Hp} {Q : Bool → Hp → Prop} (q : t σ H Q) : wpW X e σ H Q := ⟨fun wh pins s I => h.run wh pins s σ H Q I q⟩
theorem _root_.L2.PA.wp {es : List Expr} {t : TA} (h : PA X es t) {σ : St} {H : Hp} {Q : List V → Hp → Prop} (q : t σ H Q) : wpA X es σ H Q := ⟨fun pos pins s I => h.run pos pins s σ H Q I q⟩
theorem _root_.L2.PS.wp {e : Stmt} {t : TS} (h : PS X e t) {σ : St} {H : Hp} {D : Ends} (q : t D σ H) : wpS X e D σ H := ⟨fun pins s I => h.run pins s σ H D I q⟩
theorem _root_.L2.PSs.wp {e : List Stmt} {t : TS} (h : PSs X e t) {σ : St} {H : Hp} {D : Ends} (q : t D σ H) : wpB X e D σ H := ⟨fun pins s I => h.run pins s σ H D I q⟩
end

/-! ### the judgements -/
def XE {α : Type} (X : Cx) (Γ : Gm) (e : Expr) (R : Rp α) (x : α) : Prop :=
  ∀ σ F H D, Good F H D → Env F H D Γ σ → ∀ Q : VK, (∀ v F' H', Grow F H F' H' → R.ok F' v x → Q v H') → wpE X e σ H Q
def XT (X : Cx) (Γ : Gm) (e : Expr) (b : Bool) : Prop :=
  ∀ σ F H D, Good F H D → Env F H D Γ σ → ∀ Q : Bool → Hp → Prop, (∀ F' H', Grow F H F' H' → Q b H') → wpT X e σ H Q
def XW (X : Cx) (Γ : Gm) (e : Expr) (b : Bool) : Prop :=
  ∀ σ F H D, Good F H D → Env F H D Γ σ → ∀ Q : Bool → Hp → Prop, (∀ F' H', Grow F H F' H' → Q b H') → wpW X e σ H Q
/-- arguments: the values, as slots of the callee -/
def XA (X : Cx) (Γ : Gm) (es : List Expr) (ss : Gm) : Prop :=
  ∀ σ F H D, Good F H D → Env F H D Γ σ → ∀ Q : List V → Hp → Prop, (∀ vs F' H' D', Grow F H F' H' → D'.Sublist D → Env F' H' D' ss (vs.map some) → Q vs H') → wpA X es σ H Q
/-- ends: where it may go on, what it may return -/
structure Post where
  nx : Gm → Prop
  rt : Slot → Prop
  bk : Gm → Prop := fun _ => False
  ct : Gm → Prop := fun _ => False
structure Meets (P : Post) (D : Ends) (F H : Hp) (W : List Addr) : Prop where
  nx : ∀ Γ, P.nx Γ → ∀ σ F' H' D', Step F H W F' H' D' → Env F' H' D' Γ σ → D.nx σ H'
  bk : ∀ Γ, P.bk Γ → ∀ σ F' H' D', Step F H W F' H' D' → Env F' H' D' Γ σ → D.bk σ H'
  ct : ∀ Γ, P.ct Γ → ∀ σ F' H' D', Step F H W F' H' D' → Env F' H' D' Γ σ → D.ct σ H'
  rt : ∀ s, P.rt s → ∀ v F' H' D', Step F H W F' H' D' → s.ok F' H' D' (some v) → D.rt v H'
theorem Meets.step {P : Post} {D : Ends} {F H F1 H1 : Hp} {W W1 : List Addr} (m : Meets P D F H W) (a : Step F H W F1 H1 W1) : Meets P D F1 H1 W1 :=
  ⟨fun Γ h σ F' H' D' b => m.nx Γ h σ F' H' D' (a.trans b), fun Γ h σ F' H' D' b => m.bk Γ h σ F' H' D' (a.trans b), fun Γ h σ F' H' D' b => m.ct Γ h σ F' H' D' (a.trans b), fun s h v F' H' D' b => m.rt s h v F' H' D' (a.trans b)⟩
def XS (X : Cx) (Γ : Gm) (st : Stmt) (P : Post) : Prop :=
  ∀ σ F H D, Good F H D → Env F H D Γ σ → ∀ E : Ends, Meets P E F H D → wpS X st E σ H
def XB (X : Cx) (Γ : Gm) (st : List Stmt) (P : Post) : Prop :=
  ∀ σ F H D, Good F H D → Env F H D Γ σ → ∀ E : Ends, Meets P E F H D → wpB X st E σ H
end Wf
/-! Rules of the typed layer for expressions, tests, arguments. -/
namespace Wf
open PySem L2

section
variable {X : Cx} {Γ : Gm} {P : Program} {w : World} {K : PySem.W.Frag} {mg : Str → Option Value} {base : Heap} {N : List Str} {sc : Scope} {k : Nat} {dd : Bool}
variable {α β γ : Type} {R : Rp α} {R1 : Rp α} {R2 : Rp β} {R3 : Rp γ} {x : α} {y : β}

/-! ### names, constants -/
theorem xe_var (C : Ctx X P w K mg base N sc k dd) (i : Nat) {n : Str} {pos : Pos} (hs : Γ[i]? = some (.is R x)) (hv : visB sc n = true := by decide +kernel) (hN : N[i]? = some n := by rfl)
    (hd : (n == ("__debug__" : Str)) = false := by decide +kernel) (hcd : (n == ("__classdict__" : Str)) = false := by decide +kernel) : XE X Γ (.Name n pos) R x := by
  intro σ F H D g e Q q
  obtain ⟨D1, o, h1, _, _, v, h3, h4⟩ := e.get hs
  subst h3
  exact (pe_var (i := i) (by rw [C.N]; exact hN) (C.vis hv) hd hcd).wp ⟨v, h1, q v F H (.refl g.fh) h4⟩
theorem xe_int {i : Int} {j pos} : XE X Γ (.Constant (.int i) j pos) rI i := fun σ F H D g e Q q => pe_int.wp (q _ F H (.refl g.fh) rfl)
theorem xe_str {s : Str} {j pos} (n : niceS s = true := by decide +kernel) : XE X Γ (.Constant (.str s) j pos) rS s := fun σ F H D g e Q q => pe_str.wp (q _ F H (.refl g.fh) ⟨rfl, n⟩)
theorem xe_bool {b : Bool} {j pos} : XE X Γ (.Constant (.bool b) j pos) rB b := fun σ F H D g e Q q => pe_bl.wp (q _ F H (.refl g.fh) rfl)
theorem xe_none {j pos} : XE X Γ (.Constant .none j pos) (rO R) none := fun σ F H D g e Q q => pe_non.wp (q _ F H (.refl g.fh) rfl)
theorem xe_unit {j pos} : XE X Γ (.Constant .none j pos) rN () := fun σ F H D g e Q q => pe_non.wp (q _ F H (.refl g.fh) rfl)
theorem xe_some {e : Expr} (h : XE X Γ e R x) : XE X Γ e (rO R) (some x) := h
theorem xe_globI (C : Ctx X P w K mg base N sc k dd) {n : Str} {pos : Pos} {i : Int} (hm : ∃ t, mg n = some (.int i t)) (hg : gloB sc n = true) (hd : (n == ("__debug__" : Str)) = false := by decide +kernel) : XE X Γ (.Name n pos) rI i := by
  intro σ F H D g e Q q
  obtain ⟨t, hm⟩ := hm
  exact (pe_glob (v := .int i) (C.gl hg) (by rw [C.mg]; exact hm) ⟨t, rfl⟩ hd).wp (q _ F H (.refl g.fh) rfl)
theorem xe_globS (C : Ctx X P w K mg base N sc k dd) {n : Str} {pos : Pos} {i : Str} (hm : ∃ t, mg n = some (.str i t)) (ni : niceS i = true) (hg : gloB sc n = true) (hd : (n == ("__debug__" : Str)) = false := by decide +kernel) : XE X Γ (.Name n pos) rS i := by
  intro σ F H D g e Q q
  obtain ⟨t, hm⟩ := hm
  exact (pe_glob (v := .str i) (C.gl hg) (by rw [C.mg]; exact hm) ⟨t, rfl⟩ hd).wp (q _ F H (.refl g.fh) ⟨rfl, ni⟩)
/-- what is one's own is read as if it stood still: the answer must have no object -/
theorem xe_view {e : Expr} [s : Scal R] (h : XE X (view Γ) e R x) : XE X Γ e R x := by
  intro σ F H D g en Q q
  obtain ⟨s1, s2⟩ := g.ovl
  exact h σ (ovl F H D) H [] (.nil s2) (g.view en) Q fun v F' H' a r => q v F H' ⟨.refl _, s1.trans (a.ff.trans a.fh), a.hh, fun _ z _ => z⟩ (s.all r)
theorem xt_view {e : Expr} {b : Bool} (h : XT X (view Γ) e b) : XT X Γ e b := by
  intro σ F H D g en Q q
  obtain ⟨s1, s2⟩ := g.ovl
  exact h σ (ovl F H D) H [] (.nil s2) (g.view en) Q fun F' H' a => q F H' ⟨.refl _, s1.trans (a.ff.trans a.fh), a.hh, fun _ z _ => z⟩
/-- another name of the same value -/
theorem xe_eq {e : Expr} {x' : α} (h : XE X Γ e R x) (q : x = x') : XE X Γ e R x' := q ▸ h
theorem xt_eq {e : Expr} {b b' : Bool} (h : XT X Γ e b) (q : b = b') : XT X Γ e b' := q ▸ h
theorem xe_map {e : Expr} {f : β → α} {y : β} (h : XE X Γ e R (f y)) : XE X Γ e (rM R f) y := h
theorem xe_unmap {e : Expr} {f : β → α} {y : β} (h : XE X Γ e (rM R f) y) : XE X Γ e R (f y) := h

/-! ### operators by values -/
/-- f of two values that stand for x, y gives a value that stands for g x y -/
structure OpX (X : Cx) (f : Value → Value → Sem Value) (R1 : Rp α) (R2 : Rp β) (R3 : Rp γ) (ok : α → β → Prop) (op : α → β → γ) : Prop where
  ex : ∃ r : L2.R2, OpR X f r ∧ ∀ F H v u x y, Same F (Vw H) → R1.ok F v x → R2.ok F u y → ok x y → ∀ Q : VK, (∀ z F' H', Grow F H F' H' → R3.ok F' z (op x y) → Q z H') → r v u H Q
abbrev always : α → β → Prop := fun _ _ => True
variable {ok : α → β → Prop} {op : α → β → γ} {a b : Expr}
theorem xe_bin {o : Operator} {pos : Pos} (h : OpX X (binaryOp o) R1 R2 R3 ok op) (ha : XE X Γ a R1 x) (hb : XE X Γ b R2 y) (hk : ok x y) : XE X Γ (.BinOp a o b pos) R3 (op x y) := by
  obtain ⟨r, ho, go⟩ := h.ex
  intro σ F H D g e Q q
  refine (pe_op ho (pe_ a) (pe_ b)).wp (ha σ F H D g e _ fun v F1 H1 g1 r1 => hb σ F1 H1 D (g.grow g1) (e.grow g g1) _ fun u F2 H2 g2 r2 => ?_)
  exact go F2 H2 v u x y g2.fh (R1.mono g2.ff r1) r2 hk Q fun z F' H' g3 r3 => q z F' H' ((g1.trans g2).trans g3) r3
theorem xe_cmp {o : CmpOp} {pos : Pos} {op : α → β → Bool} (h : OpX X (compareOp o) R1 R2 rB ok op) (ha : XE X Γ a R1 x) (hb : XE X Γ b R2 y) (hk : ok x y) (hm : behindInMarks o b = false := by first | exact nomark _ | rfl) : XE X Γ (.Compare a [o] [b] pos) rB (op x y) := by
  obtain ⟨r, ho, go⟩ := h.ex
  intro σ F H D g e Q q
  refine (pe_cmpR ho (pe_ a) (pe_ b) hm).wp (ha σ F H D g e _ fun v F1 H1 g1 r1 => hb σ F1 H1 D (g.grow g1) (e.grow g g1) _ fun u F2 H2 g2 r2 => ?_)
  exact go F2 H2 v u x y g2.fh (R1.mono g2.ff r1) r2 hk Q fun z F' H' g3 r3 => q z F' H' ((g1.trans g2).trans g3) r3
theorem xt_cmp {o : CmpOp} {pos : Pos} {op : α → β → Bool} (h : OpX X (compareOp o) R1 R2 rB ok op) (ha : XE X Γ a R1 x) (hb : XE X Γ b R2 y) (hk : ok x y) (hm : behindInMarks o b = false := by first | exact nomark _ | rfl) : XT X Γ (.Compare a [o] [b] pos) (op x y) := by
  obtain ⟨r, ho, go⟩ := h.ex
  intro σ F H D g e Q q
  refine (pt_cmpR ho (pe_ a) (pe_ b) hm).wp (ha σ F H D g e _ fun v F1 H1 g1 r1 => hb σ F1 H1 D (g.grow g1) (e.grow g g1) _ fun u F2 H2 g2 r2 => ?_)
  exact go F2 H2 v u x y g2.fh (R1.mono g2.ff r1) r2 hk _ fun z F' H' g3 r3 => ⟨op x y, r3, q F' H' ((g1.trans g2).trans g3)⟩
/-- a < b < c, b asked once -/
theorem xe_chain {o o' : CmpOp} {pos : Pos} {c : Expr} {δ : Type} {R4 : Rp δ} {z : δ} {op : α → β → Bool} {ok' : β → δ → Prop} {op' : β → δ → Bool} (h : OpX X (compareOp o) R1 R2 rB ok op) (h' : OpX X (compareOp o') R2 R4 rB ok' op')
    (ha : XE X Γ a R1 x) (hb : XE X Γ b R2 y) (hc : XE X Γ c R4 z) (hk : ok x y) (hk' : ok' y z) (hm : lastMarks [o, o'] [b, c] = false := by with_unfolding_all rfl) : XE X Γ (.Compare a [o, o'] [b, c] pos) rB (op x y && op' y z) := by
  obtain ⟨r, ho, go⟩ := h.ex
  obtain ⟨r', ho', go'⟩ := h'.ex
  intro σ F H D g e Q q
  refine (pe_chain ho ho' (pe_ a) (pe_ b) (pe_ c) hm).wp (ha σ F H D g e _ fun v F1 H1 g1 r1 => hb σ F1 H1 D (g.grow g1) (e.grow g g1) _ fun u F2 H2 g2 r2 => ?_)
  refine go F2 H2 v u x y g2.fh (R1.mono g2.ff r1) r2 hk _ fun z1 F3 H3 g3 r3 => ⟨op x y, r3, ?_⟩
  cases hx : op x y with
  | false => exact q _ F3 H3 ((g1.trans g2).trans g3) (by rw [hx]; rfl)
  | true =>
    have g12 := (g1.trans g2).trans g3
    refine hc σ F3 H3 D (g.grow g12) (e.grow g g12) _ fun z2 F4 H4 g4 r4 => ?_
    exact go' F4 H4 u z2 y z g4.fh (R2.mono (g3.ff.trans g4.ff) r2) r4 hk' Q fun z3 F5 H5 g5 r5 => q z3 F5 H5 ((g12.trans g4).trans g5) (by rw [hx]; exact r5)
theorem xt_chain {o o' : CmpOp} {pos : Pos} {c : Expr} {δ : Type} {R4 : Rp δ} {z : δ} {op : α → β → Bool} {ok' : β → δ → Prop} {op' : β → δ → Bool} (h : OpX X (compareOp o) R1 R2 rB ok op) (h' : OpX X (compareOp o') R2 R4 rB ok' op')
    (ha : XE X Γ a R1 x) (hb : XE X Γ b R2 y) (hc : XE X Γ c R4 z) (hk : ok x y) (hk' : ok' y z) (hm : lastMarks [o, o'] [b, c] = false := by with_unfolding_all rfl) : XT X Γ (.Compare a [o, o'] [b, c] pos) (op x y && op' y z) := by
  obtain ⟨r, ho, go⟩ := h.ex
  obtain ⟨r', ho', go'⟩ := h'.ex
  intro σ F H D g e Q q
  refine (pt_chain ho ho' (pe_ a) (pe_ b) (pe_ c) hm).wp (ha σ F H D g e _ fun v F1 H1 g1 r1 => hb σ F1 H1 D (g.grow g1) (e.grow g g1) _ fun u F2 H2 g2 r2 => ?_)
  refine go F2 H2 v u x y g2.fh (R1.mono g2.ff r1) r2 hk _ fun z1 F3 H3 g3 r3 => ⟨op x y, r3, ?_⟩
  cases hx : op x y with
  | false => exact ⟨false, rfl, by have := q F3 H3 ((g1.trans g2).trans g3); rw [hx] at this; exact this⟩
  | true =>
    have g12 := (g1.trans g2).trans g3
    refine hc σ F3 H3 D (g.grow g12) (e.grow g g12) _ fun z2 F4 H4 g4 r4 => ?_
    refine go' F4 H4 u z2 y z g4.fh (R2.mono (g3.ff.trans g4.ff) r2) r4 hk' _ fun z3 F5 H5 g5 r5 => ⟨_, r5, ?_⟩
    have := q F5 H5 ((g12.trans g4).trans g5)
    rw [hx] at this
    exact this

/-! ### the operators -/
theorem opx_ii {f : Value → Value → Sem Value} {h : Int → Int → Int} (ho : OpR X f (rI0 fun i j => .int (h i j))) : OpX X f rI rI rI always h :=
  ⟨_, ho, fun F H v u x y s r1 r2 _ Q q => ⟨x, y, r1, r2, q _ F H (.refl s) rfl⟩⟩
theorem opx_iic {f : Value → Value → Sem Value} {c : Int → Int → Prop} {h : Int → Int → Int} (ho : OpR X f (L2.rI c fun i j => .int (h i j))) : OpX X f rI rI rI c h :=
  ⟨_, ho, fun F H v u x y s r1 r2 hc Q q => ⟨x, y, r1, r2, hc, q _ F H (.refl s) rfl⟩⟩
theorem opx_iib {f : Value → Value → Sem Value} {h : Int → Int → Bool} (ho : OpR X f (rI0 fun i j => .bl (h i j))) : OpX X f rI rI rB always h :=
  ⟨_, ho, fun F H v u x y s r1 r2 _ Q q => ⟨x, y, r1, r2, q _ F H (.refl s) rfl⟩⟩
theorem o_add : OpX X (binaryOp .Add) rI rI rI always (· + ·) := opx_ii op_add
theorem o_sub : OpX X (binaryOp .Sub) rI rI rI always (· - ·) := opx_ii op_sub
theorem o_mul : OpX X (binaryOp .Mult) rI rI rI CMul (· * ·) := opx_iic op_mul
theorem o_div : OpX X (binaryOp .FloorDiv) rI rI rI CDiv (· / ·) := opx_iic op_fdiv
theorem o_mod : OpX X (binaryOp .Mod) rI rI rI (fun _ j => 0 < j) (· % ·) := opx_iic op_mod
theorem o_pow : OpX X (binaryOp .Pow) rI rI rI CPow (fun i j => i ^ j.toNat) := opx_iic op_pow
theorem o_lt : OpX X (compareOp .Lt) rI rI rB always (fun i j => decide (i < j)) := opx_iib op_lt
theorem o_le : OpX X (compareOp .LtE) rI rI rB always (fun i j => decide (i ≤ j)) := opx_iib op_le
theorem o_gt : OpX X (compareOp .Gt) rI rI rB always (fun i j => decide (i > j)) := opx_iib op_gt
theorem o_ge : OpX X (compareOp .GtE) rI rI rB always (fun i j => decide (i ≥ j)) := opx_iib op_ge
theorem o_eqI : OpX X (compareOp .Eq) rI rI rB always (fun i j => decide (i = j)) :=
  ⟨_, op_eq, fun F H v u x y s r1 r2 _ Q q => by
    cases r1; cases r2
    exact ⟨rfl, q _ F H (.refl s) (by show V.bl _ = V.bl _; rw [dec_int, Bool.beq_eq_decide_eq])⟩⟩
theorem o_neI : OpX X (compareOp .NotEq) rI rI rB always (fun i j => !decide (i = j)) :=
  ⟨_, op_ne, fun F H v u x y s r1 r2 _ Q q => by
    cases r1; cases r2
    exact ⟨rfl, q _ F H (.refl s) (by show V.bl _ = V.bl _; rw [dec_int, Bool.beq_eq_decide_eq])⟩⟩
theorem o_eqS : OpX X (compareOp .Eq) rS rS rB always (fun i j => decide (i = j)) :=
  ⟨_, op_eq, fun F H v u x y s r1 r2 _ Q q => by
    obtain ⟨rfl, n1⟩ := r1
    obtain ⟨rfl, n2⟩ := r2
    refine ⟨rfl, q _ F H (.refl s) ?_⟩
    show V.bl (decide (V.str x = V.str y)) = V.bl _
    by_cases e : x = y
    · subst e; simp
    · rw [decide_eq_false e, decide_eq_false (fun z => e (by injection z))]⟩
theorem o_neS : OpX X (compareOp .NotEq) rS rS rB always (fun i j => !decide (i = j)) :=
  ⟨_, op_ne, fun F H v u x y s r1 r2 _ Q q => by
    obtain ⟨rfl, n1⟩ := r1
    obtain ⟨rfl, n2⟩ := r2
    refine ⟨rfl, q _ F H (.refl s) ?_⟩
    show V.bl (!decide (V.str x = V.str y)) = V.bl _
    by_cases e : x = y
    · subst e; simp
    · rw [decide_eq_false e, decide_eq_false (fun z => e (by injection z))]⟩
theorem o_eqB : OpX X (compareOp .Eq) rB rB rB always (fun i j => decide (i = j)) :=
  ⟨_, op_eq, fun F H v u x y s r1 r2 _ Q q => by
    cases r1; cases r2
    refine ⟨rfl, q _ F H (.refl s) ?_⟩
    cases x <;> cases y <;> rfl⟩
/-- None is no int, text, tuple .. -/
class NotNone (R : Rp α) : Prop where
  no : ∀ {F : Hp} {v : V} {x : α}, R.ok F v x → v ≠ .non
instance : NotNone rI := ⟨fun h e => by rw [h] at e; cases e⟩
instance : NotNone rS := ⟨fun h e => by rw [h.1] at e; cases e⟩
instance : NotNone rB := ⟨fun h e => by rw [h] at e; cases e⟩
instance {T : Rw α} : NotNone (rT T) := ⟨fun ⟨p, vs, h, _⟩ e => by rw [h] at e; cases e⟩
instance {f : β → α} [n : NotNone R] : NotNone (rM R f) := ⟨fun h => n.no (R := R) h⟩
instance : NotNone (rL R) := ⟨fun ⟨_, p, vs, h, _⟩ e => by rw [h] at e; cases e⟩
instance : NotNone (rV R) := ⟨fun ⟨_, p, vs, h, _⟩ e => by rw [h] at e; cases e⟩
theorem o_isN [n : NotNone R] : OpX X (compareOp .Is) (rO R) rN rB always (fun i _ => i.isNone) :=
  ⟨_, op_isN, fun F H v u x y s r1 r2 _ Q q => by
    refine ⟨r2, q _ F H (.refl s) ?_⟩
    cases x with
    | none => cases r1; rfl
    | some z => exact congrArg V.bl (decide_eq_false (n.no r1))⟩
theorem o_notN [n : NotNone R] : OpX X (compareOp .IsNot) (rO R) rN rB always (fun i _ => i.isSome) :=
  ⟨_, op_notN, fun F H v u x y s r1 r2 _ Q q => by
    refine ⟨r2, q _ F H (.refl s) ?_⟩
    cases x with
    | none => cases r1; rfl
    | some z => exact congrArg V.bl (by rw [decide_eq_false (n.no r1)]; rfl)⟩

/-! ### and, or, not -/
variable {p q : Bool} {rest : List Expr} {pos : Pos}
theorem xw_and1 (h : XT X Γ a p) : XW X Γ (.BoolOp .And [a] pos) p := fun σ F H D g e Q q => (pw_and1 (pt_ a)).wp (h σ F H D g e Q q)
theorem xw_or1 (h : XT X Γ a p) : XW X Γ (.BoolOp .Or [a] pos) p := fun σ F H D g e Q q => (pw_or1 (pt_ a)).wp (h σ F H D g e Q q)
theorem xw_and (h : XT X Γ a p) (h' : p = true → XW X Γ (.BoolOp .And (b :: rest) pos) q) : XW X Γ (.BoolOp .And (a :: b :: rest) pos) (p && q) := by
  intro σ F H D g e Q k
  refine (pw_and (pt_ a) (pw_ _)).wp (h σ F H D g e _ fun F1 H1 g1 => ?_)
  cases p with
  | true => exact iteT (h' rfl σ F1 H1 D (g.grow g1) (e.grow g g1) _ fun F2 H2 g2 => k F2 H2 (g1.trans g2))
  | false => exact iteF (k F1 H1 g1)
theorem xw_or (h : XT X Γ a p) (h' : p = false → XW X Γ (.BoolOp .Or (b :: rest) pos) q) : XW X Γ (.BoolOp .Or (a :: b :: rest) pos) (p || q) := by
  intro σ F H D g e Q k
  refine (pw_or (pt_ a) (pw_ _)).wp (h σ F H D g e _ fun F1 H1 g1 => ?_)
  cases p with
  | false => exact iteF (h' rfl σ F1 H1 D (g.grow g1) (e.grow g g1) _ fun F2 H2 g2 => k F2 H2 (g1.trans g2))
  | true => exact iteT (k F1 H1 g1)
theorem xt_w (h : XW X Γ a p) : XT X Γ a p := fun σ F H D g e Q q => (pw_ a).pt.wp (h σ F H D g e Q q)
theorem xt_not (h : XT X Γ a p) : XT X Γ (.UnaryOp .Not a pos) (!p) := fun σ F H D g e Q q => (pt_not (pt_ a)).wp (h σ F H D g e _ q)
theorem xt_val (h : XE X Γ a rB p) (he : ∀ whole, isTrue a X.env whole = (do let v ← whole; standAt a.pos; holding [v] (truthy v)) := by intro _; rfl) : XT X Γ a p := fun σ F H D g e Q q =>
  (pt_val (pe_ a) he).wp (h σ F H D g e _ fun v F1 H1 g1 r => ⟨p, r, q F1 H1 g1⟩)
theorem xe_one {o} (h : XE X Γ a R x) : XE X Γ (.BoolOp o [a] pos) R x := fun σ F H D g e Q q => (pe_one (pe_ a)).wp (h σ F H D g e Q q)
theorem xe_and (h : XE X Γ a rB p) (h' : p = true → XE X Γ (.BoolOp .And (b :: rest) pos) rB q) : XE X Γ (.BoolOp .And (a :: b :: rest) pos) rB (p && q) := by
  intro σ F H D g e Q k
  refine (pe_and (pe_ a) (pe_ _)).wp (h σ F H D g e _ fun v F1 H1 g1 r => ⟨p, r, ?_⟩)
  cases p with
  | true => exact iteT (h' rfl σ F1 H1 D (g.grow g1) (e.grow g g1) _ fun v F2 H2 g2 r2 => k v F2 H2 (g1.trans g2) r2)
  | false => exact iteF (k _ F1 H1 g1 rfl)
theorem xe_or (h : XE X Γ a rB p) (h' : p = false → XE X Γ (.BoolOp .Or (b :: rest) pos) rB q) : XE X Γ (.BoolOp .Or (a :: b :: rest) pos) rB (p || q) := by
  intro σ F H D g e Q k
  refine (pe_or (pe_ a) (pe_ _)).wp (h σ F H D g e _ fun v F1 H1 g1 r => ⟨p, r, ?_⟩)
  cases p with
  | false => exact iteF (h' rfl σ F1 H1 D (g.grow g1) (e.grow g g1) _ fun v F2 H2 g2 r2 => k v F2 H2 (g1.trans g2) r2)
  | true => exact iteT (k _ F1 H1 g1 rfl)
theorem xe_not (h : XE X Γ a rB p) : XE X Γ (.UnaryOp .Not a pos) rB (!p) := fun σ F H D g e Q q => (pe_not (pe_ a)).wp (h σ F H D g e _ fun v F1 H1 g1 r => ⟨p, r, q _ F1 H1 g1 rfl⟩)

/-! ### arguments, tuples, lists -/
theorem xa_nil : XA X Γ [] [] := fun σ F H D g e Q q => pa_nil.wp (q [] F H [] (.refl g.fh) (List.nil_sublist _) ⟨rfl, rfl⟩)
theorem xa_cons {es : List Expr} {ss : Gm} (h : XE X Γ a R x) (hr : XA X Γ es ss) (hs : starEach (a :: es) X.env = (false, eval a X.env) :: starEach es X.env := by rfl) : XA X Γ (a :: es) (.is R x :: ss) := by
  intro σ F H D g e Q q
  refine (pa_cons (pe_ a) (pa_ es) hs).wp (h σ F H D g e _ fun v F1 H1 g1 r1 => hr σ F1 H1 D (g.grow g1) (e.grow g g1) _ fun vs F2 H2 D2 g2 s2 e2 => ?_)
  exact q (v :: vs) F2 H2 D2 (g1.trans g2) s2 ⟨[], D2, rfl, ⟨rfl, v, rfl, R.mono g2.ff r1⟩, e2⟩
/-- several values in a row, for a tuple or a list -/
def XR {α : Type} (X : Cx) (Γ : Gm) (es : List Expr) (T : Rw α) (x : α) : Prop :=
  ∀ σ F H D, Good F H D → Env F H D Γ σ → ∀ Q : List V → Hp → Prop, (∀ vs F' H', Grow F H F' H' → T.ok F' vs x → vs.length = es.length → Q vs H') → wpA X es σ H Q
theorem xr_1 (h : XE X Γ a R x) (hs : starEach [a] X.env = (false, eval a X.env) :: starEach [] X.env := by rfl) : XR X Γ [a] (w1 R) x := by
  intro σ F H D g e Q q
  exact (pa_cons (pe_ a) pa_nil hs).wp (h σ F H D g e _ fun v F1 H1 g1 r1 => q [v] F1 H1 g1 ⟨v, rfl, r1⟩ rfl)
theorem xr_c {es : List Expr} {T : Rw β} (h : XE X Γ a R x) (hr : XR X Γ es T y) (hs : starEach (a :: es) X.env = (false, eval a X.env) :: starEach es X.env := by rfl) : XR X Γ (a :: es) (wc R T) (x, y) := by
  intro σ F H D g e Q q
  refine (pa_cons (pe_ a) (pa_ es) hs).wp (h σ F H D g e _ fun v F1 H1 g1 r1 => hr σ F1 H1 D (g.grow g1) (e.grow g g1) _ fun vs F2 H2 g2 r2 l2 => ?_)
  exact q (v :: vs) F2 H2 (g1.trans g2) ⟨v, vs, rfl, R.mono g2.ff r1, r2⟩ (by simp [l2])
theorem xe_tup {es : List Expr} {T : Rw α} {k1} (h : XR X Γ es T x) (hl : es.length ≤ 1000 := by decide) : XE X Γ (.Tuple es k1 pos) (rT T) x := by
  intro σ F H D g e Q q
  refine (pe_tup (pa_ es)).wp (h σ F H D g e _ fun vs F1 H1 g1 r l => ⟨by rw [l]; exact Nat.le_trans hl (by decide), fun p np => ?_⟩)
  have gl := Grow.laid (o := HO.tup vs) g1.fh np (fun _ _ z => by cases z)
  exact q _ _ _ (g1.trans gl) ⟨p, vs, rfl, upd_same, T.mono gl.ff r⟩
/-- items of one kind -/
def XL {α : Type} (X : Cx) (Γ : Gm) (es : List Expr) (R : Rp α) (xs : List α) : Prop :=
  ∀ σ F H D, Good F H D → Env F H D Γ σ → ∀ Q : List V → Hp → Prop, (∀ vs F' H', Grow F H F' H' → Paired (R.ok F') vs xs → vs.length = es.length → Q vs H') → wpA X es σ H Q
theorem xl_nil : XL X Γ [] R [] := fun σ F H D g e Q q => pa_nil.wp (q [] F H (.refl g.fh) .nil rfl)
theorem xl_cons {es : List Expr} {xs : List α} (h : XE X Γ a R x) (hr : XL X Γ es R xs) (hs : starEach (a :: es) X.env = (false, eval a X.env) :: starEach es X.env := by rfl) : XL X Γ (a :: es) R (x :: xs) := by
  intro σ F H D g e Q q
  refine (pa_cons (pe_ a) (pa_ es) hs).wp (h σ F H D g e _ fun v F1 H1 g1 r1 => hr σ F1 H1 D (g.grow g1) (e.grow g g1) _ fun vs F2 H2 g2 r2 l2 => ?_)
  exact q (v :: vs) F2 H2 (g1.trans g2) (.cons (R.mono g2.ff r1) r2) (by simp [l2])
theorem prd_len {α β : Type} {G : α → β → Prop} {vs : List α} {xs : List β} (h : Paired G vs xs) : vs.length = xs.length := h.length
theorem xe_list {es : List Expr} {xs : List α} (h : XL X Γ es R xs) (hl : es.length ≤ 1000 := by decide) : XE X Γ (.List es pos) (rL R) xs := by
  intro σ F H D g e Q q
  refine (pe_lst (pa_ es)).wp (h σ F H D g e _ fun vs F1 H1 g1 r l => ⟨by rw [l]; exact Nat.le_trans hl (by decide), fun p np => ?_⟩)
  have gl := Grow.laid (o := HO.lst vs) g1.fh np (fun _ _ z => by cases z)
  exact q _ _ _ (g1.trans gl) ⟨by rw [← prd_len r, l]; exact Nat.le_trans hl (by decide), p, vs, rfl, upd_same, prd_mono gl.ff r⟩
/-- a tuple of items of one kind -/
theorem xe_vtup {es : List Expr} {xs : List α} {k1} (h : XL X Γ es R xs) (hl : es.length ≤ 1000 := by decide) : XE X Γ (.Tuple es k1 pos) (rV R) xs := by
  intro σ F H D g e Q q
  refine (pe_tup (pa_ es)).wp (h σ F H D g e _ fun vs F1 H1 g1 r l => ⟨by rw [l]; exact Nat.le_trans hl (by decide), fun p np => ?_⟩)
  have gl := Grow.laid (o := HO.tup vs) g1.fh np (fun _ _ z => by cases z)
  exact q _ _ _ (g1.trans gl) ⟨by rw [← prd_len r, l]; exact Nat.le_trans hl (by decide), p, vs, rfl, upd_same, prd_mono gl.ff r⟩

/-! ### items -/
structure IxX (X : Cx) (R1 : Rp α) (R2 : Rp β) (R3 : Rp γ) (ok : α → β → Prop) (op : α → β → γ) : Prop where
  ex : ∃ r : L2.R2, IxR X r ∧ ∀ F H v u x y, Same F (Vw H) → R1.ok F v x → R2.ok F u y → ok x y → ∀ Q : VK, (∀ z F' H', Grow F H F' H' → R3.ok F' z (op x y) → Q z H') → r v u H Q
theorem xe_ix (h : IxX X R1 R2 R3 ok op) (ha : XE X Γ a R1 x) (hb : XE X Γ b R2 y) (hk : ok x y) (hs : PlainIx b := by exact fun _ _ => rfl) : XE X Γ (.Subscript a b pos) R3 (op x y) := by
  obtain ⟨r, ho, go⟩ := h.ex
  intro σ F H D g e Q q
  refine (pe_ix ho (pe_ a) (pe_ b) hs).wp (ha σ F H D g e _ fun v F1 H1 g1 r1 => hb σ F1 H1 D (g.grow g1) (e.grow g g1) _ fun u F2 H2 g2 r2 => ?_)
  exact go F2 H2 v u x y g2.fh (R1.mono g2.ff r1) r2 hk Q fun z F' H' g3 r3 => q z F' H' ((g1.trans g2).trans g3) r3
/-- an item by its place, counted from the end where below nought -/
def ix [Inhabited α] (xs : List α) (i : Int) : α := (atI xs i).getD default
def inR (xs : List α) (i : Int) : Prop := -(xs.length : Int) ≤ i ∧ i < xs.length
theorem _root_.PySem.Paired.get {G : α → β → Prop} {vs : List α} {xs : List β} (h : Paired G vs xs) : ∀ {j : Nat} {v : α}, vs[j]? = some v → ∃ x, xs[j]? = some x ∧ G v x := by
  induction h with
  | nil => intro j v e; simp at e
  | cons r _ ih =>
    intro j v e
    cases j with
    | zero => simp at e; subst e; exact ⟨_, rfl, r⟩
    | succ j => simpa using ih (j := j) (v := v) (by simpa using e)
theorem atI_some {xs : List α} {i : Int} (h : inR xs i) : ∃ v, atI xs i = some v := by
  unfold atI ixN
  have h1 := h.1
  have h2 := h.2
  by_cases c : 0 ≤ i
  · rw [if_pos c, if_pos h2]
    exact ⟨xs[i.toNat]'(by omega), List.getElem?_eq_getElem _⟩
  · rw [if_neg c, if_pos h1]
    exact ⟨xs[(i + xs.length).toNat]'(by omega), List.getElem?_eq_getElem _⟩
theorem at_pair {G : β → α → Prop} {vs : List β} {xs : List α} (h : Paired G vs xs) [Inhabited α] {i : Int} (hi : inR xs i) : ∃ v, atI vs i = some v ∧ G v (ix xs i) := by
  have hl : vs.length = xs.length := h.length
  obtain ⟨v, e⟩ := atI_some (xs := vs) (i := i) (by unfold inR; rw [hl]; exact hi)
  refine ⟨v, e, ?_⟩
  unfold atI at e
  cases c : ixN vs.length i with
  | none => rw [c] at e; cases e
  | some j =>
    rw [c] at e
    obtain ⟨x, e2, g⟩ := h.get (j := j) (v := v) e
    have : ix xs i = x := by
      unfold ix atI
      rw [← hl, c]
      show (xs[j]?).getD default = x
      rw [e2]; rfl
    rw [this]; exact g
theorem i_list [Inhabited α] : IxX X (rL R) rI R inR ix :=
  ⟨_, ix_list, fun F H v u x y s ⟨_, p, vs, e, h, q⟩ r2 hi Q k => by
    obtain ⟨w', e1, g⟩ := at_pair q hi
    exact ⟨p, vs, y, w', e, r2, .inl (rd_of (s _ _ h)), e1, k _ F H (.refl s) g⟩⟩
theorem i_vtup [Inhabited α] : IxX X (rV R) rI R inR ix :=
  ⟨_, ix_tup, fun F H v u x y s ⟨_, p, vs, e, h, q⟩ r2 hi Q k => by
    obtain ⟨w', e1, g⟩ := at_pair q hi
    exact ⟨p, vs, y, w', e, r2, .inl (rd_of (s _ _ h)), e1, k _ F H (.refl s) g⟩⟩
/-- an item of a tuple by a written place -/
class RwAt {α : Type} {β : outParam Type} (T : Rw α) (i : Nat) (R : outParam (Rp β)) (f : outParam (α → β)) : Prop where
  at_ : ∀ {F : Hp} {vs : List V} {x : α}, T.ok F vs x → ∃ v, vs[i]? = some v ∧ R.ok F v (f x)
instance rw_at1 : RwAt (w1 R) 0 R (fun x => x) := ⟨fun ⟨v, e, h⟩ => ⟨v, by rw [e]; rfl, h⟩⟩
instance rw_at0 {T : Rw β} : RwAt (wc R T) 0 R (fun x => x.1) := ⟨fun ⟨v, r, e, h, _⟩ => ⟨v, by rw [e]; rfl, h⟩⟩
instance rw_atS {T : Rw β} {i : Nat} {R' : Rp γ} {f : β → γ} [t : RwAt T i R' f] : RwAt (wc R T) (i + 1) R' (fun x => f x.2) := ⟨fun ⟨v, r, e, _, q⟩ => by
  obtain ⟨u, e1, h1⟩ := t.at_ q
  exact ⟨u, by rw [e]; simpa using e1, h1⟩⟩
theorem xe_at {T : Rw α} {R' : Rp β} {f : α → β} (i : Nat) [t : RwAt T i R' f] {j pos'} (ha : XE X Γ a (rT T) x) : XE X Γ (.Subscript a (.Constant (.int (i : Int)) j pos') pos) R' (f x) := by
  intro σ F H D g e Q q
  refine (pe_ix ix_tup (pe_ a) pe_int (fun _ _ => rfl)).wp (ha σ F H D g e _ fun v F1 H1 g1 ⟨p, vs, e1, h, r⟩ => ?_)
  obtain ⟨u, e2, r2⟩ := t.at_ r
  exact ⟨p, vs, (i : Int), u, e1, rfl, .inl (rd_of (g1.fh _ _ h)), atI_nat e2, q u F1 H1 g1 r2⟩
section
variable {α0 α1 α2 α3 α4 α5 α6 τ : Type} {S0 : Rp α0} {S1 : Rp α1} {S2 : Rp α2} {S3 : Rp α3} {S4 : Rp α4} {S5 : Rp α5} {S6 : Rp α6} {T : Rw τ} {a : Expr} {pos pos' : Pos} {j : Nat}
theorem a0 {x : α0 × τ} (ha : XE X Γ a (rT (wc S0 T)) x) : XE X Γ (.Subscript a (.Constant (.int 0) j pos') pos) S0 x.1 := xe_at (T := wc S0 T) (x := x) (f := fun x => x.1) 0 ha
theorem a1l {x : α0 × α1} (ha : XE X Γ a (rT (wc S0 (w1 S1))) x) : XE X Γ (.Subscript a (.Constant (.int 1) j pos') pos) S1 x.2 := xe_at (T := wc S0 (w1 S1)) (x := x) (f := fun x => x.2) 1 ha
theorem a1 {x : α0 × α1 × τ} (ha : XE X Γ a (rT (wc S0 (wc S1 T))) x) : XE X Γ (.Subscript a (.Constant (.int 1) j pos') pos) S1 x.2.1 := xe_at (T := wc S0 (wc S1 T)) (x := x) (f := fun x => x.2.1) 1 ha
theorem a2l {x : α0 × α1 × α2} (ha : XE X Γ a (rT (wc S0 (wc S1 (w1 S2)))) x) : XE X Γ (.Subscript a (.Constant (.int 2) j pos') pos) S2 x.2.2 := xe_at (T := wc S0 (wc S1 (w1 S2))) (x := x) (f := fun x => x.2.2) 2 ha
theorem a2 {x : α0 × α1 × α2 × τ} (ha : XE X Γ a (rT (wc S0 (wc S1 (wc S2 T)))) x) : XE X Γ (.Subscript a (.Constant (.int 2) j pos') pos) S2 x.2.2.1 := xe_at (T := wc S0 (wc S1 (wc S2 T))) (x := x) (f := fun x => x.2.2.1) 2 ha
theorem a3l {x : α0 × α1 × α2 × α3} (ha : XE X Γ a (rT (wc S0 (wc S1 (wc S2 (w1 S3))))) x) : XE X Γ (.Subscript a (.Constant (.int 3) j pos') pos) S3 x.2.2.2 := xe_at (T := wc S0 (wc S1 (wc S2 (w1 S3)))) (x := x) (f := fun x => x.2.2.2) 3 ha
theorem a3 {x : α0 × α1 × α2 × α3 × τ} (ha : XE X Γ a (rT (wc S0 (wc S1 (wc S2 (wc S3 T))))) x) : XE X Γ (.Subscript a (.Constant (.int 3) j pos') pos) S3 x.2.2.2.1 := xe_at (T := wc S0 (wc S1 (wc S2 (wc S3 T)))) (x := x) (f := fun x => x.2.2.2.1) 3 ha
theorem a4l {x : α0 × α1 × α2 × α3 × α4} (ha : XE X Γ a (rT (wc S0 (wc S1 (wc S2 (wc S3 (w1 S4)))))) x) : XE X Γ (.Subscript a (.Constant (.int 4) j pos') pos) S4 x.2.2.2.2 := xe_at (T := wc S0 (wc S1 (wc S2 (wc S3 (w1 S4))))) (x := x) (f := fun x => x.2.2.2.2) 4 ha
theorem a4 {x : α0 × α1 × α2 × α3 × α4 × τ} (ha : XE X Γ a (rT (wc S0 (wc S1 (wc S2 (wc S3 (wc S4 T)))))) x) : XE X Γ (.Subscript a (.Constant (.int 4) j pos') pos) S4 x.2.2.2.2.1 := xe_at (T := wc S0 (wc S1 (wc S2 (wc S3 (wc S4 T))))) (x := x) (f := fun x => x.2.2.2.2.1) 4 ha
theorem a5l {x : α0 × α1 × α2 × α3 × α4 × α5} (ha : XE X Γ a (rT (wc S0 (wc S1 (wc S2 (wc S3 (wc S4 (w1 S5))))))) x) : XE X Γ (.Subscript a (.Constant (.int 5) j pos') pos) S5 x.2.2.2.2.2 := xe_at (T := wc S0 (wc S1 (wc S2 (wc S3 (wc S4 (w1 S5)))))) (x := x) (f := fun x => x.2.2.2.2.2) 5 ha
theorem a5 {x : α0 × α1 × α2 × α3 × α4 × α5 × τ} (ha : XE X Γ a (rT (wc S0 (wc S1 (wc S2 (wc S3 (wc S4 (wc S5 T))))))) x) : XE X Γ (.Subscript a (.Constant (.int 5) j pos') pos) S5 x.2.2.2.2.2.1 := xe_at (T := wc S0 (wc S1 (wc S2 (wc S3 (wc S4 (wc S5 T)))))) (x := x) (f := fun x => x.2.2.2.2.2.1) 5 ha
theorem a6l {x : α0 × α1 × α2 × α3 × α4 × α5 × α6} (ha : XE X Γ a (rT (wc S0 (wc S1 (wc S2 (wc S3 (wc S4 (wc S5 (w1 S6)))))))) x) : XE X Γ (.Subscript a (.Constant (.int 6) j pos') pos) S6 x.2.2.2.2.2.2 := xe_at (T := wc S0 (wc S1 (wc S2 (wc S3 (wc S4 (wc S5 (w1 S6))))))) (x := x) (f := fun x => x.2.2.2.2.2.2) 6 ha
theorem a6 {x : α0 × α1 × α2 × α3 × α4 × α5 × α6 × τ} (ha : XE X Γ a (rT (wc S0 (wc S1 (wc S2 (wc S3 (wc S4 (wc S5 (wc S6 T)))))))) x) : XE X Γ (.Subscript a (.Constant (.int 6) j pos') pos) S6 x.2.2.2.2.2.2.1 := xe_at (T := wc S0 (wc S1 (wc S2 (wc S3 (wc S4 (wc S5 (wc S6 T))))))) (x := x) (f := fun x => x.2.2.2.2.2.2.1) 6 ha
end
theorem niceS_len {x : Str} (h : niceS x = true) : x.length ≤ 100000 := of_decide_eq_true (Bool.and_eq_true_iff.mp h).1
theorem niceS_ok {x : Str} (h : niceS x = true) : PyData.strOk x = true := (Bool.and_eq_true_iff.mp h).2
theorem niceS_sign {z : Str} (h : niceS z = true) {c : Nat} (m : c ∈ z.cps.toList) : niceS ⟨#[c]⟩ = true := by
  have h2 := niceS_ok h
  unfold PyData.strOk at h2
  rw [Array.all_eq_true'] at h2
  have h3 := h2 c (by simpa using m)
  unfold niceS PyData.strOk
  simp only [Str.length]
  simpa using h3
theorem ix_mem [Inhabited α] {xs : List α} {i : Int} (h : inR xs i) : ix xs i ∈ xs := by
  obtain ⟨v, e⟩ := atI_some h
  unfold ix; rw [e]
  unfold atI at e
  cases c : ixN xs.length i with
  | none => rw [c] at e; cases e
  | some j => rw [c] at e; exact List.mem_of_getElem? e
theorem i_str : IxX X rS rI rS (fun z i => inR z.cps.toList i) (fun z i => ⟨#[ix z.cps.toList i]⟩) :=
  ⟨_, ix_str, fun F H v u x y s r1 r2 hi Q k => by
    obtain ⟨c, e⟩ := atI_some hi
    refine ⟨x, y, c, r1.1, r2, Nat.le_trans (niceS_len r1.2) (by decide), e, k _ F H (.refl s) ⟨?_, niceS_sign r1.2 (ix_mem hi)⟩⟩
    show V.str _ = V.str _
    unfold ix; rw [e]; rfl⟩
end
end Wf
/-! Rules of the typed layer for statements, loops, defs. -/
namespace Wf
open PySem L2

/-! ### forgetting -/
inductive Wk : Gm → Gm → Prop
  | nil : Wk [] []
  | same {s : Slot} {a b : Gm} : Wk a b → Wk (s :: a) (s :: b)
  | any {s : Slot} {a b : Gm} : Wk a b → Wk (s :: a) (.any :: b)
theorem Wk.refl : ∀ Γ : Gm, Wk Γ Γ
  | [] => .nil
  | _ :: r => .same (Wk.refl r)
theorem Wk.trans {a b c : Gm} (h : Wk a b) : Wk b c → Wk a c := by
  induction h generalizing c with
  | nil => exact id
  | same _ ih => intro k; cases k with
    | same k => exact .same (ih k)
    | any k => exact .any (ih k)
  | any _ ih => intro k; cases k with
    | same k => exact .any (ih k)
    | any k => exact .any (ih k)
theorem Wk.env {F H : Hp} {Γ Γ' : Gm} (h : Wk Γ Γ') : ∀ {D : List Addr} {σ : St}, Env F H D Γ σ → ∃ D', D'.Sublist D ∧ Env F H D' Γ' σ := by
  induction h with
  | nil => intro D σ e; exact ⟨D, .refl _, e⟩
  | same _ ih =>
    intro D σ e
    cases σ with
    | nil => exact e.elim
    | cons o σ =>
      obtain ⟨D1, D2, rfl, h1, h2⟩ := e
      obtain ⟨D3, s, h3⟩ := ih h2
      exact ⟨D1 ++ D3, (List.Sublist.refl _).append s, D1, D3, rfl, h1, h3⟩
  | any _ ih =>
    intro D σ e
    cases σ with
    | nil => exact e.elim
    | cons o σ =>
      obtain ⟨D1, D2, rfl, h1, h2⟩ := e
      obtain ⟨D3, s, h3⟩ := ih h2
      exact ⟨D3, s.trans (List.sublist_append_right _ _), [], D3, rfl, rfl, h3⟩

section
variable {X : Cx} {Γ : Gm} {PP : Program} {w : World} {K : PySem.W.Frag} {mg : Str → Option Value} {base : Heap} {N : List Str} {sc : Scope} {k : Nat} {dd : Bool}
variable {α β γ : Type} {R : Rp α} {R1 : Rp α} {R2 : Rp β} {R3 : Rp γ} {x : α} {y : β} {P : Post} {st : Stmt} {rest : List Stmt} {pos : Pos} {e : Expr}

/-! ### blocks -/
theorem xb_nil (h : ∃ Γ', Wk Γ Γ' ∧ P.nx Γ') : XB X Γ [] P := by
  intro σ F H D g en E m
  obtain ⟨Γ', wk, h⟩ := h
  obtain ⟨D', s, e'⟩ := wk.env en
  exact pss_nil.wp (m.nx Γ' h σ F H D' ((Step.refl g).sub s) e')
theorem xb_cons (h : XS X Γ st { P with nx := fun Γ' => XB X Γ' rest P }) : XB X Γ (st :: rest) P := by
  intro σ F H D g en E m
  refine (pss_cons (ps_ st) (pb_ rest)).wp ?_
  refine h σ F H D g en { E with nx := wpB X rest E } ⟨fun Γ' h' σ' F' H' D' a e' => h' σ' F' H' D' a.good e' E (m.step a), m.bk, m.ct, m.rt⟩
theorem xb_wk {Γ' : Gm} {sts : List Stmt} (wk : Wk Γ Γ') (h : XB X Γ' sts P) : XB X Γ sts P := by
  intro σ F H D g en E m
  obtain ⟨D', s, e'⟩ := wk.env en
  exact h σ F H D' (g.sub s) e' E (m.step ((Step.refl g).sub s))
theorem xt_wk {Γ' : Gm} {c : Expr} {b : Bool} (wk : Wk Γ Γ') (h : XT X Γ' c b) : XT X Γ c b := by
  intro σ F H D g en Q q
  obtain ⟨D', s, e'⟩ := wk.env en
  exact h σ F H D' (g.sub s) e' Q q
theorem xe_wk {Γ' : Gm} {c : Expr} (wk : Wk Γ Γ') (h : XE X Γ' c R x) : XE X Γ c R x := by
  intro σ F H D g en Q q
  obtain ⟨D', s, e'⟩ := wk.env en
  exact h σ F H D' (g.sub s) e' Q q
theorem xs_imp {P P' : Post} (h : XS X Γ st P) (n : ∀ Γ, P.nx Γ → P'.nx Γ) (b : ∀ Γ, P.bk Γ → P'.bk Γ) (c : ∀ Γ, P.ct Γ → P'.ct Γ) (r : ∀ s, P.rt s → P'.rt s) : XS X Γ st P' := fun σ F H D g en E m =>
  h σ F H D g en E ⟨fun Γ q => m.nx Γ (n Γ q), fun Γ q => m.bk Γ (b Γ q), fun Γ q => m.ct Γ (c Γ q), fun s q => m.rt s (r s q)⟩
/-- all ways through a statement meet again -/
theorem xb_cut (Γ' : Gm) (h : XS X Γ st { P with nx := fun G => Wk G Γ' }) (h' : XB X Γ' rest P) : XB X Γ (st :: rest) P :=
  xb_cons (xs_imp h (fun G wk => xb_wk wk h') (fun _ q => q) (fun _ q => q) fun _ q => q)
theorem xb_one (h : XS X Γ st P) : XB X Γ [st] P := fun σ F H D g en E m => (pss_one (ps_ st)).wp (h σ F H D g en E m)

/-! ### small statements -/
theorem xs_asg (C : Ctx X PP w K mg base N sc k dd) (j : Nat) {n : Str} {pos' : Pos} (he : XE X Γ e R x) (hl : locB sc dd n = true) (hn : P.nx (Γ.set j (.is R x))) (hN : N[j]? = some n := by rfl) (hs : swapsWith e (some (.Name n pos')) pos.line X.env = pure false := by rfl) :
    XS X Γ (.Assign [.Name n pos'] e pos) P := by
  intro σ F H D g en E m
  obtain ⟨l1, l2⟩ := C.loc hl
  refine (ps_set (i := j) (by rw [C.N]; exact C.nd) (by rw [C.N]; exact hN) l1 (pe_ e) hs l2).wp (he σ F H D g en _ fun v F' H' g' r => ?_)
  obtain ⟨D', s, e'⟩ := Env.set (s' := .is R x) (o' := some v) (F := F') (H := H') ⟨rfl, v, rfl, r⟩ j (en.grow g g')
  exact m.nx _ hn _ F' H' D' ((Step.of g g').sub s) e'
/-- a new object of one's own: what the expression gives stands in no frozen part -/
def XO {α : Type} (X : Cx) (Γ : Gm) (e : Expr) (A : Rs α) (x : α) : Prop :=
  ∀ σ F H D, Good F H D → Env F H D Γ σ → ∀ Q : VK, (∀ v F' H' D', Step F H [] F' H' D' → A.ok F' H' D' v x → Q v H') → wpE X e σ H Q
theorem Step.both {F H F' H' : Hp} {D D' : List Addr} (g : Good F H D) (a : Step F H [] F' H' D') : Step F H D F' H' (D ++ D') where
  ff := a.ff
  fh := a.fh
  keep := fun p o h _ => a.keep p o h (by simp)
  dom := a.dom
  new := fun p h h' _ => a.new p h h' (by simp)
  nd := List.nodup_append.mpr ⟨g.nd, a.nd, fun p hp q hq e => by
    subst e
    rcases a.dN p hq with z | z
    · cases z
    · exact g.dH p hp z⟩
  dF := fun p hp => (List.mem_append.mp hp).elim (fun z => a.grow.new p (g.dF p z) (g.dH p z)) fun z => a.dF p z
  dH := fun p hp => (List.mem_append.mp hp).elim (fun z => a.dom p (g.dH p z)) fun z => a.dH p z
  dN := fun p hp => (List.mem_append.mp hp).elim (fun z => .inl z) fun z => (a.dN p z).elim (fun q => by cases q) fun q => .inr q
theorem Step.perm {F H F' H' : Hp} {D D' D'' : List Addr} (a : Step F H D F' H' D') (s : ∀ p, p ∈ D'' → p ∈ D') (nd : D''.Nodup) : Step F H D F' H' D'' :=
  ⟨a.ff, a.fh, a.keep, a.dom, a.new, nd, fun p hp => a.dF p (s p hp), fun p hp => a.dH p (s p hp), fun p hp => a.dN p (s p hp)⟩
theorem isSome_lt {j : Nat} (h : Γ[j]?.isSome = true) : j < Γ.length := by
  cases q : Γ[j]? with
  | none => rw [q] at h; cases h
  | some o => exact (List.getElem?_eq_some_iff.mp q).1
/-- any slot may be overwritten: the other slots' parts, and the new one -/
theorem Env.put {F H : Hp} {s' : Slot} {o' : Option V} {D' : List Addr} (hs : s'.ok F H D' o') : ∀ {D : List Addr} {Γ : Gm} {σ : St} (i : Nat), i < Γ.length → Env F H D Γ σ → ∃ D1 D2, (D1 ++ D2).Sublist D ∧ Env F H (D1 ++ D' ++ D2) (Γ.set i s') (σ.set i o')
  | _, [], _, _, hi, _ => by simp at hi
  | _, _ :: _, [], _, _, h => h.elim
  | D, s :: Γ, o :: σ, 0, _, ⟨D1, D2, e, h, q⟩ => ⟨[], D2, by rw [e]; exact List.sublist_append_right _ _, D', D2, rfl, hs, q⟩
  | D, s :: Γ, o :: σ, i + 1, hi, ⟨D1, D2, e, h, q⟩ => by
    obtain ⟨D3, D4, h1, h2⟩ := Env.put hs i (by simpa using hi) q
    exact ⟨D1 ++ D3, D4, by rw [e, List.append_assoc]; exact (List.Sublist.refl _).append h1, D1, D3 ++ D' ++ D4, by simp, h, h2⟩
theorem put_step {F H F' H' : Hp} {D D' D1 D2 : List Addr} (g : Good F H D) (a : Step F H [] F' H' D') (s : (D1 ++ D2).Sublist D) : Step F H D F' H' (D1 ++ D' ++ D2) := by
  have b := Step.both g a
  refine b.perm (fun p hp => ?_) ?_
  · rcases List.mem_append.mp hp with z | z
    · rcases List.mem_append.mp z with z | z
      · exact List.mem_append_left _ (s.mem (List.mem_append_left _ z))
      · exact List.mem_append_right _ z
    · exact List.mem_append_left _ (s.mem (List.mem_append_right _ z))
  · have nd := b.nd
    rw [List.nodup_append] at nd
    have n12 := nd.1.sublist s
    rw [List.nodup_append] at n12
    rw [List.nodup_append, List.nodup_append]
    refine ⟨⟨n12.1, nd.2.1, fun p hp q hq => nd.2.2 p (s.mem (List.mem_append_left _ hp)) q hq⟩, n12.2.1, fun p hp q hq => ?_⟩
    rcases List.mem_append.mp hp with z | z
    · exact n12.2.2 p z q hq
    · exact fun e => nd.2.2 q (s.mem (List.mem_append_right _ hq)) p z e.symm
theorem xs_asgO (C : Ctx X PP w K mg base N sc k dd) (j : Nat) {n : Str} {pos' : Pos} {A : Rs α} (he : XO X Γ e A x) (hl : locB sc dd n = true) (hn : P.nx (Γ.set j (.res A x))) (hj : Γ[j]?.isSome = true := by rfl) (hN : N[j]? = some n := by rfl) (hs : swapsWith e (some (.Name n pos')) pos.line X.env = pure false := by rfl) :
    XS X Γ (.Assign [.Name n pos'] e pos) P := by
  intro σ F H D g en E m
  obtain ⟨l1, l2⟩ := C.loc hl
  refine (ps_set (i := j) (by rw [C.N]; exact C.nd) (by rw [C.N]; exact hN) l1 (pe_ e) hs l2).wp (he σ F H D g en _ fun v F' H' D' a r => ?_)
  obtain ⟨D1, D2, s, e'⟩ := Env.put (s' := .res A x) (o' := some v) (F := F') (H := H') (D' := D') ⟨v, rfl, r⟩ j (isSome_lt hj) (en.grow g a.grow)
  exact m.nx _ hn _ F' H' _ (put_step g a s) e'
theorem xo_newL (R : Rp α) {es : List Expr} {xs : List α} (h : XL X Γ es R xs) (hl : es.length ≤ 1000 := by decide) : XO X Γ (.List es pos) (oL R) xs := by
  intro σ F H D g en Q q
  refine (pe_lst (pa_ es)).wp (h σ F H D g en _ fun vs F1 H1 g1 r l => ⟨by rw [l]; exact Nat.le_trans hl (by decide), fun p np => ?_⟩)
  have gm := Grow.made (o := HO.lst vs) g1.fh np
  have nF : F1 p = none := by
    cases z : F1 p with
    | none => rfl
    | some u => exact absurd np (of_vw (g1.fh p u z))
  have g2 := g1.trans gm
  refine q _ F1 _ [p] ⟨g2.ff, g2.fh, fun b o hb _ => g2.hh b o hb, fun b hb => same_ne g2.hh hb, fun b h1 h2 _ => g2.new b h1 h2, by simp, fun b hb => ?_, fun b hb => ?_, fun b hb => ?_⟩ ⟨by rw [← prd_len r, l]; exact Nat.le_trans hl (by decide), p, vs, rfl, rfl, upd_same, r⟩
  all_goals (obtain rfl : b = p := by simpa using hb)
  · exact nF
  · rw [upd_same]; simp
  · refine .inr ?_
    cases z : H b with
    | none => rfl
    | some u => exact absurd np (ne_none (g1.hh b u z))
theorem xo_fresh {F H : Hp} {p : Addr} {o : HO} (h : Same F (Vw H)) (np : H p = none) : Step F H [] F (upd H p o) [p] := by
  have g := Grow.made (o := o) h np
  refine ⟨g.ff, g.fh, fun b o hb _ => g.hh b o hb, fun b hb => same_ne g.hh hb, fun b h1 h2 _ => g.new b h1 h2, by simp, fun b hb => ?_, fun b hb => ?_, fun b hb => ?_⟩
  all_goals (obtain rfl : b = p := by simpa using hb)
  · cases z : F b with
    | none => rfl
    | some u => exact absurd np (of_vw (h b u z))
  · rw [upd_same]; simp
  · exact .inr np
theorem xo_newK {κ : Type} (A : KF κ) (R : Rp α) : XO X Γ (.Dict [] [] pos) (oK A R) [] := fun σ F H D g en Q q =>
  pe_dnewK.wp fun p np => q _ F _ [p] (xo_fresh g.fh np) ⟨Nat.zero_le _, p, [], rfl, rfl, upd_same, .nil⟩
theorem xo_newKT {κ : Type} (A : KT' κ) (R : Rp α) : XO X Γ (.Dict [] [] pos) (oKT A R) [] := fun σ F H D g en Q q =>
  pe_dnewT.wp fun p np => q _ F _ [p] (xo_fresh g.fh np) ⟨Nat.zero_le _, p, [], rfl, rfl, upd_same, .nil⟩
theorem xs_ret (he : XE X Γ e R x) (hr : P.rt (.is R x)) : XS X Γ (.Return (some e) pos) P := fun σ F H D g en E m =>
  (ps_ret (pe_ e)).wp (he σ F H D g en _ fun v F' H' g' r => m.rt _ hr v F' H' [] ((Step.of g g').sub (List.nil_sublist _)) ⟨rfl, v, rfl, r⟩)
theorem xs_retO {A : Rs α} (he : XO X Γ e A x) (hr : P.rt (.res A x)) : XS X Γ (.Return (some e) pos) P := fun σ F H D g en E m =>
  (ps_ret (pe_ e)).wp (he σ F H D g en _ fun v F' H' D' a r => m.rt _ hr v F' H' D' ((Step.both g a).sub (List.sublist_append_right _ _)) ⟨v, rfl, r⟩)
/-- return of what is one's own -/
theorem xs_retV (C : Ctx X PP w K mg base N sc k dd) (i : Nat) {n : Str} {pos' : Pos} {A : Rs α} (hv : visB sc n = true) (hr : P.rt (.res A x)) (hN : N[i]? = some n := by rfl) (hs : Γ[i]? = some (.res A x) := by rfl)
    (hd : (n == ("__debug__" : Str)) = false := by decide +kernel) (hcd : (n == ("__classdict__" : Str)) = false := by decide +kernel) : XS X Γ (.Return (some (.Name n pos')) pos) P := by
  intro σ F H D g en E m
  obtain ⟨D1, o, h1, s, v, h3, h4⟩ := en.get hs
  subst h3
  exact (ps_ret (pe_var (i := i) (by rw [C.N]; exact hN) (C.vis hv) hd hcd)).wp ⟨v, h1, m.rt _ hr v F H D1 ((Step.refl g).sub s) ⟨v, rfl, h4⟩⟩
theorem xs_retN (hr : P.rt (.is rN ())) : XS X Γ (.Return none pos) P := fun σ F H D g en E m =>
  ps_retN.wp (m.rt _ hr _ F H [] ((Step.refl g).sub (List.nil_sublist _)) ⟨rfl, _, rfl, rfl⟩)
theorem xs_if {c : Expr} {a b : List Stmt} {p : Bool} (hc : XT X Γ c p) (ha : p = true → XB X Γ a P) (hb : p = false → XB X Γ b P) : XS X Γ (.If c a b pos) P := by
  intro σ F H D g en E m
  refine (ps_if (pt_ c) (pb_ a) (pb_ b)).wp (hc σ F H D g en _ fun F1 H1 g1 => ?_)
  cases p with
  | true => exact iteT (ha rfl σ F1 H1 D (g.grow g1) (en.grow g g1) E (m.step (Step.of g g1)))
  | false => exact iteF (hb rfl σ F1 H1 D (g.grow g1) (en.grow g g1) E (m.step (Step.of g g1)))
theorem xs_drop (he : XE X Γ e R x) (hn : P.nx Γ) (hs : swapsWith e none pos.line X.env = pure false := by rfl) : XS X Γ (.Expr e pos) P := fun σ F H D g en E m =>
  (ps_expr (pe_ e) hs).wp (he σ F H D g en _ fun v F' H' g' _ => m.nx _ hn σ F' H' D (Step.of g g') (en.grow g g'))
theorem xs_pass (hn : P.nx Γ) : XS X Γ (.Pass pos) P := fun σ F H D g en E m => ps_pass.wp (m.nx _ hn σ F H D (.refl g) en)
theorem xs_break (hn : ∃ Γ', Wk Γ Γ' ∧ P.bk Γ') : XS X Γ (.Break pos) P := fun σ F H D g en E m => by
  obtain ⟨Γ', wk, h⟩ := hn
  obtain ⟨D', s, e'⟩ := wk.env en
  exact ps_break.wp (m.bk Γ' h σ F H D' ((Step.refl g).sub s) e')
theorem xs_cont (hn : ∃ Γ', Wk Γ Γ' ∧ P.ct Γ') : XS X Γ (.Continue pos) P := fun σ F H D g en E m => by
  obtain ⟨Γ', wk, h⟩ := hn
  obtain ⟨D', s, e'⟩ := wk.env en
  exact ps_continue.wp (m.ct Γ' h σ F H D' ((Step.refl g).sub s) e')
/-- x op= e, ints -/
theorem xs_aug (C : Ctx X PP w K mg base N sc k dd) (j : Nat) {n : Str} {pos' : Pos} {o : Operator} {f : Int → Int → Int} {i z : Int} (ho : PIp X o (ipI f)) (he : XE X Γ e rI z) (hl : locB sc dd n = true) (hn : P.nx (Γ.set j (.is rI (f i z))))
    (hN : N[j]? = some n := by rfl) (hs : Γ[j]? = some (.is rI i) := by rfl) : XS X Γ (.AugAssign (.Name n pos') o e pos) P := by
  intro σ F H D g en E m
  obtain ⟨l1, l2⟩ := C.loc hl
  obtain ⟨D1, o1, h1, _, _, v, h3, h4⟩ := en.get hs
  subst h3
  refine (ps_aug (i := j) (by rw [C.N]; exact C.nd) (by rw [C.N]; exact hN) l1 (pe_ e) ho l2).wp ⟨v, h1, he σ F H D g en _ fun u F' H' g' r => ⟨i, z, h4, r, ?_⟩⟩
  obtain ⟨D', s, e'⟩ := Env.set (s' := .is rI (f i z)) (o' := some (.int (f i z))) (F := F') (H := H') ⟨rfl, _, rfl, rfl⟩ j (en.grow g g')
  exact m.nx _ hn _ F' H' D' ((Step.of g g').sub s) e'

/-! ### what is one's own becomes frozen -/
theorem xb_freeze {sts : List Stmt} (i : Nat) {A : Rs α} (h : XB X (Γ.set i (.is A.rd x)) sts P) (hs : Γ[i]? = some (.res A x) := by rfl) : XB X Γ sts P := by
  intro σ F H D g en E m
  obtain ⟨Da, D1, Db, o, e1, h1, ⟨v, h2, h3⟩, back⟩ := en.upd (s' := .any) (o' := none) (D1' := []) i hs
  subst h2
  subst e1
  have nd := g.nd
  have hsub : (Da ++ Db).Sublist (Da ++ D1 ++ Db) := (List.sublist_append_left _ _).append (.refl _)
  have apart : ∀ p, p ∈ Da ++ Db → p ∉ D1 := fun p hp hq => by
    rw [List.nodup_append, List.nodup_append] at nd
    rcases List.mem_append.mp hp with z | z
    · exact nd.1.2.2 p z p hq rfl
    · exact nd.2.2 p (List.mem_append_right _ hq) p z rfl
  have inD : ∀ p, p ∈ D1 → p ∈ Da ++ D1 ++ Db := fun p hp => List.mem_append_left _ (List.mem_append_right _ hp)
  have gs : Same F (ovl F H D1) := fun p u q => by
    rw [ovl_out (fun hp => by rw [g.dF p (inD p hp)] at q; cases q)]; exact q
  have gv : Same (ovl F H D1) (Vw H) := fun p u q => by
    by_cases hp : p ∈ D1
    · rw [ovl_in hp] at q; exact q
    · rw [ovl_out hp] at q; exact g.fh p u q
  have g' : Good (ovl F H D1) H (Da ++ Db) := ⟨gv, g.nd.sublist hsub, fun p hp => by rw [ovl_out (apart p hp)]; exact g.dF p (hsub.mem hp), fun p hp => g.dH p (hsub.mem hp)⟩
  have st : Step F H (Da ++ D1 ++ Db) (ovl F H D1) H (Da ++ Db) := ⟨gs, gv, fun _ _ h _ => h, fun _ h => h, fun p h1 _ h3 => by rw [ovl_out (fun hp => h3 (inD p hp))]; exact h1, g'.nd, g'.dF, g'.dH, fun p hp => .inl (hsub.mem hp)⟩
  have hset : σ.set i (some v) = σ := by
    apply List.ext_getElem?
    intro j
    by_cases hj : i = j
    · subst hj
      rw [List.getElem?_set_self (List.getElem?_eq_some_iff.mp h1).1, h1]
    · rw [List.getElem?_set_ne hj]
  have e' := back (s' := .is A.rd x) (o' := some v) (D1' := []) (F' := ovl F H D1) (H' := H) gs (fun _ _ => rfl) ⟨rfl, v, rfl, A.read (fun p hp => ovl_in hp) gs h3⟩
  rw [hset, List.append_nil] at e'
  exact h σ _ H _ g' e' E (m.step st)

/-! ### while -/
theorem xs_while (C : Ctx X PP w K mg base N sc k dd) {c : Expr} {body : List Stmt} (I : Nat → Gm → Prop) (h0 : ∃ m, I m Γ)
    (hs : ∀ m Γ', I m Γ' → ∃ b, XT X Γ' c b ∧ (b = true → XB X Γ' body { P with nx := fun G => ∃ m', m' < m ∧ I m' G, ct := fun G => ∃ m', m' < m ∧ I m' G, bk := P.nx }) ∧ (b = false → P.nx Γ')) : XS X Γ (.While c body [] pos) P := by
  intro σ F H D g en E me
  refine (ps_while C.own (pt_ c) (pb_ body)).wp ?_
  obtain ⟨m0, i0⟩ := h0
  refine ⟨fun m σ' H' => ∃ Γ' F' D', I m Γ' ∧ Step F H D F' H' D' ∧ Env F' H' D' Γ' σ', ⟨m0, Γ, F, D, i0, .refl g, en⟩, ?_⟩
  rintro m σ' H' ⟨Γ', F', D', i, a, en'⟩
  obtain ⟨b, ht, hb, hf⟩ := hs m Γ' i
  refine ht σ' F' H' D' a.good en' _ fun F1 H1 g1 => ?_
  have a1 := a.trans (Step.of a.good g1)
  have en1 := en'.grow a.good g1
  have me1 := me.step a1
  cases b with
  | true =>
    refine iteT ⟨fun σ2 H2 => ∃ m', m' < m ∧ ∃ Γ2 F2 D2, I m' Γ2 ∧ Step F H D F2 H2 D2 ∧ Env F2 H2 D2 Γ2 σ2, fun σ2 H2 ⟨m', l, q⟩ => ⟨m', l, q⟩, ?_⟩
    refine hb rfl σ' F1 H1 D' a1.good en1 _ ⟨?_, me1.nx, ?_, me1.rt⟩
    · rintro G ⟨m', l, i2⟩ σ2 F2 H2 D2 a2 e2
      exact ⟨m', l, G, F2, D2, i2, a1.trans a2, e2⟩
    · rintro G ⟨m', l, i2⟩ σ2 F2 H2 D2 a2 e2
      exact ⟨m', l, G, F2, D2, i2, a1.trans a2, e2⟩
  | false => exact iteF (me.nx Γ' (hf rfl) σ' F1 H1 D' a1 en1)

/-! ### targets -/
structure WpG (X : Cx) (tg : Expr) (v : V) (σ : St) (H : Hp) (Q : St → Hp → Prop) : Prop where
  go : ∀ pins s u, Inv X pins σ H s → RelV v u → wpAny (model X.prog X.w) X.A (assign tg X.env u) (fun _ s' => ∃ σ' H', Inv X pins σ' H' s' ∧ Q σ' H') X.xe s
def wpG (X : Cx) (tg : Expr) : TG := WpG X tg
theorem pg_ (tg : Expr) : PG X tg (wpG X tg) := ⟨fun pins s σ H v u Q I r h => h.go pins s u I r⟩
theorem _root_.L2.PG.wp {tg : Expr} {t : TG} (h : PG X tg t) {v : V} {σ : St} {H : Hp} {Q : St → Hp → Prop} (q : t v σ H Q) : wpG X tg v σ H Q := ⟨fun pins s u I r => h.run pins s σ H v u Q I r q⟩
/-- the target takes what stands for x: the slots behind it -/
def But (J : List Nat) (σ σ' : St) : Prop := σ'.length = σ.length ∧ ∀ i, i ∉ J → σ'[i]? = σ[i]?
theorem But.set (σ : St) (j : Nat) (o : Option V) : But [j] σ (σ.set j o) := ⟨List.length_set, fun i hi => List.getElem?_set_ne (fun e => hi (by simp [e]))⟩
theorem But.trans {J J' : List Nat} {a b c : St} (h : But J a b) (h' : But J' b c) : But (J ++ J') a c := ⟨h'.1.trans h.1, fun i hi => by
  rw [h'.2 i (fun z => hi (List.mem_append_right _ z)), h.2 i (fun z => hi (List.mem_append_left _ z))]⟩
def XG {α : Type} (X : Cx) (tg : Expr) (R : Rp α) (J : List Nat) (f : α → Gm → Gm) : Prop :=
  ∀ Γ v x σ F H D, Good F H D → Env F H D Γ σ → R.ok F v x → ∀ Q : St → Hp → Prop, (∀ σ' D', D'.Sublist D → Env F H D' (f x Γ) σ' → But J σ σ' → Q σ' H) → wpG X tg v σ H Q
theorem xg_name (C : Ctx X PP w K mg base N sc k dd) (j : Nat) {n : Str} {pos' : Pos} (hl : locB sc dd n = true) (hN : N[j]? = some n := by rfl) : XG X (.Name n pos') R [j] (fun x Γ => Γ.set j (.is R x)) := by
  intro Γ v x σ F H D g en r Q q
  obtain ⟨l1, l2⟩ := C.loc hl
  refine (pg_name (i := j) (by rw [C.N]; exact C.nd) (by rw [C.N]; exact hN) l1 l2).wp ?_
  obtain ⟨D', s, e'⟩ := Env.set (s' := .is R x) (o' := some v) (F := F) (H := H) ⟨rfl, v, rfl, r⟩ j en
  exact q _ D' s e' (But.set _ _ _)
structure WpGs (X : Cx) (ts : List Expr) (vs : List V) (σ : St) (H : Hp) (Q : St → Hp → Prop) : Prop where
  go : ∀ pins s us, Inv X pins σ H s → Vals vs us → wpAny (model X.prog X.w) X.A (assignInOrder ((assignEach ts X.env).map (·.2)) us) (fun _ s' => ∃ σ' H', Inv X pins σ' H' s' ∧ Q σ' H') X.xe s
def wpGs (X : Cx) (ts : List Expr) : TGs := WpGs X ts
theorem pgs_ (ts : List Expr) : PGs X ts (wpGs X ts) := ⟨fun pins s σ H v u Q I r h => h.go pins s u I r⟩
theorem _root_.L2.PGs.wp {ts : List Expr} {t : TGs} (h : PGs X ts t) {vs : List V} {σ : St} {H : Hp} {Q : St → Hp → Prop} (q : t vs σ H Q) : wpGs X ts vs σ H Q := ⟨fun pins s us I r => h.run pins s σ H vs us Q I r q⟩
def XGs {α : Type} (X : Cx) (ts : List Expr) (T : Rw α) (J : List Nat) (f : α → Gm → Gm) : Prop :=
  ∀ Γ vs x σ F H D, Good F H D → Env F H D Γ σ → T.ok F vs x → vs.length = ts.length ∧ ∀ Q : St → Hp → Prop, (∀ σ' D', D'.Sublist D → Env F H D' (f x Γ) σ' → But J σ σ' → Q σ' H) → wpGs X ts vs σ H Q
variable {J J' : List Nat} {t1 : Expr} {ts : List Expr} {f : α → Gm → Gm} {f' : β → Gm → Gm}
theorem xgs_1 (h : XG X t1 R J f) (hs : (assignEach [t1] X.env).map (·.2) = assign t1 X.env :: (assignEach [] X.env).map (·.2) := by rfl) : XGs X [t1] (w1 R) J f := by
  rintro Γ vs x σ F H D g en ⟨v, rfl, r⟩
  refine ⟨rfl, fun Q q => (pgs_cons (pg_ t1) pgs_nil hs).wp ⟨v, [], rfl, h Γ v x σ F H D g en r _ fun σ' D' s e' bt => ⟨rfl, q σ' D' s e' bt⟩⟩⟩
theorem xgs_c {T : Rw β} (h : XG X t1 R J f) (hr : XGs X ts T J' f') (hs : (assignEach (t1 :: ts) X.env).map (·.2) = assign t1 X.env :: (assignEach ts X.env).map (·.2) := by rfl) : XGs X (t1 :: ts) (wc R T) (J ++ J') (fun x Γ => f' x.2 (f x.1 Γ)) := by
  rintro Γ vs x σ F H D g en ⟨v, r, rfl, hv, hT⟩
  refine ⟨by simp [(hr Γ r x.2 σ F H D g en hT).1], fun Q q => (pgs_cons (pg_ t1) (pgs_ ts) hs).wp ⟨v, r, rfl, h Γ v x.1 σ F H D g en hv _ fun σ' D' s e' bt => ?_⟩⟩
  exact (hr (f x.1 Γ) r x.2 σ' F H D' (g.sub s) e' hT).2 Q fun σ2 D2 s2 e2 bt2 => q σ2 D2 (s2.trans s) e2 (bt.trans bt2)
theorem xg_tup (C : Ctx X PP w K mg base N sc k dd) {T : Rw α} {kk : Nat} (h : XGs X ts T J f) (hn : (assignEach ts X.env).length = ts.length := by rfl) (hst : (assignEach ts X.env).findIdx? (·.1) = none := by rfl) : XG X (.Tuple ts kk pos) (rT T) J f := by
  rintro Γ v x σ F H D g en ⟨p, vs, rfl, hp, ht⟩ Q q
  obtain ⟨l, go⟩ := h Γ vs x σ F H D g en ht
  exact (pg_tup C.calm (pgs_ ts) hn hst).wp ⟨p, vs, rfl, .inl (rd_of (g.fh _ _ hp)), l, go Q q⟩
/-- a, b, .. = e -/
theorem xs_unpack {tg : Expr} (he : XE X Γ e R x) (hg : XG X tg R J f) (hn : P.nx (f x Γ)) (hs : swapsWithSole [tg] e pos.line X.env = pure false := by rfl) (hw : swappedStores [tg] e X.env = pure none := by rfl)
    (h1 : (assignEach [tg] X.env).map (·.2) = [assign tg X.env] := by rfl) : XS X Γ (.Assign [tg] e pos) P := by
  intro σ F H D g en E m
  refine (ps_asg (pe_ e) (pg_ tg) hs hw h1).wp (he σ F H D g en _ fun v F' H' g' r => ?_)
  exact hg Γ v x σ F' H' D (g.grow g') (en.grow g g') r _ fun σ' D' s e' _ => m.nx _ hn σ' F' H' D' ((Step.of g g').sub s) e'

/-! ### walks -/
/-- what an iterator yields, as long as F1 stands -/
def Itr' (J : It) (F1 : Hp) (R : Rp α) (xs : List α) : Prop := ∀ i F' H', Same F1 F' → Same F' (Vw H') →
  (i = xs.length → J.stop i H') ∧ ∀ x, xs[i]? = some x → J.go i H' ∧ ∀ v H'', J.yld i H' v H'' → ∃ F'', Grow F' H' F'' H'' ∧ R.ok F'' v x
structure XI {α : Type} (X : Cx) (Γ : Gm) (tg iter : Expr) (R : Rp α) (xs : List α) : Prop where
  ex : ∃ wi, PI X tg iter wi ∧ ∀ σ F H D, Good F H D → Env F H D Γ σ → ∀ R' : It → Hp → Prop, (∀ J F1 H1, Grow F H F1 H1 → Itr' J F1 R xs → R' J H1) → wi σ H R'
theorem xs_for (C : Ctx X PP w K mg base N sc k dd) {tg iter : Expr} {body : List Stmt} {xs : List α} (I : Nat → Gm → Prop) (hi : XI X Γ tg iter R xs) (hg : XG X tg R J f) (h0 : I 0 Γ)
    (hb : ∀ i x Γ', xs[i]? = some x → I i Γ' → XB X (f x Γ') body { P with nx := I (i + 1), ct := I (i + 1), bk := P.nx }) (hd : ∀ Γ', I xs.length Γ' → P.nx Γ')
    (hs : ∀ x, foldedSetIterable iter X.env x = pure x := by intro _; rfl) : XS X Γ (.For tg iter body [] pos) P := by
  intro σ F H D g en E m
  obtain ⟨wi, pi, go⟩ := hi.ex
  refine (ps_for C.own C.calm pi (pg_ tg) (pb_ body) hs).wp (go σ F H D g en _ fun J F1 H1 g1 it => ?_)
  have a1 := Step.of g g1
  refine ⟨fun i n σ' H' => n = xs.length - i ∧ i ≤ xs.length ∧ ∃ Γ' F' D', I i Γ' ∧ Step F1 H1 D F' H' D' ∧ Env F' H' D' Γ' σ', ⟨xs.length, by simp, Nat.zero_le _, Γ, F1, D, h0, .refl a1.good, en.grow g g1⟩, ?_⟩
  rintro i n σ' H' ⟨rfl, hle, Γ', F', D', hI, a, en'⟩
  obtain ⟨stop, go⟩ := it i F' H' a.ff a.fh
  by_cases hlt : i < xs.length
  · obtain ⟨x, hx⟩ : ∃ x, xs[i]? = some x := ⟨xs[i], List.getElem?_eq_getElem hlt⟩
    obtain ⟨jg, jy⟩ := go x hx
    refine .inr ⟨jg, fun σ2 H2 => ∃ Γ2 F2 D2, I (i + 1) Γ2 ∧ Step F1 H1 D F2 H2 D2 ∧ Env F2 H2 D2 Γ2 σ2, fun σ2 H2 q => ⟨xs.length - (i + 1), by omega, rfl, hlt, q⟩, fun v H'' y => ?_⟩
    obtain ⟨F'', g2, r⟩ := jy v H'' y
    have a2 := a.trans (Step.of a.good g2)
    refine hg Γ' v x σ' F'' H'' D' a2.good (en'.grow a.good g2) r _ fun σ3 D3 s3 e3 _ => ?_
    have a3 := a2.sub s3
    refine hb i x Γ' hx hI σ3 F'' H'' D3 a3.good e3 _ ⟨?_, (m.step (a1.trans a3)).nx, ?_, (m.step (a1.trans a3)).rt⟩
    · exact fun G hG σ4 F4 H4 D4 a4 e4 => ⟨G, F4, D4, hG, a3.trans a4, e4⟩
    · exact fun G hG σ4 F4 H4 D4 a4 e4 => ⟨G, F4, D4, hG, a3.trans a4, e4⟩
  · have e : i = xs.length := by omega
    subst e
    exact .inl ⟨stop rfl, m.nx Γ' (hd Γ' hI) σ' F' H' D' (a1.trans a) en'⟩
variable {tg iter : Expr}
theorem xi_list {xs : List α} (h : XE X Γ iter (rL R) xs) : XI X Γ tg iter R xs := by
  refine ⟨_, pi_list (pe_ iter), fun σ F H D g en R' q => h σ F H D g en _ fun v F1 H1 g1 ⟨hz, p, vs, e, hp, pr⟩ => ?_⟩
  refine ⟨p, e, ⟨vs, .inl (rd_of (g1.fh _ _ hp))⟩, q _ F1 H1 g1 fun i F' H' s1 s2 => ?_⟩
  have hp' : SqL X.K H' p vs := .inl (rd_of (s2 _ _ (s1 _ _ hp)))
  have hl : vs.length = xs.length := pr.length
  refine ⟨fun e => ⟨vs, hp', by omega⟩, fun x hx => ?_⟩
  have hi : i < vs.length := by rw [hl]; exact (List.getElem?_eq_some_iff.mp hx).1
  refine ⟨⟨vs, vs[i], hp', List.getElem?_eq_getElem hi⟩, fun v H'' ⟨e, y⟩ => ?_⟩
  subst e
  obtain ⟨x', e1, r⟩ := pr.get (y vs hp')
  rw [hx] at e1; cases e1
  exact ⟨F', .refl s2, R.mono s1 r⟩
theorem xi_vtup {xs : List α} (h : XE X Γ iter (rV R) xs) : XI X Γ tg iter R xs := by
  refine ⟨_, pi_tup (pe_ iter), fun σ F H D g en R' q => h σ F H D g en _ fun v F1 H1 g1 ⟨hz, p, vs, e, hp, pr⟩ => ?_⟩
  refine ⟨p, e, ⟨vs, .inl (rd_of (g1.fh _ _ hp))⟩, q _ F1 H1 g1 fun i F' H' s1 s2 => ?_⟩
  have hp' : SqT X.K H' p vs := .inl (rd_of (s2 _ _ (s1 _ _ hp)))
  have hl : vs.length = xs.length := pr.length
  refine ⟨fun e => ⟨vs, hp', by omega⟩, fun x hx => ?_⟩
  have hi : i < vs.length := by rw [hl]; exact (List.getElem?_eq_some_iff.mp hx).1
  refine ⟨⟨vs, vs[i], hp', List.getElem?_eq_getElem hi⟩, fun v H'' ⟨e, y⟩ => ?_⟩
  subst e
  obtain ⟨x', e1, r⟩ := pr.get (y vs hp')
  rw [hx] at e1; cases e1
  exact ⟨F', .refl s2, R.mono s1 r⟩
/-- 0, 1, .. below n -/
def upTo (n : Int) : List Int := (List.range n.toNat).map fun (i : Nat) => (i : Int)
def fromTo (a b : Int) : List Int := (List.range (b - a).toNat).map fun (i : Nat) => a + (i : Int)
theorem itr_rng {lo : Int} {n : Nat} {F1 : Hp} : Itr' (Itr lo n) F1 rI ((List.range n).map fun (i : Nat) => lo + (i : Int)) := by
  intro i F' H' s1 s2
  refine ⟨fun e => ?_, fun x hx => ?_⟩
  · show n ≤ i
    simp at e; omega
  · rw [List.getElem?_map] at hx
    have hi : i < n := by
      cases q : (List.range n)[i]? with
      | none => rw [q] at hx; cases hx
      | some z => have := (List.getElem?_eq_some_iff.mp q).1; simpa using this
    rw [List.getElem?_range hi] at hx
    have hx' : lo + (i : Int) = x := by simpa using hx
    subst hx'
    exact ⟨hi, fun v H'' ⟨e, e2⟩ => by subst e; exact ⟨F', .refl s2, e2⟩⟩
theorem xi_range1 (C : Ctx X PP w K mg base N sc k dd) {a : Expr} {n : Int} {p : Pos} (hm : mg "range" = none) (ha : XE X Γ a rI n) (h : n < 2 ^ 62) (h' : -(2 ^ 62) ≤ n := by omega) (hg : gloB sc "range" = true := by decide +kernel) (hs : starEach [a] X.env = [(false, eval a X.env)] := by rfl) : XI X Γ tg (.Call (.Name "range" p) [a] [] pos) rI (upTo n) := by
  refine ⟨_, pi_range1 (C.gl hg) (by rw [C.mg]; exact hm) (pa_cons (pe_ a) pa_nil hs) hs, fun σ F H D g en R' q => ha σ F H D g en _ fun v F1 H1 g1 r => ⟨n, by rw [r], h', h, q _ F1 H1 g1 ?_⟩⟩
  have := itr_rng (lo := 0) (n := n.toNat) (F1 := F1)
  simpa [upTo] using this
theorem xi_range2 (C : Ctx X PP w K mg base N sc k dd) {a b : Expr} {i j : Int} {p : Pos} (hm : mg "range" = none) (ha : XE X Γ a rI i) (hb : XE X Γ b rI j) (h : -(2 ^ 62) ≤ i ∧ i < 2 ^ 62 ∧ -(2 ^ 62) ≤ j ∧ j < 2 ^ 62) (hg : gloB sc "range" = true := by decide +kernel)
    (hs : starEach [a, b] X.env = [(false, eval a X.env), (false, eval b X.env)] := by rfl) (hs2 : starEach [b] X.env = [(false, eval b X.env)] := by rfl) : XI X Γ tg (.Call (.Name "range" p) [a, b] [] pos) rI (fromTo i j) := by
  refine ⟨_, pi_range2 (C.gl hg) (by rw [C.mg]; exact hm) (pa_cons (pe_ a) (pa_cons (pe_ b) pa_nil hs2) (by rw [hs, hs2])) hs hs2, fun σ F H D g en R' q => ha σ F H D g en _ fun v F1 H1 g1 r => hb σ F1 H1 D (g.grow g1) (en.grow g g1) _ fun u F2 H2 g2 r2 => ?_⟩
  exact ⟨i, j, by rw [r, r2], h, q _ F2 H2 (g1.trans g2) itr_rng⟩

theorem prd_app {α β : Type} {G : α → β → Prop} {a c : List α} {b d : List β} (h : Paired G a b) (h' : Paired G c d) : Paired G (a ++ c) (b ++ d) := by
  induction h with
  | nil => exact h'
  | cons r _ ih => exact .cons r ih
/-! ### append -/
theorem xs_append (C : Ctx X PP w K mg base N sc k dd) (i : Nat) {n : Str} {p1 p2 p3 : Pos} {xs : List α} (he : XE X Γ e R x) (hv : visB sc n = true) (hl : xs.length ≤ 100000) (hn : P.nx (Γ.set i (.res (oL R) (xs ++ [x])))) (hN : N[i]? = some n := by rfl) (hs : Γ[i]? = some (.res (oL R) xs) := by rfl)
    (hd : (n == ("__debug__" : Str)) = false := by decide +kernel) (hcd : (n == ("__classdict__" : Str)) = false := by decide +kernel)
    (hbase : attributeBase (.Name n p1) "append" X.env (eval (.Name n p1) X.env) = eval (.Name n p1) X.env := by rfl) (hline : (p2.endLine == p3.line) = true := by rfl) (hst : starEach [e] X.env = (false, eval e X.env) :: starEach [] X.env := by rfl)
    (hfew : ((backTo p3 (starEach [e] X.env)).all (fun x => !x.1) && (backToKw p3 (keywordEach [] X.env)).all (fun x => x.1.isSome)
      && decide ([e].length + ([] : List Keyword).length + (if ([] : List Keyword).isEmpty then 0 else 1) < 30)) = true := by rfl)
    (hsw : swapsWith (.Call (.Attribute (.Name n p1) "append" p2) [e] [] p3) none pos.line X.env = pure false := by rfl) :
    XS X Γ (.Expr (.Call (.Attribute (.Name n p1) "append" p2) [e] [] p3) pos) P := by
  intro σ F H D g en E m
  obtain ⟨Da, D1, Db, o, e1, h1, ⟨v, h2, hz, p, vs, hv', hD1, hp, pr⟩, back⟩ := en.upd (s' := .any) (o' := none) (D1' := []) i hs
  subst h2 hv' hD1 e1
  refine (ps_expr (pe_bm PySem.F.plainAttrs_list PySem.F.slot_list_append PySem.F.type_list_append mt_append (pe_var (i := i) (by rw [C.N]; exact hN) (C.vis hv) hd hcd) (pa_cons (pe_ e) pa_nil hst) hbase hfew hline hst) hsw).wp ?_
  refine ⟨_, h1, .inl ⟨rfl, _, .inl (.inl hp)⟩, ?_⟩
  refine he σ F H _ g en _ fun u F1 H1 g1 r => ⟨p, vs, u, rfl, rfl, g1.hh _ _ hp, ?_, ?_⟩
  · rw [pr.length]; exact Nat.lt_of_le_of_lt hl (by decide)
  · have ga := g.grow g1
    have pin : p ∈ Da ++ [p] ++ Db := by simp
    have nF : F1 p = none := ga.dF p pin
    have pd : ∀ b ∈ Da ++ Db, b ≠ p := fun b hb z => by
      subst z
      have nd := g.nd
      rw [List.nodup_append, List.nodup_append] at nd
      rcases List.mem_append.mp hb with q | q
      · exact nd.1.2.2 b q b (by simp) rfl
      · exact nd.2.2 b (by simp) b q rfl
    have hv2 : Same F1 (Vw (upd H1 p (.lst (vs ++ [u])))) := fun b w' q => by
      have hb : b ≠ p := fun z => by subst z; rw [nF] at q; cases q
      have q2 := g1.fh b w' q
      unfold Vw at q2 ⊢
      rw [upd_ne hb]; exact q2
    have hset : σ.set i (some (.ref p)) = σ := by
      apply List.ext_getElem?
      intro j
      by_cases hj : i = j
      · subst hj
        rw [List.getElem?_set_self (List.getElem?_eq_some_iff.mp h1).1, h1]
      · rw [List.getElem?_set_ne hj]
    have e' := back (s' := .res (oL R) (xs ++ [x])) (o' := some (.ref p)) (D1' := [p]) (F' := F1) (H' := upd H1 p (.lst (vs ++ [u]))) g1.ff (fun b hb => by
      rw [upd_ne (pd b hb)]
      obtain ⟨o, ho⟩ := ex_of (g.dH b (by
        rcases List.mem_append.mp hb with q | q
        · exact List.mem_append_left _ (List.mem_append_left _ q)
        · exact List.mem_append_right _ q))
      rw [ho]; exact g1.hh _ _ ho) ⟨_, rfl, by rw [List.length_append]; exact Nat.le_trans (Nat.add_le_add_right hl 1) (by decide), p, vs ++ [u], rfl, rfl, upd_same, prd_app (prd_mono g1.ff pr) (.cons r .nil)⟩
    rw [hset] at e'
    refine m.nx _ hn σ F1 _ _ ⟨g1.ff, hv2, fun b o hb nb => ?_, fun b hb => ?_, fun b h1 h2 _ => g1.new b h1 h2, g.nd, ga.dF, fun b hb => ?_, fun b hb => .inl hb⟩ e'
    · have : b ≠ p := fun z => nb (z ▸ pin)
      rw [upd_ne this]; exact g1.hh b o hb
    · by_cases z : b = p
      · subst z; rw [upd_same]; simp
      · rw [upd_ne z]; exact same_ne g1.hh hb
    · by_cases z : b = p
      · subst z; rw [upd_same]; simp
      · rw [upd_ne z]; exact ga.dH b hb

/-! ### a def: its promise, its body, its call -/
/-- arguments of kinds ss i, where pre i, give a result of kind r i; nothing that stood changes -/
def fsp {ι : Type} (pre : ι → Prop) (ss : ι → Gm) (r : ι → Slot) : Sp := fun vs H Q _ => ∃ i F D, pre i ∧ Good F H D ∧ Env F H D (ss i) (vs.map some) ∧ ∀ v F' H' D', Step F H [] F' H' D' → (r i).ok F' H' D' (some v) → Q v H'
theorem Env.any {F H : Hp} : ∀ n : Nat, Env F H [] (List.replicate n Slot.any) (List.replicate n none)
  | 0 => ⟨rfl, rfl⟩
  | n + 1 => ⟨[], [], rfl, rfl, Env.any n⟩
theorem Env.app {F H : Hp} : ∀ {D D' : List Addr} {Γ Γ' : Gm} {σ σ' : St}, Env F H D Γ σ → Env F H D' Γ' σ' → Env F H (D ++ D') (Γ ++ Γ') (σ ++ σ')
  | _, _, [], _, _, _, ⟨d, s⟩, h => by subst d s; exact h
  | _, _, _ :: _, _, [], _, h, _ => h.elim
  | D, D', _ :: _, _, _ :: _, _, ⟨D1, D2, e, h, q⟩, h' => ⟨D1, D2 ++ D', by rw [e, List.append_assoc], h, Env.app q h'⟩
theorem Meets.ret {F H : Hp} {D : List Addr} (r : Slot) (rr : Slot → Prop) (Q : VK) (hn : ∀ F' H' D', Step F H D F' H' D' → rr (.is rN ()) → Q .non H') (h : ∀ s v F' H' D', rr s → Step F H D F' H' D' → s.ok F' H' D' (some v) → Q v H') :
    Meets ⟨fun _ => rr (.is rN ()), rr, fun _ => False, fun _ => False⟩ { nx := fun _ H' => Q .non H', rt := Q } F H D :=
  ⟨fun Γ q σ F' H' D' a _ => hn F' H' D' a q, fun _ q => q.elim, fun _ q => q.elim, fun s q v F' H' D' a ok => h s v F' H' D' q a ok⟩
end
def Fz : Gm → Prop
  | [] => True
  | .is _ _ :: r => Fz r
  | .any :: r => Fz r
  | .res _ _ :: _ => False
theorem Env.fz {F H : Hp} : ∀ {D : List Addr} {Γ : Gm} {σ : St}, Fz Γ → Env F H D Γ σ → D = []
  | _, [], _, _, ⟨d, _⟩ => d
  | _, _ :: _, [], _, h => h.elim
  | _, .is _ _ :: Γ, _ :: _, z, ⟨D1, D2, e, ⟨d, _⟩, q⟩ => by
    have h2 : D2 = [] := Env.fz (Γ := Γ) z q
    rw [e, d, h2]; rfl
  | _, .any :: Γ, _ :: _, z, ⟨D1, D2, e, d, q⟩ => by
    have h2 : D2 = [] := Env.fz (Γ := Γ) z q
    have h1 : D1 = [] := d
    rw [e, h1, h2]; rfl
  | _, .res _ _ :: _, _ :: _, z, _ => (show False from z).elim
abbrev FnP (K : PySem.W.Frag) (x qual : Str) (st : Stmt) (f : Addr) (fd : FuncData) : Prop := FunD K x qual (defArgs st) (defBody st) (defScope st) [] [] f fd
/-- a def whose arguments are no objects of one's own -/
theorem fn_pure {ι : Type} {pre : ι → Prop} {ss : ι → Gm} {r : ι → Slot} {P : Program} {w : World} {K : PySem.W.Frag} {mg : Str → Option Value} {base : Heap} {x qual : Str} {st : Stmt} {f : Addr} {fd : FuncData} {N ps : List Str} {k : Nat}
    (Fn : FnP K x qual st f fd) (S : FnScope N ps (defScope st)) (hl : ∀ i, (ss i).length = ps.length)
    (h : ∀ i, pre i → ∀ X : Cx, Ctx X P w K mg base N (defScope st) k true → XB X (ss i ++ List.replicate (N.length - ps.length) Slot.any) (defBody st) ⟨fun _ => r i = .is rN (), fun s => s = r i, fun _ => False, fun _ => False⟩)
    (hD : ∀ i, Fz (ss i) := by intro _; trivial) : FnOk P w K mg base CX0 (k + 1) f fd ps (fsp pre ss r) := by
  have hlen : ∀ vs H Q E, fsp pre ss r vs H Q E → vs.length = ps.length := fun vs H Q E ⟨i, F, D, _, _, e, _⟩ => by
    have := e.len
    rw [List.length_map] at this
    rw [this, hl i]
  refine Fn.ok S hlen fun cdv A outer s H vs Q E hr hsp => ?_
  have hvl := hlen _ _ _ _ hsp
  obtain ⟨i, F, D, hp, g, en, kq⟩ := hsp
  obtain rfl := en.fz (hD i)
  have C : Ctx (cxOf CX0 P w K mg base N qual (defScope st) f cdv A outer s H E).nox P w K mg base N (defScope st) k true := ⟨rfl, rfl, rfl, rfl, rfl, rfl, rfl, rfl, hr, S.nd, fun _ _ => rfl, PassesOwn.never⟩
  refine ⟨wpB _ (defBody st), PSs.nox (pb_ _), ?_⟩
  have e2 : Env F H [] (ss i ++ List.replicate (N.length - ps.length) Slot.any) (L2.start N vs) := by
    unfold L2.start
    rw [hvl]
    exact en.app (Env.any _)
  refine h i hp _ C (L2.start N vs) F H [] g e2 _ ⟨fun Γ q σ F' H' D' a _ => ?_, fun _ q => q.elim, fun _ q => q.elim, fun s q v F' H' D' a ok => ?_⟩
  · have q : r i = .is rN () := q
    exact kq .non F' H' [] (a.sub (List.nil_sublist _)) (by rw [q]; exact ⟨rfl, _, rfl, rfl⟩)
  · have q : s = r i := q
    rw [q] at ok
    exact kq v F' H' D' a ok
section
variable {X : Cx} {Γ : Gm} {P : Program} {w : World} {K : PySem.W.Frag} {mg : Str → Option Value} {base : Heap} {N : List Str} {sc : Scope} {k j : Nat} {dd : Bool}
variable {α ι : Type} {R : Rp α} {x : α} {pre : ι → Prop} {ss : ι → Gm} {r : ι → Slot} {f : Addr} {fd : FuncData} {ps : List Str} {n : Str} {p pos : Pos} {e : Expr} {es : List Expr}
/-- what a caller knows of a def -/
structure Fk (P : Program) (w : World) (K : PySem.W.Frag) (mg : Str → Option Value) (base : Heap) (j : Nat) (n : Str) (ps : List Str) (sp : Sp) : Prop where
  ex : ∃ f fd, FnOk P w K mg base CX0 j f fd ps sp ∧ mg n = some (.ref f) ∧ PySem.W.keepIn K (.ref f) = true ∧ Binds K fd ps []
theorem call_fk (C : Ctx X P w K mg base N sc k dd) {sp : Sp} (G : Fk P w K mg base j n ps sp) (hj : j ≤ k) (hg : gloB sc n = true) {Q : VK} {σ : St} {H : Hp} (h : wpA X (e :: es) σ H fun vs H' => sp vs H' Q E0)
    (hdb : (n == ("__debug__" : Str)) = false := by decide +kernel) (he : starEach (e :: es) X.env = (false, eval e X.env) :: starEach es X.env := by rfl) (hpl : (backTo pos (starEach es X.env)).any (·.1) = false := by rfl) : wpE X (.Call (.Name n p) (e :: es) [] pos) σ H Q := by
  obtain ⟨f, fd, F, hm, hk, hb⟩ := G.ex
  have hgl := C.gl hg
  obtain ⟨rfl, rfl, rfl, rfl, rfl, _, _, _, hr, _, _, _⟩ := C
  refine (pe_call F (hr.mono hj) hgl hm hk hb .nil pass0 (pa_ (e :: es)) hdb he hpl).wp ?_
  show wpA X (e :: es) σ H fun vs H1 => sp (vs ++ []) H1 Q E0
  simpa using h
theorem xe_call (C : Ctx X P w K mg base N sc k dd) (G : Fk P w K mg base j n ps (fsp pre ss r)) (i : ι) {ss' : Gm} (ha : XA X Γ (e :: es) ss') (hp : pre i) (hr : r i = .is R x := by rfl) (hss : ss' = ss i := by rfl) (hj : j ≤ k := by omega) (hg : gloB sc n = true := by decide +kernel)
    (hdb : (n == ("__debug__" : Str)) = false := by decide +kernel) (he : starEach (e :: es) X.env = (false, eval e X.env) :: starEach es X.env := by rfl) (hpl : (backTo pos (starEach es X.env)).any (·.1) = false := by rfl) : XE X Γ (.Call (.Name n p) (e :: es) [] pos) R x := by
  subst hss
  intro σ F H D g en Q q
  refine call_fk C G hj hg (ha σ F H D g en _ fun vs F' H' D' g' s e' => ⟨i, F', D', hp, (g.grow g').sub s, e', fun v F2 H2 D2 a ok => ?_⟩) hdb he hpl
  rw [hr] at ok
  obtain ⟨_, v', ev, ok⟩ := ok
  cases ev
  exact q v F2 H2 (g'.trans a.grow) ok
theorem xo_call (C : Ctx X P w K mg base N sc k dd) (G : Fk P w K mg base j n ps (fsp pre ss r)) (i : ι) {ss' : Gm} {A : Rs α} (ha : XA X Γ (e :: es) ss') (hp : pre i) (hr : r i = .res A x := by rfl) (hss : ss' = ss i := by rfl) (hj : j ≤ k := by omega) (hg : gloB sc n = true := by decide +kernel)
    (hdb : (n == ("__debug__" : Str)) = false := by decide +kernel) (he : starEach (e :: es) X.env = (false, eval e X.env) :: starEach es X.env := by rfl) (hpl : (backTo pos (starEach es X.env)).any (·.1) = false := by rfl) : XO X Γ (.Call (.Name n p) (e :: es) [] pos) A x := by
  subst hss
  intro σ F H D g en Q q
  refine call_fk C G hj hg (ha σ F H D g en _ fun vs F' H' D' g' s e' => ⟨i, F', D', hp, (g.grow g').sub s, e', fun v F2 H2 D2 a ok => ?_⟩) hdb he hpl
  rw [hr] at ok
  obtain ⟨v', ev, ok⟩ := ok
  cases ev
  have b : Step F H [] F' H' [] := ⟨g'.ff, g'.fh, fun p o h _ => g'.hh p o h, fun p h => same_ne g'.hh h, fun p h h' _ => g'.new p h h', by simp, fun _ z => (by cases z), fun _ z => (by cases z), fun _ z => (by cases z)⟩
  exact q v F2 H2 D2 (b.trans a) ok
/-- a new list that is handed back may be taken as frozen -/
theorem xe_ofO {A : Rs α} (h : XO X Γ e A x) : XE X Γ e A.rd x := by
  intro σ F H D g en Q q
  refine h σ F H D g en _ fun v F' H' D' a ok => ?_
  have gs : Same F' (ovl F' H' D') := fun p u z => by
    rw [ovl_out (fun hp => by rw [a.dF p hp] at z; cases z)]; exact z
  refine q v (ovl F' H' D') H' ⟨a.ff.trans gs, fun p u z => ?_, a.grow.hh, fun p h1 h2 => ?_⟩ (A.read (fun p hp => ovl_in hp) gs ok)
  · by_cases hp : p ∈ D'
    · rw [ovl_in hp] at z; exact z
    · rw [ovl_out hp] at z; exact a.fh p u z
  · rw [ovl_out fun hp => ?_]
    · exact a.grow.new p h1 h2
    · rcases a.dN p hp with z | z
      · cases z
      · exact h2 z
end
end Wf
/-! Built-ins in the typed layer. -/
namespace Wf
open PySem L2

/-- the built-in names that the texts use -/
def bnames : List Str := ["len", "range", "list", "dict", "sorted", "min", "max", "int", "str", "tuple", "isinstance", "zip", "enumerate", "abs", "all", "set", "any", "sum", "bool", "ValueError"]
def Free (mg : Str → Option Value) : Prop := ∀ x ∈ bnames, mg x = none
theorem Free.at_ {mg : Str → Option Value} (h : Free mg) {x : Str} (m : decide (x ∈ bnames) = true) : mg x = none := h x (of_decide_eq_true m)

section
variable {X : Cx} {Γ : Gm} {P : Program} {w : World} {K : PySem.W.Frag} {mg : Str → Option Value} {base : Heap} {N : List Str} {sc : Scope} {k : Nat} {dd : Bool}
variable {α β γ δ : Type} {R : Rp α} {R1 : Rp α} {R2 : Rp β} {R3 : Rp γ} {x : α} {y : β} {a b : Expr} {p pos : Pos}

/-! ### calls of built-ins, by values -/
structure C1X (X : Cx) (f : Value) (R1 : Rp α) (R3 : Rp γ) (ok : α → Prop) (op : α → γ) : Prop where
  ex : ∃ r : List V → Hp → VK → Prop, CallR X f r ∧ ∀ F H v x, Same F (Vw H) → R1.ok F v x → ok x → ∀ Q : VK, (∀ z F' H', Grow F H F' H' → R3.ok F' z (op x) → Q z H') → r [v] H Q
structure C2X (X : Cx) (f : Value) (R1 : Rp α) (R2 : Rp β) (R3 : Rp γ) (ok : α → β → Prop) (op : α → β → γ) : Prop where
  ex : ∃ r : List V → Hp → VK → Prop, CallR X f r ∧ ∀ F H v u x y, Same F (Vw H) → R1.ok F v x → R2.ok F u y → ok x y → ∀ Q : VK, (∀ z F' H', Grow F H F' H' → R3.ok F' z (op x y) → Q z H') → r [v, u] H Q
variable {ok : α → Prop} {op : α → γ} {ok2 : α → β → Prop} {op2 : α → β → γ} {n : Str} {id : String}
theorem xe_b1 (C : Ctx X P w K mg base N sc k dd) (hf : Free mg) (h : C1X X (.builtin id) R1 R3 ok op) (ha : XE X Γ a R1 x) (hk : ok x) (hv : bootBuiltins n = some (.builtin id)) (hg : gloB sc n = true := by decide +kernel) (hm : decide (n ∈ bnames) = true := by decide +kernel)
    (hn : n ≠ "__name__" := by decide +kernel) (hdb : (n == ("__debug__" : Str)) = false := by decide +kernel)
    (he : starEach [a] X.env = (false, eval a X.env) :: starEach [] X.env := by rfl) (hpl : (backTo pos (starEach [] X.env)).any (·.1) = false := by rfl) : XE X Γ (.Call (.Name n p) [a] [] pos) R3 (op x) := by
  obtain ⟨r, hr, go⟩ := h.ex
  intro σ F H D g en Q q
  refine (pe_callB hr (C.gl hg) (by rw [C.mg]; exact hf.at_ hm) hv (pa_cons (pe_ a) pa_nil he) hn hdb he hpl).wp (ha σ F H D g en _ fun v F1 H1 g1 r1 => ?_)
  exact go F1 H1 v x g1.fh r1 hk Q fun z F2 H2 g2 r2 => q z F2 H2 (g1.trans g2) r2
theorem xe_t1 (C : Ctx X P w K mg base N sc k dd) (hf : Free mg) (h : C1X X (.type id) R1 R3 ok op) (ha : XE X Γ a R1 x) (hk : ok x) (hv : bootBuiltins n = some (.type id)) (hg : gloB sc n = true := by decide +kernel) (hm : decide (n ∈ bnames) = true := by decide +kernel)
    (hn : n ≠ "__name__" := by decide +kernel) (hdb : (n == ("__debug__" : Str)) = false := by decide +kernel)
    (he : starEach [a] X.env = (false, eval a X.env) :: starEach [] X.env := by rfl) (hpl : (backTo pos (starEach [] X.env)).any (·.1) = false := by rfl) : XE X Γ (.Call (.Name n p) [a] [] pos) R3 (op x) := by
  obtain ⟨r, hr, go⟩ := h.ex
  intro σ F H D g en Q q
  refine (pe_callTy hr (C.gl hg) (by rw [C.mg]; exact hf.at_ hm) hv (pa_cons (pe_ a) pa_nil he) hn hdb he hpl).wp (ha σ F H D g en _ fun v F1 H1 g1 r1 => ?_)
  exact go F1 H1 v x g1.fh r1 hk Q fun z F2 H2 g2 r2 => q z F2 H2 (g1.trans g2) r2
theorem xe_b2 (C : Ctx X P w K mg base N sc k dd) (hf : Free mg) (h : C2X X (.builtin id) R1 R2 R3 ok2 op2) (ha : XE X Γ a R1 x) (hb : XE X Γ b R2 y) (hk : ok2 x y) (hv : bootBuiltins n = some (.builtin id)) (hg : gloB sc n = true := by decide +kernel) (hm : decide (n ∈ bnames) = true := by decide +kernel)
    (hn : n ≠ "__name__" := by decide +kernel) (hdb : (n == ("__debug__" : Str)) = false := by decide +kernel)
    (he : starEach [a, b] X.env = (false, eval a X.env) :: starEach [b] X.env := by rfl) (he' : starEach [b] X.env = (false, eval b X.env) :: starEach [] X.env := by rfl) (hpl : (backTo pos (starEach [b] X.env)).any (·.1) = false := by rfl) : XE X Γ (.Call (.Name n p) [a, b] [] pos) R3 (op2 x y) := by
  obtain ⟨r, hr, go⟩ := h.ex
  intro σ F H D g en Q q
  refine (pe_callB hr (C.gl hg) (by rw [C.mg]; exact hf.at_ hm) hv (pa_cons (pe_ a) (pa_cons (pe_ b) pa_nil he') he) hn hdb he hpl).wp (ha σ F H D g en _ fun v F1 H1 g1 r1 => hb σ F1 H1 D (g.grow g1) (en.grow g g1) _ fun u F2 H2 g2 r2 => ?_)
  exact go F2 H2 v u x y g2.fh (R1.mono g2.ff r1) r2 hk Q fun z F3 H3 g3 r3 => q z F3 H3 ((g1.trans g2).trans g3) r3

/-! ### len -/
theorem len_list : C1X X (.builtin "len") (rL R) rI (fun _ => True) (fun xs => (xs.length : Int)) :=
  ⟨_, call_len, fun F H v x s ⟨_, p, vs, e, h, q⟩ _ Q k => ⟨v, vs.length, rfl, by rw [e]; exact .inl ⟨vs, .inl (rd_of (s _ _ h)), rfl⟩, k _ F H (.refl s) (by show V.int _ = V.int _; rw [q.length])⟩⟩
theorem len_vtup : C1X X (.builtin "len") (rV R) rI (fun _ => True) (fun xs => (xs.length : Int)) :=
  ⟨_, call_len, fun F H v x s ⟨_, p, vs, e, h, q⟩ _ Q k => ⟨v, vs.length, rfl, by rw [e]; exact .inr ⟨vs, .inl (rd_of (s _ _ h)), rfl⟩, k _ F H (.refl s) (by show V.int _ = V.int _; rw [q.length])⟩⟩
theorem len_str : C1X X (.builtin "len") rS rI (fun _ => True) (fun z => (z.length : Int)) :=
  ⟨_, call_len, fun F H v x s r _ Q k => ⟨v, x.length, rfl, by rw [r.1]; exact ⟨Nat.le_trans (niceS_len r.2) (by decide), rfl⟩, k _ F H (.refl s) rfl⟩⟩
theorem d_lenR (h0 : X.calm = X.calm) : CallR X (.builtin "len") (fun xs H Q => ∃ a kvs, xs = [V.ref a] ∧ Rd H a (.dK kvs) ∧ Q (.int (kvs : List (Key × V)).length) H) := by
  intro pins s σ H xs us Q I r h
  obtain ⟨a, kvs, rfl, ha, q⟩ := h
  obtain ⟨u, rfl, ru⟩ := vals1 r
  cases (show u = Value.ref a from ru)
  exact d_len I ha fun t s' I' => ⟨.int _, H, I', ⟨t, rfl⟩, q⟩
theorem len_dict {κ : Type} {A : KF κ} : C1X X (.builtin "len") (rK A R) rI (fun _ => True) (fun xs => (xs.length : Int)) :=
  ⟨_, d_lenR rfl, fun F H v x s ⟨_, p, vs, e, h, q⟩ _ Q k => ⟨p, vs, by rw [e], rd_of (s _ _ h), k _ F H (.refl s) (by show V.int _ = V.int _; rw [q.length])⟩⟩

/-! ### the script -/
def SqV (K : PySem.W.Frag) (F : Hp) (a : Addr) (xs : List V) : Prop := F a = some (.lst xs) ∨ SqL K (fun _ => none) a xs
theorem SqV.sq {F H : Hp} {a : Addr} {xs : List V} (s : Same F (Vw H)) (h : SqV K F a xs) : SqL K H a xs := by
  rcases h with h | (h | h)
  · exact .inl (rd_of (s _ _ h))
  · rcases h with h | ⟨o, h⟩ <;> cases h
  · exact .inr h
def rSc (K : PySem.W.Frag) : Rp (List Int) := ⟨fun F v ns => ∃ a, v = .ref a ∧ SqV K F a (ns.map V.int), fun s ⟨a, e, h⟩ => ⟨a, e, h.imp (fun z => s _ _ z) (fun z => z)⟩⟩
theorem prd_map {f : α → V} {R : Rp α} {F : Hp} (h : ∀ x, R.ok F (f x) x) : ∀ xs : List α, Paired (R.ok F) (xs.map f) xs
  | [] => .nil
  | x :: xs => .cons (h x) (prd_map h xs)
theorem len_script (C : Ctx X P w K mg base N sc k dd) : C1X X (.builtin "len") (rSc K) rI (fun _ => True) (fun xs => (xs.length : Int)) :=
  ⟨_, call_len, fun F H v x s ⟨p, e, h⟩ _ Q k => ⟨v, x.length, rfl, by rw [e, C.K]; exact .inl ⟨_, h.sq s, by simp⟩, k _ F H (.refl s) rfl⟩⟩
theorem i_script (C : Ctx X P w K mg base N sc k dd) : IxX X (rSc K) rI rI inR ix :=
  ⟨_, ix_list, fun F H v u x y s ⟨p, e, h⟩ r2 hi Q k => by
    obtain ⟨w', e1, g⟩ := at_pair (prd_map (f := V.int) (R := rI) (F := F) (fun _ => rfl) x) hi
    exact ⟨p, _, y, w', e, r2, by rw [C.K]; exact h.sq s, e1, k _ F H (.refl s) g⟩⟩
end
end Wf
/-! Comprehensions, slices, sums of lists, dicts, truth in the typed layer. -/
namespace Wf
open PySem L2
section
variable {X : Cx} {Γ : Gm} {P : Program} {w : World} {K : PySem.W.Frag} {mg : Str → Option Value} {base : Heap} {N : List Str} {sc : Scope} {k : Nat} {dd : Bool}
variable {α β γ δ : Type} {R : Rp α} {R1 : Rp α} {R2 : Rp β} {R3 : Rp γ} {x : α} {y : β} {a b : Expr} {p pos : Pos}

/-! ### comprehensions -/
def wipeG (Γ : Gm) : List Nat → Gm
  | [] => Γ
  | v :: vs => (wipeG Γ vs).set v .any
theorem Env.wipe {F H : Hp} {D : List Addr} {σ : St} (e : Env F H D Γ σ) : ∀ vs : List Nat, ∃ D', D'.Sublist D ∧ Env F H D' (wipeG Γ vs) (L2.wipe σ vs)
  | [] => ⟨D, .refl _, e⟩
  | v :: vs => by
    obtain ⟨D1, s1, e1⟩ := Env.wipe e vs
    obtain ⟨D2, s2, e2⟩ := Env.set (s' := .any) (o' := none) (F := F) (H := H) rfl v e1
    exact ⟨D2, s2.trans s1, e2⟩
theorem wipe_ix {σ : St} {i : Nat} : ∀ {vs : List Nat}, i ∈ vs → (L2.wipe σ vs)[i]? = if i < σ.length then some none else none
  | [], h => by cases h
  | v :: vs, h => by
    show ((L2.wipe σ vs).set v none)[i]? = _
    by_cases hv : v = i
    · subst hv
      by_cases hl : v < σ.length
      · rw [List.getElem?_set_self (by rw [L2.wipe_length]; exact hl), if_pos hl]
      · rw [List.getElem?_eq_none (by rw [List.length_set, L2.wipe_length]; omega), if_neg hl]
    · rw [List.getElem?_set_ne hv]
      exact wipe_ix ((List.mem_cons.mp h).resolve_left fun e => hv e.symm)
theorem wipe_but {J vs : List Nat} {σ σ' : St} (h : But J σ σ') (s : ∀ i ∈ J, i ∈ vs) : L2.wipe σ' vs = L2.wipe σ vs := by
  apply List.ext_getElem?
  intro i
  by_cases hi : i ∈ vs
  · rw [wipe_ix hi, wipe_ix hi, h.1]
  · rw [L2.wipe_out hi, L2.wipe_out hi]
    exact h.2 i fun z => hi (s i z)
theorem wipe_wipe {σ : St} {vs : List Nat} : L2.wipe (L2.wipe σ vs) vs = L2.wipe σ vs := by
  apply List.ext_getElem?
  intro i
  by_cases hi : i ∈ vs
  · rw [wipe_ix hi, wipe_ix hi, L2.wipe_length]
  · rw [L2.wipe_out hi]
/-- the context of a block -/
theorem Ctx.blk (C : Ctx X P w K mg base N sc k dd) {s : Shared} {H : Hp} {scope : Scope} {c : Addr} {cl : List (Str × Addr)} {fp : List Addr} : Ctx (X.blk s H scope (compEnvC scope cl c X.env) fp) P w K mg base N (relS scope sc) k false :=
  ⟨C.prog, C.w, C.K, C.mg, C.base, C.N, by
    show relS scope X.env.scope = _
    rw [C.sc], C.calm, C.room, C.nd, fun h => (by cases h), PassesOwn.never⟩
structure WpTs (X : Cx) (ifs : List Expr) (σ : St) (H : Hp) (Q : Bool → Hp → Prop) : Prop where
  go : ∀ pins s, Inv X pins σ H s →
    wpAny (model X.prog X.w) X.A (forIn ifs true fun c r => if r = true then do let ok ← isTrue c X.env (eval c X.env); pure (ForInStep.yield ok) else pure (ForInStep.yield r)) (TP X pins σ Q) X.xe s
def wpTs (X : Cx) (ifs : List Expr) : TT := WpTs X ifs
def XTs (X : Cx) (Γ : Gm) (ifs : List Expr) (b : Bool) : Prop :=
  ∀ σ F H D, Good F H D → Env F H D Γ σ → ∀ Q : Bool → Hp → Prop, (∀ F' H', Grow F H F' H' → Q b H') → wpTs X ifs σ H Q
theorem xts_nil : XTs X Γ [] true := fun σ F H D g e Q q => ⟨fun pins s I => pts_nil.run pins s σ H Q I (q F H (.refl g.fh))⟩
theorem xts_one {c : Expr} {b : Bool} (h : XT X Γ c b) : XTs X Γ [c] b := fun σ F H D g e Q q => ⟨fun pins s I => (pts_one (pt_ c)).run pins s σ H Q I (h σ F H D g e Q q)⟩
/-- the reading of a comprehension: a new list of what is kept -/
theorem comp_reads {J : List Nat} {f : α → Gm → Gm} {tg elt : Expr} {ifs : List Expr} {own : List (Str × Nat)} {xs : List α} {wi : TI} {pk : α → Bool} {ge : α → γ}
    (hi : ∀ σ F H D, Good F H D → Env F H D Γ σ → ∀ R' : It → Hp → Prop, (∀ J F1 H1, Grow F H F1 H1 → Itr' J F1 R xs → R' J H1) → wi σ H R')
    (hJ : ∀ i ∈ J, i ∈ own.map (·.2)) {XX : Cx → Prop}
    (hg : ∀ X', XX X' → XG X' tg R J f) (ht : ∀ X', XX X' → ∀ x, x ∈ xs → XTs X' (f x (wipeG Γ (own.map (·.2)))) ifs (pk x))
    (he : ∀ X', XX X' → ∀ x, x ∈ xs → pk x = true → XE X' (f x (wipeG Γ (own.map (·.2)))) elt R3 (ge x)) (hz : xs.length ≤ sizeLine)
    {σ : St} {F H : Hp} {D : List Addr} (g : Good F H D) (en : Env F H D Γ σ) {Q : VK} (q : ∀ v F' H' D', Step F H [] F' H' D' → (oL R3).ok F' H' D' v ((xs.filter pk).map ge) → Q v H') :
    tLc wi (fun v σ H Q => ∀ X', XX X' → wpG X' tg v σ H Q) (fun σ H Q => ∀ X', XX X' → wpTs X' ifs σ H Q) (fun σ H Q => ∀ X', XX X' → wpE X' elt σ H Q) (own.map (·.2)) σ H Q := by
  refine hi σ F H D g en _ fun J1 F1 H1 g1 it D1 nD => ?_
  -- the new list at D1; turns keep all else
  have nF : F1 D1 = none := by
    cases z : F1 D1 with
    | none => rfl
    | some u => exact absurd nD (of_vw (g1.fh D1 u z))
  have s0 : Step F1 H1 [] F1 (upd H1 D1 (.lst [])) [D1] := xo_fresh g1.fh nD
  refine ⟨fun i n H' => n = xs.length - i ∧ i ≤ xs.length ∧ ∃ F' acc, Step F1 (upd H1 D1 (.lst [])) [D1] F' H' [D1] ∧ H' D1 = some (.lst acc) ∧ Paired (R3.ok F') acc (((xs.take i).filter pk).map ge), ⟨xs.length, by simp, Nat.zero_le _, F1, [], .refl s0.good, upd_same, .nil⟩, ?_⟩
  rintro i n H' ⟨rfl, hle, F', acc, a, hD, pr⟩
  have a' := s0.trans a
  obtain ⟨stop, go⟩ := it i F' H' a.ff a.fh
  by_cases hlt : i < xs.length
  · obtain ⟨x, hx⟩ : ∃ x, xs[i]? = some x := ⟨xs[i], List.getElem?_eq_getElem hlt⟩
    have hxm : x ∈ xs := List.mem_of_getElem? hx
    have htk : xs.take (i + 1) = xs.take i ++ [x] := by
      rw [List.take_add_one, hx]; rfl
    obtain ⟨jg, jy⟩ := go x hx
    refine .inr ⟨jg, fun H2 => i + 1 ≤ xs.length ∧ ∃ F2 acc2, Step F1 (upd H1 D1 (.lst [])) [D1] F2 H2 [D1] ∧ H2 D1 = some (.lst acc2) ∧ Paired (R3.ok F2) acc2 (((xs.take (i + 1)).filter pk).map ge), fun H2 q2 => ⟨xs.length - (i + 1), by omega, rfl, q2⟩, fun v H'' y => ?_⟩
    obtain ⟨F'', g2, r⟩ := jy v H'' y
    -- the caller's own objects are as they were
    have gD : Good F1 H1 D := g.grow g1
    have b1 := Step.both gD a'
    have b2 := b1.trans (Step.of b1.good g2)
    have enD : Env F'' H'' D Γ σ := (en.grow g g1).mono (a'.ff.trans g2.ff) fun p hp => by
      obtain ⟨o, ho⟩ := ex_of (gD.dH p hp)
      rw [ho]; exact g2.hh p o (a'.keep p o ho (by simp))
    have gD2 : Good F'' H'' D := b2.good.sub (List.sublist_append_left _ _)
    obtain ⟨Dw, sw, enw⟩ := enD.wipe (own.map (·.2))
    intro X' hX'
    refine hg X' hX' _ v x _ F'' H'' Dw (gD2.sub sw) enw r _ fun σ3 D3 s3 e3 bt => ?_
    refine ⟨by rw [wipe_but bt hJ, wipe_wipe], ?_⟩
    have g3 : Good F'' H'' D3 := gD2.sub (s3.trans sw)
    intro X2 hX2
    refine ht X2 hX2 x hxm σ3 F'' H'' D3 g3 e3 _ fun F4 H4 g4 => ?_
    have gg := g2.trans g4
    have a4 : Step F1 (upd H1 D1 (.lst [])) [D1] F4 H4 [D1] := a.trans (Step.of a.good gg)
    have hD4 : H4 D1 = some (.lst acc) := gg.hh _ _ hD
    cases hp : pk x with
    | false =>
      refine iteF ⟨hlt, F4, acc, a4, hD4, ?_⟩
      rw [htk, List.filter_append, List.map_append]
      simpa [hp] using prd_mono gg.ff pr
    | true =>
      refine iteT ?_
      intro X3 hX3
      refine he X3 hX3 x hxm hp σ3 F4 H4 D3 (g3.grow g4) (e3.grow g3 g4) _ fun z F5 H5 g5 r5 => ?_
      have gg5 := gg.trans g5
      have a5 : Step F1 (upd H1 D1 (.lst [])) [D1] F5 H5 [D1] := a.trans (Step.of a.good gg5)
      have hl : acc.length ≤ i := by
        rw [pr.length, List.length_map]
        refine Nat.le_trans (List.length_filter_le _ _) ?_
        rw [List.length_take]; omega
      refine ⟨acc, gg5.hh _ _ hD, by omega, hlt, F5, acc ++ [z], ?_, upd_same, ?_⟩
      · have nF5 : F5 D1 = none := a5.dF D1 (by simp)
        refine a5.trans ⟨.refl _, fun b u q3 => ?_, fun b o hb nb => ?_, fun b hb => ?_, fun b h1 _ _ => h1, by simp, a5.dF, fun b hb => ?_, fun b hb => .inl hb⟩
        · have hb : b ≠ D1 := fun z => by subst z; rw [nF5] at q3; cases q3
          have q4 := a5.fh b u q3
          unfold Vw at q4 ⊢
          rw [upd_ne hb]; exact q4
        · have : b ≠ D1 := fun z => nb (by simp [z])
          rw [upd_ne this]; exact hb
        · by_cases z : b = D1
          · subst z; rw [upd_same]; simp
          · rw [upd_ne z]; exact hb
        · obtain rfl : b = D1 := by simpa using hb
          rw [upd_same]; simp
      · rw [htk, List.filter_append, List.map_append]
        have := prd_app (prd_mono gg5.ff pr) (.cons r5 .nil)
        simpa [hp] using this
  · have e : i = xs.length := by omega
    subst e
    refine .inl ⟨stop rfl, ?_⟩
    rw [List.take_length] at pr
    have b0 : Step F H [] F1 H1 [] := (Step.of (Good.nil g.fh) g1)
    refine q _ F' H' [D1] ((b0.trans s0).trans a) ⟨?_, D1, acc, rfl, rfl, hD, pr⟩
    rw [List.length_map]
    exact Nat.le_trans (List.length_filter_le _ _) hz
variable {J : List Nat} {f : α → Gm → Gm} {tg elt iter : Expr} {ifs : List Expr} {scope : Scope} {own : List (Str × Nat)} {xs : List α} {pk : α → Bool} {ge : α → γ}
theorem xo_comp (C : Ctx X P w K mg base N sc k dd) (own : List (Str × Nat)) (pk : α → Bool) (ge : α → γ) (hi : XI X Γ tg iter R xs) (hz : xs.length ≤ sizeLine) (hg : ∀ X', Ctx X' P w K mg base N (relS scope sc) k false → XG X' tg R J f)
    (ht : ∀ X', Ctx X' P w K mg base N (relS scope sc) k false → ∀ x, x ∈ xs → XTs X' (f x (wipeG Γ (own.map (·.2)))) ifs (pk x))
    (he : ∀ X', Ctx X' P w K mg base N (relS scope sc) k false → ∀ x, x ∈ xs → pk x = true → XE X' (f x (wipeG Γ (own.map (·.2)))) elt R3 (ge x)) (ok : blkC N sc scope own = true := by decide +kernel) (hJ : ∀ i ∈ J, i ∈ own.map (·.2) := by decide)
    (hs : ∀ x, foldedSetIterable iter X.env x = pure x := by intro _; rfl) : XO X Γ (.ListComp elt [⟨tg, iter, ifs, 0⟩] scope pos) (oL R3) ((xs.filter pk).map ge) := by
  obtain ⟨wi, pi, go⟩ := hi.ex
  intro σ F H D g en Q q
  refine (pe_lc (own := own) C.calm (by rw [C.N]; exact C.nd) pi (by rw [C.N, C.sc]; exact blkOk_by ok) (g := fun v σ H Q => ∀ X', Ctx X' P w K mg base N (relS scope sc) k false → wpG X' tg v σ H Q) (tt := fun σ H Q => ∀ X', Ctx X' P w K mg base N (relS scope sc) k false → wpTs X' ifs σ H Q)
    (te := fun σ H Q => ∀ X', Ctx X' P w K mg base N (relS scope sc) k false → wpE X' elt σ H Q) (fun s H c cl fp => ⟨fun pins s σ H v u Q I r h => (h _ C.blk).go pins s u I r⟩) (fun s H c cl fp => ⟨fun pins s σ H Q I h => (h _ C.blk).go pins s I⟩) (fun s H c cl fp => ⟨fun pins s σ H Q I h => (h _ C.blk).go pins s I⟩) hs).wp ?_
  exact comp_reads go hJ hg ht he hz g en q
/-- name = [..], own or frozen -/
theorem xs_asgC (C : Ctx X P w K mg base N sc k dd) (j : Nat) {n : Str} {p1 p2 : Pos} {PP : Post} (own : List (Str × Nat)) (pk : α → Bool) (ge : α → γ) (hi : XI X Γ tg iter R xs) (hz : xs.length ≤ sizeLine) (hg : ∀ X', Ctx X' P w K mg base N (relS scope sc) k false → XG X' tg R J f)
    (ht : ∀ X', Ctx X' P w K mg base N (relS scope sc) k false → ∀ x, x ∈ xs → XTs X' (f x (wipeG Γ (own.map (·.2)))) ifs (pk x))
    (he : ∀ X', Ctx X' P w K mg base N (relS scope sc) k false → ∀ x, x ∈ xs → pk x = true → XE X' (f x (wipeG Γ (own.map (·.2)))) elt R3 (ge x)) (hn : PP.nx (Γ.set j (.res (oL R3) ((xs.filter pk).map ge))))
    (hk : (match sc.kind with | .function => true | _ => false) = true := by decide +kernel) (hl : decide (sc.names.lookup n = some .local) = true := by decide +kernel) (hline : (p1.line == pos.line) = true := by decide +kernel) (ha : (scope.names.any fun (m, k) => m == n && (k == .local || k == .cell)) = false := by decide +kernel)
    (ok : blkC N sc scope own = true := by decide +kernel) (hJ : ∀ i ∈ J, i ∈ own.map (·.2) := by decide) (hj : Γ[j]?.isSome = true := by rfl) (hN : N[j]? = some n := by rfl)
    (hs : ∀ x, foldedSetIterable iter X.env x = pure x := by intro _; rfl) : XS X Γ (.Assign [.Name n p1] (.ListComp elt [⟨tg, iter, ifs, 0⟩] scope pos) p2) PP := by
  obtain ⟨wi, pi, go⟩ := hi.ex
  intro σ F H D g en E m
  have hloc : X.env.scope.names.lookup n = some .local := by rw [C.sc]; exact of_decide_eq_true hl
  have hkf : X.env.scope.kind = .function := by
    rw [C.sc]
    revert hk
    cases sc.kind <;> intro z <;> first | rfl | cases z
  refine (ps_setLc (own := own) (i := j) C.calm (by rw [C.N]; exact C.nd) (by rw [C.N]; exact hN) hloc (sw_true hkf hloc hline ha) pi (by rw [C.N, C.sc]; exact blkOk_by ok) (g := fun v σ H Q => ∀ X', Ctx X' P w K mg base N (relS scope sc) k false → wpG X' tg v σ H Q) (tt := fun σ H Q => ∀ X', Ctx X' P w K mg base N (relS scope sc) k false → wpTs X' ifs σ H Q)
    (te := fun σ H Q => ∀ X', Ctx X' P w K mg base N (relS scope sc) k false → wpE X' elt σ H Q) (fun s H c cl fp => ⟨fun pins s σ H v u Q I r h => (h _ C.blk).go pins s u I r⟩) (fun s H c cl fp => ⟨fun pins s σ H Q I h => (h _ C.blk).go pins s I⟩) (fun s H c cl fp => ⟨fun pins s σ H Q I h => (h _ C.blk).go pins s I⟩) hs).wp ?_
  refine comp_reads go hJ hg ht he hz g en fun v F' H' D' a r => ?_
  obtain ⟨D1, D2, s, e'⟩ := Env.put (s' := .res (oL R3) ((xs.filter pk).map ge)) (o' := some v) (F := F') (H := H') (D' := D') ⟨v, rfl, r⟩ j (isSome_lt hj) (en.grow g a.grow)
  exact m.nx _ hn _ F' H' _ (put_step g a s) e'
end
end Wf
/-! Lists, texts, tuples, dicts in the typed layer. -/
namespace Wf
open PySem L2
section
variable {X : Cx} {Γ : Gm} {P : Program} {w : World} {K : PySem.W.Frag} {mg : Str → Option Value} {base : Heap} {N : List Str} {sc : Scope} {k : Nat} {dd : Bool}
variable {α β γ δ κ : Type} {R : Rp α} {R1 : Rp α} {R2 : Rp β} {R3 : Rp γ} {x : α} {y : β} {a b : Expr} {p pos : Pos}

/-! ### truth of a list, a tuple, a dict -/
theorem xt_truL {xs : List α} (h : XE X Γ a (rL R) xs) (he : ∀ whole, isTrue a X.env whole = (do let v ← whole; standAt a.pos; holding [v] (truthy v)) := by intro _; rfl) : XT X Γ a (!xs.isEmpty) := fun σ F H D g e Q q =>
  (pt_truth (pe_ a) he).wp (h σ F H D g e _ fun v F1 H1 g1 ⟨_, p, vs, e, hp, pr⟩ => ⟨!xs.isEmpty, by
    rw [e]
    refine .inl ⟨vs, .inl (rd_of (g1.fh _ _ hp)), ?_⟩
    cases pr <;> rfl, q F1 H1 g1⟩)

/-! ### lists -/
theorem lstR {pins : List (Addr × Obj)} {σ : St} {H : Hp} {s : Shared} {l : Addr} {xs : List V} (I : Inv X pins σ H s) (h : Rd H l (.lst xs)) : xs.length ≤ sizeLine ∧ ∃ (its : List Value) (n : Nat), Vals xs its ∧ xs.length = its.length ∧ s.heap.get? l = some { cls := .type "list", data := .seq its.toArray n } := by
  obtain ⟨z, its, n, r, e⟩ := h.ok I.hok
  exact ⟨z, its, n, r, r.length, e⟩
theorem op_catR : OpR X (binaryOp .Add) (fun x y H Q => ∃ l b xs zs, x = .ref l ∧ y = .ref b ∧ Rd H l (.lst xs) ∧ Rd H b (.lst zs) ∧ xs.length + zs.length ≤ sizeLine ∧ ∀ p, H p = none → Q (.ref p) (upd H p (.lst (xs ++ zs)))) := by
  intro pins s σ H x y v u Q I rx ry h
  obtain ⟨l, b, xs, zs, rfl, rfl, hH, hB, hz, q⟩ := h
  cases rx
  cases ry
  obtain ⟨z, its, n, r, hl, e⟩ := lstR I hH
  obtain ⟨z2, its2, n2, r2, hl2, e2⟩ := lstR I hB
  refine PySem.P.add_list e e2 ?_ (by rw [List.size_toArray, List.size_toArray]; omega)
  have ea : its.toArray ++ its2.toArray = (its ++ its2).toArray := by simp
  rw [ea]
  exact ⟨.ref _, _, I.lnew (t' := s.toks) (r.append r2) (by rw [List.length_append]; omega), rfl, q _ I.fresh⟩
theorem o_cat : OpX X (binaryOp .Add) (rL R) (rL R) (rL R) (fun a b => a.length + b.length ≤ 100000) (fun a b => a ++ b) :=
  ⟨_, op_catR, fun F H v u x y s ⟨_, p, vs, e, h, q⟩ ⟨_, p2, vs2, e2, h2, q2⟩ hl Q k => ⟨p, p2, vs, vs2, e, e2, rd_of (s _ _ h), rd_of (s _ _ h2), by
    rw [q.length, q2.length]; exact Nat.le_trans hl (by decide), fun p3 np => by
      have gl := Grow.laid (o := HO.lst (vs ++ vs2)) s np (fun _ _ z => by cases z)
      exact k _ _ _ gl ⟨by rw [List.length_append]; exact Nat.le_trans hl (by decide), p3, _, rfl, upd_same, prd_app (prd_mono gl.ff q) (prd_mono gl.ff q2)⟩⟩⟩
theorem o_addS : OpX X (binaryOp .Add) rS rS rS (fun a b => a.length + b.length ≤ 100000) (fun a b => a ++ b) :=
  ⟨_, op_add_str, fun F H v u x y s r1 r2 hl Q k => ⟨x, y, r1.1, r2.1, Nat.le_trans hl (by decide), k _ F H (.refl s) ⟨rfl, by
    have e1 := niceS_ok r1.2
    have e2 := niceS_ok r2.2
    unfold PyData.strOk at e1 e2
    unfold niceS PyData.strOk
    have : (x ++ y).cps = x.cps ++ y.cps := rfl
    have hl' : (x ++ y).length ≤ 100000 := by
      show (x ++ y).cps.size ≤ _
      rw [this, Array.size_append]; exact hl
    rw [this, Array.all_append, e1, e2, decide_eq_true hl']; rfl⟩⟩⟩
/-- a part of a list -/
def cut (xs : List α) (lo hi : Option Int) : List α := (xs.drop (HT.sIx xs.length 0 lo)).take (HT.sIx xs.length xs.length hi - HT.sIx xs.length 0 lo)
theorem cut_len (xs : List α) (lo hi : Option Int) : (cut xs lo hi).length ≤ xs.length := by
  unfold cut
  rw [List.length_take, List.length_drop]
  omega
theorem prd_drop {G : α → β → Prop} : ∀ {vs : List α} {xs : List β} (n : Nat), Paired G vs xs → Paired G (vs.drop n) (xs.drop n)
  | _, _, 0, h => h
  | _, _, _ + 1, .nil => .nil
  | _, _, n + 1, .cons _ t => prd_drop n t
theorem prd_take {G : α → β → Prop} : ∀ {vs : List α} {xs : List β} (n : Nat), Paired G vs xs → Paired G (vs.take n) (xs.take n)
  | _, _, 0, h => by simpa using Paired.nil
  | _, _, _ + 1, .nil => .nil
  | _, _, n + 1, .cons r t => .cons r (prd_take n t)
theorem prd_cut {G : α → β → Prop} {vs : List α} {xs : List β} (h : Paired G vs xs) (lo hi : Option Int) : Paired G (cut vs lo hi) (cut xs lo hi) := by
  unfold cut
  rw [h.length]
  exact prd_take _ (prd_drop _ h)
structure WpP (X : Cx) (e : Option Expr) (σ : St) (H : Hp) (Q : Option Int → Hp → Prop) : Prop where
  go : ∀ pins s, Inv X pins σ H s → wpAny (model X.prog X.w) X.A (evalPart e X.env) (fun u s' => ∃ o H', Inv X pins σ H' s' ∧ IsPart u o ∧ Q o H') X.xe s
def wpP (X : Cx) (e : Option Expr) : TO := WpP X e
theorem po_ (e : Option Expr) : PO X e (wpP X e) := ⟨fun pins s _ _ _ I h => h.go pins s I⟩
def XP (X : Cx) (Γ : Gm) (e : Option Expr) (o : Option Int) : Prop :=
  ∀ σ F H D, Good F H D → Env F H D Γ σ → ∀ Q : Option Int → Hp → Prop, (∀ F' H', Grow F H F' H' → Q o H') → wpP X e σ H Q
theorem xp_none : XP X Γ none none := fun σ F H D g e Q q => ⟨fun pins s I => po_none.run pins s σ H Q I (q F H (.refl g.fh))⟩
theorem xp_some {i : Int} (h : XE X Γ a rI i) : XP X Γ (some a) (some i) := fun σ F H D g e Q q => ⟨fun pins s I => (po_some (pe_ a)).run pins s σ H Q I (h σ F H D g e _ fun v F' H' g' r => ⟨i, r, q F' H' g'⟩)⟩
variable {lo hi : Option Expr} {l u : Option Int} {p2 : Pos}
theorem xo_slice {xs : List α} (h : XE X Γ a (rL R) xs) (hl : XP X Γ lo l) (hu : XP X Γ hi u) : XO X Γ (.Subscript a (.Slice lo hi none p2) pos) (oL R) (cut xs l u) := by
  intro σ F H D g e Q q
  refine (pe_slice sl_list (pe_ a) (po_ lo) (po_ hi)).wp (h σ F H D g e _ fun v F1 H1 g1 ⟨z, p, vs, ev, hp, pr⟩ => hl σ F1 H1 D (g.grow g1) (e.grow g g1) _ fun F2 H2 g2 => hu σ F2 H2 D ((g.grow g1).grow g2) ((e.grow g g1).grow (g.grow g1) g2) _ fun F3 H3 g3 => ?_)
  have g23 := g2.trans g3
  refine ⟨p, vs, ev, .inl (rd_of (g3.fh _ _ (g23.ff _ _ hp))), fun q1 nq => ?_⟩
  have g13 := g1.trans g23
  have st := (Step.of (Good.nil g.fh) g13).trans (xo_fresh (o := .lst (cutV vs l u)) g13.fh nq)
  exact q _ F3 _ [q1] st ⟨Nat.le_trans (cut_len _ _ _) z, q1, _, rfl, rfl, upd_same, prd_cut (prd_mono g23.ff pr) l u⟩
/-- xs[::-1] -/
theorem xo_rev {xs : List α} {j : Nat} {p1 p3 p4 : Pos} (h : XE X Γ a (rL R) xs) : XO X Γ (.Subscript a (.Slice none none (some (.UnaryOp .USub (.Constant (.int 1) j p1) p3)) p4) pos) (oL R) xs.reverse := by
  intro σ F H D g e Q q
  refine (pe_revL (pe_ a)).wp (h σ F H D g e _ fun v F1 H1 g1 ⟨z, p, vs, ev, hp, pr⟩ => ⟨p, vs, ev, .inl (rd_of (g1.fh _ _ hp)), fun q1 nq => ?_⟩)
  have st := (Step.of (Good.nil g.fh) g1).trans (xo_fresh (o := .lst vs.reverse) g1.fh nq)
  refine q _ F1 _ [q1] st ⟨by rw [List.length_reverse]; exact z, q1, _, rfl, rfl, upd_same, ?_⟩
  have : ∀ {vs : List V} {xs : List α}, Paired (R.ok F1) vs xs → Paired (R.ok F1) vs.reverse xs.reverse := by
    intro vs xs h
    induction h with
    | nil => exact .nil
    | cons r _ ih => rw [List.reverse_cons, List.reverse_cons]; exact prd_app ih (.cons r .nil)
  exact this pr
/-- a slice of a tuple of one kind -/
theorem xe_vslice {xs : List α} (h : XE X Γ a (rV R) xs) (hl : XP X Γ lo l) (hu : XP X Γ hi u) : XE X Γ (.Subscript a (.Slice lo hi none p2) pos) (rV R) (cut xs l u) := by
  intro σ F H D g e Q q
  refine (pe_slice sl_tupA (pe_ a) (po_ lo) (po_ hi)).wp (h σ F H D g e _ fun v F1 H1 g1 ⟨z, p, vs, ev, hp, pr⟩ => hl σ F1 H1 D (g.grow g1) (e.grow g g1) _ fun F2 H2 g2 => hu σ F2 H2 D ((g.grow g1).grow g2) ((e.grow g g1).grow (g.grow g1) g2) _ fun F3 H3 g3 => ?_)
  have g23 := g2.trans g3
  have g13 := g1.trans g23
  have hp3 := g23.ff _ _ hp
  refine ⟨p, vs, ev, .inl (rd_of (g3.fh _ _ hp3)), fun hw => ?_, fun _ q1 nq => ?_⟩
  · refine q _ F3 H3 g13 ⟨Nat.le_trans (cut_len _ _ _) z, p, vs, rfl, hp3, ?_⟩
    have : cut xs l u = xs := by
      unfold cut
      rw [← pr.length, hw.1, hw.2, List.drop_zero, pr.length, Nat.sub_zero, List.take_length]
    rw [this]; exact prd_mono g23.ff pr
  · have gl := Grow.laid (o := HO.tup (cutV vs l u)) g13.fh nq (fun _ _ z => by cases z)
    exact q _ _ _ (g13.trans gl) ⟨Nat.le_trans (cut_len _ _ _) z, q1, _, rfl, upd_same, prd_mono gl.ff (prd_cut (prd_mono g23.ff pr) l u)⟩
/-! ### parts and sums of written tuples -/
/-- the first n values | the rest behind n -/
class RwTake {α : Type} {β : outParam Type} (T : Rw α) (n : Nat) (T' : outParam (Rw β)) (f : outParam (α → β)) : Prop where
  ok : ∀ {F : Hp} {vs : List V} {x : α}, T.ok F vs x → n < vs.length ∧ T'.ok F (vs.take n) (f x)
/-- how many values -/
class RwLen (T : Rw α) (n : outParam Nat) : Prop where
  ok : ∀ {F : Hp} {vs : List V} {x : α}, T.ok F vs x → vs.length = n
instance rwl_1 : RwLen (w1 R) 1 := ⟨fun ⟨v, e, _⟩ => by rw [e]; rfl⟩
instance rwl_c {T : Rw β} {n : Nat} [t : RwLen T n] : RwLen (wc R T) (n + 1) := ⟨fun ⟨v, r, e, _, q⟩ => by rw [e, List.length_cons, t.ok q]⟩
instance rwt_1 {T : Rw β} {n : Nat} [t : RwLen T (n + 1)] : RwTake (wc R T) 1 (w1 R) (fun x => x.1) := ⟨fun {F vs x} ⟨v, r, e, h, q⟩ => by
  subst e
  exact ⟨by rw [List.length_cons, t.ok q]; omega, v, rfl, h⟩⟩
instance rwt_1w {R' : Rp β} : RwTake (wc R (w1 R')) 1 (w1 R) (fun x => x.1) := ⟨fun {F vs x} ⟨v, r, e, h, u, e2, q⟩ => by
  subst e e2
  exact ⟨by simp, v, rfl, h⟩⟩
instance rwt_S0 {T : Rw β} {T' : Rw γ} {f : β → γ} [t : RwTake T 1 T' f] : RwTake (wc R T) 2 (wc R T') (fun x => (x.1, f x.2)) := ⟨fun {F vs x} ⟨v, r, e, h, q⟩ => by
  subst e
  obtain ⟨l, o⟩ := t.ok q
  exact ⟨by rw [List.length_cons]; omega, v, r.take 1, rfl, h, o⟩⟩
instance rwt_S1 {T : Rw β} {T' : Rw γ} {f : β → γ} [t : RwTake T 2 T' f] : RwTake (wc R T) 3 (wc R T') (fun x => (x.1, f x.2)) := ⟨fun {F vs x} ⟨v, r, e, h, q⟩ => by
  subst e
  obtain ⟨l, o⟩ := t.ok q
  exact ⟨by rw [List.length_cons]; omega, v, r.take 2, rfl, h, o⟩⟩
instance rwt_S2 {T : Rw β} {T' : Rw γ} {f : β → γ} [t : RwTake T 3 T' f] : RwTake (wc R T) 4 (wc R T') (fun x => (x.1, f x.2)) := ⟨fun {F vs x} ⟨v, r, e, h, q⟩ => by
  subst e
  obtain ⟨l, o⟩ := t.ok q
  exact ⟨by rw [List.length_cons]; omega, v, r.take 3, rfl, h, o⟩⟩
instance rwt_S3 {T : Rw β} {T' : Rw γ} {f : β → γ} [t : RwTake T 4 T' f] : RwTake (wc R T) 5 (wc R T') (fun x => (x.1, f x.2)) := ⟨fun {F vs x} ⟨v, r, e, h, q⟩ => by
  subst e
  obtain ⟨l, o⟩ := t.ok q
  exact ⟨by rw [List.length_cons]; omega, v, r.take 4, rfl, h, o⟩⟩
instance rwt_S4 {T : Rw β} {T' : Rw γ} {f : β → γ} [t : RwTake T 5 T' f] : RwTake (wc R T) 6 (wc R T') (fun x => (x.1, f x.2)) := ⟨fun {F vs x} ⟨v, r, e, h, q⟩ => by
  subst e
  obtain ⟨l, o⟩ := t.ok q
  exact ⟨by rw [List.length_cons]; omega, v, r.take 5, rfl, h, o⟩⟩
class RwDrop {α : Type} {β : outParam Type} (T : Rw α) (n : Nat) (T' : outParam (Rw β)) (f : outParam (α → β)) : Prop where
  ok : ∀ {F : Hp} {vs : List V} {x : α}, T.ok F vs x → 0 < n ∧ n ≤ vs.length ∧ T'.ok F (vs.drop n) (f x)
instance rwd_1 {T : Rw β} : RwDrop (wc R T) 1 T (fun x => x.2) := ⟨fun {F vs x} ⟨v, r, e, h, q⟩ => by
  subst e
  exact ⟨by omega, by rw [List.length_cons]; omega, q⟩⟩
instance rwd_S0 {T : Rw β} {T' : Rw γ} {f : β → γ} [t : RwDrop T 1 T' f] : RwDrop (wc R T) 2 T' (fun x => f x.2) := ⟨fun {F vs x} ⟨v, r, e, h, q⟩ => by
  subst e
  obtain ⟨_, l, o⟩ := t.ok q
  exact ⟨by omega, by rw [List.length_cons]; omega, o⟩⟩
instance rwd_S1 {T : Rw β} {T' : Rw γ} {f : β → γ} [t : RwDrop T 2 T' f] : RwDrop (wc R T) 3 T' (fun x => f x.2) := ⟨fun {F vs x} ⟨v, r, e, h, q⟩ => by
  subst e
  obtain ⟨_, l, o⟩ := t.ok q
  exact ⟨by omega, by rw [List.length_cons]; omega, o⟩⟩
instance rwd_S2 {T : Rw β} {T' : Rw γ} {f : β → γ} [t : RwDrop T 3 T' f] : RwDrop (wc R T) 4 T' (fun x => f x.2) := ⟨fun {F vs x} ⟨v, r, e, h, q⟩ => by
  subst e
  obtain ⟨_, l, o⟩ := t.ok q
  exact ⟨by omega, by rw [List.length_cons]; omega, o⟩⟩
instance rwd_S3 {T : Rw β} {T' : Rw γ} {f : β → γ} [t : RwDrop T 4 T' f] : RwDrop (wc R T) 5 T' (fun x => f x.2) := ⟨fun {F vs x} ⟨v, r, e, h, q⟩ => by
  subst e
  obtain ⟨_, l, o⟩ := t.ok q
  exact ⟨by omega, by rw [List.length_cons]; omega, o⟩⟩
instance rwd_S4 {T : Rw β} {T' : Rw γ} {f : β → γ} [t : RwDrop T 5 T' f] : RwDrop (wc R T) 6 T' (fun x => f x.2) := ⟨fun {F vs x} ⟨v, r, e, h, q⟩ => by
  subst e
  obtain ⟨_, l, o⟩ := t.ok q
  exact ⟨by omega, by rw [List.length_cons]; omega, o⟩⟩
class RwApp {α β : Type} {γ : outParam Type} (T : Rw α) (T' : Rw β) (T2 : outParam (Rw γ)) (f : outParam (α → β → γ)) : Prop where
  ok : ∀ {F : Hp} {vs us : List V} {x : α} {y : β}, T.ok F vs x → T'.ok F us y → T2.ok F (vs ++ us) (f x y) ∧ vs ≠ []
instance rwa_1 {T : Rw β} : RwApp (w1 R) T (wc R T) (fun x y => (x, y)) := ⟨fun {F vs us x y} ⟨v, e, h⟩ q => by
  subst e
  exact ⟨⟨v, us, rfl, h, q⟩, by simp⟩⟩
instance rwa_c {T : Rw β} {T' : Rw γ} {T2 : Rw δ} {f : β → γ → δ} [t : RwApp T T' T2 f] : RwApp (wc R T) T' (wc R T2) (fun x y => (x.1, f x.2 y)) := ⟨fun {F vs us x y} ⟨v, r, e, h, q⟩ q' => by
  subst e
  exact ⟨⟨v, r ++ us, rfl, h, (t.ok q q').1⟩, by simp⟩⟩
theorem sIx_some (n d j : Nat) : HT.sIx n d (some (j : Int)) = min j n := HT.sIx_nat n d j
theorem xe_take {T : Rw α} {T' : Rw β} {f : α → β} (n : Nat) [t : RwTake T n T' f] {j pos'} (ha : XE X Γ a (rT T) x) : XE X Γ (.Subscript a (.Slice none (some (.Constant (.int (n : Int)) j pos')) none p2) pos) (rT T') (f x) := by
  intro σ F H D g e Q q
  refine (pe_slice sl_tupA (pe_ a) po_none (po_some pe_int)).wp (ha σ F H D g e _ fun v F1 H1 g1 ⟨p, vs, ev, hp, r⟩ => ?_)
  obtain ⟨l, o⟩ := t.ok r
  refine ⟨(n : Int), rfl, p, vs, ev, .inl (rd_of (g1.fh _ _ hp)), fun hw => ?_, fun _ q1 nq => ?_⟩
  · have := hw.2
    rw [sIx_some] at this
    omega
  · have gl := Grow.laid (o := HO.tup (cutV vs none (some (n : Int)))) g1.fh nq (fun _ _ z => by cases z)
    refine q _ _ _ (g1.trans gl) ⟨q1, _, rfl, upd_same, T'.mono gl.ff ?_⟩
    have : cutV vs none (some (n : Int)) = vs.take n := by
      unfold cutV
      rw [sIx_some, HT.sIx_none, Nat.min_eq_left (Nat.le_of_lt l)]; rfl
    rw [this]; exact o
theorem xe_drop {T : Rw α} {T' : Rw β} {f : α → β} (n : Nat) [t : RwDrop T n T' f] {j pos'} (ha : XE X Γ a (rT T) x) : XE X Γ (.Subscript a (.Slice (some (.Constant (.int (n : Int)) j pos')) none none p2) pos) (rT T') (f x) := by
  intro σ F H D g e Q q
  refine (pe_slice sl_tupA (pe_ a) (po_some pe_int) po_none).wp (ha σ F H D g e _ fun v F1 H1 g1 ⟨p, vs, ev, hp, r⟩ => ?_)
  obtain ⟨l0, l, o⟩ := t.ok r
  refine ⟨(n : Int), rfl, p, vs, ev, .inl (rd_of (g1.fh _ _ hp)), fun hw => ?_, fun _ q1 nq => ?_⟩
  · have := hw.1
    rw [sIx_some] at this
    omega
  · have gl := Grow.laid (o := HO.tup (cutV vs (some (n : Int)) none)) g1.fh nq (fun _ _ z => by cases z)
    refine q _ _ _ (g1.trans gl) ⟨q1, _, rfl, upd_same, T'.mono gl.ff ?_⟩
    have : cutV vs (some (n : Int)) none = vs.drop n := by
      unfold cutV
      rw [sIx_some, HT.sIx_none, Nat.min_eq_left l]
      exact List.take_of_length_le (by rw [List.length_drop]; omega)
    rw [this]; exact o
theorem o_catT {T : Rw α} {T' : Rw β} {T2 : Rw γ} {f : α → β → γ} [t : RwApp T T' T2 f] {n m : Nat} [l1 : RwLen T n] [l2 : RwLen T' m] (hs : n + m ≤ 1000 := by decide) : OpX X (binaryOp .Add) (rT T) (rT T') (rT T2) (fun _ _ => True) f :=
  ⟨_, op_catA, fun F H v u x y s ⟨p, vs, e, h, q⟩ ⟨p2, vs2, e2, h2, q2⟩ _ Q k => by
    obtain ⟨o, ne⟩ := t.ok q q2
    refine ⟨p, p2, vs, vs2, e, e2, .inl (rd_of (s _ _ h)), .inl (rd_of (s _ _ h2)), by rw [l1.ok q, l2.ok q2]; exact Nat.le_trans hs (by decide), fun z => absurd z ne, fun _ z => ?_, fun _ _ p3 np => ?_⟩
    · subst z
      refine k _ F H (.refl s) ⟨p, vs, rfl, h, ?_⟩
      simpa using o
    · have gl := Grow.laid (o := HO.tup (vs ++ vs2)) s np (fun _ _ z => by cases z)
      exact k _ _ _ gl ⟨p3, _, rfl, upd_same, T2.mono gl.ff o⟩⟩
theorem o_catV : OpX X (binaryOp .Add) (rV R) (rV R) (rV R) (fun a b => a.length + b.length ≤ 100000) (fun a b => a ++ b) :=
  ⟨_, op_catA, fun F H v u x y s ⟨z1, p, vs, e, h, q⟩ ⟨z2, p2, vs2, e2, h2, q2⟩ hl Q k => by
    refine ⟨p, p2, vs, vs2, e, e2, .inl (rd_of (s _ _ h)), .inl (rd_of (s _ _ h2)), by rw [q.length, q2.length]; exact Nat.le_trans hl (by decide), fun z => ?_, fun _ z => ?_, fun _ _ p3 np => ?_⟩
    · subst z
      cases q
      exact k _ F H (.refl s) ⟨z2, p2, vs2, rfl, h2, q2⟩
    · subst z
      cases q2
      exact k _ F H (.refl s) ⟨by rw [List.append_nil]; exact z1, p, vs, rfl, h, by rw [List.append_nil]; exact q⟩
    · have gl := Grow.laid (o := HO.tup (vs ++ vs2)) s np (fun _ _ z => by cases z)
      exact k _ _ _ gl ⟨by rw [List.length_append]; exact Nat.le_trans hl (by decide), p3, _, rfl, upd_same, prd_app (prd_mono gl.ff q) (prd_mono gl.ff q2)⟩⟩
end
end Wf
/-! Dicts, conversions, membership, equality in the typed layer. -/
namespace Wf
open PySem L2
section
variable {X : Cx} {Γ : Gm} {P : Program} {w : World} {K : PySem.W.Frag} {mg : Str → Option Value} {base : Heap} {N : List Str} {sc : Scope} {k : Nat} {dd : Bool}
variable {α β γ δ κ : Type} {R : Rp α} {R1 : Rp α} {R2 : Rp β} {R3 : Rp γ} {x : α} {y : β} {a b c : Expr} {p pos : Pos}

/-! ### what a dict holds -/
def look [DecidableEq κ] (d : List (κ × α)) (k : κ) : Option α := (d.find? fun kv => decide (kv.1 = k)).map (·.2)
def dput [DecidableEq κ] (d : List (κ × α)) (k : κ) (v : α) : List (κ × α) := if (d.any fun kv => decide (kv.1 = k)) = true then d.map (fun kv => if kv.1 = k then (kv.1, v) else kv) else d ++ [(k, v)]
def ddrop [DecidableEq κ] (d : List (κ × α)) (k : κ) : List (κ × α) := d.filter fun kv => decide (kv.1 ≠ k)
def has [DecidableEq κ] (d : List (κ × α)) (k : κ) : Bool := (look d k).isSome
theorem prd_look {κ' : Type} [DecidableEq κ] [DecidableEq κ'] {f : κ' → κ} (inj : ∀ {a b}, f a = f b → a = b) {n : κ' → Prop} {F : Hp} : ∀ {vs : List (κ × V)} {xs : List (κ' × α)}, Paired (fun (a : κ × V) (b : κ' × α) => a.1 = f b.1 ∧ n b.1 ∧ R.ok F a.2 b.2) vs xs → ∀ k : κ',
    match look xs k with | none => valV vs (f k) = none | some z => ∃ v, valV vs (f k) = some v ∧ R.ok F v z
  | _, _, .nil, k => rfl
  | (a, v) :: vs, (b, z) :: xs, .cons ⟨e, _, h⟩ t, k => by
    have e : a = f b := e
    subst e
    by_cases hk : b = k
    · subst hk
      have : look ((b, z) :: xs) b = some z := by simp [look, List.find?_cons]
      rw [this]
      exact ⟨v, valV_pos rfl, h⟩
    · have e1 : look ((b, z) :: xs) k = look xs k := by simp [look, List.find?_cons, hk]
      have e2 : valV ((f b, v) :: vs) (f k) = valV vs (f k) := valV_neg (fun z => hk (inj z))
      rw [e1, e2]
      exact prd_look inj t k
theorem prd_any {κ' : Type} [DecidableEq κ] [DecidableEq κ'] {f : κ' → κ} (inj : ∀ {a b}, f a = f b → a = b) {n : κ' → Prop} {F : Hp} : ∀ {vs : List (κ × V)} {xs : List (κ' × α)}, Paired (fun (a : κ × V) (b : κ' × α) => a.1 = f b.1 ∧ n b.1 ∧ R.ok F a.2 b.2) vs xs → ∀ k : κ',
    (vs.any fun kv => decide (kv.1 = f k)) = xs.any fun kv => decide (kv.1 = k)
  | _, _, .nil, k => rfl
  | (a, v) :: vs, (b, z) :: xs, .cons ⟨e, _, h⟩ t, k => by
    have e : a = f b := e
    subst e
    rw [List.any_cons, List.any_cons, prd_any inj t k]
    congr 1
    by_cases hk : b = k
    · subst hk; simp
    · rw [decide_eq_false hk, decide_eq_false (fun z => hk (inj z))]
theorem prd_repl {κ' : Type} [DecidableEq κ] [DecidableEq κ'] {f : κ' → κ} (inj : ∀ {a b}, f a = f b → a = b) {n : κ' → Prop} {F : Hp} {k : κ'} {v : V} {z : α} (r : R.ok F v z) : ∀ {vs : List (κ × V)} {xs : List (κ' × α)}, Paired (fun (a : κ × V) (b : κ' × α) => a.1 = f b.1 ∧ n b.1 ∧ R.ok F a.2 b.2) vs xs →
    Paired (fun (a : κ × V) (b : κ' × α) => a.1 = f b.1 ∧ n b.1 ∧ R.ok F a.2 b.2) (vs.map fun kv => if kv.1 = f k then (kv.1, v) else kv) (xs.map fun kv => if kv.1 = k then (kv.1, z) else kv)
  | _, _, .nil => .nil
  | (a, v') :: vs, (b, z') :: xs, .cons ⟨e, nb, h⟩ t => by
    have e : a = f b := e
    subst e
    refine .cons ?_ (prd_repl inj r t)
    by_cases hk : b = k
    · subst hk
      simp only [if_true]
      exact ⟨trivial, nb, r⟩
    · have hk' : ¬ f b = f k := fun z => hk (inj z)
      simp only [hk, hk', if_false]
      exact ⟨trivial, nb, h⟩
theorem prd_drop' {κ' : Type} [DecidableEq κ] [DecidableEq κ'] {f : κ' → κ} (inj : ∀ {a b}, f a = f b → a = b) {n : κ' → Prop} {F : Hp} {k : κ'} : ∀ {vs : List (κ × V)} {xs : List (κ' × α)}, Paired (fun (a : κ × V) (b : κ' × α) => a.1 = f b.1 ∧ n b.1 ∧ R.ok F a.2 b.2) vs xs →
    Paired (fun (a : κ × V) (b : κ' × α) => a.1 = f b.1 ∧ n b.1 ∧ R.ok F a.2 b.2) (dropK vs (f k)) (ddrop xs k)
  | _, _, .nil => .nil
  | (a, v') :: vs, (b, z') :: xs, .cons ⟨e, nb, h⟩ t => by
    have e : a = f b := e
    subst e
    have ih := prd_drop' inj (k := k) t
    unfold dropK ddrop at *
    rw [List.filter_cons, List.filter_cons]
    by_cases hk : b = k
    · subst hk
      simpa using ih
    · have : f b ≠ f k := fun z => hk (inj z)
      simpa [hk, this] using Paired.cons (F := fun (a : κ × V) (b : κ' × α) => a.1 = f b.1 ∧ n b.1 ∧ R.ok F a.2 b.2) ⟨rfl, nb, h⟩ ih
theorem prd_put {κ' : Type} [DecidableEq κ] [DecidableEq κ'] {f : κ' → κ} (inj : ∀ {a b}, f a = f b → a = b) {n : κ' → Prop} {F : Hp} {vs : List (κ × V)} {xs : List (κ' × α)} (h : Paired (fun (a : κ × V) (b : κ' × α) => a.1 = f b.1 ∧ n b.1 ∧ R.ok F a.2 b.2) vs xs) {k : κ'} {v : V} {z : α} (nk : n k) (r : R.ok F v z) :
    Paired (fun (a : κ × V) (b : κ' × α) => a.1 = f b.1 ∧ n b.1 ∧ R.ok F a.2 b.2) (putK vs (f k) v) (dput xs k z) := by
  unfold putK dput
  rw [prd_any inj h k]
  split
  · exact prd_repl inj r h
  · exact prd_app h (.cons ⟨rfl, nk, r⟩ .nil)
theorem dput_len [DecidableEq κ] (d : List (κ × α)) (k : κ) (v : α) : (dput d k v).length ≤ d.length + 1 := by
  unfold dput
  split
  · rw [List.length_map]; omega
  · rw [List.length_append]; simp
/-- d[k], k in it -/
theorem xe_dget [DecidableEq κ] [Inhabited α] (C : Ctx X P w K mg base N sc k dd) {A : KF κ} {d : List (κ × α)} {q : κ} (ha : XE X Γ a (rK A R) d) (hb : XE X Γ b A.R q) (hk : has d q = true) (hs : NoSl b := by exact fun _ _ => rfl) : XE X Γ (.Subscript a b pos) R ((look d q).getD default) := by
  intro σ F H D g e Q kq
  refine (pe_dget C.hu (pe_ a) (pe_ b) hs).wp (ha σ F H D g e _ fun v F1 H1 g1 ⟨z, p, vs, ev, hp, pr⟩ => hb σ F1 H1 D (g.grow g1) (e.grow g g1) _ fun u F2 H2 g2 r2 => ?_)
  obtain ⟨eu, nu⟩ := A.to r2
  have l := prd_look A.inj pr q
  cases hl : look d q with
  | none => unfold has at hk; rw [hl] at hk; cases hk
  | some z' =>
    rw [hl] at l
    obtain ⟨v', e1, r⟩ := l
    exact ⟨p, v', ev, .inl ⟨vs, A.f q, rd_of (g2.fh _ _ (g2.ff _ _ hp)), eu, e1.symm⟩, kq v' F2 H2 (g1.trans g2) (by rw [hl]; exact R.mono g2.ff r)⟩
theorem xe_dgetT [DecidableEq κ] [Inhabited α] (C : Ctx X P w K mg base N sc k dd) {A : KT' κ} {d : List (κ × α)} {q : κ} (ha : XE X Γ a (rKT A R) d) (hb : XE X Γ b (rT A.T) q) (hk : has d q = true) (hs : NoSl b := by exact fun _ _ => rfl) : XE X Γ (.Subscript a b pos) R ((look d q).getD default) := by
  intro σ F H D g e Q kq
  refine (pe_dget C.hu (pe_ a) (pe_ b) hs).wp (ha σ F H D g e _ fun v F1 H1 g1 ⟨z, p, vs, ev, hp, pr⟩ => hb σ F1 H1 D (g.grow g1) (e.grow g g1) _ fun u F2 H2 g2 ⟨p2, us, eu, hu, ht⟩ => ?_)
  obtain ⟨e3, nu⟩ := A.to ht
  subst e3
  have l := prd_look A.inj pr q
  cases hl : look d q with
  | none => unfold has at hk; rw [hl] at hk; cases hk
  | some z' =>
    rw [hl] at l
    obtain ⟨v', e1, r⟩ := l
    have h4 : H2 p2 = some (.tup ((A.f q).map kV)) := tup_of (g2.fh _ _ hu)
    exact ⟨p, v', ev, .inr ⟨vs, A.f q, p2, rd_of (g2.fh _ _ (g2.ff _ _ hp)), eu, h4, e1.symm⟩, kq v' F2 H2 (g1.trans g2) (by rw [hl]; exact R.mono g2.ff r)⟩
theorem op_dinR (hu : X.A.units + 1 < cLine) : OpR X (compareOp .In) (fun y x H Q => ∃ a o, x = .ref a ∧ DGet H a y o ∧ Q (.bl o.isSome) H) := by
  intro pins s σ H x y v u Q I rx ry ⟨a, o, e, g, q⟩
  subst e
  cases ry
  exact d_in hu I g rx fun s' I' => ⟨.bl _, H, I', rfl, q⟩
theorem op_dnotR (hu : X.A.units + 1 < cLine) : OpR X (compareOp .NotIn) (fun y x H Q => ∃ a o, x = .ref a ∧ DGet H a y o ∧ Q (.bl (!o.isSome)) H) := by
  intro pins s σ H x y v u Q I rx ry ⟨a, o, e, g, q⟩
  subst e
  cases ry
  exact d_notIn hu I g rx fun s' I' => ⟨.bl _, H, I', rfl, q⟩
theorem valV_has [DecidableEq κ] {A : KF κ} {F : Hp} {vs : List (Key × V)} {d : List (κ × α)} (pr : Paired (fun (a : Key × V) (b : κ × α) => a.1 = A.f b.1 ∧ A.nice b.1 ∧ R.ok F a.2 b.2) vs d) (q : κ) : (valV vs (A.f q)).isSome = has d q := by
  have l := prd_look A.inj pr q
  unfold has
  cases hl : look d q with
  | none => rw [hl] at l; rw [show valV vs (A.f q) = none from l]; rfl
  | some z => rw [hl] at l; obtain ⟨v, e, _⟩ := l; rw [e]; rfl
theorem valV_hasT [DecidableEq κ] {A : KT' κ} {F : Hp} {vs : List (List Key × V)} {d : List (κ × α)} (pr : Paired (fun (a : List Key × V) (b : κ × α) => a.1 = A.f b.1 ∧ A.nice b.1 ∧ R.ok F a.2 b.2) vs d) (q : κ) : (valV vs (A.f q)).isSome = has d q := by
  have l := prd_look A.inj pr q
  unfold has
  cases hl : look d q with
  | none => rw [hl] at l; rw [show valV vs (A.f q) = none from l]; rfl
  | some z => rw [hl] at l; obtain ⟨v, e, _⟩ := l; rw [e]; rfl
theorem o_inD [DecidableEq κ] (C : Ctx X P w K mg base N sc k dd) {A : KF κ} : OpX X (compareOp .In) A.R (rK A R) rB always (fun q d => has d q) :=
  ⟨_, op_dinR C.hu, fun F H v u q d s r1 ⟨_, p, vs, e, h, pr⟩ _ Q kq => ⟨p, _, e, .inl ⟨vs, A.f q, rd_of (s _ _ h), (A.to r1).1, rfl⟩, kq _ F H (.refl s) (congrArg V.bl (valV_has pr q))⟩⟩
theorem o_notInD [DecidableEq κ] (C : Ctx X P w K mg base N sc k dd) {A : KF κ} : OpX X (compareOp .NotIn) A.R (rK A R) rB always (fun q d => !has d q) :=
  ⟨_, op_dnotR C.hu, fun F H v u q d s r1 ⟨_, p, vs, e, h, pr⟩ _ Q kq => ⟨p, _, e, .inl ⟨vs, A.f q, rd_of (s _ _ h), (A.to r1).1, rfl⟩, kq _ F H (.refl s) (congrArg (fun z => V.bl (!z)) (valV_has pr q))⟩⟩
theorem o_inDT [DecidableEq κ] (C : Ctx X P w K mg base N sc k dd) {A : KT' κ} : OpX X (compareOp .In) (rT A.T) (rKT A R) rB always (fun q d => has d q) :=
  ⟨_, op_dinR C.hu, fun F H v u q d s ⟨p2, us, e2, h2, t⟩ ⟨_, p, vs, e, h, pr⟩ _ Q kq => ⟨p, _, e, .inr ⟨vs, A.f q, p2, rd_of (s _ _ h), e2, by rw [← (A.to t).1]; exact tup_of (s _ _ h2), rfl⟩, kq _ F H (.refl s) (congrArg V.bl (valV_hasT pr q))⟩⟩
theorem o_notInDT [DecidableEq κ] (C : Ctx X P w K mg base N sc k dd) {A : KT' κ} : OpX X (compareOp .NotIn) (rT A.T) (rKT A R) rB always (fun q d => !has d q) :=
  ⟨_, op_dnotR C.hu, fun F H v u q d s ⟨p2, us, e2, h2, t⟩ ⟨_, p, vs, e, h, pr⟩ _ Q kq => ⟨p, _, e, .inr ⟨vs, A.f q, p2, rd_of (s _ _ h), e2, by rw [← (A.to t).1]; exact tup_of (s _ _ h2), rfl⟩, kq _ F H (.refl s) (congrArg (fun z => V.bl (!z)) (valV_hasT pr q))⟩⟩

/-! ### what is one's own at one address is written -/
theorem set_same {σ : St} {i : Nat} {o : Option V} (h : σ[i]? = some o) : σ.set i o = σ := by
  apply List.ext_getElem?
  intro j
  by_cases hj : i = j
  · subst hj
    rw [List.getElem?_set_self (List.getElem?_eq_some_iff.mp h).1, h]
  · rw [List.getElem?_set_ne hj]
def At1 (A : Rs α) : Prop := ∀ {F H : Hp} {D : List Addr} {v : V} {x : α}, A.ok F H D v x → ∃ p, v = .ref p ∧ D = [p]
theorem at1L : At1 (oL R) := fun ⟨_, p, vs, e, d, _⟩ => ⟨p, e, d⟩
theorem at1K {A : KF κ} : At1 (oK A R) := fun ⟨_, p, vs, e, d, _⟩ => ⟨p, e, d⟩
theorem at1KT {A : KT' κ} : At1 (oKT A R) := fun ⟨_, p, vs, e, d, _⟩ => ⟨p, e, d⟩
theorem own_at {A : Rs α} (one : At1 A) {i : Nat} (hs : Γ[i]? = some (.res A x)) {F H : Hp} {D : List Addr} {σ : St} (g : Good F H D) (en : Env F H D Γ σ) :
    ∃ p, σ[i]? = some (some (.ref p)) ∧ A.ok F H [p] (.ref p) x ∧ ∀ {F1 H1 : Hp} {o : HO} {β : Type} {A' : Rs β} {x' : β}, Grow F H F1 H1 → A'.ok F1 (upd H1 p o) [p] (.ref p) x' →
      Step F H D F1 (upd H1 p o) D ∧ Env F1 (upd H1 p o) D (Γ.set i (.res A' x')) σ := by
  obtain ⟨Da, D1, Db, o1, e1, h1, ⟨v, h2, h3⟩, back⟩ := en.upd (s' := .any) (o' := none) (D1' := []) i hs
  obtain ⟨p, rfl, rfl⟩ := one h3
  subst h2 e1
  refine ⟨p, h1, h3, fun {F1 H1 o β A' x'} g1 ok => ?_⟩
  have ga := g.grow g1
  have pin : p ∈ Da ++ [p] ++ Db := by simp
  have nF : F1 p = none := ga.dF p pin
  have pd : ∀ b ∈ Da ++ Db, b ≠ p := fun b hb z => by
    subst z
    have nd := g.nd
    rw [List.nodup_append, List.nodup_append] at nd
    rcases List.mem_append.mp hb with q | q
    · exact nd.1.2.2 b q b (by simp) rfl
    · exact nd.2.2 b (by simp) b q rfl
  have hv2 : Same F1 (Vw (upd H1 p o)) := fun b w' q => by
    have hb : b ≠ p := fun z => by subst z; rw [nF] at q; cases q
    have q2 := g1.fh b w' q
    unfold Vw at q2 ⊢
    rw [upd_ne hb]; exact q2
  have e' := back (s' := .res A' x') (o' := some (.ref p)) (D1' := [p]) (F' := F1) (H' := upd H1 p o) g1.ff (fun b hb => by
    rw [upd_ne (pd b hb)]
    obtain ⟨o, ho⟩ := ex_of (g.dH b (by
      rcases List.mem_append.mp hb with q | q
      · exact List.mem_append_left _ (List.mem_append_left _ q)
      · exact List.mem_append_right _ q))
    rw [ho]; exact g1.hh _ _ ho) ⟨_, rfl, ok⟩
  rw [set_same h1] at e'
  refine ⟨⟨g1.ff, hv2, fun b o' hb nb => ?_, fun b hb => ?_, fun b h1 h2 _ => g1.new b h1 h2, g.nd, ga.dF, fun b hb => ?_, fun b hb => .inl hb⟩, e'⟩
  · have : b ≠ p := fun z => nb (z ▸ pin)
    rw [upd_ne this]; exact g1.hh b o' hb
  · by_cases z : b = p
    · subst z; rw [upd_same]; simp
    · rw [upd_ne z]; exact same_ne g1.hh hb
  · by_cases z : b = p
    · subst z; rw [upd_same]; simp
    · rw [upd_ne z]; exact ga.dH b hb
/-- d[k] = v, d one's own -/
theorem xs_dput [DecidableEq κ] (C : Ctx X P w K mg base N sc k dd) (i : Nat) {n : Str} {p1 p2 : Pos} {PP : Post} {A : KF κ} {d : List (κ × α)} {q : κ} {e ke : Expr} (he : XE X Γ e R x) (hk : XE X Γ ke A.R q) (hl : d.length ≤ 100000) (hn : PP.nx (Γ.set i (.res (oK A R) (dput d q x)))) (hv : visB sc n = true)
    (hN : N[i]? = some n := by rfl) (hs : Γ[i]? = some (.res (oK A R) d) := by rfl) (hd : (n == ("__debug__" : Str)) = false := by decide +kernel) (hcd : (n == ("__classdict__" : Str)) = false := by decide +kernel)
    (hsw : swapsWith e (some (.Subscript (.Name n p1) ke p2)) pos.line X.env = pure false := by rfl) : XS X Γ (.Assign [.Subscript (.Name n p1) ke p2] e pos) PP := by
  intro σ F H D g en E m
  obtain ⟨p, h1, ⟨hz, p', vs, ep, _, hp, pr⟩, fin⟩ := own_at at1K hs g en
  cases ep
  refine (ps_dput C.hu (pe_var (i := i) (by rw [C.N]; exact hN) (C.vis hv) hd hcd) (pe_ ke) (pe_ e) hsw).wp (he σ F H D g en _ fun v F1 H1 g1 r => ⟨_, h1, hk σ F1 H1 D (g.grow g1) (en.grow g g1) _ fun y F2 H2 g2 r2 => ?_⟩)
  have g12 := g1.trans g2
  obtain ⟨ey, ny⟩ := A.to r2
  have hp2 : H2 p = some (.dK vs) := g12.hh _ _ hp
  refine ⟨p, _, rfl, .inl ⟨vs, A.f q, hp2, ey, ?_, rfl⟩, ?_⟩
  · rw [prd_len pr]; exact Nat.lt_of_le_of_lt hl (by decide)
  · obtain ⟨st, en2⟩ := fin (A' := oK A R) (x' := dput d q x) g12 ⟨Nat.le_trans (dput_len _ _ _) (Nat.le_trans (Nat.add_le_add_right hl 1) (by decide)), p, _, rfl, rfl, upd_same, prd_put A.inj (kv_mono g12.ff pr) ny (R.mono g2.ff r)⟩
    exact m.nx _ hn σ F2 _ D st en2
theorem xs_dputT [DecidableEq κ] (C : Ctx X P w K mg base N sc k dd) (i : Nat) {n : Str} {p1 p2 : Pos} {PP : Post} {A : KT' κ} {d : List (κ × α)} {q : κ} {e ke : Expr} (he : XE X Γ e R x) (hk : XE X Γ ke (rT A.T) q) (hl : d.length ≤ 100000) (hn : PP.nx (Γ.set i (.res (oKT A R) (dput d q x)))) (hv : visB sc n = true)
    (hN : N[i]? = some n := by rfl) (hs : Γ[i]? = some (.res (oKT A R) d) := by rfl) (hd : (n == ("__debug__" : Str)) = false := by decide +kernel) (hcd : (n == ("__classdict__" : Str)) = false := by decide +kernel)
    (hsw : swapsWith e (some (.Subscript (.Name n p1) ke p2)) pos.line X.env = pure false := by rfl) : XS X Γ (.Assign [.Subscript (.Name n p1) ke p2] e pos) PP := by
  intro σ F H D g en E m
  obtain ⟨p, h1, ⟨hz, p', vs, ep, _, hp, pr⟩, fin⟩ := own_at at1KT hs g en
  cases ep
  refine (ps_dput C.hu (pe_var (i := i) (by rw [C.N]; exact hN) (C.vis hv) hd hcd) (pe_ ke) (pe_ e) hsw).wp (he σ F H D g en _ fun v F1 H1 g1 r => ⟨_, h1, hk σ F1 H1 D (g.grow g1) (en.grow g g1) _ fun y F2 H2 g2 ⟨p2, us, ey, hu, t⟩ => ?_⟩)
  have g12 := g1.trans g2
  obtain ⟨eu, ny⟩ := A.to t
  have hp2 : H2 p = some (.dT vs) := g12.hh _ _ hp
  refine ⟨p, _, rfl, .inr ⟨vs, A.f q, p2, hp2, ey, by rw [← eu]; exact tup_of (g2.fh _ _ hu), ?_, rfl⟩, ?_⟩
  · rw [prd_len pr]; exact Nat.lt_of_le_of_lt hl (by decide)
  · obtain ⟨st, en2⟩ := fin (A' := oKT A R) (x' := dput d q x) g12 ⟨Nat.le_trans (dput_len _ _ _) (Nat.le_trans (Nat.add_le_add_right hl 1) (by decide)), p, _, rfl, rfl, upd_same, prd_put A.inj (kv_mono g12.ff pr) ny (R.mono g2.ff r)⟩
    exact m.nx _ hn σ F2 _ D st en2
/-- a method without arguments of a list of one's own, whose answer is dropped: what is behind it is not told any more -/
theorem xs_forget (C : Ctx X P w K mg base N sc k dd) (i : Nat) {n : Str} {p1 p2 p3 : Pos} {PP : Post} {xs : List α} (hn : PP.nx (Γ.set i .any)) (hv : visB sc n = true) (hN : N[i]? = some n := by rfl) (hs : Γ[i]? = some (.res (oL R) xs) := by rfl)
    (hd : (n == ("__debug__" : Str)) = false := by decide +kernel) (hcd : (n == ("__classdict__" : Str)) = false := by decide +kernel)
    (hbase : attributeBase (.Name n p1) "clear" X.env (eval (.Name n p1) X.env) = eval (.Name n p1) X.env := by rfl) (hline : (p2.endLine == p3.line) = true := by rfl)
    (hsw : swapsWith (.Call (.Attribute (.Name n p1) "clear" p2) [] [] p3) none pos.line X.env = pure false := by rfl) : XS X Γ (.Expr (.Call (.Attribute (.Name n p1) "clear" p2) [] [] p3) pos) PP := by
  intro σ F H D g en E m
  obtain ⟨p, h1, ⟨hz, p', vs, ep, _, hp, pr⟩, fin⟩ := own_at at1L hs g en
  cases ep
  refine (ps_expr (pe_bm0 PySem.F.plainAttrs_list PySem.F.slot_list_clear PySem.F.type_list_clear mt_clear (pe_var (i := i) (by rw [C.N]; exact hN) (C.vis hv) hd hcd) hbase hline) hsw).wp ?_
  refine ⟨_, h1, .inl ⟨rfl, _, .inl (.inl hp)⟩, p, vs, rfl, rfl, hp, ?_⟩
  obtain ⟨st, en2⟩ := fin (A' := oL R) (x' := []) (.refl g.fh) ⟨Nat.zero_le _, p, [], rfl, rfl, upd_same, .nil⟩
  obtain ⟨D3, s3, e3⟩ := Env.set (s' := .any) (o' := some (.ref p)) (F := F) (H := upd H p (.lst [])) rfl i en2
  rw [set_same h1, List.set_set] at e3
  exact m.nx _ hn σ F _ D3 (st.sub s3) e3
end
end Wf
/-! Data as a whole: equality, order, sorting. -/
namespace Wf
open PySem L2

theorem Ctx.hu65 {X : Cx} {P : Program} {w : World} {K : PySem.W.Frag} {mg : Str → Option Value} {base : Heap} {N : List Str} {sc : Scope} {k : Nat} {dd : Bool} (C : Ctx X P w K mg base N sc k dd) : X.A.units + 65 < cLine := by
  have := C.room.un
  omega
mutual
/-- data as they stand in frozen parts -/
inductive Lp (F : Hp) : V → PyData → Prop
  | non : Lp F .non .none
  | bl (b : Bool) : Lp F (.bl b) (.bool b)
  | int (i : Int) : Lp F (.int i) (.int i)
  | str (x : Str) : niceS x = true → Lp F (.str x) (.str x)
  | lst {a : Addr} {xs : List V} {ds : List PyData} : F a = some (.lst xs) → LpAll F xs ds → Lp F (.ref a) (.list ds)
  | tup {a : Addr} {xs : List V} {ds : List PyData} : F a = some (.tup xs) → LpAll F xs ds → Lp F (.ref a) (.tuple ds)
inductive LpAll (F : Hp) : List V → List PyData → Prop
  | nil : LpAll F [] []
  | cons {v : V} {vs : List V} {d : PyData} {ds : List PyData} : Lp F v d → LpAll F vs ds → LpAll F (v :: vs) (d :: ds)
end
/-- kinds that read off as data -/
class Dat {α : Type} (R : Rp α) where
  enc : α → PyData
  dep : Nat
  rd : ∀ {K : PySem.W.Frag} {F H : Hp} {v : V} {x : α}, Same F (Vw H) → R.ok F v x → Dp K H v (enc x) ∧ (enc x).canLay0 = true
  lp : ∀ {F : Hp} {v : V} {x : α}, R.ok F v x → Lp F v (enc x)
  depth : ∀ x, (enc x).depth ≤ dep
  inj : ∀ x y, PyData.eqv (enc x) (enc y) = true → x = y
  refl : ∀ x, PyData.eqv (enc x) (enc x) = true
section
variable {α β γ : Type} {R : Rp α} {R2 : Rp β}
theorem Dat.eqv [d : Dat R] [DecidableEq α] (x y : α) : PyData.eqv (d.enc x) (d.enc y) = decide (x = y) := by
  by_cases e : x = y
  · subst e; rw [d.refl, decide_eq_true rfl]
  · rw [decide_eq_false e]
    cases h : PyData.eqv (d.enc x) (d.enc y) with
    | false => rfl
    | true => exact absurd (d.inj x y h) e
instance : Dat rI where
  enc := .int
  dep := 0
  rd := fun s h => by cases h; exact ⟨.int _, by simp [PyData.canLay0]⟩
  lp := fun h => by cases h; exact .int _
  depth := fun x => by simp [PyData.depth]
  inj := fun x y h => by simpa [PyData.eqv] using h
  refl := fun x => by simp [PyData.eqv]
instance : Dat rB where
  enc := .bool
  dep := 0
  rd := fun s h => by cases h; exact ⟨.bl _, by simp [PyData.canLay0]⟩
  lp := fun h => by cases h; exact .bl _
  depth := fun x => by simp [PyData.depth]
  inj := fun x y h => by simpa [PyData.eqv] using h
  refl := fun x => by simp [PyData.eqv]
instance : Dat rS where
  enc := .str
  dep := 0
  rd := fun s h => by
    obtain ⟨rfl, n⟩ := h
    exact ⟨.str _, by simp [PyData.canLay0, niceS_ok n]⟩
  lp := fun h => by obtain ⟨rfl, n⟩ := h; exact .str _ n
  depth := fun x => by simp [PyData.depth]
  inj := fun x y h => by simpa [PyData.eqv] using h
  refl := fun x => by simp [PyData.eqv]
instance : Dat rN where
  enc := fun _ => .none
  dep := 0
  rd := fun s h => by cases h; exact ⟨.non, by simp [PyData.canLay0]⟩
  lp := fun h => by cases h; exact .non
  depth := fun x => by simp [PyData.depth]
  inj := fun x y h => rfl
  refl := fun x => by simp [PyData.eqv]
/-- no datum of the kind is None -/
class Some' (R : Rp α) [d : Dat R] : Prop where
  l : ∀ x, PyData.eqv .none (d.enc x) = false
  r : ∀ x, PyData.eqv (d.enc x) .none = false
instance : Some' rI := ⟨fun x => by simp [Dat.enc, PyData.eqv], fun x => by simp [Dat.enc, PyData.eqv]⟩
instance : Some' rB := ⟨fun x => by simp [Dat.enc, PyData.eqv], fun x => by simp [Dat.enc, PyData.eqv]⟩
instance : Some' rS := ⟨fun x => by simp [Dat.enc, PyData.eqv], fun x => by simp [Dat.enc, PyData.eqv]⟩
instance instDatO [d : Dat R] [n : Some' R] : Dat (rO R) where
  enc := fun x => match x with | none => .none | some y => d.enc y
  dep := d.dep
  rd := fun {K F H v x} s h => by
    cases x with
    | none => cases h; exact ⟨.non, by simp [PyData.canLay0]⟩
    | some y => exact d.rd s h
  lp := fun {F v x} h => by
    cases x with
    | none => cases h; exact .non
    | some y => exact d.lp h
  depth := fun x => by
    cases x with
    | none => simp [PyData.depth]
    | some y => exact d.depth y
  inj := fun x y h => by
    cases x with
    | none => cases y with
      | none => rfl
      | some y => rw [n.l] at h; cases h
    | some x => cases y with
      | none => rw [n.r] at h; cases h
      | some y => rw [d.inj x y h]
  refl := fun x => by
    cases x with
    | none => simp [PyData.eqv]
    | some y => exact d.refl y
theorem eqvAll_inj [d : Dat R] : ∀ xs ys : List α, PyData.eqvAll (xs.map d.enc) (ys.map d.enc) = true → xs = ys
  | [], [], _ => rfl
  | [], _ :: _, h => by simp [PyData.eqvAll] at h
  | _ :: _, [], h => by simp [PyData.eqvAll] at h
  | x :: xs, y :: ys, h => by
    simp only [List.map_cons, PyData.eqvAll, Bool.and_eq_true] at h
    rw [d.inj x y h.1, eqvAll_inj xs ys h.2]
theorem eqvAll_refl [d : Dat R] : ∀ xs : List α, PyData.eqvAll (xs.map d.enc) (xs.map d.enc) = true
  | [] => by simp [PyData.eqvAll]
  | x :: xs => by simp only [List.map_cons, PyData.eqvAll, d.refl x, eqvAll_refl xs, Bool.and_self]
theorem depthAll_map [d : Dat R] : ∀ xs : List α, PyData.depthAll (xs.map d.enc) ≤ d.dep
  | [] => by simp [PyData.depthAll]
  | x :: xs => by
    simp only [List.map_cons, PyData.depthAll]
    exact Nat.max_le.mpr ⟨d.depth x, depthAll_map xs⟩
theorem rdAll [d : Dat R] {K : PySem.W.Frag} {F H : Hp} (s : Same F (Vw H)) : ∀ {vs : List V} {xs : List α}, Paired (R.ok F) vs xs → DpAll K H vs (xs.map d.enc) ∧ PyData.canLayAll0 (xs.map d.enc) = true
  | _, _, .nil => ⟨.nil, by simp [PyData.canLayAll0]⟩
  | _, _, .cons r t => by
    obtain ⟨h1, h2⟩ := d.rd (K := K) s r
    obtain ⟨h3, h4⟩ := rdAll s t
    exact ⟨.cons h1 h3, by simp [PyData.canLayAll0, h2, h4]⟩
theorem lpAll_of [d : Dat R] {F : Hp} : ∀ {vs : List V} {xs : List α}, Paired (R.ok F) vs xs → LpAll F vs (xs.map d.enc)
  | _, _, .nil => .nil
  | _, _, .cons r t => .cons (d.lp r) (lpAll_of t)
instance instDatL [d : Dat R] : Dat (rL R) where
  enc := fun xs => .list (xs.map d.enc)
  dep := d.dep + 1
  rd := fun s ⟨_, p, vs, e, hp, pr⟩ => by
    obtain ⟨h1, h2⟩ := rdAll s pr
    exact ⟨by rw [e]; exact .lst (.inl (rd_of (s _ _ hp))) h1, by simpa [PyData.canLay0] using h2⟩
  lp := fun ⟨z, p, vs, e, hp, pr⟩ => by rw [e]; exact .lst hp (lpAll_of pr)
  depth := fun xs => by
    simp only [PyData.depth]
    exact Nat.add_le_add_right (depthAll_map xs) 1
  inj := fun xs ys h => eqvAll_inj xs ys (by simpa [PyData.eqv] using h)
  refl := fun xs => by simpa [PyData.eqv] using eqvAll_refl (R := R) xs
instance instDatV [d : Dat R] : Dat (rV R) where
  enc := fun xs => .tuple (xs.map d.enc)
  dep := d.dep + 1
  rd := fun s ⟨_, p, vs, e, hp, pr⟩ => by
    obtain ⟨h1, h2⟩ := rdAll s pr
    exact ⟨by rw [e]; exact .tup (.inl (rd_of (s _ _ hp))) h1, by simpa [PyData.canLay0] using h2⟩
  lp := fun ⟨z, p, vs, e, hp, pr⟩ => by rw [e]; exact .tup hp (lpAll_of pr)
  depth := fun xs => by
    simp only [PyData.depth]
    exact Nat.add_le_add_right (depthAll_map xs) 1
  inj := fun xs ys h => eqvAll_inj xs ys (by simpa [PyData.eqv] using h)
  refl := fun xs => by simpa [PyData.eqv] using eqvAll_refl (R := R) xs
class DatW {α : Type} (T : Rw α) where
  enc : α → List PyData
  dep : Nat
  ne : ∀ x, enc x ≠ []
  rd : ∀ {K : PySem.W.Frag} {F H : Hp} {vs : List V} {x : α}, Same F (Vw H) → T.ok F vs x → DpAll K H vs (enc x) ∧ PyData.canLayAll0 (enc x) = true
  lp : ∀ {F : Hp} {vs : List V} {x : α}, T.ok F vs x → LpAll F vs (enc x)
  depth : ∀ x, PyData.depthAll (enc x) ≤ dep
  inj : ∀ x y, PyData.eqvAll (enc x) (enc y) = true → x = y
  refl : ∀ x, PyData.eqvAll (enc x) (enc x) = true
instance [d : Dat R] : DatW (w1 R) where
  enc := fun x => [d.enc x]
  dep := d.dep
  ne := fun _ => by simp
  rd := fun s ⟨v, e, h⟩ => by
    obtain ⟨h1, h2⟩ := d.rd s h
    subst e
    exact ⟨.cons h1 .nil, by simp [PyData.canLayAll0, h2]⟩
  lp := fun ⟨v, e, h⟩ => by subst e; exact .cons (d.lp h) .nil
  depth := fun x => by
    simp only [PyData.depthAll]
    exact Nat.max_le.mpr ⟨d.depth x, Nat.zero_le _⟩
  inj := fun x y h => by
    simp only [PyData.eqvAll, Bool.and_true] at h
    exact d.inj x y h
  refl := fun x => by simp [PyData.eqvAll, d.refl x]
instance {T : Rw β} [d : Dat R] [e : DatW T] : DatW (wc R T) where
  enc := fun x => d.enc x.1 :: e.enc x.2
  dep := max d.dep e.dep
  ne := fun _ => by simp
  rd := fun s ⟨v, r, ev, h, q⟩ => by
    obtain ⟨h1, h2⟩ := d.rd s h
    obtain ⟨h3, h4⟩ := e.rd s q
    subst ev
    exact ⟨.cons h1 h3, by simp [PyData.canLayAll0, h2, h4]⟩
  lp := fun ⟨v, r, ev, h, q⟩ => by subst ev; exact .cons (d.lp h) (e.lp q)
  depth := fun x => by
    simp only [PyData.depthAll]
    exact Nat.max_le.mpr ⟨Nat.le_trans (d.depth _) (Nat.le_max_left _ _), Nat.le_trans (e.depth _) (Nat.le_max_right _ _)⟩
  inj := fun x y h => by
    simp only [PyData.eqvAll, Bool.and_eq_true] at h
    exact Prod.ext (d.inj _ _ h.1) (e.inj _ _ h.2)
  refl := fun x => by simp [PyData.eqvAll, d.refl, e.refl]
instance instDatT {T : Rw α} [d : DatW T] : Dat (rT T) where
  enc := fun x => .tuple (d.enc x)
  dep := d.dep + 1
  rd := fun s ⟨p, vs, e, hp, h⟩ => by
    obtain ⟨h1, h2⟩ := d.rd s h
    exact ⟨by rw [e]; exact .tup (.inl (rd_of (s _ _ hp))) h1, by simpa [PyData.canLay0] using h2⟩
  lp := fun {F v x} ⟨p, vs, e, hp, h⟩ => by rw [e]; exact .tup hp (d.lp h)
  depth := fun x => by
    simp only [PyData.depth]
    exact Nat.add_le_add_right (d.depth x) 1
  inj := fun x y h => d.inj x y (by simpa [PyData.eqv] using h)
  refl := fun x => by simpa [PyData.eqv] using d.refl x
instance {T : Rw α} [d : DatW T] : Some' (rT T) := ⟨fun x => by simp [Dat.enc, PyData.eqv], fun x => by simp [Dat.enc, PyData.eqv]⟩
instance [d : Dat R] : Some' (rL R) := ⟨fun x => by simp [Dat.enc, PyData.eqv], fun x => by simp [Dat.enc, PyData.eqv]⟩
instance [d : Dat R] : Some' (rV R) := ⟨fun x => by simp [Dat.enc, PyData.eqv], fun x => by simp [Dat.enc, PyData.eqv]⟩
end
section
variable {X : Cx} {Γ : Gm} {P : Program} {w : World} {K : PySem.W.Frag} {mg : Str → Option Value} {base : Heap} {N : List Str} {sc : Scope} {k : Nat} {dd : Bool}
variable {α β γ : Type} {R : Rp α} {R2 : Rp β} {a b : Expr} {p pos : Pos}
theorem shaped_of {d : PyData} (h : d.canLay0 = true) (h' : d.depth ≤ 64) : SeqAt.shaped d = true := by
  unfold SeqAt.shaped
  rw [h, decide_eq_true h']; rfl
theorem o_eq [d : Dat R] [DecidableEq α] (C : Ctx X P w K mg base N sc k dd) (hd : d.dep ≤ 60 := by decide) : OpX X (compareOp .Eq) R R rB always (fun x y => decide (x = y)) :=
  ⟨_, op_eqD C.room.units, fun F H v u x y s r1 r2 _ Q q => by
    obtain ⟨h1, h2⟩ := d.rd (K := X.K) s r1
    obtain ⟨h3, h4⟩ := d.rd (K := X.K) s r2
    refine ⟨d.enc x, d.enc y, h1, h3, shaped_of h2 (Nat.le_trans (d.depth x) (by omega)), shaped_of h4 (Nat.le_trans (d.depth y) (by omega)), q _ F H (.refl s) ?_⟩
    show V.bl _ = V.bl _
    rw [Dat.eqv]⟩
theorem o_ne [d : Dat R] [DecidableEq α] (C : Ctx X P w K mg base N sc k dd) (hd : d.dep ≤ 60 := by decide) : OpX X (compareOp .NotEq) R R rB always (fun x y => !decide (x = y)) :=
  ⟨_, op_neD C.room.units, fun F H v u x y s r1 r2 _ Q q => by
    obtain ⟨h1, h2⟩ := d.rd (K := X.K) s r1
    obtain ⟨h3, h4⟩ := d.rd (K := X.K) s r2
    refine ⟨d.enc x, d.enc y, h1, h3, shaped_of h2 (Nat.le_trans (d.depth x) (by omega)), shaped_of h4 (Nat.le_trans (d.depth y) (by omega)), q _ F H (.refl s) ?_⟩
    show V.bl _ = V.bl _
    rw [Dat.eqv]⟩
theorem any_eqv [d : Dat R] [DecidableEq α] (x : α) : ∀ xs : List α, ((xs.map d.enc).any fun z => PyData.eqv z (d.enc x)) = decide (x ∈ xs)
  | [] => by simp
  | y :: ys => by
    rw [List.map_cons, List.any_cons, any_eqv x ys, Dat.eqv]
    by_cases e : y = x
    · subst e; simp
    · have e' : ¬ x = y := fun z => e z.symm
      simp [e, e']
theorem o_in [d : Dat R] [DecidableEq α] (C : Ctx X P w K mg base N sc k dd) (hd : d.dep ≤ 50 := by decide) (hu : X.A.units + 65 < cLine := by exact Wf.Ctx.hu65 (by assumption)) : OpX X (compareOp .In) R (rL R) rB always (fun x xs => decide (x ∈ xs)) :=
  ⟨_, op_inD hu, fun F H v u x xs s r1 r2 _ Q q => by
    obtain ⟨h1, h2⟩ := d.rd (K := X.K) s r1
    obtain ⟨h3, h4⟩ := (instDatL (R := R)).rd (K := X.K) s r2
    refine ⟨d.enc x, xs.map d.enc, h1, h3, shaped_of h2 (Nat.le_trans (d.depth x) (by omega)), shaped_of h4 (Nat.le_trans ((instDatL (R := R)).depth xs) (by show d.dep + 1 ≤ 64; omega)), q _ F H (.refl s) ?_⟩
    show V.bl _ = V.bl _
    rw [any_eqv]⟩
theorem o_notIn [d : Dat R] [DecidableEq α] (C : Ctx X P w K mg base N sc k dd) (hd : d.dep ≤ 50 := by decide) (hu : X.A.units + 65 < cLine := by exact Wf.Ctx.hu65 (by assumption)) : OpX X (compareOp .NotIn) R (rL R) rB always (fun x xs => !decide (x ∈ xs)) :=
  ⟨_, op_notInD hu, fun F H v u x xs s r1 r2 _ Q q => by
    obtain ⟨h1, h2⟩ := d.rd (K := X.K) s r1
    obtain ⟨h3, h4⟩ := (instDatL (R := R)).rd (K := X.K) s r2
    refine ⟨d.enc x, xs.map d.enc, h1, h3, shaped_of h2 (Nat.le_trans (d.depth x) (by omega)), shaped_of h4 (Nat.le_trans ((instDatL (R := R)).depth xs) (by show d.dep + 1 ≤ 64; omega)), q _ F H (.refl s) ?_⟩
    show V.bl _ = V.bl _
    rw [any_eqv]⟩
end
end Wf
/-! Order, sorting, least and greatest, conversions, in the typed layer. -/
namespace Wf
open PySem L2

/-- data of the kind can be put in order -/
class Ord' {α : Type} (R : Rp α) [d : Dat R] : Prop where
  al : ∀ x y, PySem.W.alike (d.enc x) (d.enc y) = true
  nn : ∀ x, d.enc x ≠ .none
  srt : (∀ x, ∃ a r, d.enc x = .tuple (a :: r)) ∨ ∀ x, d.enc x ≠ .none ∧ ∀ xs, d.enc x ≠ .tuple xs
class OrdW {α : Type} (T : Rw α) [d : DatW T] : Prop where
  al : ∀ x y, PySem.W.alikeAll (d.enc x) (d.enc y) = true
section
variable {α β γ : Type} {R : Rp α} {R2 : Rp β}
instance : Ord' rI := ⟨fun x y => by simp [Dat.enc, PySem.W.alike], fun x => by simp [Dat.enc], .inr fun x => ⟨by simp [Dat.enc], by simp [Dat.enc]⟩⟩
instance : Ord' rS := ⟨fun x y => by simp [Dat.enc, PySem.W.alike], fun x => by simp [Dat.enc], .inr fun x => ⟨by simp [Dat.enc], by simp [Dat.enc]⟩⟩
instance : Ord' rB := ⟨fun x y => by simp [Dat.enc, PySem.W.alike], fun x => by simp [Dat.enc], .inr fun x => ⟨by simp [Dat.enc], by simp [Dat.enc]⟩⟩
theorem alike_map [d : Dat R] [o : Ord' R] : ∀ xs ys : List α, PySem.W.alikeAll (xs.map d.enc) (ys.map d.enc) = true
  | [], _ => by simp [PySem.W.alikeAll]
  | _ :: _, [] => by simp [PySem.W.alikeAll]
  | x :: xs, y :: ys => by simp only [List.map_cons, PySem.W.alikeAll, o.al, alike_map xs ys, Bool.and_self]
instance [d : Dat R] [o : Ord' R] : Ord' (rL R) := ⟨fun x y => by simpa [Dat.enc, PySem.W.alike] using alike_map (R := R) x y, fun x => by simp [Dat.enc], .inr fun x => ⟨by simp [Dat.enc], by simp [Dat.enc]⟩⟩
instance [d : Dat R] [o : Ord' R] : OrdW (w1 R) := ⟨fun x y => by simp [DatW.enc, PySem.W.alikeAll, o.al]⟩
instance {T : Rw β} [d : Dat R] [o : Ord' R] [e : DatW T] [u : OrdW T] : OrdW (wc R T) := ⟨fun x y => by simp only [DatW.enc, PySem.W.alikeAll, o.al, u.al, Bool.and_self]⟩
instance {T : Rw α} [d : DatW T] [u : OrdW T] : Ord' (rT T) := ⟨fun x y => by simpa [Dat.enc, PySem.W.alike] using u.al x y, fun x => by simp [Dat.enc], .inl fun x => by
  have h := d.ne x
  show ∃ a r, PyData.tuple (d.enc x) = .tuple (a :: r)
  cases e : d.enc x with
  | nil => exact absurd e h
  | cons a r => exact ⟨a, r, rfl⟩⟩
/-- Python's < and the order by which it sorts -/
def dlt [d : Dat R] (x y : α) : Bool := PySem.W.dataLt (d.enc x) (d.enc y)
def dle (R : Rp α) [d : Dat R] (x y : α) : Bool := PySem.W.dataLe false d.enc x y
def srt (R : Rp α) [d : Dat R] (xs : List α) : List α := xs.mergeSort (dle R)
def minF (R : Rp α) [d : Dat R] (x : α) (xs : List α) : α := xs.foldl (fun a y => if PySem.W.dataLt (d.enc y) (d.enc a) = true then y else a) x
def maxF (R : Rp α) [d : Dat R] (x : α) (xs : List α) : α := xs.foldl (fun a y => if PySem.W.dataLt (d.enc a) (d.enc y) = true then y else a) x
def minL (R : Rp α) [d : Dat R] [Inhabited α] : List α → α
  | [] => default
  | x :: xs => minF R x xs
def maxL (R : Rp α) [d : Dat R] [Inhabited α] : List α → α
  | [] => default
  | x :: xs => maxF R x xs
theorem minF_enc [d : Dat R] : ∀ (xs : List α) (x : α), d.enc (minF R x xs) = PySem.W.minD (d.enc x) (xs.map d.enc)
  | [], x => rfl
  | y :: ys, x => by
    have ih := minF_enc ys (if PySem.W.dataLt (d.enc y) (d.enc x) = true then y else x)
    unfold minF PySem.W.minD at *
    rw [List.foldl_cons, List.map_cons, List.foldl_cons, ih]
    congr 1
    split <;> rfl
theorem maxF_enc [d : Dat R] : ∀ (xs : List α) (x : α), d.enc (maxF R x xs) = PySem.W.maxD (d.enc x) (xs.map d.enc)
  | [], x => rfl
  | y :: ys, x => by
    have ih := maxF_enc ys (if PySem.W.dataLt (d.enc x) (d.enc y) = true then y else x)
    unfold maxF PySem.W.maxD at *
    rw [List.foldl_cons, List.map_cons, List.foldl_cons, ih]
    congr 1
    split <;> rfl
theorem Dat.enc_inj [d : Dat R] {x y : α} (h : d.enc x = d.enc y) : x = y := d.inj x y (by rw [h]; exact d.refl y)
theorem pairGet {α β : Type} {G : α → β → Prop} {vs : List α} {xs : List β} (h : Paired G vs xs) {j : Nat} {v : α} (e : vs[j]? = some v) : ∃ x, xs[j]? = some x ∧ G v x := h.get e
end
section
variable {X : Cx} {Γ : Gm} {P : Program} {w : World} {K : PySem.W.Frag} {mg : Str → Option Value} {base : Heap} {N : List Str} {sc : Scope} {k : Nat} {dd : Bool}
variable {α β γ : Type} {R : Rp α} {R2 : Rp β} {a b : Expr} {p pos : Pos}
/-- the values of the list at l, as they are now, and what they read as -/
theorem reads_list [d : Dat R] {pins : List (Addr × Obj)} {σ : St} {F H : Hp} {s : Shared} {l : Addr} {vs : List V} {xs : List α} (I : Inv X pins σ H s) (f : Same F (Vw H)) (hp : F l = some (.lst vs)) (pr : Paired (R.ok F) vs xs) :
    ∃ its : List Value, Vals vs its ∧ s.heap.IsList l its.toArray ∧ ∃ as, ReadsAll s.heap its (xs.map d.enc) as := by
  obtain ⟨its, r, pl, _⟩ := I.list (.inl (rd_of (f _ _ hp)))
  obtain ⟨h1, _⟩ := rdAll (K := X.K) f pr
  obtain ⟨as, q⟩ := Dp.readsAll I _ vs its h1 r
  exact ⟨its, r, pl.isList, as, q⟩
theorem cr_min [d : Dat R] [o : Ord' R] [Inhabited α] (C : Ctx X P w K mg base N sc k dd) (hd : d.dep ≤ 50 := by decide) : C1X X (.builtin "min") (rL R) R (fun xs => xs ≠ []) (minL R) := by
  refine ⟨fun xs H Q => ∃ (F : Hp) (l : Addr) (vs : List V) (zs : List α), xs = [.ref l] ∧ Same F (Vw H) ∧ F l = some (.lst vs) ∧ Paired (R.ok F) vs zs ∧ zs ≠ [] ∧ ∀ z, R.ok F z (minL R zs) → Q z H, ?_, ?_⟩
  · intro pins s σ H xs us Q I r h
    obtain ⟨F, l, vs, zs, rfl, f, hp, pr, hne, q⟩ := h
    rw [Vals.ref1 r]
    obtain ⟨its, rv, il, as, ra⟩ := reads_list I f hp pr
    cases zs with
    | nil => exact absurd rfl hne
    | cons z zs =>
      refine PySem.W.min_list_data (I.ok.hd C.calm) il ra ⟨fun x hx y hy => ?_, fun x hx => ?_⟩ ?_ fun i v h' tk bs hi hr hk => ?_
      · obtain ⟨x, _, rfl⟩ := List.mem_map.mp (show x ∈ (z :: zs).map d.enc from hx)
        obtain ⟨y, _, rfl⟩ := List.mem_map.mp (show y ∈ (z :: zs).map d.enc from hy)
        exact o.al x y
      · obtain ⟨x, _, rfl⟩ := List.mem_map.mp (show x ∈ (z :: zs).map d.enc from hx)
        exact o.nn x
      · have h1 := depthAll_map (R := R) (z :: zs)
        have h2 := C.room.un
        simp only [List.map_cons] at h1
        omega
      · have hi' : its[i]? = some v := by simpa using hi
        obtain ⟨w', hw, rw'⟩ : ∃ x, vs[i]? = some x ∧ RelV x v := by
          cases e : vs[i]? with
          | none => rw [rv.none_of e] at hi'; cases hi'
          | some x =>
            obtain ⟨u, e1, e2⟩ := rv.get e
            rw [hi'] at e1; cases e1
            exact ⟨x, rfl, e2⟩
        obtain ⟨y, hy, ry⟩ := pr.get hw
        have I' : Inv X pins σ H { s with heap := h', toks := tk } := I.kept hk
        obtain ⟨d1, _⟩ := d.rd (K := X.K) f ry
        obtain ⟨as', r2⟩ := Dp.reads I' _ _ _ d1 rw'
        have e := (Reads.unique r2 _ _ hr).1
        rw [← minF_enc] at e
        refine ⟨w', H, I', rw', q w' ?_⟩
        show R.ok F w' (minF R z zs)
        rw [← Dat.enc_inj e]; exact ry
  · intro F H v x s ⟨_, p, vs, e, h, pr⟩ hne Q kq
    exact ⟨F, p, vs, x, by rw [e], s, h, pr, hne, fun z r => kq z F H (.refl s) r⟩
theorem cr_max [d : Dat R] [o : Ord' R] [Inhabited α] (C : Ctx X P w K mg base N sc k dd) (hd : d.dep ≤ 50 := by decide) : C1X X (.builtin "max") (rL R) R (fun xs => xs ≠ []) (maxL R) := by
  refine ⟨fun xs H Q => ∃ (F : Hp) (l : Addr) (vs : List V) (zs : List α), xs = [.ref l] ∧ Same F (Vw H) ∧ F l = some (.lst vs) ∧ Paired (R.ok F) vs zs ∧ zs ≠ [] ∧ ∀ z, R.ok F z (maxL R zs) → Q z H, ?_, ?_⟩
  · intro pins s σ H xs us Q I r h
    obtain ⟨F, l, vs, zs, rfl, f, hp, pr, hne, q⟩ := h
    rw [Vals.ref1 r]
    obtain ⟨its, rv, il, as, ra⟩ := reads_list I f hp pr
    cases zs with
    | nil => exact absurd rfl hne
    | cons z zs =>
      refine PySem.W.max_list_data (I.ok.hd C.calm) il ra ⟨fun x hx y hy => ?_, fun x hx => ?_⟩ ?_ fun i v h' tk bs hi hr hk => ?_
      · obtain ⟨x, _, rfl⟩ := List.mem_map.mp (show x ∈ (z :: zs).map d.enc from hx)
        obtain ⟨y, _, rfl⟩ := List.mem_map.mp (show y ∈ (z :: zs).map d.enc from hy)
        exact o.al x y
      · obtain ⟨x, _, rfl⟩ := List.mem_map.mp (show x ∈ (z :: zs).map d.enc from hx)
        exact o.nn x
      · have h1 := depthAll_map (R := R) (z :: zs)
        have h2 := C.room.un
        simp only [List.map_cons] at h1
        omega
      · have hi' : its[i]? = some v := by simpa using hi
        obtain ⟨w', hw, rw'⟩ : ∃ x, vs[i]? = some x ∧ RelV x v := by
          cases e : vs[i]? with
          | none => rw [rv.none_of e] at hi'; cases hi'
          | some x =>
            obtain ⟨u, e1, e2⟩ := rv.get e
            rw [hi'] at e1; cases e1
            exact ⟨x, rfl, e2⟩
        obtain ⟨y, hy, ry⟩ := pr.get hw
        have I' : Inv X pins σ H { s with heap := h', toks := tk } := I.kept hk
        obtain ⟨d1, _⟩ := d.rd (K := X.K) f ry
        obtain ⟨as', r2⟩ := Dp.reads I' _ _ _ d1 rw'
        have e := (Reads.unique r2 _ _ hr).1
        rw [← maxF_enc] at e
        refine ⟨w', H, I', rw', q w' ?_⟩
        show R.ok F w' (maxF R z zs)
        rw [← Dat.enc_inj e]; exact ry
  · intro F H v x s ⟨_, p, vs, e, h, pr⟩ hne Q kq
    exact ⟨F, p, vs, x, by rw [e], s, h, pr, hne, fun z r => kq z F H (.refl s) r⟩
end
end Wf
/-! Data of no known kind: isinstance, None, items, equality. -/
namespace Wf
open PySem L2
mutual
theorem Lp.mono {F G : Hp} (s : Same F G) : ∀ {v : V} {d : PyData}, Lp F v d → Lp G v d
  | _, _, .non => .non
  | _, _, .bl b => .bl b
  | _, _, .int b => .int b
  | _, _, .str b n => .str b n
  | _, _, .lst h q => .lst (s _ _ h) (LpAll.mono s q)
  | _, _, .tup h q => .tup (s _ _ h) (LpAll.mono s q)
theorem LpAll.mono {F G : Hp} (s : Same F G) : ∀ {v : List V} {d : List PyData}, LpAll F v d → LpAll G v d
  | _, _, .nil => .nil
  | _, _, .cons h q => .cons (Lp.mono s h) (LpAll.mono s q)
end
def rP : Rp PyData := ⟨Lp, fun s h => h.mono s⟩
mutual
theorem Lp.dp {K : PySem.W.Frag} {F H : Hp} (s : Same F (Vw H)) : ∀ {v : V} {d : PyData}, Lp F v d → Dp K H v d ∧ d.canLay0 = true
  | _, _, .non => ⟨.non, by simp [PyData.canLay0]⟩
  | _, _, .bl b => ⟨.bl b, by simp [PyData.canLay0]⟩
  | _, _, .int b => ⟨.int b, by simp [PyData.canLay0]⟩
  | _, _, .str b n => ⟨.str b, by simp [PyData.canLay0, niceS_ok n]⟩
  | _, _, .lst h q => ⟨.lst (.inl (rd_of (s _ _ h))) (LpAll.dp s q).1, by simpa [PyData.canLay0] using (LpAll.dp (K := K) s q).2⟩
  | _, _, .tup h q => ⟨.tup (.inl (rd_of (s _ _ h))) (LpAll.dp s q).1, by simpa [PyData.canLay0] using (LpAll.dp (K := K) s q).2⟩
theorem LpAll.dp {K : PySem.W.Frag} {F H : Hp} (s : Same F (Vw H)) : ∀ {v : List V} {d : List PyData}, LpAll F v d → DpAll K H v d ∧ PyData.canLayAll0 d = true
  | _, _, .nil => ⟨.nil, by simp [PyData.canLayAll0]⟩
  | _, _, .cons h q => ⟨.cons (Lp.dp s h).1 (LpAll.dp s q).1, by simp [PyData.canLayAll0, (Lp.dp (K := K) s h).2, (LpAll.dp (K := K) s q).2]⟩
end
theorem LpAll.prd {F : Hp} : ∀ {v : List V} {d : List PyData}, LpAll F v d → Paired (Lp F) v d
  | _, _, .nil => .nil
  | _, _, .cons h q => .cons h q.prd
def tyN : PyData → String
  | .none => "NoneType"
  | .bool _ => "bool"
  | .int _ => "int"
  | .str _ => "str"
  | .list _ => "list"
  | .tuple _ => "tuple"
  | .dict _ => "dict"
/-- the classes that are asked for -/
def isN (t n : String) : Bool := t == n || (n == "int" && t == "bool")
def isA (d : PyData) (n : String) : Bool := isN (tyN d) n
theorem ty_lp {K : PySem.W.Frag} {F H : Hp} (s : Same F (Vw H)) {v : V} {d : PyData} (h : Lp F v d) : TyX K H v (.type (tyN d)) := by
  cases h with
  | non => exact .base .non
  | bl b => exact .base (.bl b)
  | int i => exact .base (.int i)
  | str x _ => exact .base (.str x)
  | lst h _ =>
    rcases rd_of (s _ _ h) with q | ⟨o, q⟩
    · exact .base (.lst q)
    · exact .base (.frz q)
  | tup h _ => exact .base (.tup (tup_of (s _ _ h)))
def okN : List String := ["tuple", "list", "bool", "int", "str"]
def tyNs : List String := ["NoneType", "bool", "int", "str", "list", "tuple", "dict"]
theorem ty_in (d : PyData) : tyN d ∈ tyNs := by cases d <;> simp [tyN, tyNs]
theorem kit_all : ∀ t ∈ tyNs, ∀ n ∈ okN, kitB t n = some (isN t n) := by decide +kernel
theorem kit_isA (d : PyData) {n : String} (h : n ∈ okN) : kitB (tyN d) n = some (isA d n) := kit_all _ (ty_in d) _ h
theorem isN_f : ∀ t ∈ tyNs, t ≠ "tuple" → t ≠ "list" → isN t "tuple" = false ∧ isN t "list" = false := by decide +kernel
theorem isA_f {d : PyData} (h1 : tyN d ≠ "tuple") (h2 : tyN d ≠ "list") : isA d "tuple" = false ∧ isA d "list" = false := isN_f _ (ty_in d) h1 h2
def rC : Rp String := ⟨fun _ v x => v = .ty x, fun _ h => h⟩
section
variable {X : Cx} {Γ : Gm} {P : Program} {w : World} {K : PySem.W.Frag} {mg : Str → Option Value} {base : Heap} {N : List Str} {sc : Scope} {k : Nat} {dd : Bool}
variable {α β γ : Type} {R : Rp α} {R2 : Rp β} {a b : Expr} {p pos : Pos}
theorem xe_cls (C : Ctx X P w K mg base N sc k dd) (hf : Free mg) {n : Str} {T : String} (hv : bootBuiltins n = some (.type T)) (hg : gloB sc n = true := by decide +kernel) (hm : decide (n ∈ bnames) = true := by decide +kernel)
    (hn : n ≠ "__name__" := by decide +kernel) (hdb : (n == ("__debug__" : Str)) = false := by decide +kernel) : XE X Γ (.Name n pos) rC T := fun σ F H D g en Q q =>
  (pe_bltn (v := .ty T) (C.gl hg) (by rw [C.mg]; exact hf.at_ hm) hv rfl hn hdb).wp (q _ F H (.refl g.fh) rfl)
theorem c_isi : C2X X (.builtin "isinstance") rP rC rB (fun _ n => n ∈ okN) isA :=
  ⟨_, call_isi, fun F H v u d n s r1 r2 hn Q q => by
    cases r2
    exact ⟨v, .ty n, _, _, isA d n, rfl, .ty n, ty_lp s r1, kit_ty (kit_isA d hn), q _ F H (.refl s) rfl⟩⟩
theorem c_isi2 : C2X X (.builtin "isinstance") rP (rT (wc rC (w1 rC))) rB (fun _ n => n.1 ∈ okN ∧ n.2 ∈ okN) (fun d n => isA d n.1 || isA d n.2) :=
  ⟨_, call_isiT, fun F H v u d n s r1 ⟨p, vs, e, hp, v1, r, ev, e1, v2, er, e2⟩ hn Q q => by
    subst e ev er
    cases e1
    cases e2
    refine ⟨v, p, [.ty n.1, .ty n.2], _, _, isA d n.1 || isA d n.2, rfl, tup_of (s _ _ hp), .cons (.ty _) (.cons (.ty _) .nil), ty_lp s r1, ?_, q _ F H (.refl s) rfl⟩
    refine kitAny_cons (kit_ty (kit_isA d hn.1)) (fun h => ?_) fun h => by rw [h]; rfl
    refine kitAny_cons (kit_ty (kit_isA d hn.2)) (fun h2 => ?_) fun h2 => by rw [h, h2]; rfl
    rw [h, h2]; rfl⟩
theorem lp_non {F : Hp} {v : V} {d : PyData} (h : Lp F v d) : decide (v = .non) = (tyN d == "NoneType") := by
  cases h with
  | non => decide +kernel
  | bl b => exact (decide_eq_false (fun e => nomatch e)).trans (by decide +kernel : false = ("bool" == "NoneType"))
  | int b => exact (decide_eq_false (fun e => nomatch e)).trans (by decide +kernel : false = ("int" == "NoneType"))
  | str b _ => exact (decide_eq_false (fun e => nomatch e)).trans (by decide +kernel : false = ("str" == "NoneType"))
  | lst _ _ => exact (decide_eq_false (fun e => nomatch e)).trans (by decide +kernel : false = ("list" == "NoneType"))
  | tup _ _ => exact (decide_eq_false (fun e => nomatch e)).trans (by decide +kernel : false = ("tuple" == "NoneType"))
theorem o_isNP : OpX X (compareOp .Is) rP rN rB always (fun d _ => tyN d == "NoneType") :=
  ⟨_, op_isN, fun F H v u x y s r1 r2 _ Q q => ⟨r2, q _ F H (.refl s) (by show V.bl _ = V.bl _; rw [lp_non r1])⟩⟩
theorem o_neB : OpX X (compareOp .NotEq) rB rB rB always (fun i j => !decide (i = j)) :=
  ⟨_, op_ne, fun F H v u x y s r1 r2 _ Q q => by
    cases r1; cases r2
    refine ⟨rfl, q _ F H (.refl s) ?_⟩
    cases x <;> cases y <;> rfl⟩
theorem o_eqP (C : Ctx X P w K mg base N sc k dd) : OpX X (compareOp .Eq) rP rP rB (fun d e => d.depth ≤ 64 ∧ e.depth ≤ 64) (fun x y => PyData.eqv x y) :=
  ⟨_, op_eqD C.room.units, fun F H v u x y s r1 r2 hd Q q => by
    obtain ⟨h1, h2⟩ := Lp.dp (K := X.K) s r1
    obtain ⟨h3, h4⟩ := Lp.dp (K := X.K) s r2
    exact ⟨x, y, h1, h3, shaped_of h2 hd.1, shaped_of h4 hd.2, q _ F H (.refl s) rfl⟩⟩
/-- what a list or a tuple holds -/
def kids : PyData → List PyData
  | .list xs => xs
  | .tuple xs => xs
  | _ => []
def isSeq (d : PyData) : Prop := isA d "tuple" = true ∨ isA d "list" = true
theorem not_seq {d : PyData} (h1 : tyN d ≠ "tuple") (h2 : tyN d ≠ "list") (q : isSeq d) : False := by
  have h := isA_f h1 h2
  rcases q with q | q
  · rw [h.1] at q; cases q
  · rw [h.2] at q; cases q
theorem seqL {d : PyData} (h : isA d "list" = true) : ∃ xs, d = .list xs := by
  cases d with
  | list xs => exact ⟨xs, rfl⟩
  | none => exact absurd h (show ¬ isN "NoneType" "list" = true by decide +kernel)
  | bool b => exact absurd h (show ¬ isN "bool" "list" = true by decide +kernel)
  | int b => exact absurd h (show ¬ isN "int" "list" = true by decide +kernel)
  | str b => exact absurd h (show ¬ isN "str" "list" = true by decide +kernel)
  | tuple b => exact absurd h (show ¬ isN "tuple" "list" = true by decide +kernel)
  | dict b => exact absurd h (show ¬ isN "dict" "list" = true by decide +kernel)
theorem seqT {d : PyData} (h : isA d "tuple" = true) : ∃ xs, d = .tuple xs := by
  cases d with
  | tuple xs => exact ⟨xs, rfl⟩
  | none => exact absurd h (show ¬ isN "NoneType" "tuple" = true by decide +kernel)
  | bool b => exact absurd h (show ¬ isN "bool" "tuple" = true by decide +kernel)
  | int b => exact absurd h (show ¬ isN "int" "tuple" = true by decide +kernel)
  | str b => exact absurd h (show ¬ isN "str" "tuple" = true by decide +kernel)
  | list b => exact absurd h (show ¬ isN "list" "tuple" = true by decide +kernel)
  | dict b => exact absurd h (show ¬ isN "dict" "tuple" = true by decide +kernel)
theorem lp_seq {K : PySem.W.Frag} {F H : Hp} (s : Same F (Vw H)) {v : V} {d : PyData} (h : Lp F v d) (q : isSeq d) : ∃ a vs, v = .ref a ∧ Paired (Lp F) vs (kids d) ∧ (SqL K H a vs ∨ SqT K H a vs) := by
  cases h with
  | lst h p => exact ⟨_, _, rfl, p.prd, .inl (.inl (rd_of (s _ _ h)))⟩
  | tup h p => exact ⟨_, _, rfl, p.prd, .inr (.inl (rd_of (s _ _ h)))⟩
  | non => exact (not_seq (d := .none) (by decide +kernel) (by decide +kernel) q).elim
  | bl b => exact (not_seq (d := .bool b) (show "bool" ≠ _ by decide +kernel) (show "bool" ≠ _ by decide +kernel) q).elim
  | int b => exact (not_seq (d := .int b) (show "int" ≠ _ by decide +kernel) (show "int" ≠ _ by decide +kernel) q).elim
  | str b _ => exact (not_seq (d := .str b) (show "str" ≠ _ by decide +kernel) (show "str" ≠ _ by decide +kernel) q).elim
theorem len_lp : C1X X (.builtin "len") rP rI isSeq (fun d => ((kids d).length : Int)) :=
  ⟨_, call_len, fun F H v x s r hq Q q => by
    obtain ⟨a, vs, rfl, pr, h⟩ := lp_seq (K := X.K) s r hq
    refine ⟨_, (kids x).length, rfl, ?_, q _ F H (.refl s) rfl⟩
    rw [← pr.length]
    exact h.imp (fun h => ⟨vs, h, rfl⟩) fun h => ⟨vs, h, rfl⟩⟩
instance : Inhabited PyData := ⟨.none⟩
theorem ix_lpL : IxX X rP rI rP (fun d i => isA d "list" = true ∧ inR (kids d) i) (fun d i => ix (kids d) i) :=
  ⟨_, ix_list, fun F H v u x y s r1 r2 hi Q k => by
    obtain ⟨xs, rfl⟩ := seqL hi.1
    cases r1 with
    | lst h p =>
      obtain ⟨w', e1, g⟩ := at_pair p.prd hi.2
      exact ⟨_, _, y, w', rfl, r2, .inl (rd_of (s _ _ h)), e1, k _ F H (.refl s) g⟩⟩
theorem ix_lpT : IxX X rP rI rP (fun d i => isA d "tuple" = true ∧ inR (kids d) i) (fun d i => ix (kids d) i) :=
  ⟨_, ix_tup, fun F H v u x y s r1 r2 hi Q k => by
    obtain ⟨xs, rfl⟩ := seqT hi.1
    cases r1 with
    | tup h p =>
      obtain ⟨w', e1, g⟩ := at_pair p.prd hi.2
      exact ⟨_, _, y, w', rfl, r2, .inl (rd_of (s _ _ h)), e1, k _ F H (.refl s) g⟩⟩
theorem xe_lp [d : Dat R] {x : α} (h : XE X Γ a R x) : XE X Γ a rP (d.enc x) := fun σ F H D g en Q q => h σ F H D g en Q fun v F' H' g' r => q v F' H' g' (d.lp r)
end
/-! ### what _law_same answers -/
mutual
def sm : PyData → PyData → Bool
  | .tuple xs, .tuple ys => smA xs ys
  | .list xs, .list ys => smA xs ys
  | .none, .none => true
  | .bool a, .bool b => a == b
  | .int a, .int b => a == b
  | .str a, .str b => a == b
  | _, _ => false
def smA : List PyData → List PyData → Bool
  | [], [] => true
  | x :: xs, y :: ys => sm x y && smA xs ys
  | _, _ => false
end
theorem smA_len : ∀ {xs ys : List PyData}, smA xs ys = true → xs.length = ys.length
  | [], [], _ => rfl
  | [], _ :: _, h => by simp [smA] at h
  | _ :: _, [], h => by simp [smA] at h
  | x :: xs, y :: ys, h => by
    simp only [smA, Bool.and_eq_true] at h
    rw [List.length_cons, List.length_cons, smA_len h.2]
theorem smA_iff : ∀ {xs ys : List PyData}, xs.length = ys.length → (smA xs ys = true ↔ ∀ i : Nat, i < ys.length → sm (ix xs i) (ix ys i) = true)
  | [], [], _ => ⟨fun _ i h => by simp at h, fun _ => by simp [smA]⟩
  | [], _ :: _, h => by simp at h
  | _ :: _, [], h => by simp at h
  | x :: xs, y :: ys, h => by
    have ih := smA_iff (xs := xs) (ys := ys) (by simpa using h)
    simp only [smA, Bool.and_eq_true, ih]
    have at0 : ∀ (z : PyData) zs, ix (z :: zs) (0 : Nat) = z := fun z zs => by simp [ix, atI, ixN]
    have atS : ∀ (z : PyData) (zs : List PyData) (i : Nat), i < zs.length → ix (z :: zs) ((i + 1 : Nat) : Int) = ix zs (i : Int) := fun z zs i hi => by
      unfold ix
      rw [atI_nat (v := zs[i]) (by simp [hi]), atI_nat (v := zs[i]) (by simp [hi])]
    have hl : xs.length = ys.length := by simpa using h
    constructor
    · rintro ⟨h1, h2⟩ i hi
      cases i with
      | zero => rw [at0, at0]; exact h1
      | succ i =>
        have hi' : i < ys.length := by simpa using hi
        rw [atS _ _ _ (by omega), atS _ _ _ hi']
        exact h2 i hi'
    · intro h0
      refine ⟨?_, fun i hi => ?_⟩
      · have := h0 0 (by simp)
        rw [at0, at0] at this
        exact this
      · have := h0 (i + 1) (by simpa using hi)
        rw [atS _ _ _ (by omega), atS _ _ _ hi] at this
        exact this
/-- on data of one kind it is equality -/
class Sm {α : Type} (R : Rp α) [d : Dat R] : Prop where
  eq : ∀ x y, sm (d.enc x) (d.enc y) = true ↔ x = y
class SmW {α : Type} (T : Rw α) [d : DatW T] : Prop where
  eq : ∀ x y, smA (d.enc x) (d.enc y) = true ↔ x = y
section
variable {α β : Type} {R : Rp α}
theorem sm_dec [d : Dat R] [s : Sm R] [DecidableEq α] (x y : α) : sm (d.enc x) (d.enc y) = decide (x = y) := by
  by_cases e : x = y
  · rw [decide_eq_true e]; exact (s.eq x y).mpr e
  · rw [decide_eq_false e]
    cases h : sm (d.enc x) (d.enc y) with
    | false => rfl
    | true => exact absurd ((s.eq x y).mp h) e
instance : Sm rI := ⟨fun x y => by simp [Dat.enc, sm]⟩
instance : Sm rB := ⟨fun x y => by simp [Dat.enc, sm]⟩
instance : Sm rS := ⟨fun x y => by simp [Dat.enc, sm]⟩
instance : Sm rN := ⟨fun x y => by simp [Dat.enc, sm]⟩
class SomeS (R : Rp α) [d : Dat R] : Prop where
  l : ∀ x, sm .none (d.enc x) = false
  r : ∀ x, sm (d.enc x) .none = false
instance : SomeS rI := ⟨fun x => by simp [Dat.enc, sm], fun x => by simp [Dat.enc, sm]⟩
instance : SomeS rB := ⟨fun x => by simp [Dat.enc, sm], fun x => by simp [Dat.enc, sm]⟩
instance : SomeS rS := ⟨fun x => by simp [Dat.enc, sm], fun x => by simp [Dat.enc, sm]⟩
instance {T : Rw α} [d : DatW T] : SomeS (rT T) := ⟨fun x => by simp [Dat.enc, sm], fun x => by simp [Dat.enc, sm]⟩
instance [d : Dat R] : SomeS (rL R) := ⟨fun x => by simp [Dat.enc, sm], fun x => by simp [Dat.enc, sm]⟩
instance [d : Dat R] : SomeS (rV R) := ⟨fun x => by simp [Dat.enc, sm], fun x => by simp [Dat.enc, sm]⟩
instance [d : Dat R] [n : Some' R] [s : Sm R] [o : SomeS R] : Sm (rO R) := ⟨fun x y => by
  cases x with
  | none => cases y with
    | none => simp [Dat.enc, sm]
    | some y => simpa [Dat.enc] using o.l y
  | some x => cases y with
    | none => simpa [Dat.enc] using o.r x
    | some y => simpa [Dat.enc] using s.eq x y⟩
theorem smA_map [d : Dat R] [s : Sm R] : ∀ xs ys : List α, smA (xs.map d.enc) (ys.map d.enc) = true ↔ xs = ys
  | [], [] => by simp [smA]
  | [], _ :: _ => by simp [smA]
  | _ :: _, [] => by simp [smA]
  | x :: xs, y :: ys => by simp only [List.map_cons, smA, Bool.and_eq_true, s.eq, smA_map xs ys, List.cons.injEq]
instance [d : Dat R] [s : Sm R] : Sm (rL R) := ⟨fun x y => by simpa [Dat.enc, sm] using smA_map (R := R) x y⟩
instance [d : Dat R] [s : Sm R] : Sm (rV R) := ⟨fun x y => by simpa [Dat.enc, sm] using smA_map (R := R) x y⟩
instance [d : Dat R] [s : Sm R] : SmW (w1 R) := ⟨fun x y => by simp [DatW.enc, smA, s.eq]⟩
instance {T : Rw β} [d : Dat R] [s : Sm R] [e : DatW T] [t : SmW T] : SmW (wc R T) := ⟨fun x y => by
  simp only [DatW.enc, smA, Bool.and_eq_true, s.eq, t.eq]
  exact ⟨fun h => Prod.ext h.1 h.2, fun h => by rw [h]; exact ⟨rfl, rfl⟩⟩⟩
instance {T : Rw α} [d : DatW T] [s : SmW T] : Sm (rT T) := ⟨fun x y => by simpa [Dat.enc, sm] using s.eq x y⟩
end
end Wf
/-! Helpers for bodies. -/
namespace Wf
open PySem L2
def rZ : Rp Int := ⟨fun _ v x => v = .int x ∧ x ≤ 16777216 ∧ 0 ≤ x, fun _ h => h⟩
theorem upTo_get {n : Int} {i : Nat} {x : Int} (h : (upTo n)[i]? = some x) : x = i ∧ (i : Int) < n := by
  unfold upTo at h
  rw [List.getElem?_map] at h
  cases q : (List.range n.toNat)[i]? with
  | none => rw [q] at h; cases h
  | some z =>
    have hi : i < n.toNat := by have := (List.getElem?_eq_some_iff.mp q).1; simpa using this
    rw [List.getElem?_range hi] at q
    cases q
    rw [List.getElem?_range hi] at h
    have : (i : Int) = x := by simpa using h
    exact ⟨this.symm, by omega⟩
theorem upTo_len (n : Int) : (upTo n).length = n.toNat := by simp [upTo]
theorem fromTo_get {a b : Int} {i : Nat} {x : Int} (h : (fromTo a b)[i]? = some x) : x = a + i ∧ a + (i : Int) < b := by
  unfold fromTo at h
  rw [List.getElem?_map] at h
  cases q : (List.range (b - a).toNat)[i]? with
  | none => rw [q] at h; cases h
  | some z =>
    have hi : i < (b - a).toNat := by have := (List.getElem?_eq_some_iff.mp q).1; simpa using this
    rw [List.getElem?_range hi] at h
    have : a + (i : Int) = x := by simpa using h
    exact ⟨this.symm, by omega⟩
theorem fromTo_len (a b : Int) : (fromTo a b).length = (b - a).toNat := by simp [fromTo]
theorem Wk.set {Γ Γ' : Gm} (h : Wk Γ Γ') (s : Slot) : ∀ j : Nat, Wk (Γ.set j s) (Γ'.set j s) := by
  induction h with
  | nil => intro j; exact .nil
  | @same t _ _ _ ih => intro j; cases j with
    | zero => exact .same (by assumption)
    | succ j => exact .same (ih j)
  | @any t _ _ _ ih => intro j; cases j with
    | zero => exact .same (by assumption)
    | succ j => exact .any (ih j)
section
variable {X : Cx} {Γ : Gm} {PP : Program} {w : World} {K : PySem.W.Frag} {mg : Str → Option Value} {base : Heap} {N : List Str} {sc : Scope} {k : Nat} {dd : Bool}
variable {α β γ : Type} {R : Rp α} {R2 : Rp β} {a b tg : Expr} {p pos : Pos} {P : Post} {st : Stmt} {rest : List Stmt}
theorem call_lenZ : CallR X (.builtin "len") (fun xs H Q => ∃ x n, xs = [x] ∧ ((∃ a ys, x = .ref a ∧ (SqL X.K H a ys ∨ SqT X.K H a ys) ∧ n = (ys.length : Int))) ∧ (n ≤ 16777216 → Q (.int n) H)) := by
  intro pins s σ H xs us Q I r h
  obtain ⟨x, n, rfl, ⟨a, ys, rfl, hs, rfl⟩, q⟩ := h
  have hz : ys.length ≤ sizeLine := by
    rcases hs with h | h
    · obtain ⟨_, _, _, z⟩ := I.list h; exact z
    · obtain ⟨_, _, _, z⟩ := I.tuple h; exact z
  have hz2 : sizeLine = 16777216 := sizeLine_eq
  exact call_len pins s σ H _ us Q I r ⟨.ref a, ys.length, rfl, hs.imp (fun h => ⟨ys, h, rfl⟩) (fun h => ⟨ys, h, rfl⟩), q (by omega)⟩
theorem lenZ_lp : C1X X (.builtin "len") rP rZ isSeq (fun d => ((kids d).length : Int)) :=
  ⟨_, call_lenZ, fun F H v x s r hq Q q => by
    obtain ⟨a, vs, rfl, pr, h⟩ := lp_seq (K := X.K) s r hq
    exact ⟨_, (kids x).length, rfl, ⟨a, vs, rfl, h, by rw [pr.length]⟩, fun hz => q _ F H (.refl s) ⟨rfl, hz, by omega⟩⟩⟩
theorem xi_rangeZ (C : Ctx X PP w K mg base N sc k dd) {a : Expr} {n : Int} {p : Pos} (hm : mg "range" = none) (ha : XE X Γ a rZ n) (hg : gloB sc "range" = true := by decide +kernel) (hs : starEach [a] X.env = [(false, eval a X.env)] := by rfl) : XI X Γ tg (.Call (.Name "range" p) [a] [] pos) rI (upTo n) := by
  refine ⟨_, pi_range1 (C.gl hg) (by rw [C.mg]; exact hm) (pa_cons (pe_ a) pa_nil hs) hs, fun σ F H D g en R' q => ha σ F H D g en _ fun v F1 H1 g1 r => ⟨n, by rw [r.1], ?_, ?_, q _ F1 H1 g1 ?_⟩⟩
  · have := r.2.2
    have h2 : (2:Int) ^ 62 = 4611686018427387904 := by decide
    omega
  · have := r.2.1
    have h2 : (2:Int) ^ 62 = 4611686018427387904 := by decide
    omega
  · have := itr_rng (lo := 0) (n := n.toNat) (F1 := F1)
    simpa [upTo] using this
/-- an if whose branches meet in weaker knowledge -/
theorem xs_ret' {e : Expr} {x y : α} (he : XE X Γ e R x) (q : x = y) (hr : P.rt (.is R y)) : XS X Γ (.Return (some e) pos) P := xs_ret (q ▸ he) hr
end
end Wf
namespace Wf
open PySem L2
section
variable {X : Cx}
theorem ix_lp : IxX X rP rI rP (fun d i => isSeq d ∧ inR (kids d) i) (fun d i => ix (kids d) i) := by
  obtain ⟨r1, h1, g1⟩ := (ix_lpL (X := X)).ex
  obtain ⟨r2, h2, g2⟩ := (ix_lpT (X := X)).ex
  refine ⟨fun x y H Q => r1 x y H Q ∨ r2 x y H Q, fun va sl pins s σ H x y v u Q I rx ry h => h.elim (h1 va sl pins s σ H x y v u Q I rx ry) (h2 va sl pins s σ H x y v u Q I rx ry), fun F H v u x y s a b hi Q q => ?_⟩
  rcases hi.1 with h | h
  · exact .inr (g2 F H v u x y s a b ⟨h, hi.2⟩ Q q)
  · exact .inl (g1 F H v u x y s a b ⟨h, hi.2⟩ Q q)
end
theorem boot_isinstance : bootBuiltins "isinstance" = some (.builtin "isinstance") := by decide +kernel
theorem boot_tuple : bootBuiltins "tuple" = some (.type "tuple") := by decide +kernel
theorem boot_list : bootBuiltins "list" = some (.type "list") := by decide +kernel
theorem boot_bool : bootBuiltins "bool" = some (.type "bool") := by decide +kernel
theorem boot_int : bootBuiltins "int" = some (.type "int") := by decide +kernel
theorem boot_str : bootBuiltins "str" = some (.type "str") := by decide +kernel
section
variable {P : Program} {w : World} {K : PySem.W.Frag} {mg : Str → Option Value} {base : Heap}
theorem fk_of {j : Nat} {n x qual : Str} {st : Stmt} {f : Addr} {fd : FuncData} {ps : List Str} {sp : Sp} (Fn : FnP K x qual st f fd) (F : FnOk P w K mg base CX0 j f fd ps sp) (hm : mg n = some (.ref f))
    (hb : ∀ (kV doc pm : Value) (an : Option Addr) (cdv ct : Value) (us : List Value), us.length = ps.length → bindArgs (PySem.W.fnOf x qual (defArgs st) (defBody st) (defScope st) .none kV doc pm an cdv ct) ⟨us, []⟩ = pure (ps.zip us)) : Fk P w K mg base j n ps sp :=
  ⟨f, fd, F, hm, Fn.kp, Fn.bindsN hb⟩
end
end Wf
namespace Wf
open PySem L2
/-- what every law promises -/
def spLaw (K : PySem.W.Frag) (n : Nat) : Sp := fsp (ι := List Int) (fun s => s.length ≤ n) (fun s => [.is (rSc K) s]) (fun _ => .is rB true)
theorem sp_end {K : PySem.W.Frag} {n : Nat} {H : Hp} {a : Addr} {ns : List Int} {E : XK} (hl : ns.length ≤ n) (hS : SqL K H a (ns.map V.int)) : spLaw K n [.ref a] H (fun v _ => v = .bl true) E := by
  refine ⟨ns, Vw H, [], hl, .nil (.refl _), ⟨[], [], rfl, ⟨rfl, _, rfl, a, rfl, ?_⟩, rfl, rfl⟩, fun v F' H' D' st ok => ?_⟩
  · rcases hS with h | h
    · refine .inl ?_
      rcases h with h | ⟨o, h⟩
      · unfold Vw; rw [h]; rfl
      · unfold Vw; rw [h]; rfl
    · exact .inr (.inr h)
  · obtain ⟨_, v', e, r⟩ := ok
    cases e
    exact r
end Wf
/-! Ranges with bounds of any size; list(range(..)). -/
namespace Wf
open PySem PySem.Spec L2
open PyProof.Rows hiding St
def longO (a : Int) (n : Nat) : Obj :=
  { cls := .type "longrange_iterator", data := .fields #[rawInt a, rawInt n, rawInt 1] }
theorem turn_long {P : Program} {w : World} {K : PySem.W.Frag} {tg : Expr} (it : Addr) (lo : Int) (n : Nat) :
    Turn P w K tg (Itr lo n) [it] it (fun i h => IsLongIter h it (lo + (i : Nat) * 1) ((n : Int) - (i : Nat)) 1) where
  mem := List.mem_singleton.mpr rfl
  obj := fun i h st b hb => by
    obtain rfl : b = it := List.mem_singleton.mp hb
    exact ⟨_, st, fun v z => nomatch (show Data.fields _ = Data.cell v from z)⟩
  keep := fun i h h' st k => k it (List.mem_singleton.mpr rfl) _ st
  item := by
    intro X e1 e2 e3 calm i pins s σ H E I hf st hg
    subst e1 e2 e3
    obtain ⟨f0, f1, f2, f3, f4, f5⟩ := hf it (List.mem_singleton.mpr rfl)
    have W := Walks.longrange (prog := X.prog) (w := X.w) (I.ok.hd calm) it lo 1 n
    refine W.item i s _ _ hg st fun v h' tk ⟨t, ev⟩ st' kk => ?_
    subst ev
    have I1 : Inv X pins σ H { s with heap := h', toks := tk } :=
      I.turned (fun b o hb e => kk b o (by rwa [List.mem_singleton]) e) f0 f1 f3 f4 f5
    refine ⟨_, rfl, go_of (s := { s with heap := h', toks := tk }) (n := "longrange_iterator") st' rfl rfl (by decide)
      ⟨.int (lo + i), H, I1, ⟨t, by rw [Int.mul_one]⟩, ⟨rfl, rfl⟩, st', fun b hb => (hf b hb).1⟩⟩
  done := by
    intro X e1 e2 e3 calm i pins s σ H E I hf st hg
    subst e1 e2 e3
    obtain ⟨f0, f1, f2, f3, f4, f5⟩ := hf it (List.mem_singleton.mpr rfl)
    have hi : n ≤ i := hg
    exact wpAny_pyNext_long_end (I.ok.hd calm) st (by omega) fun h' eb =>
      ⟨rfl, I.turned (t' := s.toks) (fun b o hb e => eb b o hb e) f0 f1 f3 f4 f5⟩
  self := fun _ _ _ _ _ st h => wpAny_pyIter_longiter st h
section
variable {X : Cx} {tg : Expr}
theorem range_any {pins : List (Addr × Obj)} {σ : St} {H : Hp} {s : Shared} {R : It → Hp → Prop} {E : Value → Shared → Prop} {lo hi : Int} {t u v : Tok} {tk : Nat}
    (I : Inv X pins σ H s) (q : R (Itr lo (hi - lo).toNat) H) :
    wpAny (model X.prog X.w) X.A (pyIter (.ref s.heap.objs.size)) (PIE X pins σ tg R) E
      { s with heap := s.heap.push { cls := .type "range", data := .fields #[.int lo t, .int hi u, .int 1 v] }, toks := tk } := by
  have I1 : Inv X pins σ H { s with heap := s.heap.push { cls := .type "range", data := .fields #[.int lo t, .int hi u, .int 1 v] }, toks := tk } :=
    I.kept fun b o e => Heap.get?_push_of_some _ e
  have hz : (((hi - lo).toNat : Nat) : Int) - ((0 : Nat) : Int) = Builtin.Range.rangeSize lo hi 1 := by
    rw [rangeSize_one]; split <;> omega
  have h0 : lo + ((0 : Nat) : Int) * 1 = lo := by omega
  generalize hh : s.heap.push { cls := .type "range", data := .fields #[.int lo t, .int hi u, .int 1 v] } = hp at I1
  have hr : IsRange hp s.heap.objs.size lo hi 1 t u v := by rw [← hh]; exact IsRange.new ..
  have ok : ∀ b ∈ [hp.objs.size], FpOk X pins H b := fun b hb => by
    obtain rfl : b = hp.objs.size := List.mem_singleton.mp hb
    exact I1.fpOk (Nat.le_refl _) (I1.hok.fresh (Nat.le_refl _))
  cases hs : Builtin.Range.small lo hi 1 with
  | true =>
    refine wpAny_pyIter_range (s := { s with heap := hp, toks := tk }) hr hs ?_
    refine ⟨hp.objs.size, [hp.objs.size], _, _, H, rfl, I1.kept (t' := tk) fun b o e => Heap.get?_push_of_some _ e, turn_range _ lo _, ?_, fun b hb => ?_, q⟩
    · show IsRangeIter _ _ (lo + ((0 : Nat) : Int) * 1) ((((hi - lo).toNat : Nat) : Int) - ((0 : Nat) : Int)) 1
      rw [h0, hz]
      exact Heap.get?_push_size _ rfl
    · obtain ⟨f0, f1⟩ := ok b hb
      exact ⟨f0, f1⟩
  | false =>
    refine wpAny_pyIter_longrange (s := { s with heap := hp, toks := tk }) hr hs ?_
    refine ⟨hp.objs.size, [hp.objs.size], _, _, H, rfl, I1.kept (t' := tk) fun b o e => Heap.get?_push_of_some _ e, turn_long _ lo _, ?_, fun b hb => ?_, q⟩
    · show IsLongIter _ _ (lo + ((0 : Nat) : Int) * 1) ((((hi - lo).toNat : Nat) : Int) - ((0 : Nat) : Int)) 1
      rw [h0, hz]
      exact Heap.get?_push_size _ rfl
    · obtain ⟨f0, f1⟩ := ok b hb
      exact ⟨f0, f1⟩
def iRngA (ta : TA) : TI := fun σ H R => ta σ H fun vs H1 => ∃ i j : Int, vs = [.int i, .int j] ∧ R (Itr i (j - i).toNat) H1
theorem pi_rangeA {a b : Expr} {ta : TA} {p pos : Pos} (hg : Gl X "range") (hm : X.mg "range" = none) (ha : PA X [a, b] ta) (hs : starEach [a, b] X.env = [(false, eval a X.env), (false, eval b X.env)] := by rfl) (hs2 : starEach [b] X.env = [(false, eval b X.env)] := by rfl) :
    PI X tg (.Call (.Name "range" p) [a, b] [] pos) (iRngA ta) := by
  refine ⟨fun pins s σ H R I h => ?_⟩
  refine Call_ (ld_blt I hg hm boot_range (callWith_type1 (thn (ha.run pos pins s σ H _ I h) fun us s1 ⟨vs, H1, I1, r1, i, j, e, q⟩ => ?_) (by rw [hs, hs2]) (by rw [hs2]; rfl)))
  subst e
  obtain ⟨u1, u2, rfl, ⟨t, e1⟩, ⟨t', e2⟩⟩ := vals2 r1
  subst e1 e2
  exact call_range_2 (range_any I1 q)
end
/-! ### list(range) -/
section
variable {prog : Program} {w : World} {A : Around} {E : Value → Shared → Prop} {s : Shared}
theorem ext_long {R : Result → Shared → Prop} {r : Addr} {a b : Int} {t u v : Tok} {n : Nat} (hh : A.handled = none) (hr : IsRange s.heap r a b 1 t u v) (big : Builtin.Range.small a b 1 = false)
    (hn : Builtin.Range.rangeSize a b 1 = n) (few : n ≤ 2 ^ 24) (S : Addr) (res : Value) (c₀ : Nat)
    (hS : s.heap.get? S = some { cls := .type "list", data := .seq #[] c₀ })
    (hR : ∀ h' tk acc c', (∀ b o, b ≠ S → s.heap.get? b = some o → h'.get? b = some o) →
      h'.get? S = some { cls := .type "list", dict := none, data := .seq acc c', slots := #[] } →
      ItemsOf (fun i v => ∃ t, v = .int (a + i * 1) t) acc n → R (.ok (.ret res)) { s with heap := h', toks := tk }) :
    wpAny (model prog w) A.in1 (Builtin.List.listExtendWith (.ref S) (.ref r) res)
      (fun fin s' => match fin with
        | .done f => R (.ok f) s'
        | .again c' => c'.quiet = true ∧ codeAny (model prog w) A c' R s') (fun e s' => R (.error e) s') s := by
  have n1 : S ≠ r := fun e => by rw [e, hr] at hS; simp at hS
  have n2 : S ≠ s.heap.objs.size := Nat.ne_of_lt (Heap.lt_size hS)
  have n3 : S ∉ [s.heap.objs.size] := fun h => n2 (List.mem_singleton.mp h)
  have W := (Walks.longrange (prog := prog) (w := w) (A := A.in1) hh s.heap.objs.size a 1 n).toS
  have run : ∀ (h : Heap) (c₁ tk : Nat), IsLongIter h s.heap.objs.size (a + ((0 : Nat) : Int) * 1) ((n : Int) - ((0 : Nat) : Int)) 1 →
      (∀ b o, b ≠ S → s.heap.get? b = some o → h.get? b = some o) → h.get? S = some { cls := .type "list", data := .seq #[] c₁ } →
      codeAny (model prog w) A (.builtin "list.extend.loop" ⟨[.ref S, .ref s.heap.objs.size, res], []⟩) R { s with heap := h, toks := tk } := by
    intro h c₁ tk st kk e1
    refine codeAny_extend_loopS W (Nat.le_trans few (by rw [sizeLine_eq]; decide)) S n3 res n 0 _ #[] c₁ rfl (Nat.zero_le _) st e1 (ItemsOf.nil _) fun s' acc c' hm e2 items => ?_
    rw [Moved.eq_with hm]
    refine hR _ _ acc c' (fun b o hb e => hm.heap b o (fun m => ?_) (kk b o hb e)) e2 items
    rcases List.mem_cons.mp m with z | z
    · exact hb z
    · have := Heap.lt_size e
      rw [List.mem_singleton.mp z] at this
      exact Nat.lt_irrefl _ this
  unfold Builtin.List.listExtendWith
  refine wpAny_bind (wpAny_typeOf (T := "range") ⟨_, hr, rfl⟩ ?_)
  have k1 : Builtin.List.listSameRef (.ref S) (.ref r) = false := by simp [Builtin.List.listSameRef, n1]
  have k2 : (Value.type "range" == Value.type "list") = false := by decide +kernel
  have k3 : (Value.type "range" == Value.type "tuple") = false := by decide +kernel
  simp only [k1, k2, k3, Bool.or_false, Bool.false_eq_true, if_false]
  refine wpAny_bind (wpAny_pyIter_longrange hr big ?_)
  refine wpAny_bind (wpAny_holding (wpAny_hint_range (n := n) (Heap.get?_push_of_some _ hr) hn few ?_))
  generalize ho : ({ cls := .type "longrange_iterator", data := .fields #[rawInt a, rawInt (Builtin.Range.rangeSize a b 1), rawInt 1] } : Obj) = o
  have st : IsLongIter (s.heap.push o) s.heap.objs.size (a + ((0 : Nat) : Int) * 1) ((n : Int) - ((0 : Nat) : Int)) 1 := by
    subst ho
    show IsLongIter _ _ _ _ _
    rw [hn]
    simpa using Heap.get?_push_size _ rfl
  have e1 := Heap.get?_push_of_some o hS
  refine wpAny_ite_split (fun _ => ?_) (fun _ => wpAny_pure ⟨plainId_quiet F.plain_extend_loop _, run _ c₀ _ st (fun b q _ e => Heap.get?_push_of_some _ e) e1⟩)
  refine wpAny_bind (wpAny_rule ?_)
  refine wpAny_bind ?_
  show wpAny _ _ (updateSeq S (·.push .none) >>= fun _ => updateSeq S (·.pop)) _ _ _
  refine wpAny_bind (wpAny_updateSeq e1 rfl ?_)
  have e2 := Heap.get?_update_self (Obj.mapSeq (·.push Value.none)) e1 rfl
  refine wpAny_updateSeq (hz := by seq_fits) e2 rfl ?_
  have e3 := Heap.get?_update_self (Obj.mapSeq (·.pop)) e2 rfl
  refine wpAny_pure ⟨plainId_quiet F.plain_extend_loop _, run _ _ _ ?_ (fun b q hb e => ?_) e3⟩
  · rw [IsLongIter, Heap.get?_update_other _ _ n2, Heap.get?_update_other _ _ n2]
    exact st
  · rw [Heap.get?_update_other _ _ (Ne.symm hb), Heap.get?_update_other _ _ (Ne.symm hb)]
    exact Heap.get?_push_of_some _ e
theorem init_long {R : Result → Shared → Prop} {r : Addr} {a b : Int} {t u v : Tok} {n : Nat} (hh : A.handled = none) (hr : IsRange s.heap r a b 1 t u v) (big : Builtin.Range.small a b 1 = false)
    (hn : Builtin.Range.rangeSize a b 1 = n) (few : n ≤ 2 ^ 24) (S : Addr)
    (hS : s.heap.get? S = some { cls := .type "list", data := .seq #[] })
    (hR : ∀ h' tk acc c', (∀ b o, b ≠ S → s.heap.get? b = some o → h'.get? b = some o) →
      h'.get? S = some { cls := .type "list", dict := none, data := .seq acc c', slots := #[] } →
      ItemsOf (fun i v => ∃ t, v = .int (a + i * 1) t) acc n → R (.ok (.ret .none)) { s with heap := h', toks := tk }) :
    wpAny (model prog w) A.in1 (Builtin.«list.__init__» ⟨[.ref S, .ref r], []⟩)
      (fun fin s' => match fin with
        | .done f => R (.ok f) s'
        | .again c' => c'.quiet = true ∧ codeAny (model prog w) A c' R s') (fun e s' => R (.error e) s') s := by
  have n1 : S ≠ r := fun e => by rw [e, hr] at hS; simp at hS
  show wpAny _ _ (Builtin.List.listItems (.ref S) >>= fun old => Builtin.List.listUpdate (.ref S) (fun _ => #[]) >>= fun _ =>
    letGo old.toList.reverse >>= fun _ => Builtin.List.listExtendWith (.ref S) (.ref r) .none) _ _ s
  refine wpAny_bind ?_
  unfold Builtin.List.listItems
  refine wpAny_bind (wpAny_seqItems hS rfl (wpAny_pure ?_))
  show wpAny _ _ (updateSeq S (fun _ => #[]) >>= fun _ => letGo (#[] : Array Value).toList.reverse >>= fun _ =>
    Builtin.List.listExtendWith (.ref S) (.ref r) .none) _ _ s
  refine wpAny_bind (wpAny_updateSeq hS rfl ?_)
  have e2 := Heap.get?_update_self (Obj.mapSeq (fun _ => (#[] : Array Value))) hS rfl
  have oth : ∀ b o, b ≠ S → s.heap.get? b = some o → (s.heap.update S (Obj.mapSeq (fun _ => (#[] : Array Value)))).get? b = some o := by
    intro b o hb e
    rw [Heap.get?_update_other _ _ (Ne.symm hb)]
    exact e
  refine wpAny_bind (wpAny_letGo ?_)
  refine ext_long hh (oth r _ (Ne.symm n1) hr) big hn few S .none _ e2 fun h' tk acc c' kk e3 items => ?_
  exact hR h' tk acc c' (fun b o hb e => kk b o hb (oth b o hb e)) e3 items
theorem list_long {Q : Value → Shared → Prop} {r : Addr} {a b : Int} {t u v : Tok} {n : Nat} (hh : A.handled = none) (hr : IsRange s.heap r a b 1 t u v) (big : Builtin.Range.small a b 1 = false)
    (hn : Builtin.Range.rangeSize a b 1 = n) (few : n ≤ 2 ^ 24)
    (hQ : ∀ h' tk acc c', (∀ b o, s.heap.get? b = some o → h'.get? b = some o) →
      h'.get? s.heap.objs.size = some { cls := .type "list", dict := none, data := .seq acc c', slots := #[] } →
      ItemsOf (fun i v => ∃ t, v = .int (a + i * 1) t) acc n → Q (.ref s.heap.objs.size) { s with heap := h', toks := tk }) :
    wpAny (model prog w) A (call (.type "list") [.ref r]) Q E s := by
  refine callType_codes (Q₁ := fun obj s₁ => obj = .ref s.heap.objs.size ∧ s₁ = { s with heap := s.heap.push { cls := .type "list", data := .seq #[] } })
    F.called_list (F.typeCall_list_1 _) F.entry_list_init (code_list_new _ ⟨rfl, rfl⟩) fun obj s₁ ⟨e1, e2⟩ => ?_
  subst e1 e2
  have hS : (s.heap.push { cls := .type "list", data := .seq #[] }).get? s.heap.objs.size = some { cls := .type "list", data := .seq #[] } := Heap.get?_push_size _ rfl
  refine ⟨⟨_, hS, rfl⟩, F.args_list_init_2 _ _, init_long (A := A.in1) hh (Heap.get?_push_of_some _ hr) big hn few _ hS fun h' tk acc c' kk e3 items => ?_⟩
  exact ⟨rfl, hQ h' tk acc c' (fun b o e => kk b o (Nat.ne_of_lt (Heap.lt_size e)) (Heap.get?_push_of_some _ e)) e3 items⟩
end
section
variable {X : Cx} {Γ : Gm} {PP : Program} {w : World} {K : PySem.W.Frag} {mg : Str → Option Value} {base : Heap} {N : List Str} {sc : Scope} {k : Nat} {dd : Bool}
variable {a b tg e : Expr} {p p1 pos : Pos}
def tLstRA (te : St → Hp → (Int → Int → Hp → Prop) → Prop) : TE := fun σ H Q => te σ H fun a b H1 => (b - a).toNat ≤ 2 ^ 24 ∧ ∀ q, H1 q = none → Q (.ref q) (upd H1 q (.lst (rgV a b)))
theorem pe_listRA {te : St → Hp → (Int → Int → Hp → Prop) → Prop} (hc : X.calm = true) (hg : Gl X "list") (hm : X.mg "list" = none) (he : PRg X e te)
    (na : starEach [e] X.env = (false, eval e X.env) :: starEach [] X.env := by rfl) : PE X (.Call (.Name "list" p) [e] [] pos) (tLstRA te) := by
  refine ⟨fun pins s σ H Q I h => ?_⟩
  refine Call_ (ld_blt I hg hm boot_list (callWith_type1 (args_cons (thn (he pins s σ H _ I h) fun x s1 ⟨r, a, b, t, u, v, H1, ex, hr, I1, few, q⟩ => args_nil ?_) na) na))
  subst ex
  have fin : ∀ h' tk (acc : Array Value) c', (∀ b o, s1.heap.get? b = some o → h'.get? b = some o) →
      h'.get? s1.heap.objs.size = some { cls := .type "list", dict := none, data := .seq acc c', slots := #[] } →
      ItemsOf (fun i v => ∃ t, v = .int (a + i * 1) t) acc (b - a).toNat → EP X pins σ Q (.ref s1.heap.objs.size) { s1 with heap := h', toks := tk } := by
    intro h' tk acc c' kk e' items
    refine ⟨.ref s1.heap.objs.size, upd H1 s1.heap.objs.size (.lst (rgV a b)), I1.laid kk (Nat.le_refl _) (show ObjOk X.prog X.w _ _ _ (.lst (rgV a b)) from ⟨?_, acc.toList, c', vals_rg items, ?_⟩), rfl, q _ (I1.hok.fresh (Nat.le_refl _))⟩
    · rw [rgV_length, sizeLine_eq]
      exact few
    · rw [Array.toArray_toList]
      exact e'
  cases hs : Builtin.Range.small a b 1 with
  | true => exact call_list_range (I1.ok.hd hc) hr hs (rangeSize_nat a b) few fin
  | false => exact list_long (I1.ok.hd hc) hr hs (rangeSize_nat a b) few fin
theorem xi_rangeA (C : Ctx X PP w K mg base N sc k dd) (hf : Free mg) {i j : Int} (ha : XE X Γ a rI i) (hb : XE X Γ b rI j) (hg : gloB sc "range" = true := by decide +kernel)
    (hs : starEach [a, b] X.env = [(false, eval a X.env), (false, eval b X.env)] := by rfl) (hs2 : starEach [b] X.env = [(false, eval b X.env)] := by rfl) : XI X Γ tg (.Call (.Name "range" p) [a, b] [] pos) rI (fromTo i j) := by
  refine ⟨_, pi_rangeA (C.gl hg) (by rw [C.mg]; exact hf.at_ (by decide +kernel)) (pa_cons (pe_ a) (pa_cons (pe_ b) pa_nil hs2) (by rw [hs, hs2])) hs hs2, fun σ F H D g en R' q => ha σ F H D g en _ fun v F1 H1 g1 r => hb σ F1 H1 D (g.grow g1) (en.grow g g1) _ fun u F2 H2 g2 r2 => ?_⟩
  exact ⟨i, j, by rw [r, r2], q _ F2 H2 (g1.trans g2) itr_rng⟩
/-- list(range(i, j)) -/
theorem xo_rangeA (C : Ctx X PP w K mg base N sc k dd) (hf : Free mg) {i j : Int} (ha : XE X Γ a rI i) (hb : XE X Γ b rI j) (few : (j - i).toNat ≤ 2 ^ 24) (hg : gloB sc "range" = true := by decide +kernel) (hg2 : gloB sc "list" = true := by decide +kernel)
    (na : starEach [a, b] X.env = (false, eval a X.env) :: starEach [b] X.env := by rfl) (nb : starEach [b] X.env = (false, eval b X.env) :: starEach [] X.env := by rfl) (hp : (backTo pos (starEach [b] X.env)).any (·.1) = false := by rfl)
    (nl : starEach [Expr.Call (.Name "range" p) [a, b] [] pos] X.env = (false, eval (Expr.Call (.Name "range" p) [a, b] [] pos) X.env) :: starEach [] X.env := by rfl) {p2 p3 : Pos} :
    XO X Γ (.Call (.Name "list" p2) [.Call (.Name "range" p) [a, b] [] pos] [] p3) (oL rI) (fromTo i j) := by
  intro σ F H D g en Q q
  refine (pe_listRA C.calm (C.gl hg2) (by rw [C.mg]; exact hf.at_ (by decide +kernel)) (prg_2 (C.gl hg) (by rw [C.mg]; exact hf.at_ (by decide +kernel)) (pe_ a) (pe_ b) na nb hp) nl).wp ?_
  refine ha σ F H D g en _ fun v F1 H1 g1 r => hb σ F1 H1 D (g.grow g1) (en.grow g g1) _ fun u F2 H2 g2 r2 => ⟨i, j, r, r2, few, fun q1 nq => ?_⟩
  have g12 := g1.trans g2
  have st := (Step.of (Good.nil g.fh) g12).trans (xo_fresh (o := .lst (rgV i j)) g12.fh nq)
  refine q _ F2 _ [q1] st ⟨?_, q1, _, rfl, rfl, upd_same, ?_⟩
  · rw [fromTo_len, sizeLine_eq]; exact few
  · unfold rgV fromTo
    generalize (j - i).toNat = n
    have : ∀ l : List Nat, Paired (rI.ok F2) (l.map fun (z : Nat) => V.int (i + z)) (l.map fun (z : Nat) => i + (z : Int)) := fun l => by
      induction l with
      | nil => exact .nil
      | cons z l ih => exact .cons rfl ih
    exact this _
end
end Wf
/-! Conversions, texts, dict equality, options, enumerate, zip. -/
namespace Wf
open PySem L2
section
variable {X : Cx} {Γ : Gm} {P : Program} {w : World} {K : PySem.W.Frag} {mg : Str → Option Value} {base : Heap} {N : List Str} {sc : Scope} {k : Nat} {dd : Bool}
variable {α β γ κ : Type} {R : Rp α} {R1 : Rp α} {R2 : Rp β} {R3 : Rp γ} {a b tg : Expr} {p pos : Pos} {x : α} {y : β}

/-! ### numbers -/
theorem xe_neg {i : Int} (h : XE X Γ a rI i) : XE X Γ (.UnaryOp .USub a pos) rI (-i) := fun σ F H D g en Q q =>
  (pe_un un_neg (pe_ a)).wp (h σ F H D g en _ fun v F1 H1 g1 r => ⟨i, r, q _ F1 H1 g1 rfl⟩)
def absI (i : Int) : Int := if i < 0 then -i else i
theorem c_abs : C1X X (.builtin "abs") rI rI (fun _ => True) absI :=
  ⟨_, call_abs, fun F H v x s r _ Q q => ⟨x, by rw [r], q _ F H (.refl s) rfl⟩⟩
theorem c_intB : C1X X (.type "int") rB rI (fun _ => True) (fun b => if b then 1 else 0) :=
  ⟨_, call_int1, fun F H v x s r _ Q q => .inr ⟨x, by rw [r], q _ F H (.refl s) rfl⟩⟩

/-! ### new objects by a call of a class -/
structure N1X (X : Cx) (f : Value) (R1 : Rp α) (A : Rs γ) (ok : α → Prop) (op : α → γ) : Prop where
  ex : ∃ r : List V → Hp → VK → Prop, CallR X f r ∧ ∀ F H v x, Same F (Vw H) → R1.ok F v x → ok x → ∀ Q : VK, (∀ z F' H' D', Step F H [] F' H' D' → A.ok F' H' D' z (op x) → Q z H') → r [v] H Q
theorem xo_t1 (C : Ctx X P w K mg base N sc k dd) (hf : Free mg) {A : Rs γ} {ok : α → Prop} {op : α → γ} {n : Str} {id : String} (h : N1X X (.type id) R1 A ok op) (ha : XE X Γ a R1 x) (hk : ok x) (hv : bootBuiltins n = some (.type id)) (hg : gloB sc n = true := by decide +kernel) (hm : decide (n ∈ bnames) = true := by decide +kernel)
    (hn : n ≠ "__name__" := by decide +kernel) (hdb : (n == ("__debug__" : Str)) = false := by decide +kernel)
    (he : starEach [a] X.env = (false, eval a X.env) :: starEach [] X.env := by rfl) (hpl : (backTo pos (starEach [] X.env)).any (·.1) = false := by rfl) : XO X Γ (.Call (.Name n p) [a] [] pos) A (op x) := by
  obtain ⟨r, hr, go⟩ := h.ex
  intro σ F H D g en Q q
  refine (pe_callTy hr (C.gl hg) (by rw [C.mg]; exact hf.at_ hm) hv (pa_cons (pe_ a) pa_nil he) hn hdb he hpl).wp (ha σ F H D g en _ fun v F1 H1 g1 r1 => ?_)
  exact go F1 H1 v x g1.fh r1 hk Q fun z F2 H2 D2 s2 r2 => q z F2 H2 D2 ((Step.of (Good.nil g.fh) g1).trans s2) r2
theorem n_list : N1X X (.type "list") (rL R) (oL R) (fun _ => True) (fun xs => xs) :=
  ⟨_, call_list_of, fun F H v x s ⟨z, p, vs, e, hp, pr⟩ _ Q q => ⟨p, vs, by rw [e], .inl (.inl (rd_of (s _ _ hp))), fun l nl => q _ F _ [l] (xo_fresh s nl) ⟨z, l, vs, rfl, rfl, upd_same, pr⟩⟩⟩
theorem n_listV : N1X X (.type "list") (rV R) (oL R) (fun _ => True) (fun xs => xs) :=
  ⟨_, call_list_of, fun F H v x s ⟨z, p, vs, e, hp, pr⟩ _ Q q => ⟨p, vs, by rw [e], .inr (.inl (rd_of (s _ _ hp))), fun l nl => q _ F _ [l] (xo_fresh s nl) ⟨z, l, vs, rfl, rfl, upd_same, pr⟩⟩⟩
theorem prd_keys {A : KF κ} {F : Hp} : ∀ {vs : List (Key × V)} {d : List (κ × α)}, Paired (fun (a : Key × V) (b : κ × α) => a.1 = A.f b.1 ∧ A.nice b.1 ∧ R.ok F a.2 b.2) vs d → Paired (A.R.ok F) (vs.map fun kv => kV kv.1) (d.map (·.1))
  | _, _, .nil => .nil
  | _, _, .cons h t => .cons (by show A.R.ok F (kV _) _; rw [h.1]; exact A.of h.2.1) (prd_keys t)
theorem n_listD (C : Ctx X P w K mg base N sc k dd) {A : KF κ} : N1X X (.type "list") (rK A R) (oL A.R) (fun _ => True) (fun d => d.map (·.1)) :=
  ⟨_, call_listD C.calm, fun F H v x s ⟨z, p, vs, e, hp, pr⟩ _ Q q => ⟨p, vs, by rw [e], rd_of (s _ _ hp), fun l nl => q _ F _ [l] (xo_fresh s nl) ⟨by rw [List.length_map]; exact z, l, _, rfl, rfl, upd_same, prd_keys pr⟩⟩⟩
theorem call_dictC : CallR X (.type "dict") (fun xs H Q => ∃ a kvs, xs = [V.ref a] ∧ Rd H a (.dK kvs) ∧ ∀ p, H p = none → Q (.ref p) (upd H p (.dK kvs))) := by
  intro pins s σ H xs us Q I r ⟨a, kvs, ex, hd, q⟩
  subst ex
  obtain ⟨u, rfl, ru⟩ := vals1 r
  cases (show u = Value.ref a from ru)
  exact d_copyOf I hd fun p s' np I' => ⟨.ref p, _, I', rfl, q p np⟩
theorem n_dict {A : KF κ} : N1X X (.type "dict") (rK A R) (oK A R) (fun _ => True) (fun d => d) :=
  ⟨_, call_dictC, fun F H v x s ⟨z, p, vs, e, hp, pr⟩ _ Q q => ⟨p, vs, by rw [e], rd_of (s _ _ hp), fun l nl => q _ F _ [l] (xo_fresh s nl) ⟨z, l, vs, rfl, rfl, upd_same, pr⟩⟩⟩
theorem boot_dict : bootBuiltins "dict" = some (.type "dict") := by decide +kernel
theorem boot_abs : bootBuiltins "abs" = some (.builtin "abs") := by decide +kernel

/-! ### texts -/
theorem joinStr : ∀ ys : List Str, (Str.join Str.empty ys).cps = (ys.map (·.cps)).foldr (· ++ ·) #[]
  | [] => rfl
  | [x] => by simp [Str.join]
  | x :: y :: r => by
    have ih := joinStr (y :: r)
    show (x ++ Str.empty ++ Str.join Str.empty (y :: r)).cps = _
    have e : (x ++ Str.empty ++ Str.join Str.empty (y :: r)).cps = (x.cps ++ #[]) ++ (Str.join Str.empty (y :: r)).cps := rfl
    rw [e, ih]
    simp
theorem nice_join : ∀ (ys : List Str), (∀ y ∈ ys, niceS y = true) → PyData.strOk (Str.join Str.empty ys) = true ∧ (Str.join Str.empty ys).length = (ys.map (·.length)).sum
  | [], _ => ⟨by decide +kernel, rfl⟩
  | [x], h => ⟨niceS_ok (h x (by simp)), by simp [Str.join]⟩
  | x :: y :: r, h => by
    obtain ⟨h1, h2⟩ := nice_join (y :: r) fun z hz => h z (List.mem_cons_of_mem _ hz)
    have hx := niceS_ok (h x (by simp))
    have e : (Str.join Str.empty (x :: y :: r)).cps = (x.cps ++ #[]) ++ (Str.join Str.empty (y :: r)).cps := rfl
    constructor
    · unfold PyData.strOk at h1 hx ⊢
      rw [e, Array.all_append, Array.all_append, hx, h1]; simp
    · show (Str.join Str.empty (x :: y :: r)).cps.size = _
      rw [e, Array.size_append, Array.size_append]
      show x.cps.size + 0 + (Str.join Str.empty (y :: r)).length = _
      rw [h2]; simp [Str.length]
theorem prd_strs {F : Hp} : ∀ {vs : List V} {ys : List Str}, Paired (rS.ok F) vs ys → vs = ys.map V.str ∧ ∀ y ∈ ys, niceS y = true
  | _, _, .nil => ⟨rfl, fun _ h => by cases h⟩
  | _, _, .cons h t => by
    obtain ⟨e, q⟩ := prd_strs t
    exact ⟨by rw [h.1, e]; rfl, fun y hy => (List.mem_cons.mp hy).elim (fun z => by rw [z]; exact h.2) fun z => q y z⟩
/-- ''.join(..) -/
def glue (ys : List Str) : Str := Str.join Str.empty ys
theorem xe_glue {ys : List Str} {p1 p2 p3 : Pos} {j : Nat} (he : XE X Γ a (rL rS) ys) (hz : (ys.map (·.length)).sum ≤ 100000) {s0 : Str} (h0 : s0 = Str.empty := by decide +kernel) (hs : starEach [a] X.env = [(false, eval a X.env)] := by rfl)
    (hbase : attributeBase (.Constant (.str s0) j p1) "join" X.env (eval (.Constant (.str s0) j p1) X.env) = eval (.Constant (.str s0) j p1) X.env := by rfl) (hline : (p2.endLine == p3.line) = true := by rfl) :
    XE X Γ (.Call (.Attribute (.Constant (.str s0) j p1) "join" p2) [a] [] p3) rS (glue ys) := by
  subst h0
  intro σ F H D g en Q q
  refine (pe_join pe_str (pe_ a) hs hbase hline).wp ?_
  refine ⟨⟨_, rfl⟩, he σ F H D g en _ fun v F1 H1 g1 ⟨z, l, vs, ev, hp, pr⟩ => ?_⟩
  obtain ⟨e1, ny⟩ := prd_strs pr
  obtain ⟨n1, n2⟩ := nice_join ys ny
  refine ⟨Str.empty, l, ys, rfl, by rw [ev], .inl (.inl (rd_of (by rw [← e1]; exact g1.fh _ _ hp))), ?_, ?_⟩
  · show _ + ys.length * 0 ≤ _
    omega
  · have ej : Txt.join Str.empty ys = glue ys := TL.join_eq _ _
    rw [ej]
    refine q _ F1 H1 g1 ⟨rfl, ?_⟩
    unfold niceS glue
    rw [n1, n2, decide_eq_true hz]; rfl

/-! ### options -/
theorem xe_get {z : α} (h : XE X Γ a (rO R) (some z)) : XE X Γ a R z := h
theorem xe_orO {T : Rw α} {o : Option α} {y : α} [d : DatW T] {rest : List Expr} (h : XE X Γ a (rO (rT T)) o) (hb : o = none → XE X Γ (.BoolOp .Or (b :: rest) pos) (rT T) y) : XE X Γ (.BoolOp .Or (a :: b :: rest) pos) (rT T) (o.getD y) := by
  intro σ F H D g en Q q
  refine (pe_orT (pe_ a) (pe_ _)).wp (h σ F H D g en _ fun v F1 H1 g1 r => ?_)
  cases o with
  | none =>
    cases r
    exact ⟨false, rfl, iteF (hb rfl σ F1 H1 D (g.grow g1) (en.grow g g1) Q fun v F2 H2 g2 r2 => q v F2 H2 (g1.trans g2) r2)⟩
  | some z =>
    obtain ⟨p', vs, e, hp, t⟩ := (show (rT T).ok F1 v z from r)
    subst e
    refine ⟨true, .inr (.inl ⟨vs, .inl (rd_of (g1.fh _ _ hp)), ?_⟩), iteT (q _ F1 H1 g1 ⟨p', vs, rfl, hp, t⟩)⟩
    have := d.ne z
    have h2 := d.lp t
    cases vs with
    | nil => cases h2' : d.enc z with
      | nil => exact absurd h2' this
      | cons _ _ => rw [h2'] at h2; cases h2
    | cons _ _ => rfl

/-! ### == and != of dicts -/
def dEq [DecidableEq κ] [DecidableEq α] (xs ys : List (κ × α)) : Bool := decide (xs.length = ys.length) && xs.all fun kv => match look ys kv.1 with | some u => decide (kv.2 = u) | none => false
theorem dHits [DecidableEq κ] [DecidableEq α] [d : Dat R] {A : KF κ} {pins : List (Addr × Obj)} {σ : St} {F H : Hp} {s : Shared} (I : Inv X pins σ H s) (f : Same F (Vw H)) (hu : X.A.in1.units + 64 < cLine) (hd : d.dep ≤ 60)
    {ls : List (Key × V)} {ys : List (κ × α)} {vb : List (Key × Value)} (rb : KV ls vb) (pb : Paired (fun (a : Key × V) (b : κ × α) => a.1 = A.f b.1 ∧ A.nice b.1 ∧ R.ok F a.2 b.2) ls ys) :
    ∀ {ks : List (Key × V)} {xs : List (κ × α)} {va : List (Key × Value)}, Paired (fun (a : Key × V) (b : κ × α) => a.1 = A.f b.1 ∧ A.nice b.1 ∧ R.ok F a.2 b.2) ks xs → KV ks va →
      PySem.W.KeqHits X.A.in1 s vb va (xs.all fun kv => match look ys kv.1 with | some u => decide (kv.2 = u) | none => false) := by
  intro ks xs va pa
  induction pa generalizing va with
  | nil => intro ra; cases ra; exact .nil
  | @cons kv xv ks xs h t ih =>
    intro ra
    cases ra with
    | @cons _ kw _ va' h' t' =>
      have ih := ih t'
      obtain ⟨key, val⟩ := kw
      have ek : key = A.f xv.1 := h'.1.symm.trans h.1
      subst ek
      rw [List.all_cons]
      have l := prd_look A.inj pb xv.1
      have rv := rb.val (A.f xv.1)
      cases hl : look ys xv.1 with
      | none =>
        rw [hl] at l
        rw [show valV ls (A.f xv.1) = none from l] at rv
        rw [Bool.false_and]
        refine .miss ?_
        cases hq : valueAt vb (A.f xv.1) with
        | none => rfl
        | some z => rw [hq] at rv; exact (show False from rv).elim
      | some z =>
        rw [hl] at l
        obtain ⟨v', e1, r⟩ := l
        rw [e1] at rv
        obtain ⟨y', hy, ry⟩ := rv.some_of
        refine .hit hy ?_ ih
        obtain ⟨d1, c1⟩ := d.rd (K := X.K) f h.2.2
        obtain ⟨d2, c2⟩ := d.rd (K := X.K) f r
        obtain ⟨as, q1⟩ := Dp.reads I _ _ _ d1 h'.2
        obtain ⟨bs, q2⟩ := Dp.reads I _ _ _ d2 ry
        have := PySem.W.keq_at (A := X.A) q1 q2 (shaped_of c1 (Nat.le_trans (d.depth _) (by omega))) (shaped_of c2 (Nat.le_trans (d.depth _) (by omega))) hu
        rw [Dat.eqv] at this
        exact this
theorem kv_len {A : Type} {xs : List (A × V)} {ys : List (A × Value)} (h : KV xs ys) : xs.length = ys.length := Paired.length (show Paired _ xs ys from h)
theorem op_dEq (C : Ctx X P w K mg base N sc k dd) [DecidableEq κ] [DecidableEq α] [d : Dat R] (hd : d.dep ≤ 60) {A : KF κ} (f : Bool → Bool) (o : CmpOp) (ho : (o = .Eq ∧ ∀ b, f b = b) ∨ (o = .NotEq ∧ ∀ b, f b = !b)) :
    OpR X (compareOp o) (fun x y H Q => ∃ F p1 p2 ks ls xs ys, Same F (Vw H) ∧ x = .ref p1 ∧ y = .ref p2 ∧ F p1 = some (.dK ks) ∧ F p2 = some (.dK ls) ∧ Paired (fun (a : Key × V) (b : κ × α) => a.1 = A.f b.1 ∧ A.nice b.1 ∧ R.ok F a.2 b.2) ks xs ∧ Paired (fun (a : Key × V) (b : κ × α) => a.1 = A.f b.1 ∧ A.nice b.1 ∧ R.ok F a.2 b.2) ls ys ∧ Q (.bl (f (dEq xs ys))) H) := by
  intro pins s σ H x y v u Q I rx ry ⟨F, p1, p2, ks, ls, xs, ys, sm', e1, e2, h1, h2, pa, pb, q⟩
  subst e1 e2
  cases (show v = Value.ref p1 from rx)
  cases (show u = Value.ref p2 from ry)
  obtain ⟨_, n1, va, ra, da⟩ := (show ObjOk X.prog X.w H s.heap p1 (.dK ks) from (rd_of (sm' _ _ h1)).ok I.hok)
  obtain ⟨_, n2, vb, rb, db⟩ := (show ObjOk X.prog X.w H s.heap p2 (.dK ls) from (rd_of (sm' _ _ h2)).ok I.hok)
  have hu65 := C.hu65
  have hits := dHits I sm' (by show X.A.units + 1 + 64 < cLine; omega) hd rb pb pa ra
  have el : (va.length == vb.length && xs.all fun kv => match look ys kv.1 with | some u => decide (kv.2 = u) | none => false) = dEq xs ys := by
    unfold dEq
    have e1 : (va.length == vb.length) = decide (xs.length = ys.length) := by
      rw [← kv_len ra, ← kv_len rb, pa.length, pb.length]
      by_cases q : xs.length = ys.length
      · rw [decide_eq_true q, q]; simp
      · rw [decide_eq_false q]; simpa using q
    rw [e1]
  rcases ho with ⟨rfl, hf⟩ | ⟨rfl, hf⟩
  · refine PySem.W.keq_eq n1 n2 da db (by omega) (fun _ => hits) ?_
    rw [el]
    exact ⟨.bl _, H, I, rfl, by rw [hf] at q; exact q⟩
  · refine PySem.W.keq_ne n1 n2 da db (by omega) (fun _ => hits) ?_
    rw [el]
    exact ⟨.bl _, H, I, rfl, by rw [hf] at q; exact q⟩
theorem o_eqD (C : Ctx X P w K mg base N sc k dd) [DecidableEq κ] [DecidableEq α] [d : Dat R] (hd : d.dep ≤ 60) {A : KF κ} : OpX X (compareOp .Eq) (rK A R) (rK A R) rB always dEq :=
  ⟨_, op_dEq C (R := R) (A := A) hd id .Eq (.inl ⟨rfl, fun _ => rfl⟩), fun F H v u x y s ⟨_, p1, ks, e1, h1, pa⟩ ⟨_, p2, ls, e2, h2, pb⟩ _ Q q => ⟨F, p1, p2, ks, ls, x, y, s, e1, e2, h1, h2, pa, pb, q _ F H (.refl s) rfl⟩⟩
theorem o_neD (C : Ctx X P w K mg base N sc k dd) [DecidableEq κ] [DecidableEq α] [d : Dat R] (hd : d.dep ≤ 60) {A : KF κ} : OpX X (compareOp .NotEq) (rK A R) (rK A R) rB always (fun x y => !dEq x y) :=
  ⟨_, op_dEq C (R := R) (A := A) hd (fun b => !b) .NotEq (.inr ⟨rfl, fun _ => rfl⟩), fun F H v u x y s ⟨_, p1, ks, e1, h1, pa⟩ ⟨_, p2, ls, e2, h2, pb⟩ _ Q q => ⟨F, p1, p2, ks, ls, x, y, s, e1, e2, h1, h2, pa, pb, q _ F H (.refl s) rfl⟩⟩
/-- no key twice -/
def Uq (d : List (κ × α)) : Prop := (d.map (·.1)).Nodup
theorem look_of [DecidableEq κ] : ∀ {d : List (κ × α)}, Uq d → ∀ kv ∈ d, look d kv.1 = some kv.2
  | [], _, _, h => by cases h
  | e :: d, u, kv, h => by
    unfold Uq at u
    rw [List.map_cons, List.nodup_cons] at u
    rcases List.mem_cons.mp h with z | z
    · subst z; simp [look]
    · have hne : e.1 ≠ kv.1 := fun q => u.1 (by rw [q]; exact List.mem_map_of_mem z)
      have ih := look_of (d := d) u.2 kv z
      unfold look at ih ⊢
      rw [List.find?_cons_of_neg (by simpa using hne)]
      exact ih
theorem dEq_refl [DecidableEq κ] [DecidableEq α] {d : List (κ × α)} (u : Uq d) : dEq d d = true := by
  unfold dEq
  rw [decide_eq_true rfl, Bool.true_and, List.all_eq_true]
  intro kv h
  rw [look_of u kv h]
  simp
theorem keys_dput [DecidableEq κ] (d : List (κ × α)) (q : κ) (v : α) : (dput d q v).map (·.1) = if (d.any fun kv => decide (kv.1 = q)) = true then d.map (·.1) else d.map (·.1) ++ [q] := by
  unfold dput
  split
  · rw [List.map_map]
    refine List.map_congr_left fun kv _ => ?_
    simp only [Function.comp_apply]
    split <;> rfl
  · simp
theorem uq_dput [DecidableEq κ] {d : List (κ × α)} (u : Uq d) (q : κ) (v : α) : Uq (dput d q v) := by
  unfold Uq at u ⊢
  rw [keys_dput]
  split
  · exact u
  · rename_i h
    rw [List.nodup_append]
    refine ⟨u, by simp, fun a ha b hb e => h ?_⟩
    obtain rfl : b = q := by simpa using hb
    subst e
    obtain ⟨kv, h1, h2⟩ := List.mem_map.mp ha
    exact List.any_eq_true.mpr ⟨kv, h1, by simpa using h2⟩
theorem look_dput [DecidableEq κ] (d : List (κ × α)) (q : κ) (v : α) (r : κ) : look (dput d q v) r = if q = r then some v else look d r := by
  unfold dput
  split
  · rename_i h
    unfold look
    induction d with
    | nil => simp at h
    | cons e d ih =>
      rw [List.map_cons]
      by_cases he : e.1 = q
      · subst he
        rw [if_pos rfl]
        by_cases hr : e.1 = r
        · rw [if_pos hr, List.find?_cons_of_pos (by simpa using hr)]; rfl
        · rw [if_neg hr, List.find?_cons_of_neg (by simpa using hr), List.find?_cons_of_neg (by simpa using hr)]
          by_cases hd : (d.any fun kv => decide (kv.1 = e.1)) = true
          · have := ih hd
            rw [if_neg hr] at this
            exact this
          · have : d.map (fun kv => if kv.1 = e.1 then (kv.1, v) else kv) = d := by
              conv => rhs; rw [← List.map_id d]
              refine List.map_congr_left fun kv hk => ?_
              rw [if_neg (fun z => hd (List.any_eq_true.mpr ⟨kv, hk, by simpa using z⟩))]; rfl
            rw [this]
      · rw [if_neg he]
        have hd : (d.any fun kv => decide (kv.1 = q)) = true := by
          rw [List.any_cons, decide_eq_false he, Bool.false_or] at h
          exact h
        have ih := ih hd
        by_cases hr : e.1 = r
        · have hq : ¬ q = r := fun z => he (hr.trans z.symm)
          rw [if_neg hq, List.find?_cons_of_pos (by simpa using hr), List.find?_cons_of_pos (by simpa using hr)]
        · rw [List.find?_cons_of_neg (by simpa using hr), List.find?_cons_of_neg (by simpa using hr)]
          exact ih
  · rename_i h
    unfold look
    rw [List.find?_append]
    by_cases hq : q = r
    · subst hq
      rw [if_pos rfl]
      have : d.find? (fun kv => decide (kv.1 = q)) = none := by
        rw [List.find?_eq_none]
        intro kv hk z
        exact h (List.any_eq_true.mpr ⟨kv, hk, z⟩)
      rw [this]; simp
    · rw [if_neg hq]
      cases hf : d.find? (fun kv => decide (kv.1 = r)) with
      | some z => rfl
      | none => simp [hq]

/-! ### enumerate, zip -/
def numbered (xs : List α) : List (Int × α) := xs.mapIdx fun i x => ((i : Int), x)
variable {elts : List Expr} {kk : Nat} {tpos : Pos}
theorem xi_enum (C : Ctx X P w K mg base N sc k dd) (hf : Free mg) {xs : List α} (h : XE X Γ a (rL R) xs) (hg : gloB sc "enumerate" = true := by decide +kernel) (hs : starEach [a] X.env = [(false, eval a X.env)] := by rfl) :
    XI X Γ (.Tuple elts kk tpos) (.Call (.Name "enumerate" p) [a] [] pos) (rT (wc rI (w1 R))) (numbered xs) := by
  refine ⟨_, pi_enum (C.gl hg) (by rw [C.mg]; exact hf.at_ (by decide +kernel)) (pa_cons (pe_ a) pa_nil (by rw [hs]; rfl)) hs, fun σ F H D g en R' q => h σ F H D g en _ fun v F1 H1 g1 ⟨hz, p, vs, e, hp, pr⟩ => ?_⟩
  refine ⟨p, vs, by rw [e], .inl (rd_of (g1.fh _ _ hp)), q _ F1 H1 g1 fun i F' H' s1 s2 => ?_⟩
  have hp' : SqL X.K H' p vs := .inl (rd_of (s2 _ _ (s1 _ _ hp)))
  have hl : vs.length = xs.length := pr.length
  refine ⟨fun e => ⟨vs, hp', by rw [e, numbered, List.length_mapIdx]; omega⟩, fun x hx => ?_⟩
  unfold numbered at hx
  rw [List.getElem?_mapIdx] at hx
  cases hxi : xs[i]? with
  | none => rw [hxi] at hx; cases hx
  | some x0 =>
    rw [hxi] at hx
    obtain rfl : ((i : Int), x0) = x := by simpa using hx
    have hi : i < vs.length := by rw [hl]; exact (List.getElem?_eq_some_iff.mp hxi).1
    refine ⟨⟨vs, vs[i], hp', List.getElem?_eq_getElem hi⟩, fun v H'' ⟨T, y, ev, nT, eH, yy⟩ => ?_⟩
    subst ev eH
    obtain ⟨x', e1, r⟩ := pr.get (yy vs hp')
    rw [hxi] at e1; cases e1
    have gl := Grow.laid (o := HO.tup [V.int (i : Nat), y]) s2 nT (fun _ _ z => by cases z)
    exact ⟨_, gl, T, _, rfl, upd_same, .int i, [y], rfl, rfl, y, rfl, R.mono (s1.trans gl.ff) r⟩
theorem xi_zip (C : Ctx X P w K mg base N sc k dd) (hf : Free mg) {xs : List α} {ys : List β} (h : XE X Γ a (rL R) xs) (h2 : XE X Γ b (rL R2) ys) (hg : gloB sc "zip" = true := by decide +kernel)
    (hs : starEach [a, b] X.env = (false, eval a X.env) :: starEach [b] X.env := by rfl) (hs2 : starEach [b] X.env = (false, eval b X.env) :: starEach [] X.env := by rfl) (hpl : (backTo pos (starEach [b] X.env)).any (·.1) = false := by rfl) :
    XI X Γ (.Tuple elts kk tpos) (.Call (.Name "zip" p) [a, b] [] pos) (rT (wc R (w1 R2))) (xs.zip ys) := by
  refine ⟨_, pi_zip (C.gl hg) (by rw [C.mg]; exact hf.at_ (by decide +kernel)) (pa_cons (pe_ a) (pa_cons (pe_ b) pa_nil hs2) hs) hs hpl, fun σ F H D g en R' q => h σ F H D g en _ fun v F1 H1 g1 ⟨hz, p, vs, e, hp, pr⟩ => h2 σ F1 H1 D (g.grow g1) (en.grow g g1) _ fun v2 F2 H2 g2 ⟨hz2, p2, us, e2, hp2, pr2⟩ => ?_⟩
  have hpF := g2.ff _ _ hp
  have pr := prd_mono g2.ff pr
  refine ⟨p, p2, vs, us, by rw [e, e2], .inl (rd_of (g2.fh _ _ hpF)), .inl (rd_of (g2.fh _ _ hp2)), q _ F2 H2 (g1.trans g2) fun i F' H' s1 s2 => ?_⟩
  have q1 : SqL X.K H' p vs := .inl (rd_of (s2 _ _ (s1 _ _ hpF)))
  have q2 : SqL X.K H' p2 us := .inl (rd_of (s2 _ _ (s1 _ _ hp2)))
  have l1 : vs.length = xs.length := pr.length
  have l2 : us.length = ys.length := pr2.length
  refine ⟨fun e => ⟨vs, us, q1, q2, by rw [e, List.length_zip]; omega⟩, fun x hx => ?_⟩
  obtain ⟨x1, x2⟩ := x
  rw [List.getElem?_zip_eq_some] at hx
  obtain ⟨e1, e2⟩ := hx
  have i1 : i < vs.length := by rw [l1]; exact (List.getElem?_eq_some_iff.mp e1).1
  have i2 : i < us.length := by rw [l2]; exact (List.getElem?_eq_some_iff.mp e2).1
  refine ⟨⟨vs, us, vs[i], us[i], q1, q2, List.getElem?_eq_getElem i1, List.getElem?_eq_getElem i2⟩, fun v H'' ⟨T, y1, y2, ev, nT, eH, yx, yy⟩ => ?_⟩
  subst ev eH
  obtain ⟨x', f1, r1⟩ := pr.get (yx vs q1)
  obtain ⟨y', f2, r2⟩ := pr2.get (yy us q2)
  rw [e1] at f1; cases f1
  rw [e2] at f2; cases f2
  have gl := Grow.laid (o := HO.tup [y1, y2]) s2 nT (fun _ _ z => by cases z)
  exact ⟨_, gl, T, _, rfl, upd_same, y1, [y2], rfl, R.mono (s1.trans gl.ff) r1, y2, rfl, R2.mono (s1.trans gl.ff) r2⟩
end
end Wf
namespace Wf
open PySem L2
section
variable {X : Cx} {Γ : Gm} {PP : Program} {w : World} {K : PySem.W.Frag} {mg : Str → Option Value} {base : Heap} {N : List Str} {sc : Scope} {k : Nat} {dd : Bool}
variable {α : Type} {R : Rp α} {P : Post} {pos : Pos} {J : List Nat} {f : α → Gm → Gm}
theorem take_succ_of {xs : List α} {i : Nat} {x : α} (h : xs[i]? = some x) : xs.take (i + 1) = xs.take i ++ [x] := by
  rw [List.take_add_one, h]; rfl
/-- a walk as a fold: the state st stands in the slots G st -/
theorem xs_forF (C : Ctx X PP w K mg base N sc k dd) {τ : Type} {tg iter : Expr} {body : List Stmt} {xs : List α} (G : τ → Gm) (step : τ → α → τ) (I : Nat → τ → Prop) (st0 : τ) (hi : XI X Γ tg iter R xs) (hg : XG X tg R J f) (h0 : Wk Γ (G st0)) (i0 : I 0 st0)
    (hb : ∀ i x st, xs[i]? = some x → I i st → XB X (f x (G st)) body { P with nx := fun Γ' => Wk Γ' (G (step st x)) ∧ I (i + 1) (step st x), ct := fun Γ' => Wk Γ' (G (step st x)) ∧ I (i + 1) (step st x), bk := P.nx }) (hd : ∀ Γ', Wk Γ' (G (xs.foldl step st0)) → I xs.length (xs.foldl step st0) → P.nx Γ')
    (hm : ∀ x Γ Γ', Wk Γ Γ' → Wk (f x Γ) (f x Γ') := by intro _ _ _ h; repeat (first | exact h | refine Wk.set ?_ _ _))
    (hs : ∀ x, foldedSetIterable iter X.env x = pure x := by intro _; rfl) : XS X Γ (.For tg iter body [] pos) P := by
  refine xs_for C (fun i Γ' => Wk Γ' (G ((xs.take i).foldl step st0)) ∧ I i ((xs.take i).foldl step st0)) hi hg ⟨h0, i0⟩ (fun i x Γ' hx ⟨wk, hI⟩ => ?_) (fun Γ' ⟨wk, hI⟩ => ?_) hs
  · refine xb_wk (hm x _ _ wk) ?_
    have := hb i x _ hx hI
    rw [take_succ_of hx, List.foldl_append]
    exact this
  · rw [List.take_length] at wk hI
    exact hd Γ' wk hI
/-- a walk that keeps what is known -/
theorem xs_forW (C : Ctx X PP w K mg base N sc k dd) {tg iter : Expr} {body : List Stmt} {xs : List α} (G : Gm) (hi : XI X Γ tg iter R xs) (hg : XG X tg R J f) (h0 : Wk Γ G)
    (hb : ∀ x, x ∈ xs → XB X (f x G) body { P with nx := fun Γ' => Wk Γ' G, ct := fun Γ' => Wk Γ' G, bk := P.nx }) (hd : ∀ Γ', Wk Γ' G → P.nx Γ')
    (hm : ∀ x Γ Γ', Wk Γ Γ' → Wk (f x Γ) (f x Γ') := by intro _ _ _ h; repeat (first | exact h | refine Wk.set ?_ _ _))
    (hs : ∀ x, foldedSetIterable iter X.env x = pure x := by intro _; rfl) : XS X Γ (.For tg iter body [] pos) P :=
  xs_for C (fun _ Γ' => Wk Γ' G) hi hg h0 (fun i x Γ' hx wk => xb_wk (hm x _ _ wk) (hb x (List.mem_of_getElem? hx))) (fun Γ' wk => hd Γ' wk) hs
end
end Wf
/-! Lists of several kinds, of options; slices from the front; walks with what is left. -/
namespace Wf
open PySem L2
/-- a list written out, its items of their own kinds -/
def rLw {α : Type} (T : Rw α) : Rp α := ⟨fun F v x => ∃ p vs, v = .ref p ∧ F p = some (.lst vs) ∧ T.ok F vs x,
  fun s ⟨p, vs, e, h, q⟩ => ⟨p, vs, e, s _ _ h, T.mono s q⟩⟩
section
variable {X : Cx} {Γ : Gm} {PP : Program} {w : World} {K : PySem.W.Frag} {mg : Str → Option Value} {base : Heap} {N : List Str} {sc : Scope} {k : Nat} {dd : Bool}
variable {α β γ κ : Type} {R : Rp α} {R2 : Rp β} {P : Post} {a b tg : Expr} {p pos pos' : Pos} {J : List Nat} {f : α → Gm → Gm} {j : Nat}
theorem xe_listW {es : List Expr} {T : Rw α} {x : α} (h : XR X Γ es T x) (hl : es.length ≤ 1000 := by decide) : XE X Γ (.List es pos) (rLw T) x := by
  intro σ F H D g e Q q
  refine (pe_lst (pa_ es)).wp (h σ F H D g e _ fun vs F1 H1 g1 r l => ⟨by rw [l]; exact Nat.le_trans hl (by decide), fun p np => ?_⟩)
  have gl := Grow.laid (o := HO.lst vs) g1.fh np (fun _ _ z => by cases z)
  exact q _ _ _ (g1.trans gl) ⟨p, vs, rfl, upd_same, T.mono gl.ff r⟩
theorem xe_atW {T : Rw α} {R' : Rp β} {f : α → β} {x : α} (i : Nat) [t : RwAt T i R' f] {j pos'} (ha : XE X Γ a (rLw T) x) : XE X Γ (.Subscript a (.Constant (.int (i : Int)) j pos') pos) R' (f x) := by
  intro σ F H D g e Q q
  refine (pe_ix ix_list (pe_ a) pe_int (fun _ _ => rfl)).wp (ha σ F H D g e _ fun v F1 H1 g1 ⟨p, vs, e1, h, r⟩ => ?_)
  obtain ⟨u, e2, r2⟩ := t.at_ r
  exact ⟨p, vs, (i : Int), u, e1, rfl, .inl (rd_of (g1.fh _ _ h)), atI_nat e2, q u F1 H1 g1 r2⟩
theorem aw0 {T : Rw β} {x : α × β} (ha : XE X Γ a (rLw (wc R T)) x) : XE X Γ (.Subscript a (.Constant (.int 0) j pos') pos) R x.1 := xe_atW (T := wc R T) (x := x) (f := fun x => x.1) 0 ha
theorem aw1 {x : α × β} (ha : XE X Γ a (rLw (wc R (w1 R2))) x) : XE X Γ (.Subscript a (.Constant (.int 1) j pos') pos) R2 x.2 := xe_atW (T := wc R (w1 R2)) (x := x) (f := fun x => x.2) 1 ha
theorem prd_some {F : Hp} : ∀ {vs : List V} {xs : List α}, Paired (R.ok F) vs xs → Paired ((rO R).ok F) vs (xs.map some)
  | _, _, .nil => .nil
  | _, _, .cons h t => .cons h (prd_some t)
theorem prd_unsome {F : Hp} : ∀ {vs : List V} {xs : List α}, Paired ((rO R).ok F) vs (xs.map some) → Paired (R.ok F) vs xs
  | _, [], .nil => .nil
  | _, _ :: _, .cons h t => .cons h (prd_unsome t)
theorem xe_lsome {xs : List α} (h : XE X Γ a (rL R) xs) : XE X Γ a (rL (rO R)) (xs.map some) := fun σ F H D g en Q q => h σ F H D g en Q fun v F' H' g' ⟨z, p, vs, e, hp, pr⟩ => q v F' H' g' ⟨by rw [List.length_map]; exact z, p, vs, e, hp, prd_some pr⟩
theorem xe_lget {xs : List α} (h : XE X Γ a (rL (rO R)) (xs.map some)) : XE X Γ a (rL R) xs := fun σ F H D g en Q q => h σ F H D g en Q fun v F' H' g' ⟨z, p, vs, e, hp, pr⟩ => q v F' H' g' ⟨by rw [List.length_map] at z; exact z, p, vs, e, hp, prd_unsome pr⟩
theorem cut_take {xs : List α} {n : Nat} : cut xs none (some (n : Int)) = xs.take n := by
  unfold cut
  rw [sIx_some, HT.sIx_none]
  simp only [Nat.sub_zero, List.drop_zero]
  rcases Nat.le_total n xs.length with h | h
  · rw [Nat.min_eq_left h]
  · rw [Nat.min_eq_right h, List.take_length, List.take_of_length_le h]
theorem cut_drop {xs : List α} {n : Nat} : cut xs (some (n : Int)) none = xs.drop n := by
  unfold cut
  rw [sIx_some, HT.sIx_none]
  rcases Nat.le_total n xs.length with h | h
  · rw [Nat.min_eq_left h, List.take_of_length_le (by rw [List.length_drop]; exact Nat.le_refl _)]
  · rw [Nat.min_eq_right h, List.drop_length, List.drop_of_length_le h]; simp
theorem xe_len (C : Ctx X PP w K mg base N sc k dd) (hf : Free mg) {xs : List α} (ha : XE X Γ a (rL R) xs) (hg : gloB sc "len" = true := by decide +kernel) (he : starEach [a] X.env = (false, eval a X.env) :: starEach [] X.env := by rfl) (hpl : (backTo pos (starEach [] X.env)).any (·.1) = false := by rfl) :
    XE X Γ (.Call (.Name "len" p) [a] [] pos) rI (xs.length : Int) :=
  xe_b1 (R1 := rL R) (x := xs) (ok := fun _ => True) (op := fun xs => (xs.length : Int)) C hf len_list ha trivial boot_len hg (by decide +kernel) (by decide +kernel) (by decide +kernel) he hpl
/-- a walk by a state and what is left -/
theorem xs_forI (C : Ctx X PP w K mg base N sc k dd) {τ : Type} {tg iter : Expr} {body : List Stmt} {xs : List α} (G : τ → Gm) (I : τ → List α → Prop) (st0 : τ) (hi : XI X Γ tg iter R xs) (hg : XG X tg R J f) (h0 : Wk Γ (G st0)) (i0 : I st0 xs)
    (hb : ∀ x rest st, I st (x :: rest) → XB X (f x (G st)) body { P with nx := fun Γ' => ∃ st', Wk Γ' (G st') ∧ I st' rest, ct := fun Γ' => ∃ st', Wk Γ' (G st') ∧ I st' rest, bk := P.nx }) (hd : ∀ st Γ', I st [] → Wk Γ' (G st) → P.nx Γ')
    (hm : ∀ x Γ Γ', Wk Γ Γ' → Wk (f x Γ) (f x Γ') := by intro _ _ _ h; repeat (first | exact h | refine Wk.set ?_ _ _))
    (hs : ∀ x, foldedSetIterable iter X.env x = pure x := by intro _; rfl) : XS X Γ (.For tg iter body [] pos) P := by
  refine xs_for C (fun i Γ' => ∃ st, Wk Γ' (G st) ∧ I st (xs.drop i)) hi hg ⟨st0, h0, i0⟩ (fun i x Γ' hx ⟨st, wk, hI⟩ => ?_) (fun Γ' ⟨st, wk, hI⟩ => ?_) hs
  · refine xb_wk (hm x _ _ wk) ?_
    have e : xs.drop i = x :: xs.drop (i + 1) := by
      obtain ⟨h, e⟩ := List.getElem?_eq_some_iff.mp hx
      rw [List.drop_eq_getElem_cons h, e]
    rw [e] at hI
    exact hb x _ st hI
  · rw [List.drop_length] at hI
    exact hd st Γ' hI wk
theorem numbered_get {xs : List α} {i : Nat} {x : Int × α} (h : (numbered xs)[i]? = some x) : x.1 = i ∧ xs[i]? = some x.2 := by
  unfold numbered at h
  rw [List.getElem?_mapIdx] at h
  cases q : xs[i]? with
  | none => rw [q] at h; cases h
  | some z => rw [q] at h; obtain rfl : ((i : Int), z) = x := by simpa using h
              exact ⟨rfl, rfl⟩
theorem numbered_len {xs : List α} : (numbered xs).length = xs.length := by simp [numbered]
end
end Wf
/-! A slot seen more loosely. -/
namespace Wf
open PySem L2
def rAny : Rp Unit := ⟨fun _ _ _ => True, fun _ h => h⟩
theorem Env.imp {F H : Hp} {s s' : Slot} (h : ∀ D o, s.ok F H D o → s'.ok F H D o) : ∀ {D : List Addr} {Γ : Gm} {σ : St} (i : Nat), Γ[i]? = some s → Env F H D Γ σ → Env F H D (Γ.set i s') σ
  | _, [], _, _, e, _ => by simp at e
  | _, _ :: _, [], _, _, q => q.elim
  | _, t :: Γ, o :: σ, 0, e, ⟨D1, D2, ed, q, r⟩ => by
    obtain rfl : t = s := by simpa using e
    exact ⟨D1, D2, ed, h _ _ q, r⟩
  | _, t :: Γ, o :: σ, i + 1, e, ⟨D1, D2, ed, q, r⟩ => ⟨D1, D2, ed, q, Env.imp h i (by simpa using e) r⟩
section
variable {X : Cx} {Γ : Gm} {P : Post} {α : Type} {R : Rp α} {x : α} {a : Expr} {sts : List Stmt}
theorem prd_any' {F : Hp} : ∀ {vs : List V} {xs : List α}, Paired (R.ok F) vs xs → Paired (rAny.ok F) vs (xs.map fun _ => ())
  | _, _, .nil => .nil
  | _, _, .cons _ t => .cons trivial (prd_any' t)
theorem xe_any (h : XE X Γ a R x) : XE X Γ a rAny () := fun σ F H D g en Q q => h σ F H D g en Q fun v F' H' g' _ => q v F' H' g' trivial
/-- what the list holds is forgotten, how many it holds is not -/
theorem xb_any {xs : List α} (i : Nat) (hs : Γ[i]? = some (.res (oL R) xs)) (h : XB X (Γ.set i (.res (oL rAny) (xs.map fun _ => ()))) sts P) : XB X Γ sts P := by
  intro σ F H D g en E m
  refine h σ F H D g (Env.imp (s := .res (oL R) xs) (s' := .res (oL rAny) (xs.map fun _ => ())) (fun D o q => ?_) i hs en) E m
  obtain ⟨v, e, z, p, vs, e1, e2, e3, pr⟩ := q
  exact ⟨v, e, by rw [List.length_map]; exact z, p, vs, e1, e2, e3, prd_any' pr⟩
end
end Wf
namespace Wf
open PySem L2
def top (i : Nat) : Stmt := PySem.Challenge.pw_wayhold_k06_whole_spares_and_waits.main.body.getD i (.Pass ⟨0, 0, 0, 0⟩)
abbrev s_spare : Stmt := top 1
abbrev s_waits : Stmt := top 2
abbrev s_draws : Stmt := top 4
abbrev s_same : Stmt := top 5
abbrev s_names : Stmt := top 6
abbrev s_hang : Stmt := top 7
abbrev s_kept : Stmt := top 8
abbrev s_world : Stmt := top 9
abbrev s_line : Stmt := top 10
abbrev s_law : Stmt := top 11
/-! ### _law_draws -/
def drBig : Nat → Int → List Int → List Int
  | 0, _, row => row
  | n + 1, cell, row => if 0 < cell then drBig n (cell / 1013) (row ++ [cell % 1013]) else row
def drSeed (seed : Int) (m : Int) : Int := (seed * 48271 + m * m * 6133 + 17) % 2147483647
def drOut (seed : Int) : Int := seed % 65521 * (seed / 65521 % 32749 + 1) % 1000003 % 1013
def drFill : Nat → Int → List Int → List Int
  | 0, _, row => row
  | n + 1, seed, row => drFill n (drSeed seed (row.length + 1)) (row ++ [drOut (drSeed seed (row.length + 1))])
def drCell (s : List Int) (at_ : Int) : Int := if at_ < s.length then ix s at_ else if (s.length : Int) > 0 then ix s (at_ % s.length) % 999983 + at_ * at_ * 97 + 1 else 7 * at_ + 1
def draws (s : List Int) (at_ many : Int) : List Int :=
  let cell := drCell s at_
  let row := if cell ≥ 10 ^ 18 then drBig many.toNat cell [] else []
  drFill (many.toNat - row.length) (cell % 999983 + 31 * at_ + 5) row
theorem drBig_len : ∀ (n : Nat) (c : Int) (row : List Int), (drBig n c row).length ≤ row.length + n
  | 0, _, _ => Nat.le_refl _
  | n + 1, c, row => by
    unfold drBig
    split
    · have := drBig_len n (c / 1013) (row ++ [c % 1013])
      simp at this; omega
    · omega
theorem drBig_low : ∀ (n : Nat) (c : Int) (row : List Int), ¬ 0 < c → drBig n c row = row
  | 0, _, _, _ => rfl
  | n + 1, c, row, h => by unfold drBig; rw [if_neg h]
def small (xs : List Int) : Prop := ∀ x ∈ xs, 0 ≤ x ∧ x < 1013
theorem small_add {xs : List Int} (h : small xs) {x : Int} (h' : 0 ≤ x ∧ x < 1013) : small (xs ++ [x]) := fun y hy => by
  rcases List.mem_append.mp hy with q | q
  · exact h y q
  · obtain rfl : y = x := by simpa using q
    exact h'
theorem mod1013 (c : Int) : 0 ≤ c % 1013 ∧ c % 1013 < 1013 := ⟨Int.emod_nonneg _ (by decide), Int.emod_lt_of_pos _ (by decide)⟩
theorem drBig_small : ∀ (n : Nat) (c : Int) (row : List Int), small row → small (drBig n c row)
  | 0, _, _, h => h
  | n + 1, c, row, h => by
    unfold drBig
    split
    · exact drBig_small n _ _ (small_add h (mod1013 _))
    · exact h
theorem drFill_small : ∀ (n : Nat) (c : Int) (row : List Int), small row → small (drFill n c row)
  | 0, _, _, h => h
  | n + 1, c, row, h => by
    unfold drFill
    exact drFill_small n _ _ (small_add h (mod1013 _))
theorem drFill_len : ∀ (n : Nat) (c : Int) (row : List Int), (drFill n c row).length = row.length + n
  | 0, _, _ => rfl
  | n + 1, c, row => by
    unfold drFill
    rw [drFill_len n]; simp; omega
theorem draws_small (s : List Int) (a m : Int) : small (draws s a m) := by
  unfold draws
  apply drFill_small
  split
  · exact drBig_small _ _ _ (fun x h => by cases h)
  · exact fun x h => by cases h
theorem draws_len (s : List Int) (a m : Int) : (draws s a m).length = m.toNat := by
  unfold draws
  simp only
  rw [drFill_len]
  split
  · have := drBig_len m.toNat (drCell s a) []
    simp at this
    omega
  · simp
/-- the i-th draw -/
theorem draws_at (s : List Int) (a m i : Int) (h0 : 0 ≤ i) (h1 : i < m) : inR (draws s a m) i ∧ 0 ≤ ix (draws s a m) i ∧ ix (draws s a m) i < 1013 := by
  have hr : inR (draws s a m) i := ⟨by omega, by rw [draws_len]; omega⟩
  exact ⟨hr, draws_small s a m _ (ix_mem hr)⟩
theorem ix_in {α : Type} [Inhabited α] {xs : List α} {i : Int} (h : inR xs i) {p : α → Prop} (hp : ∀ x ∈ xs, p x) : p (ix xs i) := hp _ (ix_mem h)
def N_draws : List Str := ["_law_script", "_law_at", "_law_many", "_law_cell", "_law_seed", "_law_row", "_law_mark"]
theorem sc_draws : FnScope N_draws ["_law_script", "_law_at", "_law_many"] (defScope s_draws) := ⟨rfl, rfl, rfl, by decide +kernel, rfl, by decide +kernel, by decide +kernel⟩
def spDraws (K : PySem.W.Frag) : Sp := fsp (ι := List Int × Int × Int) (fun i => 0 ≤ i.2.1 ∧ i.2.1 ≤ 100000 ∧ 0 ≤ i.2.2 ∧ i.2.2 ≤ 1000) (fun i => [.is (rSc K) i.1, .is rI i.2.1, .is rI i.2.2]) (fun i => .res (oL rI) (draws i.1 i.2.1 i.2.2))
theorem dp {s : List Int} {a m : Int} (h : 0 ≤ a ∧ a ≤ 100000 ∧ 0 ≤ m ∧ m ≤ 1000) : (fun i : List Int × Int × Int => 0 ≤ i.2.1 ∧ i.2.1 ≤ 100000 ∧ 0 ≤ i.2.2 ∧ i.2.2 ≤ 1000) (s, a, m) := h
section
variable {P : Program} {w : World} {K : PySem.W.Frag} {mg : Str → Option Value} {base : Heap}
theorem fk_draws {f : Addr} {fd : FuncData} (Fn : FnP K "_law_draws" "_law_draws" s_draws f fd) (hm : mg "_law_draws" = some (.ref f)) (hf : Free mg) : Fk P w K mg base 1 "_law_draws" ["_law_script", "_law_at", "_law_many"] (spDraws K) := by
  refine fk_of Fn (fn_pure Fn sc_draws (fun _ => rfl) (fun i hp X C => ?_)) hm fun _ _ _ _ _ _ us hl => match us, hl with | [_, _, _], _ => rfl
  obtain ⟨sc, at_, many⟩ := i
  obtain ⟨h1, h2, h3, h4⟩ := hp
  simp only at h1 h2 h3 h4 ⊢
  refine xb_cons (xs_asg C 3 (xe_bin o_add (xe_bin o_mul xe_int (xe_var C 1 rfl) (.inl (by decide))) xe_int trivial) (by decide +kernel) ?_)
  refine xb_cut [.is (rSc K) sc, .is rI at_, .is rI many, .is rI (drCell sc at_), .any, .any, .any] ?_ ?_
  · refine xs_if (xt_cmp o_lt (xe_var C 1 rfl) (xe_b1 C hf (len_script C) (xe_var C 0 rfl) trivial boot_len) trivial) (fun hb => ?_) (fun hb => ?_)
    · have hb := of_decide_eq_true hb
      refine xb_cons (xs_asg C 3 (xe_ix (i_script C) (xe_var C 0 rfl) (xe_var C 1 rfl) ⟨by omega, hb⟩) (by decide +kernel) ?_)
      refine xb_nil ⟨_, .refl _, ?_⟩
      have : drCell sc at_ = ix sc at_ := by unfold drCell; rw [if_pos hb]
      rw [this]
      exact Wk.refl _
    · have hb := of_decide_eq_false hb
      refine xb_one (xs_if (xt_cmp o_gt (xe_b1 C hf (len_script C) (xe_var C 0 rfl) trivial boot_len) xe_int trivial) (fun hb2 => ?_) (fun hb2 => ?_))
      · have hb2 := of_decide_eq_true hb2
        have hmm : 0 ≤ at_ * at_ ∧ at_ * at_ ≤ 10000000000 := ⟨Int.mul_nonneg h1 h1, by
          have := Int.mul_le_mul h2 h2 h1 (by decide)
          simpa using this⟩
        refine xb_cons (xs_asg C 3 (xe_bin o_add (xe_bin o_add (xe_bin o_mod (xe_ix (i_script C) (xe_var C 0 rfl) (xe_bin o_mod (xe_var C 1 rfl) (xe_b1 C hf (len_script C) (xe_var C 0 rfl) trivial boot_len) hb2) ?_) xe_int (by decide))
          (xe_bin o_mul (xe_bin o_mul (xe_var C 1 rfl) (xe_var C 1 rfl) (.inl ⟨by omega, by omega⟩)) xe_int (.inr (by decide))) trivial) xe_int trivial) (by decide +kernel) ?_)
        · have e1 := Int.emod_nonneg at_ (show (sc.length : Int) ≠ 0 by omega)
          have e2 := Int.emod_lt_of_pos at_ (show 0 < (sc.length : Int) by omega)
          exact ⟨by omega, e2⟩
        · refine xb_nil ⟨_, .refl _, ?_⟩
          have : drCell sc at_ = ix sc (at_ % sc.length) % 999983 + at_ * at_ * 97 + 1 := by unfold drCell; rw [if_neg hb, if_pos hb2]
          rw [this]
          exact Wk.refl _
      · have hb2 := of_decide_eq_false hb2
        refine xb_nil ⟨_, .refl _, ?_⟩
        have : drCell sc at_ = 7 * at_ + 1 := by unfold drCell; rw [if_neg hb, if_neg hb2]
        rw [this]
        exact Wk.refl _
  refine xb_cons (xs_asg C 4 (xe_bin o_add (xe_bin o_add (xe_bin o_mod (xe_var C 3 rfl) xe_int (by decide)) (xe_bin o_mul xe_int (xe_var C 1 rfl) (.inl (by decide))) trivial) xe_int trivial) (by decide +kernel) ?_)
  refine xb_cons (xs_asgO C 5 (xo_newL rI xl_nil) (by decide +kernel) ?_)
  have hd : draws sc at_ many = drFill (many.toNat - (if drCell sc at_ ≥ 10 ^ 18 then drBig many.toNat (drCell sc at_) [] else []).length) (drCell sc at_ % 999983 + 31 * at_ + 5) (if drCell sc at_ ≥ 10 ^ 18 then drBig many.toNat (drCell sc at_) [] else []) := rfl
  rw [hd]
  generalize drCell sc at_ = cell
  refine xb_cut [.is (rSc K) sc, .is rI at_, .is rI many, .any, .is rI (cell % 999983 + 31 * at_ + 5), .res (oL rI) (if cell ≥ 10 ^ 18 then drBig many.toNat cell [] else []), .any] ?_ ?_
  · refine xs_if (xt_cmp o_ge (xe_var C 3 rfl) (xe_bin o_pow xe_int xe_int ⟨by decide, by decide, by decide⟩) trivial) (fun hb => ?_) (fun hb => ?_)
    · have hb : cell ≥ 10 ^ 18 := of_decide_eq_true hb
      rw [if_pos hb]
      refine xb_one (xs_while C (fun m Γ => ∃ c row, row.length + m = many.toNat ∧ drBig m c row = drBig many.toNat cell [] ∧ Wk Γ [.is (rSc K) sc, .is rI at_, .is rI many, .is rI c, .is rI (cell % 999983 + 31 * at_ + 5), .res (oL rI) row, .any]) ⟨many.toNat, cell, [], by simp, rfl, Wk.refl _⟩ ?_)
      rintro m Γ' ⟨c, row, hl, he, wk⟩
      refine ⟨_, xt_wk wk (xt_w (xw_and (xt_cmp o_gt (xe_var C 3 rfl) xe_int trivial) (fun _ => xw_and1 (xt_view (xt_cmp o_lt (xe_b1 C hf len_list (xe_var C 5 rfl) trivial boot_len) (xe_var C 2 rfl) trivial))))), fun hb => xb_wk wk ?_, fun hb => ?_⟩
      · simp only [Bool.and_eq_true, decide_eq_true_eq] at hb
        obtain ⟨m, rfl⟩ : ∃ m', m = m' + 1 := ⟨m - 1, by omega⟩
        refine xb_cons (xs_append C 5 (xs := row) (xe_bin o_mod (xe_var C 3 rfl) xe_int (by decide)) (by decide +kernel) (by omega) ?_)
        refine xb_cons (xs_asg C 3 (xe_bin o_div (xe_var C 3 rfl) xe_int ⟨by decide, by decide⟩) (by decide +kernel) ?_)
        refine xb_nil ⟨_, .refl _, m, by omega, c / 1013, row ++ [c % 1013], by simp; omega, ?_, .refl _⟩
        rw [← he]
        have h0 : 0 < c := hb.1
        show _ = drBig (m + 1) c row
        rw [drBig, if_pos h0]
      · refine wk.trans ?_
        have e : row = drBig many.toNat cell [] := by
          rw [← he]
          by_cases h0 : 0 < c
          · have : m = 0 := by
              simp only [Bool.and_eq_false_iff, decide_eq_false_iff_not] at hb
              omega
            subst this; rfl
          · rw [drBig_low _ _ _ h0]
        rw [e]
        exact .same (.same (.same (.any (.same (.same (.same .nil))))))
    · have hb : ¬ cell ≥ 10 ^ 18 := of_decide_eq_false hb
      rw [if_neg hb]
      exact xb_nil ⟨_, .refl _, .same (.same (.same (.any (.same (.same (.same .nil))))))⟩
  have hlen0 : (if cell ≥ 10 ^ 18 then drBig many.toNat cell [] else []).length ≤ many.toNat := by
    split
    · have := drBig_len many.toNat cell []
      simpa using this
    · simp
  generalize (if cell ≥ 10 ^ 18 then drBig many.toNat cell [] else []) = row0 at hlen0 ⊢
  generalize cell % 999983 + 31 * at_ + 5 = seed0
  refine xb_cut [.is (rSc K) sc, .is rI at_, .is rI many, .any, .any, .res (oL rI) (drFill (many.toNat - row0.length) seed0 row0), .any] ?_ (xb_one (xs_retV C 5 (by decide +kernel) rfl))
  refine xs_while C (fun m Γ => ∃ c row, row.length + m = many.toNat ∧ drFill m c row = drFill (many.toNat - row0.length) seed0 row0 ∧ Wk Γ [.is (rSc K) sc, .is rI at_, .is rI many, .any, .is rI c, .res (oL rI) row, .any]) ⟨many.toNat - row0.length, seed0, row0, by omega, rfl, .refl _⟩ ?_
  rintro m Γ' ⟨c, row, hl, he, wk⟩
  refine ⟨_, xt_wk wk (xt_view (xt_cmp o_lt (xe_b1 C hf len_list (xe_var C 5 rfl) trivial boot_len) (xe_var C 2 rfl) trivial)), fun hb => xb_wk wk ?_, fun hb => ?_⟩
  · have hb := of_decide_eq_true hb
    obtain ⟨m, rfl⟩ : ∃ m', m = m' + 1 := ⟨m - 1, by omega⟩
    have hs : (row.length : Int) + 1 < 2 ^ 64 ∧ -(2 ^ 64) < (row.length : Int) + 1 ∧ ((row.length : Int) + 1) * ((row.length : Int) + 1) < 2 ^ 64 ∧ -(2 ^ 64) < ((row.length : Int) + 1) * ((row.length : Int) + 1) := by
      have h5 : 0 ≤ (row.length : Int) + 1 := by omega
      have h6 : (row.length : Int) + 1 ≤ 1001 := by omega
      have h7 := Int.mul_le_mul h6 h6 h5 (by decide)
      have h8 := Int.mul_nonneg h5 h5
      have h9 : (2 : Int) ^ 64 = 18446744073709551616 := by decide
      omega
    refine xb_cons (xs_asg C 6 (xe_bin o_add (xe_view (xe_b1 C hf len_list (xe_var C 5 rfl) trivial boot_len)) xe_int trivial) (by decide +kernel) ?_)
    refine xb_cons (xs_asg C 4 (xe_bin o_mod (xe_bin o_add (xe_bin o_add (xe_bin o_mul (xe_var C 4 rfl) xe_int (.inr (by decide))) (xe_bin o_mul (xe_bin o_mul (xe_var C 6 rfl) (xe_var C 6 rfl) (.inl ⟨hs.2.1, hs.1⟩)) xe_int (.inr (by decide))) trivial) xe_int trivial) xe_int (by decide)) (by decide +kernel) ?_)
    have hq : ∀ z : Int, -(2 ^ 64) < z % 65521 ∧ z % 65521 < 2 ^ 64 := fun z => by
      have h9 : (2 : Int) ^ 64 = 18446744073709551616 := by decide
      omega
    refine xb_cons (xs_append C 5 (xs := row) (xe_bin o_mod (xe_bin o_mod (xe_bin o_mul (xe_bin o_mod (xe_var C 4 rfl) xe_int (by decide)) (xe_bin o_add (xe_bin o_mod (xe_bin o_div (xe_var C 4 rfl) xe_int ⟨by decide, by decide⟩) xe_int (by decide)) xe_int trivial) (.inl (hq _))) xe_int (by decide)) xe_int (by decide)) (by decide +kernel) (by omega) ?_)
    refine xb_nil ⟨_, .refl _, m, by omega, drSeed c ((row.length : Int) + 1), row ++ [drOut (drSeed c ((row.length : Int) + 1))], by simp; omega, ?_, ?_⟩
    · rw [← he]; rfl
    · exact .same (.same (.same (.same (.same (.same (.any .nil))))))
  · have hb := of_decide_eq_false hb
    obtain rfl : m = 0 := by omega
    refine wk.trans ?_
    have e : row = drFill (many.toNat - row0.length) seed0 row0 := he
    rw [← e]
    exact .same (.same (.same (.same (.any (.same (.same .nil))))))
end
/-! ### _law_same -/
def N_same : List Str := ["_law_found", "_law_due", "_law_k"]
theorem sc_same : FnScope N_same ["_law_found", "_law_due"] (defScope s_same) := ⟨rfl, rfl, rfl, by decide +kernel, rfl, by decide +kernel, by decide +kernel⟩
def spSame (n : Nat) : Sp := fsp (ι := PyData × PyData) (fun i => i.2.depth < n ∧ n ≤ 60) (fun i => [.is rP i.1, .is rP i.2]) (fun i => .is rB (sm i.1 i.2))
theorem depth_kid {d : PyData} {i : Int} (h : inR (kids d) i) : (ix (kids d) i).depth < d.depth := by
  have m := ix_mem h
  have all : ∀ (ds : List PyData) (z : PyData), z ∈ ds → z.depth ≤ PyData.depthAll ds := by
    intro ds
    induction ds with
    | nil => intro z hz; cases hz
    | cons y ys ih =>
      intro z hz
      simp only [PyData.depthAll]
      rcases List.mem_cons.mp hz with e | e
      · subst e; exact Nat.le_max_left _ _
      · exact Nat.le_trans (ih z e) (Nat.le_max_right _ _)
  cases d with
  | list xs => exact Nat.lt_of_le_of_lt (all xs _ m) (by simp [PyData.depth])
  | tuple xs => exact Nat.lt_of_le_of_lt (all xs _ m) (by simp [PyData.depth])
  | _ => cases m
def smS : PyData → PyData → Bool
  | f, .none => (tyN f == "NoneType")
  | .bool a, .bool b => a == b
  | .int a, .int b => a == b
  | .str a, .str b => a == b
  | _, _ => false
theorem sm_scal {f d : PyData} (h : ¬isSeq d) : sm f d = smS f d := by
  cases d with
  | list xs => exact absurd (.inr (show isN "list" "list" = true by decide +kernel)) h
  | tuple xs => exact absurd (.inl (show isN "tuple" "tuple" = true by decide +kernel)) h
  | none => cases f <;> simp [sm, smS, tyN]
  | bool b => cases f <;> simp [sm, smS]
  | int b => cases f <;> simp [sm, smS]
  | str b => cases f <;> simp [sm, smS]
  | dict b => cases f <;> simp [sm, smS]
theorem isA_bool (d : PyData) : isA d "bool" = true ↔ ∃ b, d = .bool b := by
  cases d with
  | bool b => exact ⟨fun _ => ⟨b, rfl⟩, fun _ => show isN "bool" "bool" = true by decide +kernel⟩
  | none => exact ⟨fun h => absurd h (show ¬ isN "NoneType" "bool" = true by decide +kernel), fun ⟨b, e⟩ => nomatch e⟩
  | int _ => exact ⟨fun h => absurd h (show ¬ isN "int" "bool" = true by decide +kernel), fun ⟨b, e⟩ => nomatch e⟩
  | str _ => exact ⟨fun h => absurd h (show ¬ isN "str" "bool" = true by decide +kernel), fun ⟨b, e⟩ => nomatch e⟩
  | list _ => exact ⟨fun h => absurd h (show ¬ isN "list" "bool" = true by decide +kernel), fun ⟨b, e⟩ => nomatch e⟩
  | tuple _ => exact ⟨fun h => absurd h (show ¬ isN "tuple" "bool" = true by decide +kernel), fun ⟨b, e⟩ => nomatch e⟩
  | dict _ => exact ⟨fun h => absurd h (show ¬ isN "dict" "bool" = true by decide +kernel), fun ⟨b, e⟩ => nomatch e⟩
theorem isA_int (d : PyData) : isA d "int" = true ↔ (∃ b, d = .int b) ∨ ∃ b, d = .bool b := by
  cases d with
  | int b => exact ⟨fun _ => .inl ⟨b, rfl⟩, fun _ => show isN "int" "int" = true by decide +kernel⟩
  | bool b => exact ⟨fun _ => .inr ⟨b, rfl⟩, fun _ => show isN "bool" "int" = true by decide +kernel⟩
  | none => exact ⟨fun h => absurd h (show ¬ isN "NoneType" "int" = true by decide +kernel), fun h => by rcases h with ⟨b, e⟩ | ⟨b, e⟩ <;> cases e⟩
  | str _ => exact ⟨fun h => absurd h (show ¬ isN "str" "int" = true by decide +kernel), fun h => by rcases h with ⟨b, e⟩ | ⟨b, e⟩ <;> cases e⟩
  | list _ => exact ⟨fun h => absurd h (show ¬ isN "list" "int" = true by decide +kernel), fun h => by rcases h with ⟨b, e⟩ | ⟨b, e⟩ <;> cases e⟩
  | tuple _ => exact ⟨fun h => absurd h (show ¬ isN "tuple" "int" = true by decide +kernel), fun h => by rcases h with ⟨b, e⟩ | ⟨b, e⟩ <;> cases e⟩
  | dict _ => exact ⟨fun h => absurd h (show ¬ isN "dict" "int" = true by decide +kernel), fun h => by rcases h with ⟨b, e⟩ | ⟨b, e⟩ <;> cases e⟩
theorem isA_str (d : PyData) : isA d "str" = true ↔ ∃ b, d = .str b := by
  cases d with
  | str b => exact ⟨fun _ => ⟨b, rfl⟩, fun _ => show isN "str" "str" = true by decide +kernel⟩
  | none => exact ⟨fun h => absurd h (show ¬ isN "NoneType" "str" = true by decide +kernel), fun ⟨b, e⟩ => nomatch e⟩
  | int _ => exact ⟨fun h => absurd h (show ¬ isN "int" "str" = true by decide +kernel), fun ⟨b, e⟩ => nomatch e⟩
  | bool _ => exact ⟨fun h => absurd h (show ¬ isN "bool" "str" = true by decide +kernel), fun ⟨b, e⟩ => nomatch e⟩
  | list _ => exact ⟨fun h => absurd h (show ¬ isN "list" "str" = true by decide +kernel), fun ⟨b, e⟩ => nomatch e⟩
  | tuple _ => exact ⟨fun h => absurd h (show ¬ isN "tuple" "str" = true by decide +kernel), fun ⟨b, e⟩ => nomatch e⟩
  | dict _ => exact ⟨fun h => absurd h (show ¬ isN "dict" "str" = true by decide +kernel), fun ⟨b, e⟩ => nomatch e⟩
theorem isA_none (d : PyData) : (tyN d == "NoneType") = true ↔ d = .none := by
  cases d with
  | none => exact ⟨fun _ => rfl, fun _ => by decide +kernel⟩
  | int _ => exact ⟨fun h => absurd h (show ¬ ("int" == "NoneType") = true by decide +kernel), fun e => nomatch e⟩
  | bool _ => exact ⟨fun h => absurd h (show ¬ ("bool" == "NoneType") = true by decide +kernel), fun e => nomatch e⟩
  | str _ => exact ⟨fun h => absurd h (show ¬ ("str" == "NoneType") = true by decide +kernel), fun e => nomatch e⟩
  | list _ => exact ⟨fun h => absurd h (show ¬ ("list" == "NoneType") = true by decide +kernel), fun e => nomatch e⟩
  | tuple _ => exact ⟨fun h => absurd h (show ¬ ("tuple" == "NoneType") = true by decide +kernel), fun e => nomatch e⟩
  | dict _ => exact ⟨fun h => absurd h (show ¬ ("dict" == "NoneType") = true by decide +kernel), fun e => nomatch e⟩
theorem isA_tup (d : PyData) : isA d "tuple" = true ↔ ∃ b, d = .tuple b := ⟨seqT, fun ⟨b, e⟩ => by subst e; exact show isN "tuple" "tuple" = true by decide +kernel⟩
theorem isA_lst (d : PyData) : isA d "list" = true ↔ ∃ b, d = .list b := ⟨seqL, fun ⟨b, e⟩ => by subst e; exact show isN "list" "list" = true by decide +kernel⟩
theorem not_lt {b : List PyData} : isA (.tuple b) "list" = false := show isN "tuple" "list" = false by decide +kernel
theorem not_tl {b : List PyData} : isA (.list b) "tuple" = false := show isN "list" "tuple" = false by decide +kernel
theorem bfalse {b : Bool} (h : ¬ b = true) : b = false := by cases b <;> simp_all
/-- of one kind: the items decide -/
theorem sm_kids {f d : PyData} (hs : isSeq d) (h1 : isA d "tuple" = isA f "tuple") (h2 : isA d "list" = isA f "list") : sm f d = smA (kids f) (kids d) ∧ (isA d "tuple" = true → isA f "tuple" = true) ∧ isSeq f := by
  rcases hs with h | h
  · obtain ⟨b, rfl⟩ := seqT h
    rw [h] at h1
    obtain ⟨b', rfl⟩ := seqT h1.symm
    exact ⟨by simp [sm, kids], fun _ => h1.symm, .inl h1.symm⟩
  · obtain ⟨b, rfl⟩ := seqL h
    rw [h] at h2
    obtain ⟨b', rfl⟩ := seqL h2.symm
    exact ⟨by simp [sm, kids], fun z => absurd z (by rw [not_tl]; decide), .inr h2.symm⟩
theorem sm_kind {f d : PyData} (hs : isSeq d) (h : (!decide (isA d "tuple" = isA f "tuple") || !decide (isA d "list" = isA f "list")) = true) : sm f d = false := by
  rcases hs with q | q
  · obtain ⟨b, rfl⟩ := seqT q
    cases f with
    | tuple b' => simp [isA, tyN] at h
    | _ => simp [sm]
  · obtain ⟨b, rfl⟩ := seqL q
    cases f with
    | list b' => simp [isA, tyN] at h
    | _ => simp [sm]
section
variable {P : Program} {w : World} {K : PySem.W.Frag} {mg : Str → Option Value} {base : Heap}
theorem fk_same {f : Addr} {fd : FuncData} (Fn : FnP K "_law_same" "_law_same" s_same f fd) (hm : mg "_law_same" = some (.ref f)) (hf : Free mg) : ∀ n, Fk P w K mg base (n + 1) "_law_same" ["_law_found", "_law_due"] (spSame n)
  | 0 => fk_of Fn (fn_pure Fn sc_same (fun _ => rfl) (fun i hp => absurd hp.1 (Nat.not_lt_zero _))) hm fun _ _ _ _ _ _ us hl => match us, hl with | [_, _], _ => rfl
  | n + 1 => by
    have ih := fk_same Fn hm hf n
    refine fk_of Fn (fn_pure Fn sc_same (fun _ => rfl) (fun i hp X C => ?_)) hm fun _ _ _ _ _ _ us hl => match us, hl with | [_, _], _ => rfl
    obtain ⟨f0, d⟩ := i
    obtain ⟨hp, hp6⟩ := hp
    simp only at hp ⊢
    refine xb_cons (xs_if (xt_val (xe_b2 C hf c_isi2 (xe_var C 1 rfl) (xe_tup (xr_c (xe_cls C hf boot_tuple) (xr_1 (xe_cls C hf boot_list)))) ⟨by decide, by decide⟩ boot_isinstance)) (fun hs => ?_) (fun hs => xb_nil ⟨_, .refl _, ?_⟩))
    · have sq : isSeq d := by
        rcases Bool.or_eq_true_iff.mp hs with h | h
        · exact .inl h
        · exact .inr h
      refine xb_cons (xs_if (xt_w (xw_or (xt_cmp o_neB (xe_b2 C hf c_isi (xe_var C 1 rfl) (xe_cls C hf boot_tuple) (by decide) boot_isinstance) (xe_b2 C hf c_isi (xe_var C 0 rfl) (xe_cls C hf boot_tuple) (by decide) boot_isinstance) trivial)
        (fun _ => xw_or1 (xt_cmp o_neB (xe_b2 C hf c_isi (xe_var C 1 rfl) (xe_cls C hf boot_list) (by decide) boot_isinstance) (xe_b2 C hf c_isi (xe_var C 0 rfl) (xe_cls C hf boot_list) (by decide) boot_isinstance) trivial))))
        (fun h => xb_one (xs_ret' xe_bool (sm_kind sq h).symm rfl)) (fun h => xb_nil ⟨_, .refl _, ?_⟩))
      simp only [Bool.or_eq_false_iff, Bool.not_eq_false', decide_eq_true_eq] at h
      obtain ⟨e, ht, sf⟩ := sm_kids sq h.1 h.2
      refine xb_cons (xs_if (xt_cmp o_neI (xe_b1 C hf len_lp (xe_var C 0 rfl) sf boot_len) (xe_b1 C hf len_lp (xe_var C 1 rfl) sq boot_len) trivial) (fun hl => xb_one (xs_ret' xe_bool ?_ rfl)) (fun hl => xb_nil ⟨_, .refl _, ?_⟩))
      · rw [e]
        refine (bfalse fun z => ?_).symm
        have := smA_len z
        simp at hl
        omega
      have hlen : (kids f0).length = (kids d).length := by simp at hl; omega
      have al := smA_iff hlen
      rw [e]
      refine xb_cons (xs_for C (fun i Γ => (∀ j : Nat, j < i → sm (ix (kids f0) j) (ix (kids d) j) = true) ∧ Wk Γ [.is rP f0, .is rP d, .any]) (xi_rangeZ C (hf.at_ (by decide +kernel)) (xe_b1 C hf lenZ_lp (xe_var C 1 rfl) sq boot_len)) (xg_name C 2 (by decide +kernel)) ⟨fun j h => absurd h (Nat.not_lt_zero _), Wk.refl _⟩ (fun i x Γ' hx hI => ?_) (fun Γ' hI => ?_))
      · obtain ⟨hx1, hx2⟩ := upTo_get hx
        subst hx1
        obtain ⟨hall, wk⟩ := hI
        have rd : inR (kids d) (i : Int) := ⟨by omega, by exact_mod_cast hx2⟩
        have rf : inR (kids f0) (i : Int) := ⟨by omega, by rw [hlen]; exact_mod_cast hx2⟩
        refine xb_wk (wk.set _ 2) ?_
        refine xb_one (xs_if (xt_not (xt_val (xe_call C ih (ix (kids f0) i, ix (kids d) i) (xa_cons (xe_ix ix_lp (xe_var C 0 rfl) (xe_var C 2 rfl) ⟨sf, rf⟩) (xa_cons (xe_ix ix_lp (xe_var C 1 rfl) (xe_var C 2 rfl) ⟨sq, rd⟩) xa_nil)) ⟨show (ix (kids d) i).depth < n by have := depth_kid rd; omega, by omega⟩))) (fun hb => ?_) (fun hb => ?_))
        · refine xb_one (xs_ret' xe_bool ?_ rfl)
          refine (bfalse fun z => ?_).symm
          have := al.mp z i (by exact_mod_cast hx2)
          rw [this] at hb
          cases hb
        · refine xb_nil ⟨_, .refl _, fun j hj => ?_, ?_⟩
          · rcases Nat.lt_or_ge j i with h | h
            · exact hall j h
            · obtain rfl : j = i := by omega
              simpa using hb
          · exact .same (.same (.any .nil))
      · obtain ⟨hall, wk⟩ := hI
        refine xb_wk wk (xb_one (xs_ret' xe_bool ?_ rfl))
        refine (al.mpr fun j hj => hall j ?_).symm
        rw [upTo_len]; omega
    · have sq : ¬isSeq d := fun z => by
        simp only [Bool.or_eq_false_iff] at hs
        rcases z with z | z
        · rw [hs.1] at z; cases z
        · rw [hs.2] at z; cases z
      have e := sm_scal (f := f0) sq
      refine xb_cons (xs_if (xt_cmp o_isNP (xe_var C 1 rfl) xe_unit trivial) (fun h => xb_one (xs_ret' (xe_cmp o_isNP (xe_var C 0 rfl) xe_unit trivial) ?_ rfl)) (fun h0 => xb_nil ⟨_, .refl _, ?_⟩))
      · rw [(isA_none d).mp h] at e
        rw [(isA_none d).mp h]
        exact e.symm
      refine xb_cons (xs_if (xt_w (xw_or (xt_val (xe_b2 C hf c_isi (xe_var C 1 rfl) (xe_cls C hf boot_bool) (by decide) boot_isinstance)) (fun _ => xw_or1 (xt_val (xe_b2 C hf c_isi (xe_var C 0 rfl) (xe_cls C hf boot_bool) (by decide) boot_isinstance)))))
        (fun h => xb_one (xs_ret' (xe_and (xe_b2 C hf c_isi (xe_var C 1 rfl) (xe_cls C hf boot_bool) (by decide) boot_isinstance) (fun h1 => xe_and (xe_b2 C hf c_isi (xe_var C 0 rfl) (xe_cls C hf boot_bool) (by decide) boot_isinstance)
          (fun h2 => xe_one (xe_cmp (o_eqP C) (xe_var C 0 rfl) (xe_var C 1 rfl) ?_)))) ?_ rfl)) (fun h1 => xb_nil ⟨_, .refl _, ?_⟩))
      · obtain ⟨b1, rfl⟩ := (isA_bool d).mp h1
        obtain ⟨b2, rfl⟩ := (isA_bool f0).mp h2
        exact ⟨by simp [PyData.depth], by simp [PyData.depth]⟩
      · cases hb : isA d "bool" with
        | true =>
          obtain ⟨b1, rfl⟩ := (isA_bool d).mp hb
          cases hb2 : isA f0 "bool" with
          | true =>
            obtain ⟨b2, rfl⟩ := (isA_bool f0).mp hb2
            simp [sm, PyData.eqv, hb2]
          | false =>
            rw [e]
            cases f0 with
            | bool b2 => exact absurd ((isA_bool _).mpr ⟨b2, rfl⟩) (by rw [hb2]; decide)
            | _ => rfl
        | false =>
          rw [hb, Bool.false_or] at h
          obtain ⟨b2, rfl⟩ := (isA_bool f0).mp h
          rw [e]
          cases d with
          | bool b2 => exact absurd ((isA_bool _).mpr ⟨b2, rfl⟩) (by rw [hb]; decide)
          | none => exact absurd h0 (by decide +kernel)
          | _ => rfl
      obtain ⟨n1, n2⟩ := Bool.or_eq_false_iff.mp h1
      refine xb_cons (xs_if (xt_val (xe_b2 C hf c_isi (xe_var C 1 rfl) (xe_cls C hf boot_int) (by decide) boot_isinstance))
        (fun h => xb_one (xs_ret' (xe_and (xe_b2 C hf c_isi (xe_var C 0 rfl) (xe_cls C hf boot_int) (by decide) boot_isinstance) (fun h2 => xe_one (xe_cmp (o_eqP C) (xe_var C 0 rfl) (xe_var C 1 rfl) ?_))) ?_ rfl)) (fun h2 => xb_nil ⟨_, .refl _, ?_⟩))
      · have hd : ∃ b, d = .int b := ((isA_int d).mp h).elim id fun z => absurd ((isA_bool d).mpr z) (by rw [n1]; decide)
        have hf' : ∃ b, f0 = .int b := ((isA_int f0).mp h2).elim id fun z => absurd ((isA_bool f0).mpr z) (by rw [n2]; decide)
        obtain ⟨b1, rfl⟩ := hd
        obtain ⟨b2, rfl⟩ := hf'
        exact ⟨by simp [PyData.depth], by simp [PyData.depth]⟩
      · obtain ⟨b1, rfl⟩ : ∃ b, d = .int b := ((isA_int d).mp h).elim id fun z => absurd ((isA_bool d).mpr z) (by rw [n1]; decide)
        cases hb2 : isA f0 "int" with
        | true =>
          obtain ⟨b2, rfl⟩ : ∃ b, f0 = .int b := ((isA_int f0).mp hb2).elim id fun z => absurd ((isA_bool f0).mpr z) (by rw [n2]; decide)
          simp [sm, PyData.eqv]
        | false =>
          rw [e]
          cases f0 with
          | int b2 => exact absurd ((isA_int _).mpr (.inl ⟨b2, rfl⟩)) (by rw [hb2]; decide)
          | _ => rfl
      refine xb_one (xs_ret' (xe_and (xe_b2 C hf c_isi (xe_var C 0 rfl) (xe_cls C hf boot_str) (by decide) boot_isinstance) (fun h3 => xe_one (xe_cmp (o_eqP C) (xe_var C 0 rfl) (xe_var C 1 rfl) ?_))) ?_ rfl)
      · obtain ⟨b2, rfl⟩ := (isA_str f0).mp h3
        refine ⟨by simp [PyData.depth], ?_⟩
        cases d with
        | list xs => exact absurd (.inr (show isN "list" "list" = true by decide +kernel)) sq
        | tuple xs => exact absurd (.inl (show isN "tuple" "tuple" = true by decide +kernel)) sq
        | dict xs => omega
        | _ => simp [PyData.depth]
      · cases hb2 : isA f0 "str" with
        | true =>
          obtain ⟨b2, rfl⟩ := (isA_str f0).mp hb2
          rw [e]
          cases d with
          | str b1 => simp [PyData.eqv, smS]
          | list xs => exact absurd (.inr (show isN "list" "list" = true by decide +kernel)) sq
          | tuple xs => exact absurd (.inl (show isN "tuple" "tuple" = true by decide +kernel)) sq
          | bool b => exact absurd ((isA_bool _).mpr ⟨b, rfl⟩) (by rw [n1]; decide)
          | none => exact absurd h0 (by decide +kernel)
          | _ => simp [PyData.eqv, smS]
        | false =>
          rw [e]
          cases d with
          | str b1 => cases f0 with
            | str b2 => exact absurd ((isA_str _).mpr ⟨b2, rfl⟩) (by rw [hb2]; decide)
            | _ => rfl
          | none => exact absurd h0 (by decide +kernel)
          | bool b => exact absurd ((isA_bool _).mpr ⟨b, rfl⟩) (by rw [n1]; decide)
          | int b => exact absurd ((isA_int _).mpr (.inl ⟨b, rfl⟩)) (by rw [h2]; decide)
          | _ => rfl
end
section
variable {X : Cx} {Γ : Gm} {P : Program} {w : World} {K : PySem.W.Frag} {mg : Str → Option Value} {base : Heap} {N : List Str} {sc : Scope} {k n : Nat} {dd : Bool}
variable {α : Type} {R : Rp α} {x y : α} {a b : Expr} {p pos : Pos}
theorem xe_same [d : Dat R] [s : Sm R] [DecidableEq α] (C : Ctx X P w K mg base N sc k dd) (G : Fk P w K mg base (n + 1) "_law_same" ["_law_found", "_law_due"] (spSame n)) (ha : XE X Γ a R x) (hb : XE X Γ b R y) (hn : d.dep < n ∧ n ≤ 60 := by decide) (hj : n + 1 ≤ k := by omega) (hg : gloB sc "_law_same" = true := by decide +kernel)
    (he : starEach [a, b] X.env = (false, eval a X.env) :: starEach [b] X.env := by rfl) (he' : starEach [b] X.env = (false, eval b X.env) :: starEach [] X.env := by rfl) (hpl : (backTo pos (starEach [b] X.env)).any (·.1) = false := by rfl) : XE X Γ (.Call (.Name "_law_same" p) [a, b] [] pos) rB (decide (x = y)) := by
  rw [← sm_dec (R := R)]
  exact xe_call C G (d.enc x, d.enc y) (xa_cons (xe_lp ha) (xa_cons (xe_lp hb) xa_nil he') he) ⟨Nat.lt_of_le_of_lt (d.depth y) hn.1, hn.2⟩ rfl rfl hj hg (by decide +kernel) he hpl
end
/-! ### names -/
def letters : Str := "abcdefghijklmnopqrstuvwxyz"
def signAt (z : Str) (i : Int) : Str := ⟨#[ix z.cps.toList i]⟩
def ownN (d : List Int) (k : Int) : Str := signAt letters ((k * ix [1, 3, 5, 7, 9, 11] (ix d 0 % 6) + ix d 1) % 26)
def restN (d : List Int) (k : Int) : Str := glue (((upTo (ix d (4 + k) % 12)).filter fun _ => true).map fun j => signAt (letters ++ "0123456789") ((ix d 2 + j * ix d 3) % 36))
instance : Inhabited Str := ⟨Str.empty⟩
def nameN (d : List Int) (k : Int) : Str := ix [ownN d k ++ restN d k, restN d k ++ ownN d k] (ix d 0 / 6 % 2)
def namesT (d : List Int) (many : Int) : List Str := (upTo many).foldl (fun row k => row ++ [nameN d k]) []
theorem fold_app {α β : Type} (g : α → β) : ∀ (xs : List α) (row : List β), xs.foldl (fun row k => row ++ [g k]) row = row ++ xs.map g
  | [], row => by simp
  | x :: xs, row => by rw [List.foldl_cons, fold_app g xs]; simp
theorem namesT_map (d : List Int) (many : Int) : namesT d many = (upTo many).map (nameN d) := by
  unfold namesT
  rw [fold_app]; rfl
theorem namesT_len (d : List Int) (many : Int) : (namesT d many).length = many.toNat := by
  rw [namesT_map, List.length_map, upTo_len]
theorem sum_le {ys : List Str} {n : Nat} (h : ∀ y ∈ ys, y.length = 1) (hn : ys.length ≤ n) : (ys.map (·.length)).sum ≤ n := by
  have : (ys.map (·.length)).sum = ys.length := by
    clear hn
    induction ys with
    | nil => rfl
    | cons y ys ih =>
      rw [List.map_cons, List.sum_cons, h y (by simp), ih fun z hz => h z (List.mem_cons_of_mem _ hz), List.length_cons]
      omega
  omega
theorem signAt_len (z : Str) (i : Int) : (signAt z i).length = 1 := rfl
theorem restN_len (d : List Int) (k : Int) : (restN d k).length ≤ 11 := by
  unfold restN glue
  have h1 : ∀ y ∈ ((upTo (ix d (4 + k) % 12)).filter fun _ => true).map fun j => signAt (letters ++ "0123456789") ((ix d 2 + j * ix d 3) % 36), y.length = 1 := fun y hy => by
    obtain ⟨j, _, rfl⟩ := List.mem_map.mp hy
    rfl
  have h2 : (((upTo (ix d (4 + k) % 12)).filter fun _ => true).map fun j => signAt (letters ++ "0123456789") ((ix d 2 + j * ix d 3) % 36)).length ≤ 11 := by
    rw [List.length_map]
    refine Nat.le_trans (List.length_filter_le _ _) ?_
    rw [upTo_len]; omega
  generalize (((upTo (ix d (4 + k) % 12)).filter fun _ => true).map fun j => signAt (letters ++ "0123456789") ((ix d 2 + j * ix d 3) % 36)) = ys at h1 h2
  have : ∀ (ys : List Str), (∀ y ∈ ys, y.length = 1) → (Str.join Str.empty ys).length = ys.length := by
    intro ys
    induction ys with
    | nil => intro _; rfl
    | cons y ys ih =>
      intro h
      cases ys with
      | nil => exact h y (by simp)
      | cons z r =>
        have e := ih fun q hq => h q (List.mem_cons_of_mem _ hq)
        show (y ++ Str.empty ++ Str.join Str.empty (z :: r)).cps.size = _
        have : (y ++ Str.empty ++ Str.join Str.empty (z :: r)).cps.size = y.cps.size + 0 + (Str.join Str.empty (z :: r)).cps.size := by
          show ((y.cps ++ #[]) ++ (Str.join Str.empty (z :: r)).cps).size = _
          rw [Array.size_append, Array.size_append]; rfl
        rw [this]
        have h3 : y.cps.size = 1 := h y (by simp)
        have h4 : (Str.join Str.empty (z :: r)).cps.size = (z :: r).length := e
        rw [h3, h4]; simp [List.length_cons]; omega
  rw [this ys h1]
  exact h2
def N_names : List Str := ["_law_d", "_law_many", "_law_letters", "_law_names_here", "_law_k", "_law_own", "_law_rest", "_law_j"]
theorem sc_names : FnScope N_names ["_law_d", "_law_many"] (defScope s_names) := ⟨rfl, rfl, rfl, by decide +kernel, rfl, by decide +kernel, by decide +kernel⟩
/-- twenty draws -/
def Dr (d : List Int) (n : Nat) : Prop := d.length = n ∧ small d
theorem Dr.at_ {d : List Int} {n : Nat} (h : Dr d n) {i : Int} (h0 : 0 ≤ i) (h1 : i < n) : inR d i ∧ 0 ≤ ix d i ∧ ix d i < 1013 := by
  have hr : inR d i := ⟨by omega, by rw [h.1]; omega⟩
  exact ⟨hr, h.2 _ (ix_mem hr)⟩
theorem Dr.of (s : List Int) (a m : Int) : Dr (draws s a m) m.toNat := ⟨draws_len s a m, draws_small s a m⟩
def spNames : Sp := fsp (ι := List Int × Int) (fun i => Dr i.1 20 ∧ 0 ≤ i.2 ∧ i.2 ≤ 5) (fun i => [.is (rL rI) i.1, .is rI i.2]) (fun i => .res (oL rS) (namesT i.1 i.2))
section
variable {P : Program} {w : World} {K : PySem.W.Frag} {mg : Str → Option Value} {base : Heap}
theorem fk_names {f : Addr} {fd : FuncData} (Fn : FnP K "_law_names" "_law_names" s_names f fd) (hm : mg "_law_names" = some (.ref f)) (hf : Free mg) : Fk P w K mg base 1 "_law_names" ["_law_d", "_law_many"] spNames := by
  refine fk_of Fn (fn_pure Fn sc_names (fun _ => rfl) (fun i hp X C => ?_)) hm fun _ _ _ _ _ _ us hl => match us, hl with | [_, _], _ => rfl
  obtain ⟨d, many⟩ := i
  obtain ⟨dr, m0, m5⟩ := hp
  simp only at dr m0 m5 ⊢
  have hd : ∀ i : Int, 0 ≤ i → i < 20 → inR d i := fun i h1 h2 => (dr.at_ h1 h2).1
  have hv : ∀ i : Int, 0 ≤ i → i < 20 → 0 ≤ ix d i ∧ ix d i < 1013 := fun i h1 h2 => (dr.at_ h1 h2).2
  have r6 : inR [(1 : Int), 3, 5, 7, 9, 11] (ix d 0 % 6) := ⟨by omega, show _ < (6 : Int) by omega⟩
  refine xb_cons (xs_asg C 2 xe_str (by decide +kernel) ?_)
  refine xb_cons (xs_asgO C 3 (xo_newL rS xl_nil) (by decide +kernel) ?_)
  refine xb_cut [.is (rL rI) d, .is rI many, .is rS letters, .res (oL rS) (namesT d many), .any, .any, .any, .any] ?_ (xb_one (xs_retV C 3 (by decide +kernel) rfl))
  refine xs_forF C (fun row => [.is (rL rI) d, .is rI many, .is rS letters, .res (oL rS) row, .any, .any, .any, .any]) (fun row k => row ++ [nameN d k]) (fun i row => row.length = i) []
    (xi_range1 C (hf.at_ (by decide +kernel)) (xe_var C 1 rfl) (by omega)) (xg_name C 4 (by decide +kernel)) (.refl _) rfl (fun i x row hx hI => ?_) (fun Γ' wk hI => wk)
  obtain ⟨hx1, hx2⟩ := upTo_get hx
  have x0 : 0 ≤ x ∧ x < 5 := by omega
  refine xb_cons (xs_asg C 5 (xe_ix i_str (xe_var C 2 rfl) (xe_bin o_mod (xe_bin o_add (xe_bin o_mul (xe_var C 4 rfl)
    (xe_ix i_list (xe_list (xl_cons xe_int (xl_cons xe_int (xl_cons xe_int (xl_cons xe_int (xl_cons xe_int (xl_cons xe_int xl_nil)))))))
      (xe_bin o_mod (xe_ix i_list (xe_var C 0 rfl) xe_int (hd 0 (by decide) (by decide))) xe_int (by decide)) r6) (.inl ⟨by omega, by omega⟩))
    (xe_ix i_list (xe_var C 0 rfl) xe_int (hd 1 (by decide) (by decide))) trivial) xe_int (by decide)) ?_) (by decide +kernel) ?_)
  · have hl : letters.cps.toList.length = 26 := by decide +kernel
    exact ⟨by omega, by rw [hl]; omega⟩
  have e4 : inR d (4 + x) := hd (4 + x) (by omega) (by omega)
  have nl : (upTo (ix d (4 + x) % 12)).length ≤ 11 := by rw [upTo_len]; omega
  refine xb_cons (xs_asg C 6 (xe_glue (xe_ofO (A := oL rS) (xo_comp C [("_law_j", 7)] (fun _ => true) (fun j => signAt (letters ++ "0123456789") ((ix d 2 + j * ix d 3) % 36))
    (xi_range1 C (hf.at_ (by decide +kernel)) (xe_bin o_mod (xe_ix i_list (xe_var C 0 rfl) (xe_bin o_add xe_int (xe_var C 4 rfl) trivial) e4) xe_int (by decide)) (by omega))
    (Nat.le_trans nl (by decide)) (fun X' C' => xg_name C' 7 (by decide +kernel)) (fun X' C' j hj => xts_nil) (fun X' C' j hj _ => ?_))) ?_) (by decide +kernel) ?_)
  · have j0 : 0 ≤ j ∧ j < 12 := by
      obtain ⟨q, hq⟩ := List.getElem?_of_mem hj
      obtain ⟨h1, h2⟩ := upTo_get hq
      omega
    refine xe_ix i_str (xe_bin o_addS (xe_var C' 2 rfl) xe_str ?_) (xe_bin o_mod (xe_bin o_add (xe_ix i_list (xe_var C' 0 rfl) xe_int (hd 2 (by decide) (by decide))) (xe_bin o_mul (xe_var C' 7 rfl) (xe_ix i_list (xe_var C' 0 rfl) xe_int (hd 3 (by decide) (by decide))) (.inl ⟨by omega, by omega⟩)) trivial) xe_int (by decide)) ?_
    · decide +kernel
    · have hl : (letters ++ ("0123456789" : Str)).cps.toList.length = 36 := by decide +kernel
      exact ⟨by omega, by rw [hl]; omega⟩
  · refine Nat.le_trans (sum_le (n := 11) (fun y hy => ?_) ?_) (by decide)
    · obtain ⟨j, _, rfl⟩ := List.mem_map.mp hy
      rfl
    · rw [List.length_map]
      exact Nat.le_trans (List.length_filter_le _ _) nl
  have rl := restN_len d x
  have r2 : inR [ownN d x ++ restN d x, restN d x ++ ownN d x] (ix d 0 / 6 % 2) := ⟨by omega, show _ < (2 : Int) by omega⟩
  have lo : (ownN d x).length = 1 := rfl
  refine xb_cons (xs_append C 3 (xs := row) (xe_ix i_list (xe_list (R := rS) (xl_cons (xe_bin (x := ownN d x) (y := restN d x) o_addS (xe_var C 5 rfl) (xe_var C 6 rfl) (by omega)) (xl_cons (xe_bin (x := restN d x) (y := ownN d x) o_addS (xe_var C 6 rfl) (xe_var C 5 rfl) (by omega)) xl_nil)))
    (xe_bin o_mod (xe_bin o_div (xe_ix i_list (xe_var C 0 rfl) xe_int (hd 0 (by decide) (by decide))) xe_int ⟨by decide, by decide⟩) xe_int (by decide)) r2) (by decide +kernel) (by omega) ?_)
  refine xb_nil ⟨_, .refl _, .same (.same (.same (.same (.any (.any (.any (.same .nil))))))), by simp [hI]⟩
end
/-! ### rides, hanging on one another -/
abbrev Ride : Type := Int × Str × Str × Int × Int
abbrev rRide : Rp Ride := rT (wc rI (wc rS (wc rS (wc rI (w1 rI)))))
abbrev Spans : Type := List (Str × Int)
abbrev rSp : Rp Spans := rK kS rI
def span (sp : Spans) (x : Str) : Int := (look sp x).getD default
def hangT (r a : Ride) (sp : Spans) : Bool := decide (r.2.2.1 = a.2.1) && decide (r.2.2.2.2 + span sp r.2.2.1 ≤ a.2.2.2.1)
def N_hang : List Str := ["_law_ride", "_law_after", "_law_spans"]
theorem sc_hang : FnScope N_hang ["_law_ride", "_law_after", "_law_spans"] (defScope s_hang) := ⟨rfl, rfl, rfl, by decide +kernel, rfl, by decide +kernel, by decide +kernel⟩
def spHang : Sp := fsp (ι := Ride × Ride × Spans) (fun i => has i.2.2 i.1.2.2.1 = true) (fun i => [.is rRide i.1, .is rRide i.2.1, .is rSp i.2.2]) (fun i => .is rB (hangT i.1 i.2.1 i.2.2))
section
variable {P : Program} {w : World} {K : PySem.W.Frag} {mg : Str → Option Value} {base : Heap}
theorem fk_hang {f : Addr} {fd : FuncData} (Fn : FnP K "_law_hang" "_law_hang" s_hang f fd) (hm : mg "_law_hang" = some (.ref f)) : Fk P w K mg base 1 "_law_hang" ["_law_ride", "_law_after", "_law_spans"] spHang := by
  refine fk_of Fn (fn_pure Fn sc_hang (fun _ => rfl) (fun i hp X C => ?_)) hm fun _ _ _ _ _ _ us hl => match us, hl with | [_, _, _], _ => rfl
  refine xb_one (xs_ret (xe_and (xe_cmp o_eqS (a2 (xe_var C 0 rfl)) (a1 (xe_var C 1 rfl)) trivial) fun _ => xe_one (xe_cmp o_ge (a3 (xe_var C 1 rfl)) (xe_bin o_add (a4l (xe_var C 0 rfl)) (xe_dget C (A := kS) (xe_var C 2 rfl) (a2 (xe_var C 0 rfl)) hp) trivial) trivial)) rfl)
end
/-! ### a world -/
structure Wd where
  names : List Str
  spans : Spans
  rides : List Ride
  base : Int
def wBase (d : List Int) : Int := ix [0, 0, 10 ^ (20 : Int).toNat + ix d 17, 0 - 10 ^ (40 : Int).toNat] (ix d 18 % 4)
def wSpan (s : List Int) (at_ : Int) (d : List Int) (k : Int) : Int := ix [0, 1, 2, 5, 10 ^ (9 : Int).toNat] (ix (draws s (at_ + 1) 8) k % ix [3, 4, 5] (ix d 19 % 3))
def wSpans (s : List Int) (at_ : Int) (d : List Int) (ns : List Str) : Spans := (upTo ns.length).foldl (fun sp k => dput sp (ix ns k) (wSpan s at_ d k)) []
def wRide (s : List Int) (at_ : Int) (ns : List Str) (base number k : Int) : Ride :=
  let e := draws s (at_ + 3 + k) 6
  (number, ix ns (ix e 0 % ns.length), ix ns ((ix e 0 % ns.length + 1 + ix e 1 % ((ns.length : Int) - 1)) % ns.length), base + ix e 2 % 24, base + ix e 2 % 24 + 1 + ix e 3 % 6)
def wStep (s : List Int) (at_ : Int) (ns : List Str) (base : Int) (st : Int × List Ride) (k : Int) : Int × List Ride :=
  (st.1 + (1 + ix (draws s (at_ + 3 + k) 6) 4 % 3), st.2 ++ [wRide s at_ ns base st.1 k])
def wRides (s : List Int) (at_ most : Int) (d : List Int) (ns : List Str) : List Ride :=
  ((upTo (ix (draws s (at_ + 2) 1) 0 % (most + 1))).foldl (wStep s at_ ns (wBase d)) (ix d 19 % 3, [])).2
def worldT (s : List Int) (at_ most : Int) : Wd :=
  let d := draws s at_ 20
  let ns := namesT d (2 + ix d 16 % 4)
  let rs := wRides s at_ most d ns
  ⟨ns, wSpans s at_ d ns, if ix d 15 % 2 = 1 then rs.reverse else rs, wBase d⟩
abbrev rWd : Rp (List Str × Spans × List Ride × Int) := rT (wc (rL rS) (wc rSp (wc (rL rRide) (w1 rI))))
def Wd.t (w : Wd) : List Str × Spans × List Ride × Int := (w.names, w.spans, w.rides, w.base)
def N_world : List Str := ["_law_script", "_law_at", "_law_most", "_law_d", "_law_names_here", "_law_base", "_law_spans", "_law_rides", "_law_k", "_law_number", "_law_e", "_law_start", "_law_goal", "_law_leaves"]
theorem sc_world : FnScope N_world ["_law_script", "_law_at", "_law_most"] (defScope s_world) := ⟨rfl, rfl, rfl, by decide +kernel, rfl, by decide +kernel, by decide +kernel⟩
def spWorld (K : PySem.W.Frag) : Sp := fsp (ι := List Int × Int × Int) (fun i => 0 ≤ i.2.1 ∧ i.2.1 ≤ 10000 ∧ 0 ≤ i.2.2 ∧ i.2.2 ≤ 1000) (fun i => [.is (rSc K) i.1, .is rI i.2.1, .is rI i.2.2]) (fun i => .is rWd (worldT i.1 i.2.1 i.2.2).t)
section
variable {P : Program} {w : World} {K : PySem.W.Frag} {mg : Str → Option Value} {base : Heap}
theorem fk_world {f : Addr} {fd : FuncData} (Fn : FnP K "_law_world" "_law_world" s_world f fd) (hm : mg "_law_world" = some (.ref f)) (hf : Free mg) (Gd : Fk P w K mg base 1 "_law_draws" ["_law_script", "_law_at", "_law_many"] (spDraws K)) (Gn : Fk P w K mg base 1 "_law_names" ["_law_d", "_law_many"] spNames) :
    Fk P w K mg base 2 "_law_world" ["_law_script", "_law_at", "_law_most"] (spWorld K) := by
  refine fk_of Fn (fn_pure Fn sc_world (fun _ => rfl) (fun i hp X C => ?_)) hm fun _ _ _ _ _ _ us hl => match us, hl with | [_, _, _], _ => rfl
  obtain ⟨s, at_, most⟩ := i
  obtain ⟨a0', a1', m0, m1⟩ := hp
  simp only at a0' a1' m0 m1 ⊢
  refine xb_cons (xs_asg C 3 (xe_ofO (xo_call C Gd (s, at_, 20) (xa_cons (xe_var C 0 rfl) (xa_cons (xe_var C 1 rfl) (xa_cons xe_int xa_nil))) (dp ⟨by omega, by omega, by decide, by decide⟩))) (by decide +kernel) ?_)
  have dr : Dr (draws s at_ 20) 20 := Dr.of s at_ 20
  have hw : worldT s at_ most = ⟨namesT (draws s at_ 20) (2 + ix (draws s at_ 20) 16 % 4), wSpans s at_ (draws s at_ 20) (namesT (draws s at_ 20) (2 + ix (draws s at_ 20) 16 % 4)), if ix (draws s at_ 20) 15 % 2 = 1 then (wRides s at_ most (draws s at_ 20) (namesT (draws s at_ 20) (2 + ix (draws s at_ 20) 16 % 4))).reverse else wRides s at_ most (draws s at_ 20) (namesT (draws s at_ 20) (2 + ix (draws s at_ 20) 16 % 4)), wBase (draws s at_ 20)⟩ := rfl
  rw [hw]
  show XB X [.is (rSc K) s, .is rI at_, .is rI most, .is (rL rI) (draws s at_ 20), .any, .any, .any, .any, .any, .any, .any, .any, .any, .any] _ _
  generalize draws s at_ 20 = d at dr ⊢
  have hd : ∀ i : Int, 0 ≤ i → i < 20 → inR d i := fun i h1 h2 => (dr.at_ h1 h2).1
  have hv : ∀ i : Int, 0 ≤ i → i < 20 → 0 ≤ ix d i ∧ ix d i < 1013 := fun i h1 h2 => (dr.at_ h1 h2).2
  refine xb_cons (xs_asg C 4 (xe_ofO (xo_call C Gn (d, 2 + ix d 16 % 4) (xa_cons (xe_var C 3 rfl) (xa_cons (xe_bin o_add xe_int (xe_bin o_mod (xe_ix i_list (xe_var C 3 rfl) xe_int (hd 16 (by decide) (by decide))) xe_int (by decide)) trivial) xa_nil)) ⟨dr, by simp only; omega, by simp only; omega⟩)) (by decide +kernel) ?_)
  have nl : (namesT d (2 + ix d 16 % 4)).length = (2 + ix d 16 % 4).toNat := namesT_len _ _
  show XB X [.is (rSc K) s, .is rI at_, .is rI most, .is (rL rI) d, .is (rL rS) (namesT d (2 + ix d 16 % 4)), .any, .any, .any, .any, .any, .any, .any, .any, .any] _ _
  generalize namesT d (2 + ix d 16 % 4) = ns at nl ⊢
  have n2 : 2 ≤ ns.length ∧ ns.length ≤ 5 := by omega
  refine xb_cons (xs_asg C 5 (xe_ix i_list (xe_list (xl_cons xe_int (xl_cons xe_int (xl_cons (xe_bin o_add (xe_bin o_pow xe_int xe_int ⟨by decide, by decide, by decide⟩) (xe_ix i_list (xe_var C 3 rfl) xe_int (hd 17 (by decide) (by decide))) trivial)
    (xl_cons (xe_bin o_sub xe_int (xe_bin o_pow xe_int xe_int ⟨by decide, by decide, by decide⟩) trivial) xl_nil))))) (xe_bin o_mod (xe_ix i_list (xe_var C 3 rfl) xe_int (hd 18 (by decide) (by decide))) xe_int (by decide)) ⟨by omega, show _ < (4 : Int) by omega⟩) (by decide +kernel) ?_)
  show XB X [.is (rSc K) s, .is rI at_, .is rI most, .is (rL rI) d, .is (rL rS) ns, .is rI (wBase d), .any, .any, .any, .any, .any, .any, .any, .any] _ _
  refine xb_cons (xs_asgO C 6 (xo_newK kS rI) (by decide +kernel) ?_)
  refine xb_cons (xs_asgO C 7 (xo_newL rRide xl_nil) (by decide +kernel) ?_)
  refine xb_cut [.is (rSc K) s, .is rI at_, .is rI most, .is (rL rI) d, .is (rL rS) ns, .is rI (wBase d), .res (oK kS rI) (wSpans s at_ d ns), .res (oL rRide) [], .any, .any, .any, .any, .any, .any] ?_ ?_
  · refine xs_forF C (fun sp => [.is (rSc K) s, .is rI at_, .is rI most, .is (rL rI) d, .is (rL rS) ns, .is rI (wBase d), .res (oK kS rI) sp, .res (oL rRide) [], .any, .any, .any, .any, .any, .any]) (fun sp k => dput sp (ix ns k) (wSpan s at_ d k)) (fun i sp => sp.length ≤ i) []
      (xi_range1 C (hf.at_ (by decide +kernel)) (xe_b1 C hf len_list (xe_var C 4 rfl) trivial boot_len) (by omega)) (xg_name C 8 (by decide +kernel)) (.refl _) (Nat.le_refl _) (fun i x sp hx hI => ?_) (fun Γ' wk hI => wk)
    obtain ⟨hx1, hx2⟩ := upTo_get hx
    have xr : 0 ≤ x ∧ x < ns.length := by omega
    have q3 : 3 ≤ ix [(3 : Int), 4, 5] (ix d 19 % 3) ∧ ix [(3 : Int), 4, 5] (ix d 19 % 3) ≤ 5 := ix_in (p := fun z => 3 ≤ z ∧ z ≤ 5) ⟨by omega, show _ < (3 : Int) by omega⟩ fun y hy => by
      simp only [List.mem_cons, List.not_mem_nil, or_false] at hy
      rcases hy with rfl | rfl | rfl <;> omega
    have dx := draws_at s (at_ + 1) 8 x (by omega) (by omega)
    have qm : 0 ≤ ix (draws s (at_ + 1) 8) x % ix [(3 : Int), 4, 5] (ix d 19 % 3) ∧ ix (draws s (at_ + 1) 8) x % ix [(3 : Int), 4, 5] (ix d 19 % 3) < 5 := ⟨Int.emod_nonneg _ (by omega), Int.lt_of_lt_of_le (Int.emod_lt_of_pos _ (by omega)) q3.2⟩
    refine xb_one (xs_dput C 6 (A := kS) (d := sp) (xe_ix i_list (xe_list (xl_cons xe_int (xl_cons xe_int (xl_cons xe_int (xl_cons xe_int (xl_cons (xe_bin o_pow xe_int xe_int ⟨by decide, by decide, by decide⟩) xl_nil))))))
      (xe_bin o_mod (xe_ix i_list (xe_ofO (A := oL rI) (xo_call C Gd (s, at_ + 1, 8) (xa_cons (xe_var C 0 rfl) (xa_cons (xe_bin o_add (xe_var C 1 rfl) xe_int trivial) (xa_cons xe_int xa_nil))) (dp ⟨by omega, by omega, by decide, by decide⟩))) (xe_var C 8 rfl) dx.1)
        (xe_ix i_list (xe_list (xl_cons xe_int (xl_cons xe_int (xl_cons xe_int xl_nil)))) (xe_bin o_mod (xe_ix i_list (xe_var C 3 rfl) xe_int (hd 19 (by decide) (by decide))) xe_int (by decide)) ⟨by omega, show _ < (3 : Int) by omega⟩) (by omega)) ⟨by omega, show _ < (5 : Int) by omega⟩)
      (xe_ix i_list (xe_var C 4 rfl) (xe_var C 8 rfl) ⟨by omega, by omega⟩) (by omega) ?_ (by decide +kernel))
    refine ⟨.same (.same (.same (.same (.same (.same (.same (.same (.any (.same (.same (.same (.same (.same .nil))))))))))))), ?_⟩
    have := dput_len sp (ix ns x) (wSpan s at_ d x)
    omega
  refine xb_cons (xs_asg C 9 (xe_bin o_mod (xe_ix i_list (xe_var C 3 rfl) xe_int (hd 19 (by decide) (by decide))) xe_int (by decide)) (by decide +kernel) ?_)
  refine xb_cut [.is (rSc K) s, .is rI at_, .is rI most, .is (rL rI) d, .is (rL rS) ns, .is rI (wBase d), .res (oK kS rI) (wSpans s at_ d ns), .res (oL rRide) (wRides s at_ most d ns), .any, .any, .any, .any, .any, .any] ?_ ?_
  · have c0 := draws_at s (at_ + 2) 1 0 (by decide) (by decide)
    have c1 : 0 ≤ ix (draws s (at_ + 2) 1) 0 % (most + 1) ∧ ix (draws s (at_ + 2) 1) 0 % (most + 1) ≤ most := ⟨Int.emod_nonneg _ (by omega), by
      have := Int.emod_lt_of_pos (ix (draws s (at_ + 2) 1) 0) (show 0 < most + 1 by omega)
      omega⟩
    refine xs_forF C (fun (st : Int × List Ride) => [.is (rSc K) s, .is rI at_, .is rI most, .is (rL rI) d, .is (rL rS) ns, .is rI (wBase d), .res (oK kS rI) (wSpans s at_ d ns), .res (oL rRide) st.2, .any, .is rI st.1, .any, .any, .any, .any]) (wStep s at_ ns (wBase d)) (fun i st => st.2.length = i) (ix d 19 % 3, [])
      (xi_range1 C (hf.at_ (by decide +kernel)) (xe_bin o_mod (xe_ix i_list (xe_ofO (A := oL rI) (xo_call C Gd (s, at_ + 2, 1) (xa_cons (xe_var C 0 rfl) (xa_cons (xe_bin o_add (xe_var C 1 rfl) xe_int trivial) (xa_cons xe_int xa_nil))) (dp ⟨by omega, by omega, by decide, by decide⟩))) xe_int c0.1) (xe_bin o_add (xe_var C 2 rfl) xe_int trivial) (by omega)) (by omega)) (xg_name C 8 (by decide +kernel)) (.refl _) rfl (fun i x st hx hI => ?_) (fun Γ' wk hI => wk.trans (.same (.same (.same (.same (.same (.same (.same (.same (.same (.any (.same (.same (.same (.same .nil))))))))))))))) 
    obtain ⟨hx1, hx2⟩ := upTo_get hx
    have xr : 0 ≤ x ∧ x ≤ 1000 := by omega
    refine xb_cons (xs_asg C 10 (xe_ofO (A := oL rI) (xo_call C Gd (s, at_ + 3 + x, 6) (xa_cons (xe_var C 0 rfl) (xa_cons (xe_bin o_add (xe_bin o_add (xe_var C 1 rfl) xe_int trivial) (xe_var C 8 rfl) trivial) (xa_cons xe_int xa_nil))) (dp ⟨by omega, by omega, by decide, by decide⟩))) (by decide +kernel) ?_)
    have er : ∀ i : Int, 0 ≤ i → i < 6 → inR (draws s (at_ + 3 + x) 6) i := fun i h1 h2 => (draws_at s (at_ + 3 + x) 6 i h1 h2).1
    have lenE : ∀ {Γ : Gm} {p pos p2 : Pos}, Γ[4]? = some (.is (rL rS) ns) → XE X Γ (.Call (.Name "len" p) [.Name "_law_names_here" p2] [] pos) rI ns.length := fun h => xe_b1 (R1 := rL rS) (x := ns) (ok := fun _ => True) (op := fun xs => (xs.length : Int)) C hf len_list (xe_var C 4 h) trivial boot_len
    refine xb_cons (xs_asg C 11 (xe_bin o_mod (xe_ix i_list (xe_var C 10 rfl) xe_int (er 0 (by decide) (by decide))) (lenE rfl) (by omega)) (by decide +kernel) ?_)
    refine xb_cons (xs_asg C 12 (xe_bin o_mod (xe_bin o_add (xe_bin o_add (xe_var C 11 rfl) xe_int trivial) (xe_bin o_mod (xe_ix i_list (xe_var C 10 rfl) xe_int (er 1 (by decide) (by decide))) (xe_bin o_sub (lenE rfl) xe_int trivial) (by omega)) trivial) (lenE rfl) (by omega)) (by decide +kernel) ?_)
    refine xb_cons (xs_asg C 13 (xe_bin o_add (xe_var C 5 rfl) (xe_bin o_mod (xe_ix i_list (xe_var C 10 rfl) xe_int (er 2 (by decide) (by decide))) xe_int (by decide)) trivial) (by decide +kernel) ?_)
    have inn : ∀ z : Int, inR ns (z % (ns.length : Int)) := fun z => ⟨by
      have := Int.emod_nonneg z (show (ns.length : Int) ≠ 0 by omega)
      omega, Int.emod_lt_of_pos _ (by omega)⟩
    refine xb_cons (xs_append C 7 (xs := st.2) (xe_tup (xr_c (xe_var C 9 rfl) (xr_c (xe_ix i_list (xe_var C 4 rfl) (xe_var C 11 rfl) (inn _)) (xr_c (xe_ix i_list (xe_var C 4 rfl) (xe_var C 12 rfl) (inn _)) (xr_c (xe_var C 13 rfl)
      (xr_1 (xe_bin o_add (xe_bin o_add (xe_var C 13 rfl) xe_int trivial) (xe_bin o_mod (xe_ix i_list (xe_var C 10 rfl) xe_int (er 3 (by decide) (by decide))) xe_int (by decide)) trivial))))))) (by decide +kernel) (by omega) ?_)
    refine xb_one (xs_aug C 9 (i := st.1) ip_add (xe_bin o_add xe_int (xe_bin o_mod (xe_ix i_list (xe_var C 10 rfl) xe_int (er 4 (by decide) (by decide))) xe_int (by decide)) trivial) (by decide +kernel) ?_)
    refine ⟨.same (.same (.same (.same (.same (.same (.same (.same (.any (.same (.any (.any (.any (.any .nil))))))))))))), ?_⟩
    show (st.2 ++ [_]).length = i + 1
    simp [hI]
  refine xb_cut [.is (rSc K) s, .is rI at_, .is rI most, .is (rL rI) d, .is (rL rS) ns, .is rI (wBase d), .res (oK kS rI) (wSpans s at_ d ns), .res (oL rRide) (if ix d 15 % 2 = 1 then (wRides s at_ most d ns).reverse else wRides s at_ most d ns), .any, .any, .any, .any, .any, .any] ?_ ?_
  · refine xs_if (xt_cmp o_eqI (xe_bin o_mod (xe_ix i_list (xe_var C 3 rfl) xe_int (hd 15 (by decide) (by decide))) xe_int (by decide)) xe_int trivial) (fun hb => ?_) (fun hb => ?_)
    · rw [if_pos (of_decide_eq_true hb)]
      refine xb_freeze 7 (A := oL rRide) (x := wRides s at_ most d ns) (xb_one (xs_asgO C 7 (xo_rev (xe_var C 7 rfl)) (by decide +kernel) ?_))
      exact Wk.refl _
    · rw [if_neg (of_decide_eq_false hb)]
      exact xb_nil ⟨_, .refl _, Wk.refl _⟩
  refine xb_freeze 6 (A := oK kS rI) (x := wSpans s at_ d ns) ?_
  refine xb_freeze 7 (A := oL rRide) (x := if ix d 15 % 2 = 1 then (wRides s at_ most d ns).reverse else wRides s at_ most d ns) ?_
  exact xb_one (xs_ret (xe_tup (xr_c (xe_var C 4 rfl) (xr_c (xe_var C 6 rfl) (xr_c (xe_var C 7 rfl) (xr_1 (xe_var C 5 rfl)))))) rfl)
end
/-! ### what holds of a world -/
theorem ix_nat {α : Type} [Inhabited α] {xs : List α} {j : Nat} {x : α} (h : xs[j]? = some x) : ix xs (j : Int) = x := by
  unfold ix
  rw [atI_nat h]; rfl
theorem has_dput {κ α : Type} [DecidableEq κ] (d : List (κ × α)) (q : κ) (v : α) (r : κ) : has (dput d q v) r = (decide (q = r) || has d r) := by
  unfold has
  rw [look_dput]
  by_cases h : q = r
  · simp [h]
  · simp [h]
theorem wSpans_fold {κ α β : Type} [DecidableEq κ] (key : β → κ) (val : β → α) : ∀ (ks : List β) (sp : List (κ × α)) (x : κ), (has sp x = true ∨ ∃ k ∈ ks, key k = x) → has (ks.foldl (fun sp k => dput sp (key k) (val k)) sp) x = true
  | [], sp, x, h => by
    rcases h with h | ⟨k, hk, _⟩
    · exact h
    · cases hk
  | k :: ks, sp, x, h => by
    refine wSpans_fold key val ks _ x ?_
    rcases h with h | ⟨q, hq, e⟩
    · exact .inl (by rw [has_dput, h, Bool.or_true])
    · rcases List.mem_cons.mp hq with z | z
      · subst z; exact .inl (by rw [has_dput, decide_eq_true e, Bool.true_or])
      · exact .inr ⟨q, z, e⟩
theorem uq_fold {κ α β : Type} [DecidableEq κ] (key : β → κ) (val : β → α) : ∀ (ks : List β) (sp : List (κ × α)), Uq sp → Uq (ks.foldl (fun sp k => dput sp (key k) (val k)) sp)
  | [], _, h => h
  | k :: ks, sp, h => uq_fold key val ks _ (uq_dput h _ _)
theorem wSpans_has (s : List Int) (at_ : Int) (d : List Int) (ns : List Str) {x : Str} (h : x ∈ ns) : has (wSpans s at_ d ns) x = true := by
  obtain ⟨j, hj⟩ := List.getElem?_of_mem h
  refine wSpans_fold (fun k => ix ns k) (fun k => wSpan s at_ d k) _ _ x (.inr ⟨(j : Int), ?_, ix_nat hj⟩)
  have := (List.getElem?_eq_some_iff.mp hj).1
  unfold upTo
  exact List.mem_map.mpr ⟨j, List.mem_range.mpr (by omega), rfl⟩
theorem wSpans_uq (s : List Int) (at_ : Int) (d : List Int) (ns : List Str) : Uq (wSpans s at_ d ns) := uq_fold (fun k => ix ns k) (fun k => wSpan s at_ d k) _ _ List.nodup_nil
theorem wStep_fold (s : List Int) (at_ : Int) (ns : List Str) (base : Int) (p : Ride → Prop) (hp : ∀ n k, p (wRide s at_ ns base n k)) : ∀ (ks : List Int) (st : Int × List Ride), (∀ r ∈ st.2, p r) → (∀ r ∈ (ks.foldl (wStep s at_ ns base) st).2, p r) ∧ (ks.foldl (wStep s at_ ns base) st).2.length = st.2.length + ks.length
  | [], st, h => ⟨h, rfl⟩
  | k :: ks, st, h => by
    obtain ⟨h1, h2⟩ := wStep_fold s at_ ns base p hp ks (wStep s at_ ns base st k) fun r hr => by
      rcases List.mem_append.mp (show r ∈ st.2 ++ [wRide s at_ ns base st.1 k] from hr) with z | z
      · exact h r z
      · obtain rfl : r = wRide s at_ ns base st.1 k := by simpa using z
        exact hp _ _
    refine ⟨h1, h2.trans ?_⟩
    show (st.2 ++ [_]).length + ks.length = _
    simp; omega
/-- what is known of a ride of a world -/
structure RideOk (w : Wd) (r : Ride) : Prop where
  from_ : r.2.1 ∈ w.names
  to : r.2.2.1 ∈ w.names
  span : has w.spans r.2.2.1 = true
  leaves : w.base ≤ r.2.2.2.1 ∧ r.2.2.2.1 ≤ w.base + 23
  comes : r.2.2.2.1 < r.2.2.2.2 ∧ r.2.2.2.2 ≤ r.2.2.2.1 + 6
structure WdOk (w : Wd) (most : Int) : Prop where
  many : 2 ≤ w.names.length ∧ w.names.length ≤ 5
  spans : ∀ x ∈ w.names, has w.spans x = true
  uq : Uq w.spans
  rides : ∀ r ∈ w.rides, RideOk w r
  few : (w.rides.length : Int) ≤ most
theorem world_ok (s : List Int) (at_ most : Int) (hm : 0 ≤ most) : WdOk (worldT s at_ most) most := by
  have dr : Dr (draws s at_ 20) 20 := Dr.of s at_ 20
  have h16 := (dr.at_ (i := 16) (by decide) (by decide)).2
  have nl : (worldT s at_ most).names.length = (2 + ix (draws s at_ 20) 16 % 4).toNat := namesT_len _ _
  have n2 : 2 ≤ (worldT s at_ most).names.length ∧ (worldT s at_ most).names.length ≤ 5 := by omega
  have sp : ∀ x ∈ (worldT s at_ most).names, has (worldT s at_ most).spans x = true := fun x hx => wSpans_has s at_ _ _ hx
  have inn : ∀ z : Int, ix (worldT s at_ most).names (z % ((worldT s at_ most).names.length : Int)) ∈ (worldT s at_ most).names := fun z => ix_mem ⟨by
    have := Int.emod_nonneg z (show ((worldT s at_ most).names.length : Int) ≠ 0 by omega)
    omega, Int.emod_lt_of_pos _ (by omega)⟩
  have ro : ∀ n k, RideOk (worldT s at_ most) (wRide s at_ (worldT s at_ most).names (worldT s at_ most).base n k) := fun n k => by
    refine ⟨inn _, inn _, sp _ (inn _), ?_, ?_⟩
    · show _ ≤ _ + _ ∧ _ + _ ≤ _
      omega
    · show _ + _ < _ + _ + 1 + _ ∧ _ + _ + 1 + _ ≤ _ + _ + 6
      omega
  have fold := wStep_fold s at_ (worldT s at_ most).names (worldT s at_ most).base _ ro (upTo (ix (draws s (at_ + 2) 1) 0 % (most + 1))) (ix (draws s at_ 20) 19 % 3, []) (fun r h => by cases h)
  refine ⟨n2, sp, wSpans_uq s at_ _ _, fun r hr => ?_, ?_⟩
  · refine fold.1 r ?_
    have hr : r ∈ (if ix (draws s at_ 20) 15 % 2 = 1 then (wRides s at_ most (draws s at_ 20) (worldT s at_ most).names).reverse else wRides s at_ most (draws s at_ 20) (worldT s at_ most).names) := hr
    split at hr
    · exact List.mem_reverse.mp hr
    · exact hr
  · have e : (worldT s at_ most).rides.length = (wRides s at_ most (draws s at_ 20) (worldT s at_ most).names).length := by
      show (if ix (draws s at_ 20) 15 % 2 = 1 then (wRides s at_ most (draws s at_ 20) (worldT s at_ most).names).reverse else wRides s at_ most (draws s at_ 20) (worldT s at_ most).names).length = _
      split
      · rw [List.length_reverse]
      · rfl
    have h2 : (wRides s at_ most (draws s at_ 20) (worldT s at_ most).names).length = _ := fold.2
    rw [e, h2, upTo_len]
    have := Int.emod_lt_of_pos (ix (draws s (at_ + 2) 1) 0) (show 0 < most + 1 by omega)
    have := Int.emod_nonneg (ix (draws s (at_ + 2) 1) 0) (show most + 1 ≠ 0 by omega)
    simp only [List.length_nil]
    omega
/-! ### the first fault -/
abbrev Row : Type := List (Option Ride)
abbrev rRow : Rp Row := rL (rO rRide)
abbrev rFt : Rp (Option (Int × Str)) := rO (rT (wc rI (w1 rS)))
instance : Inhabited (Option Ride) := ⟨none⟩
instance decORide : DecidableEq (Option Ride) := fun a b => inferInstance
instance decRow : DecidableEq (List (Option Ride)) := instDecidableEqList
def misses (sp : Spans) : Option Ride → Ride → Bool
  | none, _ => false
  | some p, r => !hangT p r sp
def ff (sp : Spans) : Nat → Option Ride → Row → Option (Int × Str)
  | _, _, [] => none
  | i, _, none :: _ => some (i, "gone")
  | i, prev, some r :: rest => if misses sp prev r = true then some (i, "missed") else ff sp (i + 1) (some r) rest
def firstFault (row : Row) (sp : Spans) : Option (Int × Str) := ff sp 0 none row
def RowOk (sp : Spans) (row : Row) : Prop := ∀ r, some r ∈ row → has sp r.2.2.1 = true
/-! ### what is kept of a row -/
def keptT (sp : Spans) : List Ride → Row → List Ride
  | found, [] => found
  | found, none :: _ => found
  | found, some r :: rest => if misses sp found.getLast? r = true then found else keptT sp (found ++ [r]) rest
def kept (row : Row) (sp : Spans) : List Ride := keptT sp [] row
theorem last_ix {α : Type} [Inhabited α] {xs : List α} {q : α} (h : xs.getLast? = some q) : ix xs (-1) = q ∧ inR xs (-1) := by
  have hne : xs ≠ [] := fun e => by rw [e] at h; cases h
  have hl : 0 < xs.length := List.length_pos_iff.mpr hne
  refine ⟨?_, by omega, by omega⟩
  unfold ix atI ixN
  rw [if_neg (by omega), if_pos (by omega)]
  show (xs[(-1 + (xs.length : Int)).toNat]?).getD default = q
  rw [show (-1 + (xs.length : Int)).toNat = xs.length - 1 by omega]
  rw [List.getLast?_eq_getElem?] at h
  rw [h]; rfl
theorem kept_sub (sp : Spans) : ∀ (row : Row) (found : List Ride), ∃ n, n ≤ row.length ∧ (keptT sp found row).map some = found.map some ++ row.take n
  | [], found => ⟨0, Nat.le_refl _, by simp [keptT]⟩
  | none :: _, found => ⟨0, Nat.zero_le _, by simp [keptT]⟩
  | some r :: rest, found => by
    unfold keptT
    split
    · exact ⟨0, Nat.zero_le _, by simp⟩
    · obtain ⟨n, h1, h2⟩ := kept_sub sp rest (found ++ [r])
      exact ⟨n + 1, by simp; omega, by rw [h2]; simp⟩
def N_kept : List Str := ["_law_rides", "_law_spans", "_law_found", "_law_ride"]
theorem sc_kept : FnScope N_kept ["_law_rides", "_law_spans"] (defScope s_kept) := ⟨rfl, rfl, rfl, by decide +kernel, rfl, by decide +kernel, by decide +kernel⟩
def spKept : Sp := fsp (ι := Row × Spans) (fun i => RowOk i.2 i.1 ∧ i.1.length ≤ 1000) (fun i => [.is rRow i.1, .is rSp i.2]) (fun i => .res (oL rRide) (kept i.1 i.2))
section
variable {P : Program} {w : World} {K : PySem.W.Frag} {mg : Str → Option Value} {base : Heap}
theorem fk_kept {f : Addr} {fd : FuncData} (Fn : FnP K "_law_kept" "_law_kept" s_kept f fd) (hm : mg "_law_kept" = some (.ref f)) (hf : Free mg) (Gh : Fk P w K mg base 1 "_law_hang" ["_law_ride", "_law_after", "_law_spans"] spHang) : Fk P w K mg base 2 "_law_kept" ["_law_rides", "_law_spans"] spKept := by
  refine fk_of Fn (fn_pure Fn sc_kept (fun _ => rfl) (fun i hp X C => ?_)) hm fun _ _ _ _ _ _ us hl => match us, hl with | [_, _], _ => rfl
  obtain ⟨row, sp⟩ := i
  obtain ⟨hp, hz⟩ := hp
  simp only at hp hz ⊢
  refine xb_cons (xs_asgO C 2 (xo_newL rRide xl_nil) (by decide +kernel) ?_)
  refine xb_cons (xs_forI C (fun found => [.is rRow row, .is rSp sp, .res (oL rRide) found, .any]) (fun found rest => keptT sp found rest = kept row sp ∧ (∀ x ∈ rest, x ∈ row) ∧ (∀ q ∈ found, has sp q.2.2.1 = true) ∧ found.length + rest.length = row.length) [] (xi_list (xe_var C 0 rfl)) (xg_name C 3 (by decide +kernel)) (.refl _)
    ⟨rfl, fun x h => h, fun q h => (nomatch h), by simp⟩ (fun x rest found hI => ?_) (fun found Γ' hI wk => ?_))
  · obtain ⟨e, sub, hq, hn⟩ := hI
    cases x with
    | none =>
      refine xb_cons (xs_if (p := true) (xt_eq (xt_view (xt_w (xw_or (q := true) (xt_cmp o_isN (xe_var C 3 rfl) xe_unit trivial) (fun h => by cases h)))) rfl) (fun _ => xb_one (xs_retV C 2 (by decide +kernel) ?_)) (fun h => by cases h))
      show Slot.res (oL rRide) found = .res (oL rRide) (kept row sp)
      rw [← e, keptT]
    | some r =>
      have hr : has sp r.2.2.1 = true := hp r (sub _ (by simp))
      refine xb_cons (xs_if (p := misses sp found.getLast? r) ?_ (fun hb => xb_one (xs_retV C 2 (by decide +kernel) ?_)) (fun hb => xb_nil ⟨_, .refl _, ?_⟩))
      · cases hl : found.getLast? with
        | none =>
          have hnil : found = [] := List.getLast?_eq_none_iff.mp hl
          subst hnil
          exact xt_eq (xt_view (xt_w (xw_or (xt_cmp o_isN (xe_var C 3 rfl) xe_unit trivial) (fun _ => xw_or1 (xt_w (xw_and (q := false) (xt_truL (xe_var C 2 rfl)) (fun h => by cases h))))))) rfl
        | some q =>
          obtain ⟨e1, inr⟩ := last_ix hl
          have hne : found ≠ [] := fun z => by rw [z] at hl; cases hl
          have hq2 : has sp q.2.2.1 = true := hq q (List.mem_of_getLast? hl)
          refine xt_eq (xt_view (xt_w (xw_or (xt_cmp o_isN (xe_var C 3 rfl) xe_unit trivial) (fun _ => xw_or1 (xt_w (xw_and (xt_truL (xe_var C 2 rfl)) (fun _ => xw_and1 (xt_not (xt_val (xe_call C Gh (q, r, sp) (xa_cons (R := rRide) (x := q) (xe_eq (xe_ix i_list (xe_var C 2 rfl) (xe_neg xe_int) inr) e1) (xa_cons (R := rRide) (x := r) (xe_get (xe_var C 3 rfl)) (xa_cons (xe_var C 1 rfl) xa_nil))) hq2)))))))))) ?_
          have : (!found.isEmpty) = true := by cases found with
            | nil => exact absurd rfl hne
            | cons _ _ => rfl
          rw [this]; rfl
      · show Slot.res (oL rRide) found = .res (oL rRide) (kept row sp)
        rw [← e, keptT, if_pos hb]
      · have := hn
        refine xb_one (xs_append C 2 (xs := found) (R := rRide) (x := r) (xe_get (xe_var C 3 rfl)) (by decide +kernel) (by omega) ?_)
        refine ⟨found ++ [r], .same (.same (.same (.any .nil))), ?_, fun x h => sub x (List.mem_cons_of_mem _ h), fun q h => ?_, ?_⟩
        · rw [← e]
          conv => rhs; rw [keptT, if_neg (by rw [hb]; decide)]
        · rcases List.mem_append.mp h with z | z
          · exact hq q z
          · obtain rfl : q = r := by simpa using z
            exact hr
        · simp at hn ⊢; omega
  · obtain ⟨e, _⟩ := hI
    refine xb_wk wk (xb_one (xs_retV C 2 (by decide +kernel) ?_))
    show Slot.res (oL rRide) found = .res (oL rRide) (kept row sp)
    rw [← e, keptT]
end
/-! ### a row of rides that mostly hang on one another -/
def fits (sp : Spans) (row : Row) (r : Ride) : Bool := match row.getLast? with
  | none => true
  | some none => false
  | some (some q) => hangT q r sp
instance : Inhabited Ride := ⟨(0, Str.empty, Str.empty, 0, 0)⟩
def cand (W : Wd) (d : List Int) (row : Row) (k : Int) : List Ride := if ix d (1 + k) % 7 = 1 then W.rides else (W.rides.filter (fits W.spans row)).map fun r => r
def lineStep (W : Wd) (d : List Int) (row : Row) (k : Int) : Row :=
  if ix d (9 + k) % 9 = 1 then row ++ [none] else if (!(cand W d row k).isEmpty) = true then row ++ [some (ix (cand W d row k) (ix d (17 + k) % (cand W d row k).length))] else row
def lineRow (s : List Int) (at_ : Int) : Row := (upTo (ix (draws s (at_ + 14) 30) 0 % 8)).foldl (lineStep (worldT s at_ 9) (draws s (at_ + 14) 30)) []
abbrev rLn : Rp (List Str × Spans × Row × Int) := rT (wc (rL rS) (wc rSp (wc rRow (w1 rI))))
def lineT (s : List Int) (at_ : Int) : List Str × Spans × Row × Int := ((worldT s at_ 9).names, (worldT s at_ 9).spans, lineRow s at_, (worldT s at_ 9).base)
theorem cand_in {W : Wd} {d : List Int} {row : Row} {k : Int} : ∀ r ∈ cand W d row k, r ∈ W.rides := fun r h => by
  unfold cand at h
  split at h
  · exact h
  · simp at h; exact h.1
theorem lineStep_ok {W : Wd} {d : List Int} {row : Row} {k : Int} (h : ∀ r, some r ∈ row → r ∈ W.rides) : (∀ r, some r ∈ lineStep W d row k → r ∈ W.rides) ∧ (lineStep W d row k).length ≤ row.length + 1 := by
  unfold lineStep
  split
  · exact ⟨fun r hr => by
      rcases List.mem_append.mp hr with z | z
      · exact h r z
      · simp at z, by simp⟩
  · split
    · rename_i hc
      refine ⟨fun r hr => ?_, by simp⟩
      rcases List.mem_append.mp hr with z | z
      · exact h r z
      · simp only [List.mem_singleton, Option.some.injEq] at z
        rw [z]
        refine cand_in _ (ix_mem ?_)
        have : 0 < (cand W d row k).length := by
          cases e : cand W d row k with
          | nil => rw [e] at hc; cases hc
          | cons _ _ => simp
        refine ⟨?_, Int.emod_lt_of_pos _ (by omega)⟩
        have := Int.emod_nonneg (ix d (17 + k)) (show ((cand W d row k).length : Int) ≠ 0 by omega)
        omega
    · exact ⟨h, Nat.le_succ _⟩
theorem lineFold_ok {W : Wd} {d : List Int} : ∀ (ks : List Int) (row : Row), (∀ r, some r ∈ row → r ∈ W.rides) → (∀ r, some r ∈ ks.foldl (lineStep W d) row → r ∈ W.rides) ∧ (ks.foldl (lineStep W d) row).length ≤ row.length + ks.length
  | [], row, h => ⟨h, Nat.le_refl _⟩
  | k :: ks, row, h => by
    obtain ⟨h1, h2⟩ := lineStep_ok (d := d) (k := k) h
    obtain ⟨h3, h4⟩ := lineFold_ok ks _ h1
    exact ⟨h3, by rw [List.length_cons]; rw [List.foldl_cons]; omega⟩
theorem line_ok (s : List Int) (at_ : Int) : (∀ r, some r ∈ lineRow s at_ → r ∈ (worldT s at_ 9).rides) ∧ (lineRow s at_).length ≤ 7 := by
  obtain ⟨h1, h2⟩ := lineFold_ok (W := worldT s at_ 9) (d := draws s (at_ + 14) 30) (upTo (ix (draws s (at_ + 14) 30) 0 % 8)) [] (fun r h => nomatch h)
  refine ⟨h1, Nat.le_trans h2 ?_⟩
  rw [upTo_len]
  simp
  omega
theorem line_row (s : List Int) (at_ : Int) : RowOk (worldT s at_ 9).spans (lineRow s at_) := fun r h => ((world_ok s at_ 9 (by decide)).rides r ((line_ok s at_).1 r h)).span
def N_line : List Str := ["_law_script", "_law_at", "_law_names_here", "_law_spans", "_law_rides", "_law_base", "_law_d", "_law_row", "_law_k", "_law_some", "_law_ride"]
theorem sc_line : FnScope N_line ["_law_script", "_law_at"] (defScope s_line) := ⟨rfl, rfl, rfl, by decide +kernel, rfl, by decide +kernel, by decide +kernel⟩
def spLine (K : PySem.W.Frag) : Sp := fsp (ι := List Int × Int) (fun i => 0 ≤ i.2 ∧ i.2 ≤ 1000) (fun i => [.is (rSc K) i.1, .is rI i.2]) (fun i => .is rLn (lineT i.1 i.2))
section
variable {P : Program} {w : World} {K : PySem.W.Frag} {mg : Str → Option Value} {base : Heap}
theorem fk_line {f : Addr} {fd : FuncData} (Fn : FnP K "_law_line" "_law_line" s_line f fd) (hm : mg "_law_line" = some (.ref f)) (hf : Free mg) (Gd : Fk P w K mg base 1 "_law_draws" ["_law_script", "_law_at", "_law_many"] (spDraws K)) (Gw : Fk P w K mg base 2 "_law_world" ["_law_script", "_law_at", "_law_most"] (spWorld K))
    (Gh : Fk P w K mg base 1 "_law_hang" ["_law_ride", "_law_after", "_law_spans"] spHang) : Fk P w K mg base 3 "_law_line" ["_law_script", "_law_at"] (spLine K) := by
  refine fk_of Fn (fn_pure Fn sc_line (fun _ => rfl) (fun i hp X C => ?_)) hm fun _ _ _ _ _ _ us hl => match us, hl with | [_, _], _ => rfl
  obtain ⟨s, at_⟩ := i
  obtain ⟨a0', a1'⟩ := hp
  simp only at a0' a1' ⊢
  refine xb_cons (xs_unpack (xe_call C Gw (s, at_, 9) (xa_cons (xe_var C 0 rfl) (xa_cons (xe_var C 1 rfl) (xa_cons xe_int xa_nil))) ⟨a0', Int.le_trans a1' (by decide), by simp, by simp⟩) (xg_tup C (xgs_c (xg_name C 2 (by decide +kernel)) (xgs_c (xg_name C 3 (by decide +kernel)) (xgs_c (xg_name C 4 (by decide +kernel)) (xgs_1 (xg_name C 5 (by decide +kernel))))))) ?_)
  have wo := world_ok s at_ 9 (by decide)
  have hl : lineT s at_ = ((worldT s at_ 9).names, (worldT s at_ 9).spans, (upTo (ix (draws s (at_ + 14) 30) 0 % 8)).foldl (lineStep (worldT s at_ 9) (draws s (at_ + 14) 30)) [], (worldT s at_ 9).base) := rfl
  rw [hl]
  show XB X [.is (rSc K) s, .is rI at_, .is (rL rS) (worldT s at_ 9).names, .is rSp (worldT s at_ 9).spans, .is (rL rRide) (worldT s at_ 9).rides, .is rI (worldT s at_ 9).base, .any, .any, .any, .any, .any] _ _
  generalize worldT s at_ 9 = W at wo ⊢
  refine xb_cons (xs_asg C 6 (xe_ofO (A := oL rI) (xo_call C Gd (s, at_ + 14, 30) (xa_cons (xe_var C 0 rfl) (xa_cons (xe_bin o_add (xe_var C 1 rfl) xe_int trivial) (xa_cons xe_int xa_nil))) (dp ⟨by omega, by omega, by decide, by decide⟩))) (by decide +kernel) ?_)
  have dr : Dr (draws s (at_ + 14) 30) 30 := Dr.of s _ 30
  show XB X [.is (rSc K) s, .is rI at_, .is (rL rS) W.names, .is rSp W.spans, .is (rL rRide) W.rides, .is rI W.base, .is (rL rI) (draws s (at_ + 14) 30), .any, .any, .any, .any] _ _
  generalize draws s (at_ + 14) 30 = d at dr ⊢
  have hd : ∀ i : Int, 0 ≤ i → i < 30 → inR d i := fun i h1 h2 => (dr.at_ h1 h2).1
  refine xb_cons (xs_asgO C 7 (xo_newL (rO rRide) xl_nil) (by decide +kernel) ?_)
  refine xb_cut [.is (rSc K) s, .is rI at_, .is (rL rS) W.names, .is rSp W.spans, .is (rL rRide) W.rides, .is rI W.base, .is (rL rI) d, .res (oL (rO rRide)) ((upTo (ix d 0 % 8)).foldl (lineStep W d) []), .any, .any, .any] ?_ ?_
  · refine xs_forF C (fun row => [.is (rSc K) s, .is rI at_, .is (rL rS) W.names, .is rSp W.spans, .is (rL rRide) W.rides, .is rI W.base, .is (rL rI) d, .res (oL (rO rRide)) row, .any, .any, .any]) (lineStep W d) (fun i row => (∀ r, some r ∈ row → r ∈ W.rides) ∧ row.length ≤ i) []
      (xi_range1 C (hf.at_ (by decide +kernel)) (xe_bin o_mod (xe_ix i_list (xe_var C 6 rfl) xe_int (hd 0 (by decide) (by decide))) xe_int (by decide)) (by omega)) (xg_name C 8 (by decide +kernel)) (.refl _) ⟨fun r h => (nomatch h), Nat.le_refl _⟩ (fun i k row hx hI => ?_) (fun Γ' wk hI => wk)
    obtain ⟨k1, k2⟩ := upTo_get hx
    have kr : 0 ≤ k ∧ k < 8 := by omega
    obtain ⟨hrow, hrl⟩ := hI
    refine xb_cons (xs_asgC C 9 [("_law_ride", 10)] (fits W.spans row) (fun r => r) (xi_list (xe_var C 4 rfl)) (by have := wo.few; have e : sizeLine = 16777216 := sizeLine_eq; omega) (fun X' C' => xg_name C' 10 (by decide +kernel)) (fun X' C' r hr => xts_one ?_) (fun X' C' r hr _ => xe_var C' 10 rfl) ?_)
    · cases hg : row.getLast? with
      | none =>
        have hnil : row = [] := List.getLast?_eq_none_iff.mp hg
        refine xt_eq (xt_view (xt_w (xw_or (q := false) (xt_not (xt_truL (xe_var C' 7 rfl))) (fun h => ?_)))) ?_
        · subst hnil; cases h
        · unfold fits; rw [hg, hnil]; rfl
      | some o =>
        obtain ⟨e1, inr⟩ := last_ix hg
        have hne : (!row.isEmpty) = true := by cases row with
          | nil => cases hg
          | cons _ _ => rfl
        cases o with
        | none =>
          refine xt_eq (xt_view (xt_w (xw_or (xt_not (xt_truL (xe_var C' 7 rfl))) (fun _ => xw_or1 (xt_w (xw_and (q := false) (xt_cmp o_notN (xe_eq (xe_ix i_list (xe_var C' 7 rfl) (xe_neg xe_int) inr) e1) xe_unit trivial) (fun h => by cases h))))))) ?_
          unfold fits; rw [hg, hne]; rfl
        | some q =>
          have hq : has W.spans q.2.2.1 = true := (wo.rides q (hrow q (List.mem_of_getLast? hg))).span
          refine xt_eq (xt_view (xt_w (xw_or (xt_not (xt_truL (xe_var C' 7 rfl))) (fun _ => xw_or1 (xt_w (xw_and (xt_cmp o_notN (xe_eq (xe_ix i_list (xe_var C' 7 rfl) (xe_neg xe_int) inr) e1) xe_unit trivial) (fun _ => xw_and1 (xt_val (xe_call C' Gh (q, r, W.spans) (xa_cons (R := rRide) (x := q) (xe_get (xe_eq (xe_ix i_list (xe_var C' 7 rfl) (xe_neg xe_int) inr) e1)) (xa_cons (xe_var C' 10 rfl) (xa_cons (xe_var C' 3 rfl) xa_nil))) hq))))))))) ?_
          unfold fits; rw [hg, hne]; rfl
    refine xb_freeze 9 (A := oL rRide) (x := (W.rides.filter (fits W.spans row)).map fun r => r) ?_
    refine xb_cut [.is (rSc K) s, .is rI at_, .is (rL rS) W.names, .is rSp W.spans, .is (rL rRide) W.rides, .is rI W.base, .is (rL rI) d, .res (oL (rO rRide)) row, .is rI k, .is (rL rRide) (cand W d row k), .any] ?_ ?_
    · refine xs_if (xt_cmp o_eqI (xe_bin o_mod (xe_ix i_list (xe_var C 6 rfl) (xe_bin o_add xe_int (xe_var C 8 rfl) trivial) (hd _ (by omega) (by omega))) xe_int (by decide)) xe_int trivial) (fun hb => ?_) (fun hb => ?_)
      · refine xb_one (xs_asg C 9 (xe_var C 4 rfl) (by decide +kernel) ?_)
        have e : cand W d row k = W.rides := by unfold cand; rw [if_pos (of_decide_eq_true hb)]
        rw [e]
        exact .same (.same (.same (.same (.same (.same (.same (.same (.same (.same (.any .nil))))))))))
      · refine xb_nil ⟨_, .refl _, ?_⟩
        have e : cand W d row k = (W.rides.filter (fits W.spans row)).map fun r => r := by unfold cand; rw [if_neg (of_decide_eq_false hb)]
        rw [e]
        exact .same (.same (.same (.same (.same (.same (.same (.same (.same (.same (.any .nil))))))))))
    have step1 := lineStep_ok (W := W) (d := d) (k := k) hrow
    have hlen : row.length ≤ 8 := by
      have := (List.getElem?_eq_some_iff.mp hx).1
      rw [upTo_len] at this
      omega
    refine xb_one (xs_if (xt_cmp o_eqI (xe_bin o_mod (xe_ix i_list (xe_var C 6 rfl) (xe_bin o_add xe_int (xe_var C 8 rfl) trivial) (hd _ (by omega) (by omega))) xe_int (by decide)) xe_int trivial) (fun hb => ?_) (fun hb => ?_))
    · refine xb_one (xs_append C 7 (xs := row) (R := rO rRide) (x := none) xe_none (by decide +kernel) (by omega) ?_)
      have e : lineStep W d row k = row ++ [none] := by unfold lineStep; rw [if_pos (of_decide_eq_true hb)]
      refine ⟨?_, step1.1, by omega⟩
      rw [e]
      exact .same (.same (.same (.same (.same (.same (.same (.same (.any (.any (.same .nil))))))))))
    · refine xb_one (xs_if (xt_truL (xe_var C 9 rfl)) (fun hb2 => ?_) (fun hb2 => ?_))
      · have cl : 0 < (cand W d row k).length := by
          cases e : cand W d row k with
          | nil => rw [e] at hb2; cases hb2
          | cons _ _ => simp
        refine xb_one (xs_append C 7 (xs := row) (R := rO rRide) (x := some (ix (cand W d row k) (ix d (17 + k) % (cand W d row k).length))) (xe_some (xe_ix i_list (xe_var C 9 rfl) (xe_bin o_mod (xe_ix i_list (xe_var C 6 rfl) (xe_bin o_add xe_int (xe_var C 8 rfl) trivial) (hd _ (by omega) (by omega))) (xe_len C hf (xe_var C 9 rfl)) (by omega)) ?_)) (by decide +kernel) (by omega) ?_)
        · have := Int.emod_nonneg (ix d (17 + k)) (show ((cand W d row k).length : Int) ≠ 0 by omega)
          exact ⟨by omega, Int.emod_lt_of_pos _ (by omega)⟩
        · have e : lineStep W d row k = row ++ [some (ix (cand W d row k) (ix d (17 + k) % (cand W d row k).length))] := by unfold lineStep; rw [if_neg (of_decide_eq_false hb), if_pos hb2]
          refine ⟨?_, step1.1, by omega⟩
          rw [e]
          exact .same (.same (.same (.same (.same (.same (.same (.same (.any (.any (.same .nil))))))))))
      · have e : lineStep W d row k = row := by unfold lineStep; rw [if_neg (of_decide_eq_false hb), if_neg (by rw [hb2]; decide)]
        refine xb_nil ⟨_, .refl _, ?_, step1.1, by omega⟩
        rw [e]
        exact .same (.same (.same (.same (.same (.same (.same (.same (.any (.any (.same .nil))))))))))
  refine xb_freeze 7 (A := oL (rO rRide)) (x := (upTo (ix d 0 % 8)).foldl (lineStep W d) []) ?_
  exact xb_one (xs_ret (xe_tup (xr_c (xe_var C 2 rfl) (xr_c (xe_var C 3 rfl) (xr_c (xe_var C 7 rfl) (xr_1 (xe_var C 5 rfl)))))) rfl)
end
/-! ### the first fault, by what is kept -/
def wordAt (row : Row) (i : Int) : Str := ix ["missed", "gone"] (if (ix row i).isNone = true then 1 else 0)
def lawFirst (row : Row) (sp : Spans) : Option (Int × Str) := if ((kept row sp).length : Int) = row.length then none else some ((kept row sp).length, wordAt row (kept row sp).length)
theorem kept_len (row : Row) (sp : Spans) : (kept row sp).length ≤ row.length := by
  obtain ⟨n, h1, h2⟩ := kept_sub sp row []
  have := congrArg List.length h2
  simp at this
  unfold kept
  omega
theorem ix_mid {α : Type} [Inhabited α] {xs ys : List α} {y : α} : ix (xs ++ y :: ys) (xs.length : Int) = y := ix_nat (by simp)
theorem fault_kept (sp : Spans) : ∀ (rest : Row) (found : List Ride), ff sp found.length found.getLast? rest =
    if (keptT sp found rest).length = found.length + rest.length then none else some (((keptT sp found rest).length : Int), wordAt (found.map some ++ rest) (keptT sp found rest).length)
  | [], found => by simp [ff, keptT]
  | none :: rest, found => by
    have e : wordAt (found.map some ++ none :: rest) (found.length : Int) = "gone" := by
      unfold wordAt
      have := ix_mid (xs := found.map some) (ys := rest) (y := (none : Option Ride))
      rw [List.length_map] at this
      rw [this]; rfl
    rw [ff, keptT, if_neg (by simp), e]
  | some r :: rest, found => by
    have e : wordAt (found.map some ++ some r :: rest) (found.length : Int) = "missed" := by
      unfold wordAt
      have := ix_mid (xs := found.map some) (ys := rest) (y := some r)
      rw [List.length_map] at this
      rw [this]; rfl
    rw [ff, keptT]
    by_cases hm : misses sp found.getLast? r = true
    · rw [if_pos hm, if_pos hm, if_neg (by simp), e]
    · rw [if_neg hm, if_neg hm]
      have ih := fault_kept sp rest (found ++ [r])
      rw [List.length_append, List.getLast?_append] at ih
      simp only [List.length_singleton, List.getLast?_singleton, Option.some_or, List.map_append, List.map_cons, List.map_nil, List.append_assoc, List.singleton_append] at ih
      rw [ih, List.length_cons]
      rw [show found.length + 1 + rest.length = found.length + (rest.length + 1) by omega]
theorem fault_first (row : Row) (sp : Spans) : firstFault row sp = lawFirst row sp := by
  have h := fault_kept sp row []
  unfold firstFault lawFirst kept
  simp only [List.length_nil, List.getLast?_nil, List.map_nil, List.nil_append, Nat.zero_add] at h
  rw [h]
  by_cases q : (keptT sp [] row).length = row.length
  · rw [if_pos q, if_pos (by omega)]
  · rw [if_neg q, if_neg (by omega)]
theorem ff_more (sp : Spans) : ∀ (rest : Row) (i : Nat) (prev : Option Ride), ff sp i prev (rest ++ [none]) = some ((ff sp i prev rest).getD (((i + rest.length : Nat) : Int), "gone"))
  | [], i, prev => by simp [ff]
  | none :: rest, i, prev => by simp [ff]
  | some r :: rest, i, prev => by
    rw [List.cons_append, ff, ff]
    split
    · rfl
    · rw [ff_more sp rest, List.length_cons, show i + 1 + rest.length = i + (rest.length + 1) by omega]
/-! ### what stands, what is ridden -/
theorem kept_take (row : Row) (sp : Spans) : (kept row sp).map some = row.take (kept row sp).length := by
  obtain ⟨n, h1, h2⟩ := kept_sub sp row []
  rw [List.map_nil, List.nil_append] at h2
  have e := congrArg List.length h2
  rw [List.length_map, List.length_take, Nat.min_eq_left h1] at e
  have e : (kept row sp).length = n := e
  rw [e]
  exact h2
/-! ### spares and waits -/
def gap (rs : List Ride) (sp : Spans) (k : Int) : Int := (ix rs (k + 1)).2.2.2.1 - span sp (ix rs k).2.2.1 - (ix rs k).2.2.2.2
def spareT (rs : List Ride) (sp : Spans) : List (Option Int) := (upTo ((rs.length : Int) - 1)).map (fun k => some (gap rs sp k)) ++ (if (!rs.isEmpty) = true then [none] else [])
instance : Inhabited (Option Int) := ⟨none⟩
def SpOk (sp : Spans) (rs : List Ride) : Prop := ∀ r ∈ rs, has sp r.2.2.1 = true
def N_spare : List Str := ["rides", "spans", "found", "at"]
theorem sc_spare : FnScope N_spare ["rides", "spans"] (defScope s_spare) := ⟨rfl, rfl, rfl, by decide +kernel, rfl, by decide +kernel, by decide +kernel⟩
def spSpare : Sp := fsp (ι := List Ride × Spans) (fun i => SpOk i.2 i.1 ∧ i.1.length ≤ 1000) (fun i => [.is (rL rRide) i.1, .is rSp i.2]) (fun i => .res (oL (rO rI)) (spareT i.1 i.2))
section
variable {P : Program} {w : World} {K : PySem.W.Frag} {mg : Str → Option Value} {base : Heap}
theorem fk_spare {f : Addr} {fd : FuncData} (Fn : FnP K "spare" "spare" s_spare f fd) (hm : mg "spare" = some (.ref f)) (hf : Free mg) : Fk P w K mg base 1 "spare" ["rides", "spans"] spSpare := by
  refine fk_of Fn (fn_pure Fn sc_spare (fun _ => rfl) (fun i hp X C => ?_)) hm fun _ _ _ _ _ _ us hl => match us, hl with | [_, _], _ => rfl
  obtain ⟨rs, sp⟩ := i
  obtain ⟨hp, hz⟩ := hp
  simp only at hp hz ⊢
  refine xb_cons (xs_asgO C 2 (xo_newL (rO rI) xl_nil) (by decide +kernel) ?_)
  refine xb_cut [.is (rL rRide) rs, .is rSp sp, .res (oL (rO rI)) ((upTo ((rs.length : Int) - 1)).map fun k => some (gap rs sp k)), .any] ?_ ?_
  · refine xs_forF C (fun row => [.is (rL rRide) rs, .is rSp sp, .res (oL (rO rI)) row, .any]) (fun row k => row ++ [some (gap rs sp k)]) (fun i row => row.length = i) [] (xi_range1 C (hf.at_ (by decide +kernel)) (xe_bin o_sub (xe_len C hf (xe_var C 0 rfl)) xe_int trivial) (by omega)) (xg_name C 3 (by decide +kernel)) (.refl _) rfl (fun i k row hx hI => ?_) (fun Γ' wk hI => ?_)
    · obtain ⟨k1, k2⟩ := upTo_get hx
      have r0 : inR rs k := ⟨by omega, by omega⟩
      have r1 : inR rs (k + 1) := ⟨by omega, by omega⟩
      refine xb_one (xs_append C 2 (xs := row) (R := rO rI) (x := some (gap rs sp k)) (xe_some (xe_eq (xe_bin o_sub (xe_bin o_sub (a3 (xe_ix i_list (xe_var C 0 rfl) (xe_bin o_add (xe_var C 3 rfl) xe_int trivial) r1)) (xe_dget C (A := kS) (xe_var C 1 rfl) (a2 (xe_ix i_list (xe_var C 0 rfl) (xe_var C 3 rfl) r0)) (hp _ (ix_mem r0))) trivial) (a4l (xe_ix i_list (xe_var C 0 rfl) (xe_var C 3 rfl) r0)) trivial) rfl)) (by decide +kernel) (by omega) ?_)
      exact ⟨.same (.same (.same (.any .nil))), by simp [hI]⟩
    · rw [fold_app, List.nil_append] at wk
      exact wk
  refine xb_cut [.is (rL rRide) rs, .is rSp sp, .res (oL (rO rI)) (spareT rs sp), .any] ?_ (xb_one (xs_retV C 2 (by decide +kernel) rfl))
  refine xs_if (xt_truL (xe_var C 0 rfl)) (fun hb => ?_) (fun hb => ?_)
  · refine xb_one (xs_append C 2 (xs := (upTo ((rs.length : Int) - 1)).map fun k => some (gap rs sp k)) (R := rO rI) (x := none) xe_none (by decide +kernel) (by rw [List.length_map, upTo_len]; omega) ?_)
    have e : spareT rs sp = (upTo ((rs.length : Int) - 1)).map (fun k => some (gap rs sp k)) ++ [none] := by unfold spareT; rw [if_pos hb]
    rw [e]
    exact Wk.refl _
  · refine xb_nil ⟨_, .refl _, ?_⟩
    have e : spareT rs sp = (upTo ((rs.length : Int) - 1)).map fun k => some (gap rs sp k) := by unfold spareT; rw [if_neg (by rw [hb]; decide), List.append_nil]
    rw [e]
    exact Wk.refl _
end
abbrev rWait : Rp (Str × Int × Int) := rT (wc rS (wc rI (w1 rI)))
def waitAt (rs : List Ride) (k : Int) : Str × Int × Int := ((ix rs k).2.2.1, (ix rs k).2.2.2.2, (ix rs (k + 1)).2.2.2.1)
def waitsT (rs : List Ride) : List (Str × Int × Int) := ((upTo ((rs.length : Int) - 1)).filter fun _ => true).map (waitAt rs)
def N_waits : List Str := ["rides", "at"]
theorem sc_waits : FnScope N_waits ["rides"] (defScope s_waits) := ⟨rfl, rfl, rfl, by decide +kernel, rfl, by decide +kernel, by decide +kernel⟩
def spWaits : Sp := fsp (ι := List Ride) (fun i => i.length ≤ 1000) (fun i => [.is (rL rRide) i]) (fun i => .res (oL rWait) (waitsT i))
section
variable {P : Program} {w : World} {K : PySem.W.Frag} {mg : Str → Option Value} {base : Heap}
theorem fk_waits {f : Addr} {fd : FuncData} (Fn : FnP K "waits" "waits" s_waits f fd) (hm : mg "waits" = some (.ref f)) (hf : Free mg) : Fk P w K mg base 1 "waits" ["rides"] spWaits := by
  refine fk_of Fn (fn_pure Fn sc_waits (fun _ => rfl) (fun rs hp X C => ?_)) hm fun _ _ _ _ _ _ us hl => match us, hl with | [_], _ => rfl
  have hp : rs.length ≤ 1000 := hp
  refine xb_one (xs_retO (xo_comp C [("at", 1)] (fun _ => true) (waitAt rs) (xi_range1 C (hf.at_ (by decide +kernel)) (xe_bin o_sub (xe_len C hf (xe_var C 0 rfl)) xe_int trivial) (by omega)) (by rw [upTo_len]; have e : sizeLine = 16777216 := sizeLine_eq; omega) (fun X' C' => xg_name C' 1 (by decide +kernel)) (fun X' C' k hk => xts_nil) (fun X' C' k hk _ => ?_)) rfl)
  obtain ⟨i, hi⟩ := List.getElem?_of_mem hk
  obtain ⟨k1, k2⟩ := upTo_get hi
  have r0 : inR rs k := ⟨by omega, by omega⟩
  have r1 : inR rs (k + 1) := ⟨by omega, by omega⟩
  exact xe_eq (xe_tup (xr_c (a2 (xe_ix i_list (xe_var C' 0 rfl) (xe_var C' 1 rfl) r0)) (xr_c (a4l (xe_ix i_list (xe_var C' 0 rfl) (xe_var C' 1 rfl) r0)) (xr_1 (a3 (xe_ix i_list (xe_var C' 0 rfl) (xe_bin o_add (xe_var C' 1 rfl) xe_int trivial) r1)))))) rfl
end
/-! ### the law -/
def Chn (sp : Spans) (rs : List Ride) : Prop := ∀ (k : Nat) (p r : Ride), rs[k]? = some p → rs[k + 1]? = some r → hangT p r sp = true
theorem chn_add {sp : Spans} {rs : List Ride} {r : Ride} (h : Chn sp rs) (q : ¬ misses sp rs.getLast? r = true) : Chn sp (rs ++ [r]) := by
  intro k p r' h1 h2
  by_cases e : k + 1 < rs.length
  · rw [List.getElem?_append_left (by omega)] at h1
    rw [List.getElem?_append_left e] at h2
    exact h k p r' h1 h2
  · have hl : k + 1 < (rs ++ [r]).length := (List.getElem?_eq_some_iff.mp h2).1
    rw [List.length_append, List.length_singleton] at hl
    have ek : k + 1 = rs.length := by omega
    rw [ek, List.getElem?_concat_length] at h2
    cases h2
    rw [List.getElem?_append_left (by omega)] at h1
    have : rs.getLast? = some p := by rw [List.getLast?_eq_getElem?, show rs.length - 1 = k by omega]; exact h1
    rw [this] at q
    unfold misses at q
    simpa using q
theorem kept_chn (sp : Spans) : ∀ (row : Row) (found : List Ride), Chn sp found → Chn sp (keptT sp found row)
  | [], _, h => h
  | none :: _, _, h => by unfold keptT; exact h
  | some r :: rest, found, h => by
    unfold keptT
    split
    · exact h
    · rename_i q
      exact kept_chn sp rest _ (chn_add h q)
theorem upTo_at {n : Int} {i : Nat} (h : (i : Int) < n) : (upTo n)[i]? = some (i : Int) := by
  unfold upTo
  rw [List.getElem?_map, List.getElem?_range (by omega)]; rfl
theorem spare_at (rs : List Ride) (sp : Spans) {i : Nat} (h : (i : Int) < rs.length - 1) : ix (spareT rs sp) (i : Int) = some (gap rs sp i) ∧ inR (spareT rs sp) (i : Int) := by
  have e : (spareT rs sp)[i]? = some (some (gap rs sp i)) := by
    unfold spareT
    rw [List.getElem?_append_left (by rw [List.length_map, upTo_len]; omega), List.getElem?_map, upTo_at h]; rfl
  exact ⟨ix_nat e, by omega, by
    have := (List.getElem?_eq_some_iff.mp e).1
    omega⟩
theorem spare_len (rs : List Ride) (sp : Spans) : (spareT rs sp).length = rs.length := by
  unfold spareT
  rw [List.length_append, List.length_map, upTo_len]
  cases rs with
  | nil => rfl
  | cons r rs => simp
theorem spare_last (rs : List Ride) (sp : Spans) (h : (!(spareT rs sp).isEmpty) = true) : ix (spareT rs sp) (-1) = none ∧ inR (spareT rs sp) (-1) := by
  have hl := spare_len rs sp
  refine last_ix ?_
  cases rs with
  | nil => rw [List.length_eq_zero_iff.mp hl] at h; cases h
  | cons r rs => simp [spareT]
theorem kept_in {row : Row} {sp : Spans} {r : Ride} (h : r ∈ kept row sp) : some r ∈ row := by
  have e := kept_take row sp
  have : some r ∈ (kept row sp).map some := List.mem_map_of_mem h
  rw [e] at this
  exact List.mem_of_mem_take this
def N_law : List Str := ["_law_script", "_law_names_here", "_law_spans", "_law_row", "_law_base", "_law_rides", "_law_handed", "_law_known", "_law_told", "_law_due", "_law_k", "_law_one", "_law_there"]
theorem sc_law : FnScope N_law ["_law_script"] (defScope s_law) := ⟨rfl, rfl, rfl, by decide +kernel, rfl, by decide +kernel, by decide +kernel⟩
section
variable {P : Program} {w : World} {K : PySem.W.Frag} {mg : Str → Option Value} {base : Heap}
theorem ok_law {n : Nat} {f : Addr} {fd : FuncData} (Fn : FnP K "law" "law" s_law f fd) (hf : Free mg) (Gl : Fk P w K mg base 3 "_law_line" ["_law_script", "_law_at"] (spLine K)) (Gs : Fk P w K mg base 4 "_law_same" ["_law_found", "_law_due"] (spSame 3))
    (Gk : Fk P w K mg base 2 "_law_kept" ["_law_rides", "_law_spans"] spKept) (Gh : Fk P w K mg base 1 "_law_hang" ["_law_ride", "_law_after", "_law_spans"] spHang) (Gp : Fk P w K mg base 1 "spare" ["rides", "spans"] spSpare) (Gw : Fk P w K mg base 1 "waits" ["rides"] spWaits) : FnOk P w K mg base CX0 5 f fd ["_law_script"] (spLaw K n) := by
  refine fn_pure Fn sc_law (fun _ => rfl) (fun s hp X C => ?_)
  refine xb_cons (xs_unpack (xe_call C Gl (s, 0) (xa_cons (xe_var C 0 rfl) (xa_cons xe_int xa_nil)) ⟨by simp, by simp⟩) (xg_tup C (xgs_c (xg_name C 1 (by decide +kernel)) (xgs_c (xg_name C 2 (by decide +kernel)) (xgs_c (xg_name C 3 (by decide +kernel)) (xgs_1 (xg_name C 4 (by decide +kernel))))))) ?_)
  have ro := line_row s 0
  have rl := (line_ok s 0).2
  have uq := (world_ok s 0 9 (by decide)).uq
  show XB X [.is (rSc K) s, .is (rL rS) (worldT s 0 9).names, .is rSp (worldT s 0 9).spans, .is rRow (lineRow s 0), .is rI (worldT s 0 9).base, .any, .any, .any, .any, .any, .any, .any, .any] _ _
  generalize worldT s 0 9 = W at ro uq ⊢
  generalize lineRow s 0 = row at ro rl ⊢
  refine xb_cons (xs_asg C 5 (xe_ofO (A := oL rRide) (xo_call C Gk (row, W.spans) (xa_cons (xe_var C 3 rfl) (xa_cons (xe_var C 2 rfl) xa_nil)) ⟨ro, Nat.le_trans rl (by decide)⟩)) (by decide +kernel) ?_)
  have kl : (kept row W.spans).length ≤ 7 := Nat.le_trans (kept_len row W.spans) rl
  have ch : Chn W.spans (kept row W.spans) := kept_chn W.spans row [] (fun k p r h => by simp at h)
  have so : SpOk W.spans (kept row W.spans) := fun r h => ro r (kept_in h)
  show XB X [.is (rSc K) s, .is (rL rS) W.names, .is rSp W.spans, .is rRow row, .is rI W.base, .is (rL rRide) (kept row W.spans), .any, .any, .any, .any, .any, .any, .any] _ _
  generalize kept row W.spans = rs at kl ch so ⊢
  have zl : rs.length ≤ 1000 := by omega
  refine xb_cons (xs_asg C 6 (xe_ofO (A := oL rRide) (xo_t1 C hf n_list (xe_var C 5 rfl) trivial boot_list)) (by decide +kernel) ?_)
  refine xb_cons (xs_asg C 7 (xe_ofO (A := oK kS rI) (xo_t1 C hf n_dict (xe_var C 2 rfl) trivial boot_dict)) (by decide +kernel) ?_)
  refine xb_cons (xs_asgO C 8 (xo_call C Gp (rs, W.spans) (xa_cons (xe_var C 6 rfl) (xa_cons (xe_var C 7 rfl) xa_nil)) ⟨so, zl⟩) (by decide +kernel) ?_)
  show XB X [.is (rSc K) s, .is (rL rS) W.names, .is rSp W.spans, .is rRow row, .is rI W.base, .is (rL rRide) rs, .is (rL rRide) rs, .is rSp W.spans, .res (oL (rO rI)) (spareT rs W.spans), .any, .any, .any, .any] _ _
  have sl := spare_len rs W.spans
  refine xb_cons (xs_if (p := false) ?_ (fun h => by cases h) (fun _ => xb_nil ⟨_, .refl _, ?_⟩))
  · have e1 : (!decide (((spareT rs W.spans).length : Int) = rs.length)) = false := by rw [sl]; simp
    cases he : (!(spareT rs W.spans).isEmpty) with
    | false =>
      refine xt_eq (xt_view (xt_w (xw_or (xt_cmp o_neI (xe_len C hf (xe_var C 8 rfl)) (xe_len C hf (xe_var C 5 rfl)) trivial) (fun _ => xw_or1 (xt_w (xw_and (q := false) (xt_truL (xe_var C 8 rfl)) (fun h => by rw [he] at h; cases h))))))) ?_
      rw [e1, he]; rfl
    | true =>
      obtain ⟨e2, inr⟩ := spare_last rs W.spans he
      refine xt_eq (xt_view (xt_w (xw_or (xt_cmp o_neI (xe_len C hf (xe_var C 8 rfl)) (xe_len C hf (xe_var C 5 rfl)) trivial) (fun _ => xw_or1 (xt_w (xw_and (xt_truL (xe_var C 8 rfl)) (fun _ => xw_and1 (xt_cmp o_notN (xe_eq (xe_ix i_list (xe_var C 8 rfl) (xe_neg xe_int) inr) e2) xe_unit trivial)))))))) ?_
      rw [e1, he]; rfl
  refine xb_cons (xs_asgO C 9 (xo_newL rWait xl_nil) (by decide +kernel) ?_)
  refine xb_cut [.is (rSc K) s, .is (rL rS) W.names, .is rSp W.spans, .is rRow row, .is rI W.base, .is (rL rRide) rs, .is (rL rRide) rs, .is rSp W.spans, .res (oL (rO rI)) (spareT rs W.spans), .res (oL rWait) (waitsT rs), .any, .any, .any] ?_ ?_
  · have ew : (upTo ((rs.length : Int) - 1)).foldl (fun due k => due ++ [waitAt rs k]) [] = waitsT rs := by
      rw [fold_app]
      unfold waitsT
      rw [List.filter_eq_self.mpr (fun _ _ => rfl), List.nil_append]
    refine xs_forF C (fun due => [.is (rSc K) s, .is (rL rS) W.names, .is rSp W.spans, .is rRow row, .is rI W.base, .is (rL rRide) rs, .is (rL rRide) rs, .is rSp W.spans, .res (oL (rO rI)) (spareT rs W.spans), .res (oL rWait) due, .any, .any, .any]) (fun due k => due ++ [waitAt rs k]) (fun i due => due.length = i) []
      (xi_range1 C (hf.at_ (by decide +kernel)) (xe_bin o_sub (xe_len C hf (xe_var C 5 rfl)) xe_int trivial) (by omega)) (xg_name C 10 (by decide +kernel)) (.refl _) rfl (fun i k due hx hI => ?_) (fun Γ' wk hI => by rw [ew] at wk; exact wk)
    obtain ⟨k1, k2⟩ := upTo_get hx
    subst k1
    obtain ⟨tk, inr⟩ := spare_at rs W.spans k2
    have r0 : inR rs (i : Int) := ⟨by omega, by omega⟩
    have r1 : inR rs ((i : Int) + 1) := ⟨by omega, by omega⟩
    have g0 : rs[i]? = some (ix rs (i : Int)) := by
      have h : i < rs.length := by omega
      rw [List.getElem?_eq_getElem h, ix_nat (List.getElem?_eq_getElem h)]
    have g1 : rs[i + 1]? = some (ix rs ((i : Int) + 1)) := by
      have h : i + 1 < rs.length := by omega
      have := ix_nat (List.getElem?_eq_getElem h)
      rw [show ((i + 1 : Nat) : Int) = (i : Int) + 1 by omega] at this
      rw [List.getElem?_eq_getElem h, this]
    have hh := ch i _ _ g0 g1
    have hg : gap rs W.spans i = (ix rs ((i : Int) + 1)).2.2.2.1 - span W.spans (ix rs (i : Int)).2.2.1 - (ix rs (i : Int)).2.2.2.2 := rfl
    have hsp : has W.spans (ix rs (i : Int)).2.2.1 = true := so _ (ix_mem r0)
    have hd1 : (ix rs (i : Int)).2.2.1 = (ix rs ((i : Int) + 1)).2.1 ∧ (ix rs (i : Int)).2.2.2.2 + span W.spans (ix rs (i : Int)).2.2.1 ≤ (ix rs ((i : Int) + 1)).2.2.2.1 := by
      unfold hangT at hh
      simpa using hh
    have T : ∀ {Γ : Gm} {p1 p2 p3 : Pos}, Γ[8]? = some (.is (rL (rO rI)) (spareT rs W.spans)) → Γ[10]? = some (.is rI (i : Int)) → XE X Γ (.Subscript (.Name "_law_told" p1) (.Name "_law_k" p2) p3) rI (gap rs W.spans i) :=
      fun h1 h2 => xe_get (R := rI) (z := gap rs W.spans i) (xe_eq (xe_ix i_list (xe_var C 8 h1) (xe_var C 10 h2) inr) tk)
    have h0 : 0 ≤ gap rs W.spans i := by rw [hg]; omega
    refine xb_cons (xs_if (xt_not (xt_val (xe_view (xe_same (R := rI) C Gs (T rfl rfl) (xe_b1 C hf c_abs (T rfl rfl) trivial boot_abs))))) (fun hb => ?_) (fun _ => xb_nil ⟨_, .refl _, ?_⟩))
    · exfalso
      have e : absI (gap rs W.spans i) = gap rs W.spans i := by unfold absI; rw [if_neg (by omega)]
      revert hb
      simp [e]
    refine xb_cons (xs_asg C 11 (xe_ix i_list (xe_var C 5 rfl) (xe_var C 10 rfl) r0) (by decide +kernel) ?_)
    refine xb_cons (xs_if (p := false) (xt_eq (xt_not (xt_val (xe_view (xe_call C Gh (((ix rs (i : Int)).1, (ix rs (i : Int)).2.1, (ix rs (i : Int)).2.2.1, (ix rs (i : Int)).2.2.2.1, (ix rs (i : Int)).2.2.2.2 + gap rs W.spans i), ix rs ((i : Int) + 1), W.spans)
      (xa_cons (R := rRide) (x := ((ix rs (i : Int)).1, (ix rs (i : Int)).2.1, (ix rs (i : Int)).2.2.1, (ix rs (i : Int)).2.2.2.1, (ix rs (i : Int)).2.2.2.2 + gap rs W.spans i)) (xe_eq (xe_bin (o_catT (T := wc rI (wc rS (wc rS (w1 rI)))) (T' := w1 rI)) (xe_take 4 (xe_var C 11 rfl)) (xe_tup (xr_1 (xe_bin o_add (a4l (xe_var C 11 rfl)) (T rfl rfl) trivial))) trivial) rfl)
        (xa_cons (xe_ix i_list (xe_var C 5 rfl) (xe_bin o_add (xe_var C 10 rfl) xe_int trivial) r1) (xa_cons (xe_var C 2 rfl) xa_nil))) hsp)))) ?_) (fun h => by cases h) (fun _ => xb_nil ⟨_, .refl _, ?_⟩))
    · have : hangT ((ix rs (i : Int)).1, (ix rs (i : Int)).2.1, (ix rs (i : Int)).2.2.1, (ix rs (i : Int)).2.2.2.1, (ix rs (i : Int)).2.2.2.2 + gap rs W.spans i) (ix rs ((i : Int) + 1)) W.spans = true := by
        unfold hangT
        rw [decide_eq_true hd1.1, decide_eq_true (by simp only; rw [hg]; omega)]; rfl
      show (!hangT _ _ _) = false
      rw [this]; rfl
    refine xb_cons (xs_if (p := false) (xt_eq (xt_val (xe_view (xe_call C Gh (((ix rs (i : Int)).1, (ix rs (i : Int)).2.1, (ix rs (i : Int)).2.2.1, (ix rs (i : Int)).2.2.2.1, (ix rs (i : Int)).2.2.2.2 + gap rs W.spans i + 1), ix rs ((i : Int) + 1), W.spans)
      (xa_cons (R := rRide) (x := ((ix rs (i : Int)).1, (ix rs (i : Int)).2.1, (ix rs (i : Int)).2.2.1, (ix rs (i : Int)).2.2.2.1, (ix rs (i : Int)).2.2.2.2 + gap rs W.spans i + 1)) (xe_eq (xe_bin (o_catT (T := wc rI (wc rS (wc rS (w1 rI)))) (T' := w1 rI)) (xe_take 4 (xe_var C 11 rfl)) (xe_tup (xr_1 (xe_bin o_add (xe_bin o_add (a4l (xe_var C 11 rfl)) (T rfl rfl) trivial) xe_int trivial))) trivial) rfl)
        (xa_cons (xe_ix i_list (xe_var C 5 rfl) (xe_bin o_add (xe_var C 10 rfl) xe_int trivial) r1) (xa_cons (xe_var C 2 rfl) xa_nil))) hsp))) ?_) (fun h => by cases h) (fun _ => xb_nil ⟨_, .refl _, ?_⟩))
    · show hangT _ _ _ = false
      unfold hangT
      rw [decide_eq_false (p := _ ≤ _) (by simp only; rw [hg]; omega), Bool.and_false]
    refine xb_one (xs_append C 9 (xs := due) (R := rWait) (x := waitAt rs (i : Int)) (xe_eq (xe_tup (xr_c (a2 (xe_var C 11 rfl)) (xr_c (a4l (xe_var C 11 rfl)) (xr_1 (a3 (xe_ix i_list (xe_var C 5 rfl) (xe_bin o_add (xe_var C 10 rfl) xe_int trivial) r1)))))) rfl) (by decide +kernel) (by omega) ?_)
    exact ⟨.same (.same (.same (.same (.same (.same (.same (.same (.same (.same (.any (.any (.same .nil)))))))))))), by simp [hI]⟩
  refine xb_cons (xs_forget C 8 (xs := spareT rs W.spans) ?_ (by decide +kernel))
  refine xb_cons (xs_asgO C 12 (xo_call C Gw rs (xa_cons (xe_var C 6 rfl) xa_nil) zl) (by decide +kernel) ?_)
  refine xb_cons (xs_if (xt_w (xw_or (xt_not (xt_val (xe_view (xe_same (R := rL rWait) C Gs (xe_var C 12 rfl) (xe_var C 9 rfl))))) (fun _ => xw_or1 (xt_cmp o_neI (xe_len C hf (xe_ofO (A := oL (rO rI)) (xo_call C Gp (rs, W.spans) (xa_cons (xe_var C 6 rfl) (xa_cons (xe_var C 2 rfl) xa_nil)) ⟨so, zl⟩))) (xe_len C hf (xe_var C 5 rfl)) trivial)))) (fun hb => ?_) (fun _ => xb_nil ⟨_, .refl _, ?_⟩))
  · exfalso
    revert hb
    simp [sl]
  have wl : (waitsT rs).length ≤ 1000 := by
    unfold waitsT
    rw [List.length_map]
    refine Nat.le_trans (List.length_filter_le _ _) ?_
    rw [upTo_len]; omega
  refine xb_any (R := rWait) (xs := waitsT rs) 12 rfl ?_
  refine xb_cons (xs_append C 12 (xs := (waitsT rs).map fun _ => ()) (R := rAny) (x := ()) (xe_any (R := rI) (x := 0) xe_int) (by decide +kernel) (by rw [List.length_map]; omega) ?_)
  refine xb_one (xs_ret' (xe_and (xe_view (xe_same (R := rL rWait) C Gs (xe_ofO (A := oL rWait) (xo_call C Gw rs (xa_cons (xe_var C 6 rfl) xa_nil) zl)) (xe_var C 9 rfl))) (fun _ => xe_and (xe_cmp (o_eq (R := rL rRide) C) (xe_var C 6 rfl) (xe_var C 5 rfl) trivial) (fun _ => xe_one (xe_cmp (o_eqD C (by decide)) (xe_var C 7 rfl) (xe_var C 2 rfl) trivial)))) ?_ rfl)
  simp [dEq_refl uq]
end
end Wf
set_option maxHeartbeats 0
namespace Hd
open PySem PySem.Spec PyProof.Rows L2 Wf
def dd (x : Str) (st : Stmt) : He.DefD :=
  ⟨(x, none), x, x, defArgs st, defBody st, defScope st, [], []⟩
def fn : List He.DefD :=
  [dd "spare" s_spare,
   dd "waits" s_waits,
   dd "_law_draws" s_draws,
   dd "_law_same" s_same,
   dd "_law_names" s_names,
   dd "_law_hang" s_hang,
   dd "_law_kept" s_kept,
   dd "_law_world" s_world,
   dd "_law_line" s_line,
   dd "law" s_law]
def fr : List He.Fa := bnames.map He.Fa.free
def fa : List He.Fa :=
  [.glo "spare",
   .glo "waits",
   .glo "_law_draws",
   .glo "_law_same",
   .glo "_law_names",
   .glo "_law_hang",
   .glo "_law_kept",
   .glo "_law_world",
   .glo "_law_line",
   .glo "law"] ++ fr
abbrev rr : PySem.W.OpenRow :=
  PySem.W.OpenLaw.row
    PySem.Challenge.rw_wayhold_k06_whole_spares_and_waits
abbrev hh : PySem.W.Hook :=
  He.hookD 4 fa fn
def oo (s : PySem.W.SharedT) : He.AlD :=
  He.obsDG 4 fa fn (HandSHeadRun.getT s)
theorem oo_hh (s : PySem.W.SharedT) :
    oo s = hh.obs s.abs :=
  He.obsDG_eq (HandSHeadRun.getT_eq s)
def ll : List PySem.Str :=
  (["spare", "waits", "_law_draws", "_law_same", "_law_names", "_law_hang", "_law_kept", "_law_world", "_law_line"] : List PySem.Str)
theorem goes (w : World) :
    HandSHeadRun.RunEq rr (PySem.W.view rr.prog [11]) hh oo
      3000 ll w := by
  intro os
  kernel_rfl
theorem told {P : Program} {w : World} {K : PySem.W.Frag}
    {h : Heap} {mg : Str → Option Value} {f : Addr}
    (X : K.In h) (G : h.Ns mainGlobals mg)
    (hfa : mg ("law" : Str) = some (.ref f))
    (c : He.SaysD fa fn K) : ∃ fd : FuncData,
      (∀ (s : Shared) (v : Value),
        BindsTo s fd ⟨[v], []⟩ [("_law_script", v)]) ∧
      ∀ base : Heap, K.In base → base.Ns mainGlobals mg →
        FnOk P w K mg base CX0 5 f fd ["_law_script"]
          (spLaw K 63) := by
  obtain ⟨fd0, F0⟩ := c.def_ 0 (d := dd "spare" s_spare) rfl
  have g0 := He.glo_ok X G (c.fact 0 (f := .glo "spare") rfl)
  obtain ⟨fd1, F1⟩ := c.def_ 1 (d := dd "waits" s_waits) rfl
  have g1 := He.glo_ok X G (c.fact 1 (f := .glo "waits") rfl)
  obtain ⟨fd2, F2⟩ := c.def_ 2 (d := dd "_law_draws" s_draws) rfl
  have g2 := He.glo_ok X G (c.fact 2 (f := .glo "_law_draws") rfl)
  obtain ⟨fd3, F3⟩ := c.def_ 3 (d := dd "_law_same" s_same) rfl
  have g3 := He.glo_ok X G (c.fact 3 (f := .glo "_law_same") rfl)
  obtain ⟨fd4, F4⟩ := c.def_ 4 (d := dd "_law_names" s_names) rfl
  have g4 := He.glo_ok X G (c.fact 4 (f := .glo "_law_names") rfl)
  obtain ⟨fd5, F5⟩ := c.def_ 5 (d := dd "_law_hang" s_hang) rfl
  have g5 := He.glo_ok X G (c.fact 5 (f := .glo "_law_hang") rfl)
  obtain ⟨fd6, F6⟩ := c.def_ 6 (d := dd "_law_kept" s_kept) rfl
  have g6 := He.glo_ok X G (c.fact 6 (f := .glo "_law_kept") rfl)
  obtain ⟨fd7, F7⟩ := c.def_ 7 (d := dd "_law_world" s_world) rfl
  have g7 := He.glo_ok X G (c.fact 7 (f := .glo "_law_world") rfl)
  obtain ⟨fd8, F8⟩ := c.def_ 8 (d := dd "_law_line" s_line) rfl
  have g8 := He.glo_ok X G (c.fact 8 (f := .glo "_law_line") rfl)
  obtain ⟨fd9, F9⟩ := c.def_ 9 (d := dd "law" s_law) rfl
  have g9 := He.glo_ok X G (c.fact 9 (f := .glo "law") rfl)
  have hf : Free mg := fun x hx => by
    obtain ⟨i, hi⟩ := List.getElem?_of_mem hx
    refine He.free_ok X G (c.fact (i + 10) (f := .free x) ?_)
    show (([.glo "spare", .glo "waits", .glo "_law_draws", .glo "_law_same", .glo "_law_names", .glo "_law_hang", .glo "_law_kept", .glo "_law_world", .glo "_law_line", .glo "law"] : List He.Fa) ++ fr)[i + 10]? = _
    rw [List.getElem?_append_right (by simp)]
    simp [fr, hi]
  have e := hfa.symm.trans g9
  cases e
  have b := FunD.bindsA (ps := ["_law_script"]) F9
    fun _ _ _ _ _ _ us hl => match us, hl with | [_], _ => rfl
  refine ⟨fd9, fun s v => b s [v] rfl, fun base _ _ => ?_⟩
  have Gd := fk_draws (P := P) (w := w) (base := base) F2 g2 hf
  have Gs := fk_same (P := P) (w := w) (base := base) F3 g3 hf 3
  have Gn := fk_names (P := P) (w := w) (base := base) F4 g4 hf
  have Gw := fk_world (P := P) (w := w) (base := base) F7 g7 hf Gd Gn
  have Gh := fk_hang (P := P) (w := w) (base := base) F5 g5
  have Gk := fk_kept (P := P) (w := w) (base := base) F6 g6 hf Gh
  have Gl := fk_line (P := P) (w := w) (base := base) F8 g8 hf Gd Gw Gh
  have Gp := fk_spare (P := P) (w := w) (base := base) F0 g0 hf
  have Gv := fk_waits (P := P) (w := w) (base := base) F1 g1 hf
  exact ok_law F9 hf Gl Gs Gk Gh Gp Gv
end Hd
open PySem PySem.W PySem.Calls PyProof.Rows
theorem PySem.Challenge.cw_wayhold_k06_whole_spares_and_waits_holds : PySem.Challenge.rw_wayhold_k06_whole_spares_and_waits.Holds := by
  w_on
  o_law
  refine HandSHeadRun.head_any (r := Hd.rr)
    (q := view Hd.rr.prog [11]) (H := Hd.hh) (ob := Hd.oo) (M := 3000)
    (loose := Hd.ll) (d := HandSHeadRun.topDef Hd.rr.prog 11) (kwd := [])
    Hd.oo_hh (by kernel_rfl) (fun s => by kernel_rfl) Hd.goes
    (by kernel_rfl) (by kernel_rfl) (by kernel_rfl) (by rfl)
    (by first | assumption | decide +kernel) (by decide +kernel)
    ⟨rfl, rfl, rfl, rfl, rfl, by decide +kernel⟩ ?hw ?hc
  case hw => w_witness2
  case hc =>
    refine L2.walk_ofE (l := PySem.Challenge.rw_wayhold_k06_whole_spares_and_waits)
      (n := 63) (k := 5) (x := "_law_script") (CX := L2.CX0) rfl (by decide)
      (by kernel_rfl) ⟨rfl, by decide, by decide⟩ ?F (fun _ _ _ _ z => z)
    intro w mg f h Y G m0
    obtain ⟨K, KX, c⟩ := Y
    have m1 : mg ("law" : PySem.Str) = some (.ref f) := by
      have e : (HandSHeadRun.topDef Hd.rr.prog 11).name
          = ("law" : PySem.Str) := by kernel_rfl
      rw [← e]
      exact m0
    obtain ⟨fd, hb, hF⟩ := Hd.told
      (P := (PySem.Challenge.rw_wayhold_k06_whole_spares_and_waits).prog) (w := w) KX G m1 c
    exact ⟨K, fd, Wf.spLaw K 63, KX, hb,
      fun H a ns hl _ hS => Wf.sp_end hl hS, hF⟩
