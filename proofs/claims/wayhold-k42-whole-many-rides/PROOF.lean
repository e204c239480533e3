import PyProof.Rows.All
import Wide.All
import OpenK.AllK
import Wide.FinOn
import HandS.ForMost
import HandS.Conv
import HandS.Lambda
import HandS.Exc
import HandS.HeadHook4
import HandS.HeadWalk
import HandS.ExcOwn
import HandS.CallSlots
import HandS.Defaults
import HandS.HeadHook1
import HandS.HeadHook2
import HandS.WordsExc
import HandS.Style
import HandS.TupAny
import HandS.Deep
import HandS.IsInst
import HandS.Text
import HandS.Flow
import HandS.Iter
import HandS.More
import KE.KEqDict
import KE.SortData
import KE.DataMinMax
import PyProof.LongRange
import PyProof.ListRange
import PyProof.CollectWalk
import HandS.SortKw
import KE.SortKeyHeap
import KE.KSortKey
import HandS.DictTup
import KE.KItemsList
import HandS.RaiseMore
import KE.DataCmp
import HandS.Strs
import HandS.DeepEq
import KE.KStateDown
import Lean
import HandS.Ends
import HandS.Words
import HandS.Head0
import HandS.Head1
import HandS.Head2
import HandS.HeadEnd
import PySem.Challenge.RW_wayhold_k42_whole_many_rides
set_option Elab.async false
set_option linter.all false
set_option maxRecDepth 100000
set_option maxHeartbeats 4000000
/-! Core of a typed layer over HandS: what slots hold, how a block changes them. -/
namespace Wf
open PySem L2

/-- the defs of the law's text that make a lambda -/
def lamDefs : List Str := ["by_leaving", "_law_plan", "_law_soon"]
/-- the tables of code objects that this law's text writes: address, name -/
def TabF (K : PySem.W.Frag) : List (Addr × Str) := lamDefs.map fun n => ((He.cT K (n, none)).2, n ++ ".<locals>.<lambda>")
/-! ### heaps -/
def vw : Option HO → Option HO
  | some (.tbl _) => none
  | x => x
/-- no table of code objects -/
def noTb (o : HO) : Prop := ∀ ps, o ≠ .tbl ps
def Vw (H : Hp) : Hp := fun a => vw (H a)
theorem Vw_of {H : Hp} {a : Addr} {u : HO} (h : H a = some u) (n : ∀ o w, u ≠ .frz o w) (t : noTb u) : Vw H a = some u := by
  unfold Vw; rw [h]
  cases u <;> first | rfl | exact absurd rfl (n _ _) | exact absurd rfl (t _)
theorem vw_frz {o : Obj} {u : HO} : vw (some (.frz o u)) = some u ∨ vw (some (.frz o u)) = some (.frz o u) := by
  cases u <;> first | exact .inl rfl | exact .inr rfl
theorem rd_of {H : Hp} {a : Addr} {u : HO} (h : Vw H a = some u) : Rd H a u := by
  unfold Vw at h
  cases q : H a with
  | none => rw [q] at h; cases h
  | some w =>
    rw [q] at h
    cases w <;> first
      | (rename_i o w'
         rcases vw_frz (o := o) (u := w') with e | e
         · rw [e] at h; cases h; exact .inr ⟨_, q⟩
         · rw [e] at h; cases h; exact .inl q)
      | (have e : some _ = some u := h; cases e; exact .inl q)
      | cases h
theorem tup_of {H : Hp} {a : Addr} {xs : List V} (h : Vw H a = some (.tup xs)) : H a = some (.tup xs) := by
  unfold Vw at h
  cases q : H a with
  | none => rw [q] at h; cases h
  | some w =>
    rw [q] at h
    cases w with
    | frz o u => cases u <;> cases h
    | tbl _ => cases h
    | _ => exact h
theorem vw_noTb {o u : HO} (h : vw (some o) = some u) : noTb o := fun ps e => by subst e; cases h
theorem of_vw {H : Hp} {p : Addr} {o : HO} (h : Vw H p = some o) : H p ≠ none := by
  intro e
  unfold Vw at h; rw [e] at h; cases h
/-- the tables of code objects that the law's text writes, by the fragment: address, name -/
def keptN (H H' : Hp) : Prop := ∀ p o, H p = some o → noTb o → H' p = some o
theorem keptN.vw {H H' : Hp} (h : keptN H H') : Same (Vw H) (Vw H') := by
  intro a u e
  unfold Vw at *
  cases q : H a with
  | none => rw [q] at e; cases e
  | some w => rw [q] at e; rw [h a w q (vw_noTb e)]; exact e
/-- an object that is no table stands at p -/
def Th (H : Hp) (p : Addr) : Prop := ∃ o, H p = some o ∧ noTb o
theorem ex_of {H : Hp} {p : Addr} (h : Th H p) : ∃ o, H p = some o := h.elim fun o q => ⟨o, q.1⟩
theorem Th.no {H : Hp} {p : Addr} (n : H p = none) : ¬ Th H p := fun ⟨o, h, _⟩ => by rw [n] at h; cases h
theorem Th.upd {H : Hp} {p q : Addr} {o : HO} (t : noTb o) (h : Th H q) : Th (upd H p o) q := by
  by_cases e : q = p
  · subst e; exact ⟨o, upd_same, t⟩
  · obtain ⟨u, h1, h2⟩ := h
    exact ⟨u, by rw [upd_ne e]; exact h1, h2⟩

/-- what the tables hold: TabF is the law's own -/
abbrev TbK (K : PySem.W.Frag) (H : Hp) : Prop := LamX.Tabs (TabF K) H
structure Good (K : PySem.W.Frag) (F H : Hp) (D : List Addr) : Prop where
  fh : Same F (Vw H)
  nd : D.Nodup
  dF : ∀ p ∈ D, F p = none
  dH : ∀ p ∈ D, Th H p
  dT : ∀ p ∈ D, ∀ o, H p = some o → noTb o
  tb : TbK K H
structure Grow (K : PySem.W.Frag) (F H F' H' : Hp) : Prop where
  ff : Same F F'
  fh : Same F' (Vw H')
  hh : keptN H H'
  hn : ∀ p, Th H p → Th H' p
  new : ∀ p, F p = none → Th H p → F' p = none
  tb : TbK K H → TbK K H'
structure Step (K : PySem.W.Frag) (F H : Hp) (D : List Addr) (F' H' : Hp) (D' : List Addr) : Prop where
  ff : Same F F'
  fh : Same F' (Vw H')
  keep : ∀ p o, H p = some o → noTb o → p ∉ D → H' p = some o
  dom : ∀ p, Th H p → Th H' p
  new : ∀ p, F p = none → Th H p → p ∉ D → F' p = none
  nd : D'.Nodup
  dF : ∀ p ∈ D', F' p = none
  dH : ∀ p ∈ D', Th H' p
  dT : ∀ p ∈ D', ∀ o, H' p = some o → noTb o
  dN : ∀ p ∈ D', p ∈ D ∨ ¬ Th H p
  tb : TbK K H → TbK K H'
section
variable {K : PySem.W.Frag} {F H F1 H1 F2 H2 : Hp} {D D1 D2 : List Addr}
theorem Grow.refl (h : Same F (Vw H)) : Grow K F H F H := ⟨.refl _, h, fun _ _ h _ => h, fun _ h => h, fun _ h _ => h, id⟩
theorem Grow.trans (a : Grow K F H F1 H1) (b : Grow K F1 H1 F2 H2) : Grow K F H F2 H2 :=
  ⟨a.ff.trans b.ff, b.fh, fun p o h t => b.hh p o (a.hh p o h t) t, fun p h => b.hn p (a.hn p h), fun p h h' => b.new p (a.new p h h') (a.hn p h'), fun t => b.tb (a.tb t)⟩
theorem Good.grow (g : Good K F H D) (a : Grow K F H F1 H1) : Good K F1 H1 D :=
  ⟨a.fh, g.nd, fun p hp => a.new p (g.dF p hp) (g.dH p hp), fun p hp => a.hn p (g.dH p hp), fun p hp o e => by
    obtain ⟨o', e'⟩ := ex_of (g.dH p hp)
    have t := g.dT p hp o' e'
    rw [a.hh p o' e' t] at e
    cases e; exact t, a.tb g.tb⟩
theorem Good.nil (h : Same F (Vw H)) (t : TbK K H) : Good K F H [] := ⟨h, List.nodup_nil, fun _ z => (by cases z), fun _ z => (by cases z), fun _ z => (by cases z), t⟩
theorem Good.sub (g : Good K F H D) (s : D1.Sublist D) : Good K F H D1 := ⟨g.fh, g.nd.sublist s, fun p hp => g.dF p (s.mem hp), fun p hp => g.dH p (s.mem hp), fun p hp => g.dT p (s.mem hp), g.tb⟩
theorem Step.good (a : Step K F H D F1 H1 D1) (t : TbK K H) : Good K F1 H1 D1 := ⟨a.fh, a.nd, a.dF, a.dH, a.dT, a.tb t⟩
theorem Step.refl (g : Good K F H D) : Step K F H D F H D := ⟨.refl _, g.fh, fun _ _ h _ _ => h, fun _ h => h, fun _ h _ _ => h, g.nd, g.dF, g.dH, g.dT, fun _ h => .inl h, id⟩
theorem Step.of (g : Good K F H D) (a : Grow K F H F1 H1) : Step K F H D F1 H1 D :=
  ⟨a.ff, a.fh, fun p o h t _ => a.hh p o h t, fun p h => a.hn p h, fun p h h' _ => a.new p h h', (g.grow a).nd, (g.grow a).dF, (g.grow a).dH, (g.grow a).dT, fun _ h => .inl h, a.tb⟩
theorem Step.trans (a : Step K F H D F1 H1 D1) (b : Step K F1 H1 D1 F2 H2 D2) : Step K F H D F2 H2 D2 where
  ff := a.ff.trans b.ff
  fh := b.fh
  keep := fun p o h t n => b.keep p o (a.keep p o h t n) t fun z => (a.dN p z).elim n fun q => q ⟨o, h, t⟩
  dom := fun p h => b.dom p (a.dom p h)
  new := fun p h h' n => b.new p (a.new p h h' n) (a.dom p h') fun z => (a.dN p z).elim n fun q => q h'
  nd := b.nd
  dF := b.dF
  dH := b.dH
  dT := b.dT
  dN := fun p hp => (b.dN p hp).elim (fun z => a.dN p z) fun z => .inr fun q => z (a.dom p q)
  tb := fun t => b.tb (a.tb t)
theorem Step.sub (a : Step K F H D F1 H1 D1) (s : D2.Sublist D1) : Step K F H D F1 H1 D2 :=
  ⟨a.ff, a.fh, a.keep, a.dom, a.new, a.nd.sublist s, fun p hp => a.dF p (s.mem hp), fun p hp => a.dH p (s.mem hp), fun p hp => a.dT p (s.mem hp), fun p hp => a.dN p (s.mem hp), a.tb⟩
theorem Step.grow (a : Step K F H [] F1 H1 D1) : Grow K F H F1 H1 := ⟨a.ff, a.fh, fun p o h t => a.keep p o h t (by simp), a.dom, fun p h h' => a.new p h h' (by simp), a.tb⟩
theorem tb_new {p : Addr} {o : HO} (n : H p = none) (t : TbK K H) : TbK K (upd H p o) := t.ext fun b u e => by rw [upd_ne (ne_of_none e n)]; exact e
/-- what is no table and no code object may be written -/
theorem tb_upd {p : Addr} {o o' : HO} (h : H p = some o) (t : noTb o) (x : ∀ f, o ≠ .ext f) (q : TbK K H) : TbK K (upd H p o') := fun z hz => by
  obtain ⟨ps, h1, h2, h3⟩ := q z hz
  refine ⟨ps, ?_, h2, fun pos cv hc => ?_⟩
  · rw [upd_ne (fun e => t ps (by rw [e, h] at h1; exact Option.some.inj h1))]; exact h1
  · obtain ⟨c, e1, e2⟩ := h3 pos cv hc
    refine ⟨c, e1, ?_⟩
    rw [upd_ne (fun e => x _ (by rw [e, h] at e2; exact Option.some.inj e2))]; exact e2
/-- a new object, frozen -/
theorem Grow.laid {p : Addr} {o : HO} (h : Same F (Vw H)) (n : H p = none) (z : ∀ a w, o ≠ .frz a w) (zt : noTb o := by intro _ z; cases z) : Grow K F H (upd F p o) (upd H p o) := by
  have nF : F p = none := by
    cases q : F p with
    | none => rfl
    | some u => exact absurd n (of_vw (h p u q))
  refine ⟨fun b u e => by rw [upd_ne (ne_of_none e nF)]; exact e, fun b u e => ?_, fun b u e _ => by rw [upd_ne (ne_of_none e n)]; exact e, fun b hb => ?_, fun b h1 h2 => ?_, tb_new n⟩
  · by_cases hb : b = p
    · subst hb; rw [upd_same] at e; cases e
      exact Vw_of upd_same z zt
    · rw [upd_ne hb] at e
      have := h b u e
      unfold Vw at this ⊢
      rw [upd_ne hb]; exact this
  · exact hb.upd zt
  · have hb : b ≠ p := fun e => Th.no n (e ▸ h2)
    rw [upd_ne hb]; exact h1
/-- a new object, not frozen -/
theorem Grow.made {p : Addr} {o : HO} (h : Same F (Vw H)) (n : H p = none) (zt : noTb o := by intro _ z; cases z) : Grow K F H F (upd H p o) := by
  refine ⟨.refl _, fun b u e => ?_, fun b u e _ => by rw [upd_ne (ne_of_none e n)]; exact e, fun b hb => ?_, fun b h1 _ => h1, tb_new n⟩
  · have hv := h b u e
    have hb : b ≠ p := fun z => of_vw hv (z ▸ n)
    unfold Vw at hv ⊢
    rw [upd_ne hb]; exact hv
  · exact hb.upd zt
end

/-! ### what a value stands for -/
structure Rp (α : Type) where
  ok : Hp → V → α → Prop
  mono : ∀ {F G : Hp} {v : V} {x : α}, Same F G → ok F v x → ok G v x
/-- no object behind it -/
class Scal {α : Type} (R : Rp α) : Prop where
  all : ∀ {F G : Hp} {v : V} {x : α}, R.ok F v x → R.ok G v x
def rI : Rp Int := ⟨fun _ v x => v = .int x, fun _ h => h⟩
def rB : Rp Bool := ⟨fun _ v x => v = .bl x, fun _ h => h⟩
/-- a text of use: not too long, its signs are code points -/
def niceS (x : Str) : Bool := decide (x.length ≤ 100000) && PySem.PyData.strOk x
def rS : Rp Str := ⟨fun _ v x => v = .str x ∧ niceS x = true, fun _ h => h⟩
def rN : Rp Unit := ⟨fun _ v _ => v = .non, fun _ h => h⟩
instance : Scal rI := ⟨fun h => h⟩
instance : Scal rB := ⟨fun h => h⟩
instance : Scal rS := ⟨fun h => h⟩
instance : Scal rN := ⟨fun h => h⟩
theorem prd_mono {α : Type} {R : Rp α} {F G : Hp} (s : Same F G) {vs : List V} {xs : List α} (h : Paired (R.ok F) vs xs) : Paired (R.ok G) vs xs := Paired.mapP h fun _ _ q => R.mono s q
def rL {α : Type} (R : Rp α) : Rp (List α) := ⟨fun F v xs => xs.length ≤ sizeLine ∧ ∃ p vs, v = .ref p ∧ F p = some (.lst vs) ∧ Paired (R.ok F) vs xs,
  fun s ⟨z, p, vs, e, h, q⟩ => ⟨z, p, vs, e, s _ _ h, prd_mono s q⟩⟩
/-- a tuple of any length -/
def rV {α : Type} (R : Rp α) : Rp (List α) := ⟨fun F v xs => xs.length ≤ sizeLine ∧ ∃ p vs, v = .ref p ∧ F p = some (.tup vs) ∧ Paired (R.ok F) vs xs,
  fun s ⟨z, p, vs, e, h, q⟩ => ⟨z, p, vs, e, s _ _ h, prd_mono s q⟩⟩
def rO {α : Type} (R : Rp α) : Rp (Option α) := ⟨fun F v x => match x with | none => v = .non | some y => R.ok F v y,
  fun {F G v x} s h => by cases x with | none => exact h | some y => exact R.mono s h⟩
instance {α : Type} (R : Rp α) [Scal R] : Scal (rO R) := ⟨fun {F G v x} h => by cases x with | none => exact h | some y => exact Scal.all (R := R) h⟩
/-- several values, one behind the other -/
structure Rw (α : Type) where
  ok : Hp → List V → α → Prop
  mono : ∀ {F G : Hp} {vs : List V} {x : α}, Same F G → ok F vs x → ok G vs x
def w1 {α : Type} (R : Rp α) : Rw α := ⟨fun F vs x => ∃ v, vs = [v] ∧ R.ok F v x, fun s ⟨v, e, h⟩ => ⟨v, e, R.mono s h⟩⟩
def wc {α β : Type} (R : Rp α) (T : Rw β) : Rw (α × β) := ⟨fun F vs x => ∃ v r, vs = v :: r ∧ R.ok F v x.1 ∧ T.ok F r x.2, fun s ⟨v, r, e, h, q⟩ => ⟨v, r, e, R.mono s h, T.mono s q⟩⟩
def rT {α : Type} (T : Rw α) : Rp α := ⟨fun F v x => ∃ p vs, v = .ref p ∧ F p = some (.tup vs) ∧ T.ok F vs x,
  fun s ⟨p, vs, e, h, q⟩ => ⟨p, vs, e, s _ _ h, T.mono s q⟩⟩
/-- through an equivalence of forms -/
def rM {α β : Type} (R : Rp α) (f : β → α) : Rp β := ⟨fun F v x => R.ok F v (f x), fun s h => R.mono s h⟩
instance {α β : Type} (R : Rp α) (f : β → α) [Scal R] : Scal (rM R f) := ⟨fun h => Scal.all (R := R) h⟩
/-- keys of a dict: ints or texts -/
structure KF (κ : Type) where
  f : κ → Key
  inj : ∀ {a b : κ}, f a = f b → a = b
  nice : κ → Prop
  R : Rp κ
  sc : ∀ {F G : Hp} {v : V} {k : κ}, R.ok F v k → R.ok G v k
  to : ∀ {F : Hp} {v : V} {k : κ}, R.ok F v k → v = kV (f k) ∧ nice k
  of : ∀ {F : Hp} {k : κ}, nice k → R.ok F (kV (f k)) k
def kS : KF Str := ⟨.inr, fun e => Sum.inr.inj e, fun x => niceS x = true, rS, fun h => h, fun h => ⟨h.1, h.2⟩, fun h => ⟨rfl, h⟩⟩
def kI : KF Int := ⟨.inl, fun e => Sum.inl.inj e, fun _ => True, rI, fun h => h, fun h => ⟨h, trivial⟩, fun _ => rfl⟩
/-- keys that are tuples of ints and texts -/
structure KT' (κ : Type) where
  f : κ → List Key
  inj : ∀ {a b : κ}, f a = f b → a = b
  nice : κ → Prop
  T : Rw κ
  to : ∀ {F : Hp} {vs : List V} {k : κ}, T.ok F vs k → vs = (f k).map kV ∧ nice k
  of : ∀ {F : Hp} {k : κ}, nice k → T.ok F ((f k).map kV) k
def t1 {κ : Type} (A : KF κ) : KT' κ := ⟨fun k => [A.f k], fun e => A.inj (List.cons.inj e).1, A.nice, w1 A.R,
  fun ⟨v, e, h⟩ => ⟨by rw [e, (A.to h).1]; rfl, (A.to h).2⟩, fun h => ⟨_, rfl, A.of h⟩⟩
def tc {κ κ' : Type} (A : KF κ) (B : KT' κ') : KT' (κ × κ') := ⟨fun k => A.f k.1 :: B.f k.2, fun {a b} e => Prod.ext (A.inj (List.cons.inj e).1) (B.inj (List.cons.inj e).2), fun k => A.nice k.1 ∧ B.nice k.2, wc A.R B.T,
  fun ⟨v, r, e, h, q⟩ => ⟨by rw [e, (A.to h).1, (B.to q).1]; rfl, (A.to h).2, (B.to q).2⟩, fun h => ⟨_, _, rfl, A.of h.1, B.of h.2⟩⟩
theorem kv_mono {κ κ' α : Type} {f : κ' → κ} {n : κ' → Prop} {R : Rp α} {F G : Hp} (s : Same F G) {vs : List (κ × V)} {xs : List (κ' × α)} (h : Paired (fun (a : κ × V) (b : κ' × α) => a.1 = f b.1 ∧ n b.1 ∧ R.ok F a.2 b.2) vs xs) :
    Paired (fun (a : κ × V) (b : κ' × α) => a.1 = f b.1 ∧ n b.1 ∧ R.ok G a.2 b.2) vs xs := Paired.mapP h fun _ _ z => ⟨z.1, z.2.1, R.mono s z.2.2⟩
/-- a dict: keys ints or texts; keys tuples of such -/
def rK {κ α : Type} (A : KF κ) (R : Rp α) : Rp (List (κ × α)) := ⟨fun F v xs => xs.length ≤ sizeLine ∧ ∃ p vs, v = .ref p ∧ F p = some (.dK vs) ∧ Paired (fun (a : Key × V) (b : κ × α) => a.1 = A.f b.1 ∧ A.nice b.1 ∧ R.ok F a.2 b.2) vs xs,
  fun s ⟨z, p, vs, e, h, q⟩ => ⟨z, p, vs, e, s _ _ h, kv_mono s q⟩⟩
def rKT {κ α : Type} (A : KT' κ) (R : Rp α) : Rp (List (κ × α)) := ⟨fun F v xs => xs.length ≤ sizeLine ∧ ∃ p vs, v = .ref p ∧ F p = some (.dT vs) ∧ Paired (fun (a : List Key × V) (b : κ × α) => a.1 = A.f b.1 ∧ A.nice b.1 ∧ R.ok F a.2 b.2) vs xs,
  fun s ⟨z, p, vs, e, h, q⟩ => ⟨z, p, vs, e, s _ _ h, kv_mono s q⟩⟩

/-! ### what is one's own, and may change -/
structure Rs (α : Type) where
  ok : Hp → Hp → List Addr → V → α → Prop
  rd : Rp α
  frame : ∀ {F H : Hp} {D : List Addr} {v : V} {x : α} {F' H' : Hp}, Same F F' → (∀ p ∈ D, H' p = H p) → ok F H D v x → ok F' H' D v x
  read : ∀ {F H : Hp} {D : List Addr} {v : V} {x : α} {G : Hp}, (∀ p ∈ D, G p = vw (H p)) → Same F G → ok F H D v x → rd.ok G v x
def oL {α : Type} (R : Rp α) : Rs (List α) where
  ok := fun F H D v xs => xs.length ≤ sizeLine ∧ ∃ p vs, v = .ref p ∧ D = [p] ∧ H p = some (.lst vs) ∧ Paired (R.ok F) vs xs
  rd := rL R
  frame := fun s k ⟨z, p, vs, e, d, h, q⟩ => ⟨z, p, vs, e, d, by rw [k p (by rw [d]; exact List.mem_singleton.mpr rfl)]; exact h, prd_mono s q⟩
  read := fun k s ⟨z, p, vs, e, d, h, q⟩ => ⟨z, p, vs, e, by rw [k p (by rw [d]; exact List.mem_singleton.mpr rfl), h]; rfl, prd_mono s q⟩
def oK {κ α : Type} (A : KF κ) (R : Rp α) : Rs (List (κ × α)) where
  ok := fun F H D v xs => xs.length ≤ sizeLine ∧ ∃ p vs, v = .ref p ∧ D = [p] ∧ H p = some (.dK vs) ∧ Paired (fun (a : Key × V) (b : κ × α) => a.1 = A.f b.1 ∧ A.nice b.1 ∧ R.ok F a.2 b.2) vs xs
  rd := rK A R
  frame := fun s k ⟨z, p, vs, e, d, h, q⟩ => ⟨z, p, vs, e, d, by rw [k p (by rw [d]; exact List.mem_singleton.mpr rfl)]; exact h, kv_mono s q⟩
  read := fun k s ⟨z, p, vs, e, d, h, q⟩ => ⟨z, p, vs, e, by rw [k p (by rw [d]; exact List.mem_singleton.mpr rfl), h]; rfl, kv_mono s q⟩
def oKT {κ α : Type} (A : KT' κ) (R : Rp α) : Rs (List (κ × α)) where
  ok := fun F H D v xs => xs.length ≤ sizeLine ∧ ∃ p vs, v = .ref p ∧ D = [p] ∧ H p = some (.dT vs) ∧ Paired (fun (a : List Key × V) (b : κ × α) => a.1 = A.f b.1 ∧ A.nice b.1 ∧ R.ok F a.2 b.2) vs xs
  rd := rKT A R
  frame := fun s k ⟨z, p, vs, e, d, h, q⟩ => ⟨z, p, vs, e, d, by rw [k p (by rw [d]; exact List.mem_singleton.mpr rfl)]; exact h, kv_mono s q⟩
  read := fun k s ⟨z, p, vs, e, d, h, q⟩ => ⟨z, p, vs, e, by rw [k p (by rw [d]; exact List.mem_singleton.mpr rfl), h]; rfl, kv_mono s q⟩

/-! ### slots -/
inductive Slot : Type 1
  | any
  | is {α : Type} (R : Rp α) (x : α)
  | res {α : Type} (A : Rs α) (x : α)
def Slot.ok (F H : Hp) (D : List Addr) : Slot → Option V → Prop
  | .any, _ => D = []
  | .is R x, o => D = [] ∧ ∃ v, o = some v ∧ R.ok F v x
  | .res A x, o => ∃ v, o = some v ∧ A.ok F H D v x
abbrev Gm := List Slot
def Env (F H : Hp) : List Addr → Gm → St → Prop
  | D, [], σ => D = [] ∧ σ = []
  | _, _ :: _, [] => False
  | D, s :: Γ, o :: σ => ∃ D1 D2, D = D1 ++ D2 ∧ s.ok F H D1 o ∧ Env F H D2 Γ σ
section
variable {F H F' H' : Hp} {D : List Addr} {Γ : Gm} {σ : St}
theorem Slot.mono {s : Slot} {o : Option V} (f : Same F F') (k : ∀ p ∈ D, H' p = H p) (h : s.ok F H D o) : s.ok F' H' D o := by
  cases s with
  | any => exact h
  | is R x => obtain ⟨d, v, e, q⟩ := h; exact ⟨d, v, e, R.mono f q⟩
  | res A x => obtain ⟨v, e, q⟩ := h; exact ⟨v, e, A.frame f k q⟩
theorem Env.mono (f : Same F F') : ∀ {D : List Addr} {Γ : Gm} {σ : St}, (∀ p ∈ D, H' p = H p) → Env F H D Γ σ → Env F' H' D Γ σ
  | _, [], _, _, h => h
  | _, _ :: _, [], _, h => h
  | _, _ :: _, _ :: _, k, ⟨D1, D2, e, h, q⟩ => ⟨D1, D2, e, Slot.mono f (fun p hp => k p (by rw [e]; exact List.mem_append_left _ hp)) h, Env.mono f (fun p hp => k p (by rw [e]; exact List.mem_append_right _ hp)) q⟩
theorem Env.grow {K : PySem.W.Frag} {F1 H1 : Hp} (g : Good K F H D) (a : Grow K F H F1 H1) (e : Env F H D Γ σ) : Env F1 H1 D Γ σ := e.mono a.ff fun p hp => by
  obtain ⟨o, h⟩ := ex_of (g.dH p hp)
  rw [h]; exact a.hh p o h (g.dT p hp o h)
theorem Env.get : ∀ {D : List Addr} {Γ : Gm} {σ : St} {i : Nat} {s : Slot}, Env F H D Γ σ → Γ[i]? = some s → ∃ D1 o, σ[i]? = some o ∧ D1.Sublist D ∧ s.ok F H D1 o
  | _, [], _, _, _, _, e => by simp at e
  | _, _ :: _, [], _, _, h, _ => h.elim
  | D, s :: Γ, o :: σ, 0, s', ⟨D1, D2, e, h, q⟩, he => by
    have : s = s' := by simpa using he
    subst this
    exact ⟨D1, o, rfl, by rw [e]; exact List.sublist_append_left _ _, h⟩
  | D, s :: Γ, o :: σ, i + 1, s', ⟨D1, D2, e, h, q⟩, he => by
    obtain ⟨D3, o', h1, h2, h3⟩ := Env.get (i := i) (s := s') q (by simpa using he)
    exact ⟨D3, o', by simpa using h1, by rw [e]; exact h2.trans (List.sublist_append_right _ _), h3⟩
theorem Env.len : ∀ {D : List Addr} {Γ : Gm} {σ : St}, Env F H D Γ σ → σ.length = Γ.length
  | _, [], _, ⟨_, e⟩ => by rw [e]; rfl
  | _, _ :: _, [], h => h.elim
  | _, _ :: _, _ :: _, ⟨_, _, _, _, q⟩ => by simp [q.len]
/-- a slot gets a value of no object of one's own -/
theorem Env.set {s' : Slot} {o' : Option V} (hs : s'.ok F H [] o') : ∀ {D : List Addr} {Γ : Gm} {σ : St} (i : Nat), Env F H D Γ σ → ∃ D', D'.Sublist D ∧ Env F H D' (Γ.set i s') (σ.set i o')
  | D, [], σ, _, h => ⟨D, List.Sublist.refl _, by obtain ⟨e, e'⟩ := h; subst e'; exact ⟨e, rfl⟩⟩
  | _, _ :: _, [], _, h => h.elim
  | D, s :: Γ, o :: σ, 0, ⟨D1, D2, e, h, q⟩ => ⟨D2, by rw [e]; exact List.sublist_append_right _ _, [], D2, rfl, hs, q⟩
  | D, s :: Γ, o :: σ, i + 1, ⟨D1, D2, e, h, q⟩ => by
    obtain ⟨D3, h1, h2⟩ := Env.set hs i q
    exact ⟨D1 ++ D3, by rw [e]; exact (List.Sublist.refl _).append h1, D1, D3, rfl, h, h2⟩
/-- the slot at i and its part of what is owned changes, all else is as it was -/
theorem Env.upd {s s' : Slot} {o' : Option V} {D1' : List Addr} : ∀ {D : List Addr} {Γ : Gm} {σ : St} (i : Nat), Env F H D Γ σ → Γ[i]? = some s →
    ∃ Da D1 Db o, D = Da ++ D1 ++ Db ∧ σ[i]? = some o ∧ s.ok F H D1 o ∧ ∀ {F' H' : Hp} {s' : Slot} {o' : Option V} {D1' : List Addr}, Same F F' → (∀ p ∈ Da ++ Db, H' p = H p) → s'.ok F' H' D1' o' → Env F' H' (Da ++ D1' ++ Db) (Γ.set i s') (σ.set i o')
  | _, [], _, _, _, e => by simp at e
  | _, _ :: _, [], _, h, _ => h.elim
  | D, s0 :: Γ, o0 :: σ, 0, ⟨D1, D2, e, h, q⟩, he => by
    have : s0 = s := by simpa using he
    subst this
    refine ⟨[], D1, D2, o0, by simpa using e, rfl, h, fun {F' H' s' o' D1'} f k hs => ?_⟩
    exact ⟨D1', D2, rfl, hs, Env.mono f (fun p hp => k p (by simpa using hp)) q⟩
  | D, s0 :: Γ, o0 :: σ, i + 1, ⟨D1, D2, e, h, q⟩, he => by
    obtain ⟨Da, Dm, Db, o, e1, h1, h2, h3⟩ := Env.upd (s' := s') (o' := o') (D1' := D1') i q (by simpa using he)
    refine ⟨D1 ++ Da, Dm, Db, o, by rw [e, e1]; simp, by simpa using h1, h2, fun {F' H' s' o' D1'} f k hs => ?_⟩
    exact ⟨D1, Da ++ D1' ++ Db, by simp, Slot.mono f (fun p hp => k p (by simp [hp])) h, h3 f (fun p hp => k p (by
      rcases List.mem_append.mp hp with z | z
      · simp [z]
      · simp [z])) hs⟩
end

/-! ### reading what is one's own, as if it stood still -/
def Slot.vw : Slot → Slot
  | .res A x => .is A.rd x
  | s => s
def view (Γ : Gm) : Gm := Γ.map Slot.vw
def ovl (F H : Hp) (D : List Addr) : Hp := fun p => if p ∈ D then Wf.vw (H p) else F p
section
variable {F H : Hp} {D : List Addr} {Γ : Gm} {σ : St}
theorem ovl_in {p : Addr} (h : p ∈ D) : ovl F H D p = Wf.vw (H p) := if_pos h
theorem ovl_out {p : Addr} (h : p ∉ D) : ovl F H D p = F p := if_neg h
theorem Good.ovl {K : PySem.W.Frag} (g : Good K F H D) : Same F (Wf.ovl F H D) ∧ Same (Wf.ovl F H D) (Vw H) := by
  refine ⟨fun p o e => ?_, fun p o e => ?_⟩
  · rw [ovl_out fun hp => ?_]; exact e
    rw [g.dF p hp] at e; cases e
  · by_cases hp : p ∈ D
    · rw [ovl_in hp] at e; exact e
    · rw [ovl_out hp] at e; exact g.fh p o e
theorem Env.view {G : Hp} (s : Same F G) : ∀ {D : List Addr} {Γ : Gm} {σ : St}, (∀ p ∈ D, G p = Wf.vw (H p)) → Env F H D Γ σ → Env G H [] (Wf.view Γ) σ
  | _, [], _, _, ⟨_, e⟩ => ⟨rfl, e⟩
  | _, _ :: _, [], _, h => h.elim
  | _, s0 :: Γ, o :: σ, k, ⟨D1, D2, e, h, q⟩ => by
    refine ⟨[], [], rfl, ?_, Env.view s (fun p hp => k p (by rw [e]; exact List.mem_append_right _ hp)) q⟩
    cases s0 with
    | any => rfl
    | is R x => obtain ⟨d, v, e', q'⟩ := h; exact ⟨rfl, v, e', R.mono s q'⟩
    | res A x => obtain ⟨v, e', q'⟩ := h; exact ⟨rfl, v, e', A.read (fun p hp => k p (by rw [e]; exact List.mem_append_left _ hp)) s q'⟩
theorem Good.view {K : PySem.W.Frag} (g : Good K F H D) (e : Env F H D Γ σ) : Env (Wf.ovl F H D) H [] (Wf.view Γ) σ := e.view g.ovl.1 fun p hp => ovl_in hp
end

/-! ### where a body stands -/
structure Ctx (X : Cx) (P : Program) (w : World) (K : PySem.W.Frag) (mg : Str → Option Value) (base : Heap) (NN : List Str) (sc : Scope) (k : Nat) (d : Bool) : Prop where
  prog : X.prog = P
  w : X.w = w
  K : X.K = K
  mg : X.mg = mg
  base : X.base = base
  N : X.N = NN
  sc : X.env.scope = sc
  calm : X.calm = true
  room : Room k X.A
  nd : NN.Nodup
  fn : d = true → ∀ x, X.fn x = true
  own : PassesOwn (model X.prog X.w) X.A X.env X.xe
def visB (sc : Scope) (x : Str) : Bool := match sc.names.lookup x with
  | some .local => true
  | some .cell => true
  | some .free => true
  | _ => false
def locB (sc : Scope) (d : Bool) (x : Str) : Bool := match sc.names.lookup x with
  | some .local => true
  | some .cell => d
  | _ => false
def gloB (sc : Scope) (x : Str) : Bool := match sc.names.lookup x with
  | some .globalImplicit => true
  | _ => false
section
variable {X : Cx} {P : Program} {w : World} {K : PySem.W.Frag} {mg : Str → Option Value} {base : Heap} {N : List Str} {sc : Scope} {k : Nat} {d : Bool}
theorem Ctx.vis (C : Ctx X P w K mg base N sc k d) {x : Str} (h : visB sc x = true) : Vis X.env.scope x := by
  rw [C.sc]
  unfold visB at h
  split at h
  · exact .inl (by assumption)
  · exact .inr (.inl (by assumption))
  · exact .inr (.inr (by assumption))
  · cases h
theorem Ctx.gl (C : Ctx X P w K mg base N sc k d) {x : Str} (h : gloB sc x = true) : Gl X x := by
  show X.env.scope.names.lookup x = _
  rw [C.sc]
  unfold gloB at h
  split at h
  · assumption
  · cases h
theorem Ctx.loc (C : Ctx X P w K mg base N sc k d) {x : Str} (h : locB sc d x = true) : Loc X.env.scope x ∧ (X.fn x = true ∨ X.env.scope.names.lookup x = some .local) := by
  rw [C.sc]
  unfold locB at h
  split at h
  · exact ⟨.inl (by assumption), .inr (by assumption)⟩
  · exact ⟨.inr (by assumption), .inl (C.fn h x)⟩
  · cases h
theorem Ctx.hu (C : Ctx X P w K mg base N sc k d) : X.A.units + 1 < cLine := hu_of C.room
end

/-! ### what expressions, tests, statements do, as the weakest that is asked -/
structure WpE (X : Cx) (e : Expr) (σ : St) (H : Hp) (Q : VK) : Prop where
  go : ∀ pins s, Inv X pins σ H s → wpAny (model X.prog X.w) X.A (eval e X.env) (EP X pins σ Q) X.xe s
structure WpT (X : Cx) (e : Expr) (σ : St) (H : Hp) (Q : Bool → Hp → Prop) : Prop where
  go : ∀ pins s, Inv X pins σ H s → wpAny (model X.prog X.w) X.A (isTrue e X.env (eval e X.env)) (TP X pins σ Q) X.xe s
structure WpW (X : Cx) (e : Expr) (σ : St) (H : Hp) (Q : Bool → Hp → Prop) : Prop where
  go : ∀ whole pins s, Inv X pins σ H s → wpAny (model X.prog X.w) X.A (isTrue e X.env whole) (TP X pins σ Q) X.xe s
structure WpA (X : Cx) (es : List Expr) (σ : St) (H : Hp) (Q : List V → Hp → Prop) : Prop where
  go : ∀ pos pins s, Inv X pins σ H s → wpAny (model X.prog X.w) X.A (spliced (backTo pos (starEach es X.env))) (AP X pins σ Q) X.xe s
structure WpS (X : Cx) (st : Stmt) (D : Ends) (σ : St) (H : Hp) : Prop where
  go : ∀ pins s, Inv X pins σ H s → wpAny (model X.prog X.w) X.A (exec st X.env) (SP X pins D) X.xe s
structure WpB (X : Cx) (st : List Stmt) (D : Ends) (σ : St) (H : Hp) : Prop where
  go : ∀ pins s, Inv X pins σ H s → wpAny (model X.prog X.w) X.A (execs st X.env) (SP X pins D) X.xe s
def wpE (X : Cx) (e : Expr) : TE := WpE X e
def wpT (X : Cx) (e : Expr) : TT := WpT X e
def wpW (X : Cx) (e : Expr) : TT := WpW X e
def wpA (X : Cx) (es : List Expr) : TA := WpA X es
def wpS (X : Cx) (st : Stmt) : TS := WpS X st
def wpB (X : Cx) (st : List Stmt) : TS := WpB X st
section
variable {X : Cx}
theorem pe_ (e : Expr) : PE X e (wpE X e) := ⟨fun pins s _ _ _ I h => h.go pins s I⟩
theorem pt_ (e : Expr) : PT X e (wpT X e) := ⟨fun pins s _ _ _ I h => h.go pins s I⟩
theorem pw_ (e : Expr) : PW X e (wpW X e) := ⟨fun wh pins s _ _ _ I h => h.go wh pins s I⟩
theorem pa_ (es : List Expr) : PA X es (wpA X es) := ⟨fun pos pins s _ _ _ I h => h.go pos pins s I⟩
theorem ps_ (st : Stmt) : PS X st (wpS X st) := ⟨fun pins s _ _ _ I h => h.go pins s I⟩
theorem pb_ (st : List Stmt) : PSs X st (wpB X st) := ⟨fun pins s _ _ _ I h => h.go pins s I⟩
theorem _root_.L2.PE.wp {e : Expr} {t : TE} (h : PE X e t) {σ : St} {H : Hp} {Q : VK} (q : t σ H Q) : wpE X e σ H Q := ⟨fun pins s I => h.run pins s σ H Q I q⟩
theorem _root_.L2.PT.wp {e : Expr} {t : TT} (h : PT X e t) {σ : St} {H : Hp} {Q : Bool → Hp → Prop} (q : t σ H Q) : wpT X e σ H Q := ⟨fun pins s I => h.run pins s σ H Q I q⟩
theorem _root_.L2.PW.wp {e : Expr} {t : TT} (h : PW X e t) {σ : St} {H : Hp} {Q : Bool → Hp → Prop} (q : t σ H Q) : wpW X e σ H Q := ⟨fun wh pins s I => h.run wh pins s σ H Q I q⟩
theorem _root_.L2.PA.wp {es : List Expr} {t : TA} (h : PA X es t) {σ : St} {H : Hp} {Q : List V → Hp → Prop} (q : t σ H Q) : wpA X es σ H Q := ⟨fun pos pins s I => h.run pos pins s σ H Q I q⟩
theorem _root_.L2.PS.wp {e : Stmt} {t : TS} (h : PS X e t) {σ : St} {H : Hp} {D : Ends} (q : t D σ H) : wpS X e D σ H := ⟨fun pins s I => h.run pins s σ H D I q⟩
theorem _root_.L2.PSs.wp {e : List Stmt} {t : TS} (h : PSs X e t) {σ : St} {H : Hp} {D : Ends} (q : t D σ H) : wpB X e D σ H := ⟨fun pins s I => h.run pins s σ H D I q⟩
end

/-! ### what a computation of a mirror gives -/
/-- an exception of the program: the name of its class, its fields -/
structure Err where
  cls : Str
  fs : List (Str × V)
inductive Res (β α : Type) where
  | ok (x : α)
  | ex (e : Err) (b : β)
  | bad
def Res.bind {β α γ : Type} (m : Res β α) (f : α → Res β γ) : Res β γ := match m with
  | .ok x => f x
  | .ex e b => .ex e b
  | .bad => .bad
def Res.bnd {β α γ : Type} (m : Res Unit α) (b : β) (f : α → Res β γ) : Res β γ := match m with
  | .ok x => f x
  | .ex e _ => .ex e b
  | .bad => .bad
@[irreducible] def gd {β α : Type} (p : Prop) [Decidable p] (r : Res β α) : Res β α := if p then r else .bad
abbrev R0 (α : Type) := Res Unit α
section
variable {β α γ : Type}
@[simp] theorem bind_ok {x : α} {f : α → Res β γ} : (Res.ok x : Res β α).bind f = f x := rfl
@[simp] theorem bind_ex {e : Err} {b : β} {f : α → Res β γ} : (Res.ex e b : Res β α).bind f = .ex e b := rfl
@[simp] theorem bind_bad {f : α → Res β γ} : (Res.bad : Res β α).bind f = .bad := rfl
@[simp] theorem bnd_ok {x : α} {b : β} {f : α → Res β γ} : (Res.ok x : Res Unit α).bnd b f = f x := rfl
@[simp] theorem bnd_ex {e : Err} {u : Unit} {b : β} {f : α → Res β γ} : (Res.ex e u : Res Unit α).bnd b f = .ex e b := rfl
@[simp] theorem bnd_bad {b : β} {f : α → Res β γ} : (Res.bad : Res Unit α).bnd b f = .bad := rfl
@[simp] theorem gd_true {p : Prop} [Decidable p] {r : Res β α} (h : p) : gd p r = r := by unfold gd; exact if_pos h
theorem gd_bad {p : Prop} [Decidable p] {r : Res β α} (h : ¬ p) : gd p r = .bad := by unfold gd; exact if_neg h
theorem bind_assoc {δ : Type} {m : Res β α} {f : α → Res β γ} {g : γ → Res β δ} : (m.bind f).bind g = m.bind fun x => (f x).bind g := by cases m <;> rfl
end

/-! ### values as they stand now: frozen, or one's own read by its name -/
structure Rq (α : Type) where
  ok : Hp → Hp → V → α → Prop
  grow : ∀ {K : PySem.W.Frag} {F H F' H' : Hp} {v : V} {x : α}, Grow K F H F' H' → ok F H v x → ok F' H' v x
def fz {α : Type} (R : Rp α) : Rq α := ⟨fun F _ v x => R.ok F v x, fun g h => R.mono g.ff h⟩
theorem Rd.grow {K : PySem.W.Frag} {F H F' H' : Hp} {p : Addr} {u : HO} (t : noTb u) (g : Grow K F H F' H') (h : Rd H p u) : Rd H' p u := by
  rcases h with h | ⟨o, h⟩
  · exact .inl (g.hh _ _ h t)
  · exact .inr ⟨o, g.hh _ _ h (by intro _ z; cases z)⟩
def bL {α : Type} (R : Rp α) : Rq (List α) := ⟨fun F H v xs => xs.length ≤ sizeLine ∧ ∃ p vs, v = .ref p ∧ Rd H p (.lst vs) ∧ Paired (R.ok F) vs xs,
  fun g ⟨z, p, vs, e, h, q⟩ => ⟨z, p, vs, e, Rd.grow (by intro _ z; cases z) g h, prd_mono g.ff q⟩⟩
def bK {κ α : Type} (A : KF κ) (R : Rp α) : Rq (List (κ × α)) := ⟨fun F H v xs => xs.length ≤ sizeLine ∧ ∃ p vs, v = .ref p ∧ Rd H p (.dK vs) ∧ Paired (fun (a : Key × V) (b : κ × α) => a.1 = A.f b.1 ∧ A.nice b.1 ∧ R.ok F a.2 b.2) vs xs,
  fun g ⟨z, p, vs, e, h, q⟩ => ⟨z, p, vs, e, Rd.grow (by intro _ z; cases z) g h, kv_mono g.ff q⟩⟩
def bKT {κ α : Type} (A : KT' κ) (R : Rp α) : Rq (List (κ × α)) := ⟨fun F H v xs => xs.length ≤ sizeLine ∧ ∃ p vs, v = .ref p ∧ Rd H p (.dT vs) ∧ Paired (fun (a : List Key × V) (b : κ × α) => a.1 = A.f b.1 ∧ A.nice b.1 ∧ R.ok F a.2 b.2) vs xs,
  fun g ⟨z, p, vs, e, h, q⟩ => ⟨z, p, vs, e, Rd.grow (by intro _ z; cases z) g h, kv_mono g.ff q⟩⟩
/-- a borrowed reading of what is one's own -/
structure Bw {α : Type} (A : Rs α) (B : Rq α) : Prop where
  of : ∀ {F H : Hp} {D : List Addr} {v : V} {x : α}, A.ok F H D v x → B.ok F H v x
theorem bwL {α : Type} {R : Rp α} : Bw (oL R) (bL R) := ⟨fun ⟨z, p, vs, e, _, h, q⟩ => ⟨z, p, vs, e, .inl h, q⟩⟩
theorem bwK {κ α : Type} {A : KF κ} {R : Rp α} : Bw (oK A R) (bK A R) := ⟨fun ⟨z, p, vs, e, _, h, q⟩ => ⟨z, p, vs, e, .inl h, q⟩⟩
theorem bwKT {κ α : Type} {A : KT' κ} {R : Rp α} : Bw (oKT A R) (bKT A R) := ⟨fun ⟨z, p, vs, e, _, h, q⟩ => ⟨z, p, vs, e, .inl h, q⟩⟩
/-- .. of what is frozen -/
structure Bf {α : Type} (R : Rp α) (B : Rq α) : Prop where
  of : ∀ {F H : Hp} {v : V} {x : α}, Same F (Vw H) → R.ok F v x → B.ok F H v x
theorem bfL {α : Type} {R : Rp α} : Bf (rL R) (bL R) := ⟨fun s ⟨z, p, vs, e, h, q⟩ => ⟨z, p, vs, e, rd_of (s _ _ h), q⟩⟩
theorem bfK {κ α : Type} {A : KF κ} {R : Rp α} : Bf (rK A R) (bK A R) := ⟨fun s ⟨z, p, vs, e, h, q⟩ => ⟨z, p, vs, e, rd_of (s _ _ h), q⟩⟩
theorem bfKT {κ α : Type} {A : KT' κ} {R : Rp α} : Bf (rKT A R) (bKT A R) := ⟨fun s ⟨z, p, vs, e, h, q⟩ => ⟨z, p, vs, e, rd_of (s _ _ h), q⟩⟩

/-! ### forgetting -/
inductive Wk : Gm → Gm → Prop
  | nil : Wk [] []
  | same {s : Slot} {a b : Gm} : Wk a b → Wk (s :: a) (s :: b)
  | any {s : Slot} {a b : Gm} : Wk a b → Wk (s :: a) (.any :: b)
theorem Wk.refl : ∀ Γ : Gm, Wk Γ Γ
  | [] => .nil
  | _ :: r => .same (Wk.refl r)
theorem Wk.trans {a b c : Gm} (h : Wk a b) : Wk b c → Wk a c := by
  induction h generalizing c with
  | nil => exact id
  | same _ ih => intro k; cases k with
    | same k => exact .same (ih k)
    | any k => exact .any (ih k)
  | any _ ih => intro k; cases k with
    | same k => exact .any (ih k)
    | any k => exact .any (ih k)
theorem Wk.env {F H : Hp} {Γ Γ' : Gm} (h : Wk Γ Γ') : ∀ {D : List Addr} {σ : St}, Env F H D Γ σ → ∃ D', D'.Sublist D ∧ Env F H D' Γ' σ := by
  induction h with
  | nil => intro D σ e; exact ⟨D, .refl _, e⟩
  | same _ ih =>
    intro D σ e
    cases σ with
    | nil => exact e.elim
    | cons o σ =>
      obtain ⟨D1, D2, rfl, h1, h2⟩ := e
      obtain ⟨D3, s, h3⟩ := ih h2
      exact ⟨D1 ++ D3, (List.Sublist.refl _).append s, D1, D3, rfl, h1, h3⟩
  | any _ ih =>
    intro D σ e
    cases σ with
    | nil => exact e.elim
    | cons o σ =>
      obtain ⟨D1, D2, rfl, h1, h2⟩ := e
      obtain ⟨D3, s, h3⟩ := ih h2
      exact ⟨D3, s.trans (List.sublist_append_right _ _), [], D3, rfl, rfl, h3⟩

/-! ### the judgements -/
/-- the exception in the air is ε -/
def ExV (mg : Str → Option Value) (ε : Err) (c : Value) (d : Option Addr) (F : Hp) : Prop :=
  mg ε.cls = some c ∧ match ε.fs with
    | [] => d = none
    | _ :: _ => ∃ a, d = some a ∧ F a = some (.xd ε.fs)
/-- what is wished of what m gives, from F, H on -/
def PM {β α : Type} (X : Cx) (B : Rq α) (m : Res β α) (Q : VK) (W : WX) (σ : St) (F H : Hp) : Prop := match m with
  | .ok x => ∀ v F' H', Grow X.K F H F' H' → B.ok F' H' v x → Q v H'
  | .ex ε _ => ∀ c d F' H', Grow X.K F H F' H' → ExV X.mg ε c d F' → W c d σ H'
  | .bad => False
def PMT {β : Type} (X : Cx) (m : Res β Bool) (Q : Bool → Hp → Prop) (W : WX) (σ : St) (F H : Hp) : Prop := match m with
  | .ok x => ∀ F' H', Grow X.K F H F' H' → Q x H'
  | .ex ε _ => ∀ c d F' H', Grow X.K F H F' H' → ExV X.mg ε c d F' → W c d σ H'
  | .bad => False
def PMA {β τ : Type} (X : Cx) (ss : τ → Gm) (m : Res β τ) (Q : List V → Hp → Prop) (W : WX) (σ : St) (F H : Hp) : Prop := match m with
  | .ok t => ∀ vs F' H', Grow X.K F H F' H' → Env F' H' [] (ss t) (vs.map some) → Q vs H'
  | .ex ε _ => ∀ c d F' H', Grow X.K F H F' H' → ExV X.mg ε c d F' → W c d σ H'
  | .bad => False
def PMR {β α : Type} (X : Cx) (T : Rw α) (n : Nat) (m : Res β α) (Q : List V → Hp → Prop) (W : WX) (σ : St) (F H : Hp) : Prop := match m with
  | .ok x => ∀ vs F' H', Grow X.K F H F' H' → T.ok F' vs x → vs.length = n → Q vs H'
  | .ex ε _ => ∀ c d F' H', Grow X.K F H F' H' → ExV X.mg ε c d F' → W c d σ H'
  | .bad => False
def PML {β α : Type} (X : Cx) (R : Rp α) (n : Nat) (m : Res β (List α)) (Q : List V → Hp → Prop) (W : WX) (σ : St) (F H : Hp) : Prop := match m with
  | .ok xs => ∀ vs F' H', Grow X.K F H F' H' → Paired (R.ok F') vs xs → vs.length = n → Q vs H'
  | .ex ε _ => ∀ c d F' H', Grow X.K F H F' H' → ExV X.mg ε c d F' → W c d σ H'
  | .bad => False
/-- a new object of one's own -/
def PMO {β α : Type} (X : Cx) (A : Rs α) (m : Res β α) (Q : VK) (W : WX) (σ : St) (F H : Hp) : Prop := match m with
  | .ok x => ∀ v F' H' D', Step X.K F H [] F' H' D' → A.ok F' H' D' v x → Q v H'
  | .ex ε _ => ∀ c d F' H', Grow X.K F H F' H' → ExV X.mg ε c d F' → W c d σ H'
  | .bad => False
def XM {α : Type} (X : Cx) (Γ : Gm) (e : Expr) (B : Rq α) (m : R0 α) : Prop :=
  ∀ σ F H D, Good X.K F H D → Env F H D Γ σ → ∀ (Q : VK) (W : WX), Takes X W → PM X B m Q W σ F H → wpE X e σ H Q
def XMT (X : Cx) (Γ : Gm) (e : Expr) (m : R0 Bool) : Prop :=
  ∀ σ F H D, Good X.K F H D → Env F H D Γ σ → ∀ (Q : Bool → Hp → Prop) (W : WX), Takes X W → PMT X m Q W σ F H → wpT X e σ H Q
def XMW (X : Cx) (Γ : Gm) (e : Expr) (m : R0 Bool) : Prop :=
  ∀ σ F H D, Good X.K F H D → Env F H D Γ σ → ∀ (Q : Bool → Hp → Prop) (W : WX), Takes X W → PMT X m Q W σ F H → wpW X e σ H Q
def XMA {τ : Type} (X : Cx) (Γ : Gm) (es : List Expr) (ss : τ → Gm) (m : R0 τ) : Prop :=
  ∀ σ F H D, Good X.K F H D → Env F H D Γ σ → ∀ (Q : List V → Hp → Prop) (W : WX), Takes X W → PMA X ss m Q W σ F H → wpA X es σ H Q
def XMR {α : Type} (X : Cx) (Γ : Gm) (es : List Expr) (T : Rw α) (m : R0 α) : Prop :=
  ∀ σ F H D, Good X.K F H D → Env F H D Γ σ → ∀ (Q : List V → Hp → Prop) (W : WX), Takes X W → PMR X T es.length m Q W σ F H → wpA X es σ H Q
def XML {α : Type} (X : Cx) (Γ : Gm) (es : List Expr) (R : Rp α) (m : R0 (List α)) : Prop :=
  ∀ σ F H D, Good X.K F H D → Env F H D Γ σ → ∀ (Q : List V → Hp → Prop) (W : WX), Takes X W → PML X R es.length m Q W σ F H → wpA X es σ H Q
def XMO {α : Type} (X : Cx) (Γ : Gm) (e : Expr) (A : Rs α) (m : R0 α) : Prop :=
  ∀ σ F H D, Good X.K F H D → Env F H D Γ σ → ∀ (Q : VK) (W : WX), Takes X W → PMO X A m Q W σ F H → wpE X e σ H Q

/-- ends: where it may go on, what it may return, with what the slots then hold -/
structure Post where
  rt : Slot → Gm → Prop := fun _ _ => False
  bk : Gm → Prop := fun _ => False
  ct : Gm → Prop := fun _ => False
structure Meets (K : PySem.W.Frag) (P : Post) (E : Ends) (F H : Hp) (W : List Addr) : Prop where
  bk : ∀ Γ, P.bk Γ → ∀ σ F' H' D', Step K F H W F' H' D' → Env F' H' D' Γ σ → E.bk σ H'
  ct : ∀ Γ, P.ct Γ → ∀ σ F' H' D', Step K F H W F' H' D' → Env F' H' D' Γ σ → E.ct σ H'
  rt : ∀ s Γ, P.rt s Γ → ∀ v σ F' H' D1 D2, Step K F H W F' H' (D1 ++ D2) → s.ok F' H' D1 (some v) → Env F' H' D2 Γ σ → E.rt v H'
theorem Meets.step {K : PySem.W.Frag} {P : Post} {E : Ends} {F H F1 H1 : Hp} {W W1 : List Addr} (m : Meets K P E F H W) (a : Step K F H W F1 H1 W1) : Meets K P E F1 H1 W1 :=
  ⟨fun Γ h σ F' H' D' b => m.bk Γ h σ F' H' D' (a.trans b), fun Γ h σ F' H' D' b => m.ct Γ h σ F' H' D' (a.trans b), fun s Γ h v σ F' H' D1 D2 b => m.rt s Γ h v σ F' H' D1 D2 (a.trans b)⟩
/-- what is wished of what m gives -/
def MG {β τ : Type} (X : Cx) (m : Res β τ) (J : τ → Post) (Γx : β → Gm) (E : Ends) (W : WX) (F H : Hp) (D : List Addr) : Prop := match m with
  | .ok t => Meets X.K (J t) E F H D
  | .ex ε b => ∀ c d σ F' H' D', Step X.K F H D F' H' D' → Env F' H' D' (Γx b) σ → ExV X.mg ε c d F' → W c d σ H'
  | .bad => False
theorem MG.step {β τ : Type} {X : Cx} {m : Res β τ} {J : τ → Post} {Γx : β → Gm} {E : Ends} {W : WX} {F H F1 H1 : Hp} {D D1 : List Addr} (h : MG X m J Γx E W F H D) (a : Step X.K F H D F1 H1 D1) : MG X m J Γx E W F1 H1 D1 := by
  cases m with
  | ok t => exact Meets.step (show Meets X.K (J t) E F H D from h) a
  | ex ε b => exact fun c d σ F' H' D' s => h c d σ F' H' D' (a.trans s)
  | bad => exact h
/-- the block gives m; where it falls through with slots Γ', what is left gives m', as Kt says -/
def XG {β τ : Type} (X : Cx) (Γ : Gm) (sts : List Stmt) (m : Res β τ) (J : τ → Post) (Γx : β → Gm) (Kt : Gm → Res β τ → Prop) : Prop :=
  ∀ σ F H D, Good X.K F H D → Env F H D Γ σ → ∀ (E : Ends) (W : WX), Takes X W →
    (∀ Γ' m', Kt Γ' m' → ∀ σ' F' H' D', Step X.K F H D F' H' D' → Env F' H' D' Γ' σ' → MG X m' J Γx E W F' H' D' → E.nx σ' H') →
    MG X m J Γx E W F H D → wpB X sts E σ H
end Wf
/-! Rules of the layer for expressions, tests, arguments. -/
namespace Wf
open PySem L2

section
variable {X : Cx} {Γ : Gm} {P : Program} {w : World} {K : PySem.W.Frag} {mg : Str → Option Value} {base : Heap} {N : List Str} {sc : Scope} {k : Nat} {dd : Bool}
variable {α β γ : Type} {R : Rp α} {R1 : Rp α} {R2 : Rp β} {R3 : Rp γ} {B : Rq α} {x : α} {y : β}

theorem PM.ex_trans {β' : Type} {X : Cx} {B : Rq α} {ε : Err} {b : β'} {Q : VK} {W : WX} {σ : St} {F H F1 H1 : Hp} (h : PM X B (.ex ε b : Res β' α) Q W σ F H) (g : Grow X.K F H F1 H1) : ∀ c d F' H', Grow X.K F1 H1 F' H' → ExV X.mg ε c d F' → W c d σ H' :=
  fun c d F' H' g' => h c d F' H' (g.trans g')

/-! ### names, constants -/
theorem xm_eq {e : Expr} {m m' : R0 α} (h : XM X Γ e B m) (q : m = m') : XM X Γ e B m' := q ▸ h
theorem xmt_eq {e : Expr} {m m' : R0 Bool} (h : XMT X Γ e m) (q : m = m') : XMT X Γ e m' := q ▸ h
theorem xmo_eq {A : Rs α} {e : Expr} {m m' : R0 α} (h : XMO X Γ e A m) (q : m = m') : XMO X Γ e A m' := q ▸ h
theorem xm_var (C : Ctx X P w K mg base N sc k dd) (i : Nat) {n : Str} {pos : Pos} (hs : Γ[i]? = some (.is R x) := by rfl) (hv : visB sc n = true := by decide +kernel) (hN : N[i]? = some n := by rfl)
    (hd : (n == ("__debug__" : Str)) = false := by decide +kernel) (hcd : (n == ("__classdict__" : Str)) = false := by decide +kernel) : XM X Γ (.Name n pos) (fz R) (.ok x) := by
  intro σ F H D g e Q W tk q
  obtain ⟨D1, o, h1, _, _, v, h3, h4⟩ := e.get hs
  subst h3
  exact (pe_var (i := i) (by rw [C.N]; exact hN) (C.vis hv) hd hcd).wp ⟨v, h1, q v F H (.refl g.fh) h4⟩
theorem xm_bor (C : Ctx X P w K mg base N sc k dd) (i : Nat) {A : Rs α} {n : Str} {pos : Pos} (bw : Bw A B) (hs : Γ[i]? = some (.res A x) := by rfl) (hv : visB sc n = true := by decide +kernel) (hN : N[i]? = some n := by rfl)
    (hd : (n == ("__debug__" : Str)) = false := by decide +kernel) (hcd : (n == ("__classdict__" : Str)) = false := by decide +kernel) : XM X Γ (.Name n pos) B (.ok x) := by
  intro σ F H D g e Q W tk q
  obtain ⟨D1, o, h1, s, v, h3, h4⟩ := e.get hs
  subst h3
  exact (pe_var (i := i) (by rw [C.N]; exact hN) (C.vis hv) hd hcd).wp ⟨v, h1, q v F H (.refl g.fh) (bw.of h4)⟩
theorem xm_fb {e : Expr} {m : R0 α} (bf : Bf R B) (h : XM X Γ e (fz R) m) : XM X Γ e B m := by
  intro σ F H D g en Q W tk q
  refine h σ F H D g en Q W tk ?_
  cases m with
  | bad => exact q
  | ex ε u => exact q
  | ok x => exact fun v F' H' g' r => q v F' H' g' (bf.of g'.fh r)
theorem xm_pure {e : Expr} (h : ∀ σ F H D, Good X.K F H D → Env F H D Γ σ → ∀ Q : VK, (∀ v F' H', Grow X.K F H F' H' → R.ok F' v x → Q v H') → wpE X e σ H Q) : XM X Γ e (fz R) (.ok x) :=
  fun σ F H D g en Q W tk q => h σ F H D g en Q q
theorem xm_int {i : Int} {j pos} : XM X Γ (.Constant (.int i) j pos) (fz rI) (.ok i) := fun σ F H D g e Q W tk q => pe_int.wp (q _ F H (.refl g.fh) rfl)
theorem xm_str {s : Str} {j pos} (n : niceS s = true := by decide +kernel) : XM X Γ (.Constant (.str s) j pos) (fz rS) (.ok s) := fun σ F H D g e Q W tk q => pe_str.wp (q _ F H (.refl g.fh) ⟨rfl, n⟩)
theorem xm_bool {b : Bool} {j pos} : XM X Γ (.Constant (.bool b) j pos) (fz rB) (.ok b) := fun σ F H D g e Q W tk q => pe_bl.wp (q _ F H (.refl g.fh) rfl)
theorem xm_none {j pos} : XM X Γ (.Constant .none j pos) (fz (rO R)) (.ok none) := fun σ F H D g e Q W tk q => pe_non.wp (q _ F H (.refl g.fh) rfl)
theorem xm_unit {j pos} : XM X Γ (.Constant .none j pos) (fz rN) (.ok ()) := fun σ F H D g e Q W tk q => pe_non.wp (q _ F H (.refl g.fh) rfl)
theorem xm_map {e : Expr} {m : R0 α} {R' : Rp β} (f : α → β) (hf : ∀ F v x, R.ok F v x → R'.ok F v (f x)) (h : XM X Γ e (fz R) m) : XM X Γ e (fz R') (m.bind fun x => .ok (f x)) := by
  intro σ F H D g en Q W tk q
  refine h σ F H D g en Q W tk ?_
  cases m with
  | bad => exact q
  | ex ε u => exact q
  | ok x => exact fun v F' H' g' r => q v F' H' g' (hf F' v x r)
theorem xm_some {e : Expr} {m : R0 α} (h : XM X Γ e (fz R) m) : XM X Γ e (fz (rO R)) (m.bind fun x => .ok (some x)) := xm_map some (fun _ _ _ h => h) h
/-- the value behind what is not None -/
def getO (o : Option α) : R0 α := match o with | some x => .ok x | none => .bad
theorem xm_get {e : Expr} {m : R0 (Option α)} (h : XM X Γ e (fz (rO R)) m) : XM X Γ e (fz R) (m.bind getO) := by
  intro σ F H D g en Q W tk q
  refine h σ F H D g en Q W tk ?_
  cases m with
  | bad => exact q
  | ex ε u => exact q
  | ok x => cases x with
    | none => exact q.elim
    | some x => exact fun v F' H' g' r => q v F' H' g' r
theorem xm_globI (C : Ctx X P w K mg base N sc k dd) {n : Str} {pos : Pos} {i : Int} (hm : ∃ t, mg n = some (.int i t)) (hg : gloB sc n = true := by decide +kernel) (hd : (n == ("__debug__" : Str)) = false := by decide +kernel) : XM X Γ (.Name n pos) (fz rI) (.ok i) := by
  intro σ F H D g e Q W tk q
  obtain ⟨t, hm⟩ := hm
  exact (pe_glob (v := .int i) (C.gl hg) (by rw [C.mg]; exact hm) ⟨t, rfl⟩ hd).wp (q _ F H (.refl g.fh) rfl)
theorem xm_globS (C : Ctx X P w K mg base N sc k dd) {n : Str} {pos : Pos} {i : Str} (hm : ∃ t, mg n = some (.str i t)) (ni : niceS i = true := by decide +kernel) (hg : gloB sc n = true := by decide +kernel) (hd : (n == ("__debug__" : Str)) = false := by decide +kernel) : XM X Γ (.Name n pos) (fz rS) (.ok i) := by
  intro σ F H D g e Q W tk q
  obtain ⟨t, hm⟩ := hm
  exact (pe_glob (v := .str i) (C.gl hg) (by rw [C.mg]; exact hm) ⟨t, rfl⟩ hd).wp (q _ F H (.refl g.fh) ⟨rfl, ni⟩)

/-! ### data without lists or dicts: such an answer outlives a view -/
def TupSub (G F : Hp) : Prop := ∀ p vs, G p = some (.tup vs) → F p = some (.tup vs)
class Imm {α : Type} (R : Rp α) : Prop where
  all : ∀ {G F : Hp} {v : V} {x : α}, TupSub G F → R.ok G v x → R.ok F v x
class ImmW {α : Type} (T : Rw α) : Prop where
  all : ∀ {G F : Hp} {vs : List V} {x : α}, TupSub G F → T.ok G vs x → T.ok F vs x
instance [s : Scal R] : Imm R := ⟨fun _ h => s.all h⟩
theorem imm_prd [i : Imm R] {G F : Hp} (t : TupSub G F) {vs : List V} {xs : List α} (h : Paired (R.ok G) vs xs) : Paired (R.ok F) vs xs := Paired.mapP h fun _ _ q => i.all t q
instance [i : Imm R] : Imm (rO R) := ⟨fun {G F v x} t h => by
  cases x with
  | none => exact h
  | some y => exact i.all (R := R) t h⟩
instance [i : Imm R] : Imm (rV R) := ⟨fun t ⟨z, p, vs, e, h, q⟩ => ⟨z, p, vs, e, t _ _ h, imm_prd t q⟩⟩
instance [i : Imm R] : ImmW (w1 R) := ⟨fun t ⟨v, e, h⟩ => ⟨v, e, i.all t h⟩⟩
instance {T : Rw β} [i : Imm R] [j : ImmW T] : ImmW (wc R T) := ⟨fun t ⟨v, r, e, h, q⟩ => ⟨v, r, e, i.all t h, j.all t q⟩⟩
instance {T : Rw α} [i : ImmW T] : Imm (rT T) := ⟨fun t ⟨p, vs, e, h, q⟩ => ⟨p, vs, e, t _ _ h, i.all t q⟩⟩
instance {f : β → α} [i : Imm R] : Imm (rM R f) := ⟨fun t h => i.all (R := R) t h⟩
/-- what is one's own is no tuple -/
def noTup (o : HO) : Prop := ∀ vs, o ≠ .tup vs

/-! ### operators by values -/
variable {a b c e : Expr} {pos : Pos}
structure OpQ (X : Cx) (f : Value → Value → Sem Value) (B1 : Rq α) (B2 : Rq β) (R3 : Rp γ) (ok : α → β → Prop) (op : α → β → γ) : Prop where
  ex : ∃ r : L2.R2, OpR X f r ∧ ∀ F H v u x y, Same F (Vw H) → B1.ok F H v x → B2.ok F H u y → ok x y → ∀ Q : VK, (∀ z F' H', Grow X.K F H F' H' → R3.ok F' z (op x y) → Q z H') → r v u H Q
abbrev always : α → β → Prop := fun _ _ => True
variable {B1 : Rq α} {B2 : Rq β} {ok : α → β → Prop} {op : α → β → γ} {ma : R0 α} {mb : R0 β}
/-- both, one behind the other -/
theorem two {P : Expr → TE} {X : Cx} {Γ : Gm} {B1 : Rq α} {B2 : Rq β} {ma : R0 α} {mb : R0 β} (ha : XM X Γ a B1 ma) (hb : XM X Γ b B2 mb) {σ : St} {F H : Hp} {D : List Addr} (g : Good X.K F H D) (en : Env F H D Γ σ) {W : WX} (tk : Takes X W) {Q : V → V → Hp → Prop} {C : Rq γ} {f : α → β → R0 γ} {Q0 : VK}
    (h : PM X C (ma.bind fun x => mb.bind fun y => f x y) Q0 W σ F H)
    (k : ∀ x y, ma = .ok x → mb = .ok y → ∀ v u F' H', Grow X.K F H F' H' → B1.ok F' H' v x → B2.ok F' H' u y → PM X C (f x y) Q0 W σ F' H' → Q v u H') : wpE X a σ H fun v H1 => wpE X b σ H1 fun u H2 => Q v u H2 := by
  refine ha σ F H D g en _ W tk ?_
  cases ma with
  | bad => exact h
  | ex ε u => exact h
  | ok x =>
    intro v F1 H1 g1 r1
    refine hb σ F1 H1 D (g.grow g1) (en.grow g g1) _ W tk ?_
    cases mb with
    | bad => exact h
    | ex ε u => exact fun c d F' H' g' => h c d F' H' (g1.trans g')
    | ok y =>
      intro u F2 H2 g2 r2
      refine k x y rfl rfl v u F2 H2 (g1.trans g2) (B1.grow g2 r1) r2 ?_
      have h : PM X C (f x y) Q0 W σ F H := h
      revert h
      cases f x y with
      | bad => exact id
      | ex ε u => exact fun h c d F' H' g' => h c d F' H' ((g1.trans g2).trans g')
      | ok z => exact fun h v F' H' g' => h v F' H' ((g1.trans g2).trans g')
theorem xm_bin {o : Operator} [∀ x y, Decidable (ok x y)] (h : OpQ X (binaryOp o) B1 B2 R3 ok op) (ha : XM X Γ a B1 ma) (hb : XM X Γ b B2 mb) : XM X Γ (.BinOp a o b pos) (fz R3) (ma.bind fun x => mb.bind fun y => gd (ok x y) (.ok (op x y))) := by
  obtain ⟨r, ho, go⟩ := h.ex
  intro σ F H D g en Q W tk q
  refine (pe_op ho (pe_ a) (pe_ b)).wp (two (P := wpE X) ha hb g en tk q fun x y _ _ v u F2 H2 g2 r1 r2 q2 => ?_)
  by_cases hk : ok x y
  · rw [gd_true hk] at q2
    exact go F2 H2 v u x y g2.fh r1 r2 hk Q fun z F' H' g3 r3 => q2 z F' H' g3 r3
  · rw [show gd (ok x y) (Res.ok (op x y) : R0 γ) = .bad from gd_bad hk] at q2
    exact q2.elim
theorem xm_binT {o : Operator} (h : OpQ X (binaryOp o) B1 B2 R3 always op) (ha : XM X Γ a B1 ma) (hb : XM X Γ b B2 mb) : XM X Γ (.BinOp a o b pos) (fz R3) (ma.bind fun x => mb.bind fun y => .ok (op x y)) := by
  obtain ⟨r, ho, go⟩ := h.ex
  intro σ F H D g en Q W tk q
  refine (pe_op ho (pe_ a) (pe_ b)).wp (two (P := wpE X) ha hb g en tk q fun x y _ _ v u F2 H2 g2 r1 r2 q2 => ?_)
  exact go F2 H2 v u x y g2.fh r1 r2 trivial Q fun z F' H' g3 r3 => q2 z F' H' g3 r3
/-- as xm_binT where the right one is known to fit -/
theorem xm_binK {o : Operator} {y0 : β} (h : OpQ X (binaryOp o) B1 B2 R3 ok op) (ha : XM X Γ a B1 ma) (hb : XM X Γ b B2 (.ok y0)) (hk : ∀ x, ok x y0) : XM X Γ (.BinOp a o b pos) (fz R3) (ma.bind fun x => .ok (op x y0)) := by
  obtain ⟨r, ho, go⟩ := h.ex
  intro σ F H D g en Q W tk q
  refine (pe_op ho (pe_ a) (pe_ b)).wp (two (P := wpE X) (f := fun x y => .ok (op x y)) ha hb g en tk q fun x y _ hy v u F2 H2 g2 r1 r2 q2 => ?_)
  cases hy
  exact go F2 H2 v u x _ g2.fh r1 r2 (hk x) Q fun z F' H' g3 r3 => q2 z F' H' g3 r3
theorem xm_cmp {o : CmpOp} {op : α → β → Bool} (h : OpQ X (compareOp o) B1 B2 rB always op) (ha : XM X Γ a B1 ma) (hb : XM X Γ b B2 mb) (hm : behindInMarks o b = false := by first | exact nomark _ | rfl) : XM X Γ (.Compare a [o] [b] pos) (fz rB) (ma.bind fun x => mb.bind fun y => .ok (op x y)) := by
  obtain ⟨r, ho, go⟩ := h.ex
  intro σ F H D g en Q W tk q
  refine (pe_cmpR ho (pe_ a) (pe_ b) hm).wp (two (P := wpE X) ha hb g en tk q fun x y _ _ v u F2 H2 g2 r1 r2 q2 => ?_)
  exact go F2 H2 v u x y g2.fh r1 r2 trivial Q fun z F' H' g3 r3 => q2 z F' H' g3 r3
theorem PMT.pm {m : R0 Bool} {Q : Bool → Hp → Prop} {W : WX} {σ : St} {F H : Hp} (h : PMT X m Q W σ F H) : PM X (fz rB) m (fun v H' => ∃ k, v = .bl k ∧ Q k H') W σ F H := by
  cases m with
  | bad => exact h
  | ex ε u => exact h
  | ok x => exact fun v F' H' g r => ⟨x, r, h F' H' g⟩
theorem xmt_cmp {o : CmpOp} {op : α → β → Bool} (h : OpQ X (compareOp o) B1 B2 rB always op) (ha : XM X Γ a B1 ma) (hb : XM X Γ b B2 mb) (hm : behindInMarks o b = false := by first | exact nomark _ | rfl) : XMT X Γ (.Compare a [o] [b] pos) (ma.bind fun x => mb.bind fun y => .ok (op x y)) := by
  obtain ⟨r, ho, go⟩ := h.ex
  intro σ F H D g en Q W tk q
  refine (pt_cmpR ho (pe_ a) (pe_ b) hm).wp (two (P := wpE X) ha hb g en tk q.pm fun x y _ _ v u F2 H2 g2 r1 r2 q2 => ?_)
  exact go F2 H2 v u x y g2.fh r1 r2 trivial _ fun z F' H' g3 r3 => q2 z F' H' g3 r3
/-- a < b < c, b asked once -/
theorem xm_chain {o o' : CmpOp} {δ : Type} {B4 : Rq δ} {mc : R0 δ} {op : α → β → Bool} {op' : β → δ → Bool} (h : OpQ X (compareOp o) B1 B2 rB always op) (h' : OpQ X (compareOp o') B2 B4 rB always op')
    (ha : XM X Γ a B1 ma) (hb : XM X Γ b B2 mb) (hc : XM X Γ c B4 mc) (hm : lastMarks [o, o'] [b, c] = false := by with_unfolding_all rfl) : XM X Γ (.Compare a [o, o'] [b, c] pos) (fz rB) (ma.bind fun x => mb.bind fun y => bif op x y then mc.bind fun z => .ok (op' y z) else .ok false) := by
  obtain ⟨r, ho, go⟩ := h.ex
  obtain ⟨r', ho', go'⟩ := h'.ex
  intro σ F H D g en Q W tk q
  refine (pe_chain ho ho' (pe_ a) (pe_ b) (pe_ c) hm).wp (two (P := wpE X) ha hb g en tk q fun x y _ _ v u F2 H2 g2 r1 r2 q2 => ?_)
  refine go F2 H2 v u x y g2.fh r1 r2 trivial _ fun z1 F3 H3 g3 r3 => ⟨op x y, r3, ?_⟩
  revert q2
  cases hx : op x y with
  | false => exact fun q2 => q2 _ F3 H3 g3 rfl
  | true =>
    intro q2
    have q2 : PM X (fz rB) (mc.bind fun z => .ok (op' y z)) Q W σ F2 H2 := q2
    have g23 := g2.trans g3
    refine hc σ F3 H3 D (g.grow g23) (en.grow g g23) _ W tk ?_
    cases mc with
    | bad => exact q2
    | ex ε u => exact fun c d F' H' g' => q2 c d F' H' (g3.trans g')
    | ok z =>
      intro z2 F4 H4 g4 r4
      exact go' F4 H4 u z2 y z g4.fh (B2.grow (g3.trans g4) r2) r4 trivial Q fun z3 F5 H5 g5 r5 => q2 z3 F5 H5 ((g3.trans g4).trans g5) r5
theorem xmt_val {m : R0 Bool} (h : XM X Γ a (fz rB) m) (he : ∀ whole, isTrue a X.env whole = (do let v ← whole; standAt a.pos; holding [v] (truthy v)) := by intro _; rfl) : XMT X Γ a m := fun σ F H D g e Q W tk q =>
  (pt_val (pe_ a) he).wp (h σ F H D g e _ W tk (by
    cases m with
    | bad => exact q
    | ex ε u => exact q
    | ok x => exact fun v F' H' g' r => ⟨x, r, q F' H' g'⟩))
theorem xmt_chain {o o' : CmpOp} {δ : Type} {B4 : Rq δ} {mc : R0 δ} {op : α → β → Bool} {op' : β → δ → Bool} (h : OpQ X (compareOp o) B1 B2 rB always op) (h' : OpQ X (compareOp o') B2 B4 rB always op')
    (ha : XM X Γ a B1 ma) (hb : XM X Γ b B2 mb) (hc : XM X Γ c B4 mc) (hm : lastMarks [o, o'] [b, c] = false := by with_unfolding_all rfl) : XMT X Γ (.Compare a [o, o'] [b, c] pos) (ma.bind fun x => mb.bind fun y => bif op x y then mc.bind fun z => .ok (op' y z) else .ok false) := by
  obtain ⟨r, ho, go⟩ := h.ex
  obtain ⟨r', ho', go'⟩ := h'.ex
  intro σ F H D g en Q W tk q
  refine (pt_chain ho ho' (pe_ a) (pe_ b) (pe_ c) hm).wp (two (P := wpE X) ha hb g en tk q.pm fun x y _ _ v u F2 H2 g2 r1 r2 q2 => ?_)
  refine go F2 H2 v u x y g2.fh r1 r2 trivial _ fun z1 F3 H3 g3 r3 => ⟨op x y, r3, ?_⟩
  revert q2
  cases hx : op x y with
  | false =>
    intro q2
    obtain ⟨k, hk, q3⟩ := q2 _ F3 H3 g3 rfl
    cases hk
    exact ⟨false, rfl, q3⟩
  | true =>
    intro q2
    have q2 : PM X (fz rB) (mc.bind fun z => .ok (op' y z)) _ W σ F2 H2 := q2
    have g23 := g2.trans g3
    refine hc σ F3 H3 D (g.grow g23) (en.grow g g23) _ W tk ?_
    cases mc with
    | bad => exact q2
    | ex ε u => exact fun c d F' H' g' => q2 c d F' H' (g3.trans g')
    | ok z =>
      intro z2 F4 H4 g4 r4
      exact go' F4 H4 u z2 y z g4.fh (B2.grow (g3.trans g4) r2) r4 trivial _ fun z3 F5 H5 g5 r5 => q2 z3 F5 H5 ((g3.trans g4).trans g5) r5

/-! ### and, or, not -/
variable {mp mq : R0 Bool} {rest : List Expr}
theorem xmw_and1 (h : XMT X Γ a mp) : XMW X Γ (.BoolOp .And [a] pos) mp := fun σ F H D g e Q W tk q => (pw_and1 (pt_ a)).wp (h σ F H D g e Q W tk q)
theorem xmw_or1 (h : XMT X Γ a mp) : XMW X Γ (.BoolOp .Or [a] pos) mp := fun σ F H D g e Q W tk q => (pw_or1 (pt_ a)).wp (h σ F H D g e Q W tk q)
theorem xmw_and (h : XMT X Γ a mp) (h' : XMW X Γ (.BoolOp .And (b :: rest) pos) mq) : XMW X Γ (.BoolOp .And (a :: b :: rest) pos) (mp.bind fun p => bif p then mq else .ok false) := by
  intro σ F H D g e Q W tk k
  refine (pw_and (pt_ a) (pw_ _)).wp (h σ F H D g e _ W tk ?_)
  cases mp with
  | bad => exact k
  | ex ε u => exact k
  | ok p =>
    intro F1 H1 g1
    cases p with
    | true =>
      refine iteT (h' σ F1 H1 D (g.grow g1) (e.grow g g1) _ W tk ?_)
      have k : PMT X mq Q W σ F H := k
      cases mq with
      | bad => exact k
      | ex ε u => exact fun c d F' H' g' => k c d F' H' (g1.trans g')
      | ok p => exact fun F' H' g' => k F' H' (g1.trans g')
    | false => exact iteF (k F1 H1 g1)
theorem xmw_or (h : XMT X Γ a mp) (h' : XMW X Γ (.BoolOp .Or (b :: rest) pos) mq) : XMW X Γ (.BoolOp .Or (a :: b :: rest) pos) (mp.bind fun p => bif p then .ok true else mq) := by
  intro σ F H D g e Q W tk k
  refine (pw_or (pt_ a) (pw_ _)).wp (h σ F H D g e _ W tk ?_)
  cases mp with
  | bad => exact k
  | ex ε u => exact k
  | ok p =>
    intro F1 H1 g1
    cases p with
    | false =>
      refine iteF (h' σ F1 H1 D (g.grow g1) (e.grow g g1) _ W tk ?_)
      have k : PMT X mq Q W σ F H := k
      cases mq with
      | bad => exact k
      | ex ε u => exact fun c d F' H' g' => k c d F' H' (g1.trans g')
      | ok p => exact fun F' H' g' => k F' H' (g1.trans g')
    | true => exact iteT (k F1 H1 g1)
theorem xmt_w (h : XMW X Γ a mp) : XMT X Γ a mp := fun σ F H D g e Q W tk q => (pw_ a).pt.wp (h σ F H D g e Q W tk q)
theorem xmt_not (h : XMT X Γ a mp) : XMT X Γ (.UnaryOp .Not a pos) (mp.bind fun p => .ok (!p)) := fun σ F H D g e Q W tk q => (pt_not (pt_ a)).wp (h σ F H D g e _ W tk (by
  cases mp with
  | bad => exact q
  | ex ε u => exact q
  | ok p => exact fun F' H' g' => q F' H' g'))
theorem xm_one {m : R0 α} {o} (h : XM X Γ a B m) : XM X Γ (.BoolOp o [a] pos) B m := fun σ F H D g e Q W tk q => (pe_one (pe_ a)).wp (h σ F H D g e Q W tk q)
theorem xm_and (h : XM X Γ a (fz rB) mp) (h' : XM X Γ (.BoolOp .And (b :: rest) pos) (fz rB) mq) : XM X Γ (.BoolOp .And (a :: b :: rest) pos) (fz rB) (mp.bind fun p => bif p then mq else .ok false) := by
  intro σ F H D g e Q W tk k
  refine (pe_and (pe_ a) (pe_ _)).wp (h σ F H D g e _ W tk ?_)
  cases mp with
  | bad => exact k
  | ex ε u => exact k
  | ok p =>
    intro v F1 H1 g1 r
    refine ⟨p, r, ?_⟩
    cases p with
    | true =>
      refine iteT (h' σ F1 H1 D (g.grow g1) (e.grow g g1) _ W tk ?_)
      have k : PM X (fz rB) mq Q W σ F H := k
      cases mq with
      | bad => exact k
      | ex ε u => exact fun c d F' H' g' => k c d F' H' (g1.trans g')
      | ok p => exact fun v F' H' g' => k v F' H' (g1.trans g')
    | false => exact iteF (k _ F1 H1 g1 rfl)
theorem xm_or (h : XM X Γ a (fz rB) mp) (h' : XM X Γ (.BoolOp .Or (b :: rest) pos) (fz rB) mq) : XM X Γ (.BoolOp .Or (a :: b :: rest) pos) (fz rB) (mp.bind fun p => bif p then .ok true else mq) := by
  intro σ F H D g e Q W tk k
  refine (pe_or (pe_ a) (pe_ _)).wp (h σ F H D g e _ W tk ?_)
  cases mp with
  | bad => exact k
  | ex ε u => exact k
  | ok p =>
    intro v F1 H1 g1 r
    refine ⟨p, r, ?_⟩
    cases p with
    | false =>
      refine iteF (h' σ F1 H1 D (g.grow g1) (e.grow g g1) _ W tk ?_)
      have k : PM X (fz rB) mq Q W σ F H := k
      cases mq with
      | bad => exact k
      | ex ε u => exact fun c d F' H' g' => k c d F' H' (g1.trans g')
      | ok p => exact fun v F' H' g' => k v F' H' (g1.trans g')
    | true => exact iteT (k _ F1 H1 g1 rfl)
theorem xm_not (h : XM X Γ a (fz rB) mp) : XM X Γ (.UnaryOp .Not a pos) (fz rB) (mp.bind fun p => .ok (!p)) := fun σ F H D g e Q W tk q => (pe_not (pe_ a)).wp (h σ F H D g e _ W tk (by
  cases mp with
  | bad => exact q
  | ex ε u => exact q
  | ok p => exact fun v F' H' g' r => ⟨p, r, q _ F' H' g' rfl⟩))

/-! ### arguments, tuples, lists -/
theorem xma_nil : XMA (τ := Unit) X Γ [] (fun _ => []) (.ok ()) := fun σ F H D g e Q W tk q => pa_nil.wp (q [] F H (.refl g.fh) ⟨rfl, rfl⟩)
theorem xma_cons {τ : Type} {es : List Expr} {ss : τ → Gm} {m : R0 α} {mt : R0 τ} (h : XM X Γ a (fz R) m) (hr : XMA X Γ es ss mt) (hs : starEach (a :: es) X.env = (false, eval a X.env) :: starEach es X.env := by rfl) :
    XMA X Γ (a :: es) (fun t : α × τ => .is R t.1 :: ss t.2) (m.bind fun x => mt.bind fun t => .ok (x, t)) := by
  intro σ F H D g e Q W tk q
  refine (pa_cons (pe_ a) (pa_ es) hs).wp (h σ F H D g e _ W tk ?_)
  cases m with
  | bad => exact q
  | ex ε u => exact q
  | ok x =>
    intro v F1 H1 g1 r1
    refine hr σ F1 H1 D (g.grow g1) (e.grow g g1) _ W tk ?_
    cases mt with
    | bad => exact q
    | ex ε u => exact fun c d F' H' g' => q c d F' H' (g1.trans g')
    | ok t => exact fun vs F2 H2 g2 e2 => q (v :: vs) F2 H2 (g1.trans g2) ⟨[], [], rfl, ⟨rfl, v, rfl, R.mono g2.ff r1⟩, e2⟩
theorem xmr_1 {m : R0 α} (h : XM X Γ a (fz R) m) (hs : starEach [a] X.env = (false, eval a X.env) :: starEach [] X.env := by rfl) : XMR X Γ [a] (w1 R) m := by
  intro σ F H D g e Q W tk q
  refine (pa_cons (pe_ a) pa_nil hs).wp (h σ F H D g e _ W tk ?_)
  cases m with
  | bad => exact q
  | ex ε u => exact q
  | ok x => exact fun v F1 H1 g1 r1 => q [v] F1 H1 g1 ⟨v, rfl, r1⟩ rfl
theorem xmr_c {es : List Expr} {T : Rw β} {m : R0 α} {mt : R0 β} (h : XM X Γ a (fz R) m) (hr : XMR X Γ es T mt) (hs : starEach (a :: es) X.env = (false, eval a X.env) :: starEach es X.env := by rfl) : XMR X Γ (a :: es) (wc R T) (m.bind fun x => mt.bind fun t => .ok (x, t)) := by
  intro σ F H D g e Q W tk q
  refine (pa_cons (pe_ a) (pa_ es) hs).wp (h σ F H D g e _ W tk ?_)
  cases m with
  | bad => exact q
  | ex ε u => exact q
  | ok x =>
    intro v F1 H1 g1 r1
    refine hr σ F1 H1 D (g.grow g1) (e.grow g g1) _ W tk ?_
    cases mt with
    | bad => exact q
    | ex ε u => exact fun c d F' H' g' => q c d F' H' (g1.trans g')
    | ok t => exact fun vs F2 H2 g2 r2 l2 => q (v :: vs) F2 H2 (g1.trans g2) ⟨v, vs, rfl, R.mono g2.ff r1, r2⟩ (by simp [l2])
theorem xm_tup {es : List Expr} {T : Rw α} {m : R0 α} {k1} (h : XMR X Γ es T m) (hl : es.length ≤ 1000 := by decide) : XM X Γ (.Tuple es k1 pos) (fz (rT T)) m := by
  intro σ F H D g e Q W tk q
  refine (pe_tup (pa_ es)).wp (h σ F H D g e _ W tk ?_)
  cases m with
  | bad => exact q
  | ex ε u => exact q
  | ok x =>
    intro vs F1 H1 g1 r l
    refine ⟨by rw [l]; exact Nat.le_trans hl (by decide), fun p np => ?_⟩
    have gl := Grow.laid (K := X.K) (o := HO.tup vs) g1.fh np (fun _ _ z => by cases z)
    exact q _ _ _ (g1.trans gl) ⟨p, vs, rfl, upd_same, T.mono gl.ff r⟩
theorem xml_nil : XML X Γ [] R (.ok []) := fun σ F H D g e Q W tk q => pa_nil.wp (q [] F H (.refl g.fh) .nil rfl)
theorem xml_cons {es : List Expr} {m : R0 α} {mt : R0 (List α)} (h : XM X Γ a (fz R) m) (hr : XML X Γ es R mt) (hs : starEach (a :: es) X.env = (false, eval a X.env) :: starEach es X.env := by rfl) : XML X Γ (a :: es) R (m.bind fun x => mt.bind fun t => .ok (x :: t)) := by
  intro σ F H D g e Q W tk q
  refine (pa_cons (pe_ a) (pa_ es) hs).wp (h σ F H D g e _ W tk ?_)
  cases m with
  | bad => exact q
  | ex ε u => exact q
  | ok x =>
    intro v F1 H1 g1 r1
    refine hr σ F1 H1 D (g.grow g1) (e.grow g g1) _ W tk ?_
    cases mt with
    | bad => exact q
    | ex ε u => exact fun c d F' H' g' => q c d F' H' (g1.trans g')
    | ok t => exact fun vs F2 H2 g2 r2 l2 => q (v :: vs) F2 H2 (g1.trans g2) (.cons (R.mono g2.ff r1) r2) (by simp [l2])
theorem xm_vtup {es : List Expr} {m : R0 (List α)} {k1} (h : XML X Γ es R m) (hl : es.length ≤ 1000 := by decide) : XM X Γ (.Tuple es k1 pos) (fz (rV R)) m := by
  intro σ F H D g e Q W tk q
  refine (pe_tup (pa_ es)).wp (h σ F H D g e _ W tk ?_)
  cases m with
  | bad => exact q
  | ex ε u => exact q
  | ok xs =>
    intro vs F1 H1 g1 r l
    refine ⟨by rw [l]; exact Nat.le_trans hl (by decide), fun p np => ?_⟩
    have gl := Grow.laid (K := X.K) (o := HO.tup vs) g1.fh np (fun _ _ z => by cases z)
    exact q _ _ _ (g1.trans gl) ⟨by rw [← r.length, l]; exact Nat.le_trans hl (by decide), p, vs, rfl, upd_same, prd_mono gl.ff r⟩

/-! ### new objects -/
theorem xo_fresh {F H : Hp} {p : Addr} {o : HO} (h : Same F (Vw H)) (np : H p = none) (t : noTb o := by intro _ z; cases z) : Step X.K F H [] F (upd H p o) [p] := by
  have g := Grow.made (K := X.K) (o := o) h np t
  refine ⟨g.ff, g.fh, fun b o hb t _ => g.hh b o hb t, g.hn, fun b h1 h2 _ => g.new b h1 h2, by simp, fun b hb => ?_, fun b hb => ?_, fun b hb u e => ?_, fun b hb => ?_, g.tb⟩
  all_goals (obtain rfl : b = p := by simpa using hb)
  · cases z : F b with
    | none => rfl
    | some u => exact absurd np (of_vw (h b u z))
  · exact ⟨o, upd_same, t⟩
  · rw [upd_same] at e; cases e; exact t
  · exact .inr (Th.no np)
theorem xmo_newL {es : List Expr} {m : R0 (List α)} (h : XML X Γ es R m) (hl : es.length ≤ 1000 := by decide) : XMO X Γ (.List es pos) (oL R) m := by
  intro σ F H D g e Q W tk q
  refine (pe_lst (pa_ es)).wp (h σ F H D g e _ W tk ?_)
  cases m with
  | bad => exact q
  | ex ε u => exact q
  | ok xs =>
    intro vs F1 H1 g1 r l
    refine ⟨by rw [l]; exact Nat.le_trans hl (by decide), fun p np => ?_⟩
    exact q _ F1 _ [p] ((Step.of (Good.nil g.fh g.tb) g1).trans (xo_fresh g1.fh np)) ⟨by rw [← r.length, l]; exact Nat.le_trans hl (by decide), p, vs, rfl, rfl, upd_same, r⟩
theorem xmo_newK {κ : Type} (A : KF κ) (R : Rp α) : XMO X Γ (.Dict [] [] pos) (oK A R) (.ok []) := fun σ F H D g en Q W tk q =>
  pe_dnewK.wp fun p np => q _ F _ [p] (xo_fresh g.fh np) ⟨Nat.zero_le _, p, [], rfl, rfl, upd_same, .nil⟩
theorem xmo_newKT {κ : Type} (A : KT' κ) (R : Rp α) : XMO X Γ (.Dict [] [] pos) (oKT A R) (.ok []) := fun σ F H D g en Q W tk q =>
  pe_dnewT.wp fun p np => q _ F _ [p] (xo_fresh g.fh np) ⟨Nat.zero_le _, p, [], rfl, rfl, upd_same, .nil⟩
/-- a new object that is handed back may be taken as frozen -/
theorem xm_ofO {A : Rs α} {m : R0 α} (h : XMO X Γ e A m) : XM X Γ e (fz A.rd) m := by
  intro σ F H D g en Q W tk q
  refine h σ F H D g en _ W tk ?_
  cases m with
  | bad => exact q
  | ex ε u => exact q
  | ok x =>
    intro v F' H' D' a ok
    have gs : Same F' (ovl F' H' D') := fun p u z => by
      rw [ovl_out (fun hp => by rw [a.dF p hp] at z; cases z)]; exact z
    refine q v (ovl F' H' D') H' ⟨a.ff.trans gs, fun p u z => ?_, a.grow.hh, a.grow.hn, fun p h1 h2 => ?_, a.tb⟩ (A.read (fun p hp => ovl_in hp) gs ok)
    · by_cases hp : p ∈ D'
      · rw [ovl_in hp] at z; exact z
      · rw [ovl_out hp] at z; exact a.fh p u z
    · rw [ovl_out fun hp => ?_]
      · exact a.grow.new p h1 h2
      · rcases a.dN p hp with z | z
        · cases z
        · exact z h2

/-! ### items -/
structure IxQ (X : Cx) (B1 : Rq α) (B2 : Rq β) (R3 : Rp γ) (ok : α → β → Prop) (op : α → β → γ) : Prop where
  ex : ∃ r : L2.R2, IxR X r ∧ ∀ F H v u x y, Same F (Vw H) → B1.ok F H v x → B2.ok F H u y → ok x y → ∀ Q : VK, (∀ z F' H', Grow X.K F H F' H' → R3.ok F' z (op x y) → Q z H') → r v u H Q
theorem xm_ix [∀ x y, Decidable (ok x y)] (h : IxQ X B1 B2 R3 ok op) (ha : XM X Γ a B1 ma) (hb : XM X Γ b B2 mb) (hs : PlainIx b := by exact fun _ _ => rfl) : XM X Γ (.Subscript a b pos) (fz R3) (ma.bind fun x => mb.bind fun y => gd (ok x y) (.ok (op x y))) := by
  obtain ⟨r, ho, go⟩ := h.ex
  intro σ F H D g en Q W tk q
  refine (pe_ix ho (pe_ a) (pe_ b) hs).wp (two (P := wpE X) ha hb g en tk q fun x y _ _ v u F2 H2 g2 r1 r2 q2 => ?_)
  by_cases hk : ok x y
  · rw [gd_true hk] at q2
    exact go F2 H2 v u x y g2.fh r1 r2 hk Q fun z F' H' g3 r3 => q2 z F' H' g3 r3
  · rw [show gd (ok x y) (Res.ok (op x y) : R0 γ) = .bad from gd_bad hk] at q2
    exact q2.elim
/-- an item by its place, counted from the end where below nought -/
def ix [Inhabited α] (xs : List α) (i : Int) : α := (atI xs i).getD default
def inR (xs : List α) (i : Int) : Prop := -(xs.length : Int) ≤ i ∧ i < xs.length
instance {xs : List α} {i : Int} : Decidable (inR xs i) := inferInstanceAs (Decidable (_ ∧ _))
theorem _root_.PySem.Paired.get {G : α → β → Prop} {vs : List α} {xs : List β} (h : Paired G vs xs) : ∀ {j : Nat} {v : α}, vs[j]? = some v → ∃ x, xs[j]? = some x ∧ G v x := by
  induction h with
  | nil => intro j v e; simp at e
  | cons r _ ih =>
    intro j v e
    cases j with
    | zero => simp at e; subst e; exact ⟨_, rfl, r⟩
    | succ j => simpa using ih (j := j) (v := v) (by simpa using e)
theorem atI_some {xs : List α} {i : Int} (h : inR xs i) : ∃ v, atI xs i = some v := by
  unfold atI ixN
  have h1 := h.1
  have h2 := h.2
  by_cases c : 0 ≤ i
  · rw [if_pos c, if_pos h2]
    exact ⟨xs[i.toNat]'(by omega), List.getElem?_eq_getElem _⟩
  · rw [if_neg c, if_pos h1]
    exact ⟨xs[(i + xs.length).toNat]'(by omega), List.getElem?_eq_getElem _⟩
theorem at_pair {G : β → α → Prop} {vs : List β} {xs : List α} (h : Paired G vs xs) [Inhabited α] {i : Int} (hi : inR xs i) : ∃ v, atI vs i = some v ∧ G v (ix xs i) := by
  have hl : vs.length = xs.length := h.length
  obtain ⟨v, e⟩ := atI_some (xs := vs) (i := i) (by unfold inR; rw [hl]; exact hi)
  refine ⟨v, e, ?_⟩
  unfold atI at e
  cases c : ixN vs.length i with
  | none => rw [c] at e; cases e
  | some j =>
    rw [c] at e
    obtain ⟨x, e2, g⟩ := h.get (j := j) (v := v) e
    have : ix xs i = x := by
      unfold ix atI
      rw [← hl, c]
      show (xs[j]?).getD default = x
      rw [e2]; rfl
    rw [this]; exact g
theorem i_list [Inhabited α] : IxQ X (bL R) (fz rI) R inR ix :=
  ⟨_, ix_list, fun F H v u x y s ⟨_, p, vs, e, h, q⟩ r2 hi Q k => by
    obtain ⟨w', e1, g⟩ := at_pair q hi
    exact ⟨p, vs, y, w', e, r2, .inl h, e1, k _ F H (.refl s) g⟩⟩
theorem i_vtup [Inhabited α] : IxQ X (fz (rV R)) (fz rI) R inR ix :=
  ⟨_, ix_tup, fun F H v u x y s ⟨_, p, vs, e, h, q⟩ r2 hi Q k => by
    obtain ⟨w', e1, g⟩ := at_pair q hi
    exact ⟨p, vs, y, w', e, r2, .inl (rd_of (s _ _ h)), e1, k _ F H (.refl s) g⟩⟩
/-- an item of a tuple by a written place -/
class RwAt {α : Type} {β : outParam Type} (T : Rw α) (i : Nat) (R : outParam (Rp β)) (f : outParam (α → β)) : Prop where
  at_ : ∀ {F : Hp} {vs : List V} {x : α}, T.ok F vs x → ∃ v, vs[i]? = some v ∧ R.ok F v (f x)
instance rw_at1 : RwAt (w1 R) 0 R (fun x => x) := ⟨fun ⟨v, e, h⟩ => ⟨v, by rw [e]; rfl, h⟩⟩
instance rw_at0 {T : Rw β} : RwAt (wc R T) 0 R (fun x => x.1) := ⟨fun ⟨v, r, e, h, _⟩ => ⟨v, by rw [e]; rfl, h⟩⟩
instance rw_atS {T : Rw β} {i : Nat} {R' : Rp γ} {f : β → γ} [t : RwAt T i R' f] : RwAt (wc R T) (i + 1) R' (fun x => f x.2) := ⟨fun ⟨v, r, e, _, q⟩ => by
  obtain ⟨u, e1, h1⟩ := t.at_ q
  exact ⟨u, by rw [e]; simpa using e1, h1⟩⟩
theorem xm_at {T : Rw α} {R' : Rp β} {f : α → β} {m : R0 α} (i : Nat) [t : RwAt T i R' f] {j pos'} (ha : XM X Γ a (fz (rT T)) m) : XM X Γ (.Subscript a (.Constant (.int (i : Int)) j pos') pos) (fz R') (m.bind fun x => .ok (f x)) := by
  intro σ F H D g e Q W tk q
  refine (pe_ix ix_tup (pe_ a) pe_int (fun _ _ => rfl)).wp (ha σ F H D g e _ W tk ?_)
  cases m with
  | bad => exact q
  | ex ε u => exact q
  | ok x =>
    intro v F1 H1 g1 ⟨p, vs, e1, h, r⟩
    obtain ⟨u, e2, r2⟩ := t.at_ r
    exact ⟨p, vs, (i : Int), u, e1, rfl, .inl (rd_of (g1.fh _ _ h)), atI_nat e2, q u F1 H1 g1 r2⟩
/-- a tuple's item from the end -/
theorem xm_atN {T : Rw α} {R' : Rp β} {f : α → β} {m : R0 α} (i n : Nat) [t : RwAt T i R' f] (hl : ∀ {F vs x}, T.ok F vs x → vs.length = n) (j : Nat) (hj : i + j = n ∧ 0 < j) {k1 pos' pos2} (ha : XM X Γ a (fz (rT T)) m) :
    XM X Γ (.Subscript a (.UnaryOp .USub (.Constant (.int (j : Int)) k1 pos') pos2) pos) (fz R') (m.bind fun x => .ok (f x)) := by
  intro σ F H D g e Q W tk q
  refine (pe_ix ix_tup (pe_ a) (pe_un un_neg pe_int) (fun _ _ => rfl)).wp (ha σ F H D g e _ W tk ?_)
  cases m with
  | bad => exact q
  | ex ε u => exact q
  | ok x =>
    intro v F1 H1 g1 ⟨p, vs, e1, h, r⟩
    obtain ⟨u, e2, r2⟩ := t.at_ r
    have l := hl r
    refine ⟨(j : Int), rfl, p, vs, -(j : Int), u, e1, rfl, .inl (rd_of (g1.fh _ _ h)), ?_, q u F1 H1 g1 r2⟩
    unfold atI ixN
    rw [if_neg (by omega), if_pos (by omega)]
    have : (-(j : Int) + (vs.length : Nat)).toNat = i := by omega
    rw [this]; exact e2
theorem niceS_len {x : Str} (h : niceS x = true) : x.length ≤ 100000 := of_decide_eq_true (Bool.and_eq_true_iff.mp h).1
theorem niceS_ok {x : Str} (h : niceS x = true) : PyData.strOk x = true := (Bool.and_eq_true_iff.mp h).2
theorem niceS_sign {z : Str} (h : niceS z = true) {c : Nat} (m : c ∈ z.cps.toList) : niceS ⟨#[c]⟩ = true := by
  have h2 := niceS_ok h
  unfold PyData.strOk at h2
  rw [Array.all_eq_true'] at h2
  have h3 := h2 c (by simpa using m)
  unfold niceS PyData.strOk
  simp only [Str.length]
  simpa using h3
theorem ix_mem [Inhabited α] {xs : List α} {i : Int} (h : inR xs i) : ix xs i ∈ xs := by
  obtain ⟨v, e⟩ := atI_some h
  unfold ix; rw [e]
  unfold atI at e
  cases c : ixN xs.length i with
  | none => rw [c] at e; cases e
  | some j => rw [c] at e; exact List.mem_of_getElem? e
theorem i_str : IxQ X (fz rS) (fz rI) rS (fun z i => inR z.cps.toList i) (fun z i => ⟨#[ix z.cps.toList i]⟩) :=
  ⟨_, ix_str, fun F H v u x y s r1 r2 hi Q k => by
    obtain ⟨c, e⟩ := atI_some hi
    refine ⟨x, y, c, r1.1, r2, Nat.le_trans (niceS_len r1.2) (by decide), e, k _ F H (.refl s) ⟨?_, niceS_sign r1.2 (ix_mem hi)⟩⟩
    show V.str _ = V.str _
    unfold ix; rw [e]; rfl⟩

/-! ### the operators -/
theorem opq_ii {f : Value → Value → Sem Value} {h : Int → Int → Int} (ho : OpR X f (rI0 fun i j => .int (h i j))) : OpQ X f (fz rI) (fz rI) rI always h :=
  ⟨_, ho, fun F H v u x y s r1 r2 _ Q q => ⟨x, y, r1, r2, q _ F H (.refl s) rfl⟩⟩
theorem opq_iic {f : Value → Value → Sem Value} {c : Int → Int → Prop} {h : Int → Int → Int} (ho : OpR X f (L2.rI c fun i j => .int (h i j))) : OpQ X f (fz rI) (fz rI) rI c h :=
  ⟨_, ho, fun F H v u x y s r1 r2 hc Q q => ⟨x, y, r1, r2, hc, q _ F H (.refl s) rfl⟩⟩
theorem opq_iib {f : Value → Value → Sem Value} {h : Int → Int → Bool} (ho : OpR X f (rI0 fun i j => .bl (h i j))) : OpQ X f (fz rI) (fz rI) rB always h :=
  ⟨_, ho, fun F H v u x y s r1 r2 _ Q q => ⟨x, y, r1, r2, q _ F H (.refl s) rfl⟩⟩
instance {i j : Int} : Decidable (CMul i j) := inferInstanceAs (Decidable (_ ∨ _))
instance {i j : Int} : Decidable (CDiv i j) := inferInstanceAs (Decidable (_ ∧ _))
instance {i j : Int} : Decidable (CPow i j) := inferInstanceAs (Decidable (_ ∧ _))
def CMod (_ j : Int) : Prop := 0 < j
instance {i j : Int} : Decidable (CMod i j) := inferInstanceAs (Decidable (0 < j))
theorem o_add : OpQ X (binaryOp .Add) (fz rI) (fz rI) rI always (· + ·) := opq_ii op_add
theorem o_sub : OpQ X (binaryOp .Sub) (fz rI) (fz rI) rI always (· - ·) := opq_ii op_sub
theorem o_mul : OpQ X (binaryOp .Mult) (fz rI) (fz rI) rI CMul (· * ·) := opq_iic op_mul
theorem o_div : OpQ X (binaryOp .FloorDiv) (fz rI) (fz rI) rI CDiv (· / ·) := opq_iic op_fdiv
theorem o_mod : OpQ X (binaryOp .Mod) (fz rI) (fz rI) rI CMod (· % ·) := opq_iic op_mod
theorem o_pow : OpQ X (binaryOp .Pow) (fz rI) (fz rI) rI CPow (fun i j => i ^ j.toNat) := opq_iic op_pow
theorem o_lt : OpQ X (compareOp .Lt) (fz rI) (fz rI) rB always (fun i j => decide (i < j)) := opq_iib op_lt
theorem o_le : OpQ X (compareOp .LtE) (fz rI) (fz rI) rB always (fun i j => decide (i ≤ j)) := opq_iib op_le
theorem o_gt : OpQ X (compareOp .Gt) (fz rI) (fz rI) rB always (fun i j => decide (i > j)) := opq_iib op_gt
theorem o_ge : OpQ X (compareOp .GtE) (fz rI) (fz rI) rB always (fun i j => decide (i ≥ j)) := opq_iib op_ge
theorem o_eqI : OpQ X (compareOp .Eq) (fz rI) (fz rI) rB always (fun i j => decide (i = j)) :=
  ⟨_, op_eq, fun F H v u x y s r1 r2 _ Q q => by
    cases r1; cases r2
    exact ⟨rfl, q _ F H (.refl s) (by show V.bl _ = V.bl _; rw [dec_int, Bool.beq_eq_decide_eq])⟩⟩
theorem o_neI : OpQ X (compareOp .NotEq) (fz rI) (fz rI) rB always (fun i j => !decide (i = j)) :=
  ⟨_, op_ne, fun F H v u x y s r1 r2 _ Q q => by
    cases r1; cases r2
    exact ⟨rfl, q _ F H (.refl s) (by show V.bl _ = V.bl _; rw [dec_int, Bool.beq_eq_decide_eq])⟩⟩
theorem o_eqS : OpQ X (compareOp .Eq) (fz rS) (fz rS) rB always (fun i j => decide (i = j)) :=
  ⟨_, op_eq, fun F H v u x y s r1 r2 _ Q q => by
    obtain ⟨rfl, n1⟩ := r1
    obtain ⟨rfl, n2⟩ := r2
    refine ⟨rfl, q _ F H (.refl s) ?_⟩
    show V.bl (decide (V.str x = V.str y)) = V.bl _
    by_cases e : x = y
    · subst e; simp
    · rw [decide_eq_false e, decide_eq_false (fun z => e (by injection z))]⟩
theorem o_neS : OpQ X (compareOp .NotEq) (fz rS) (fz rS) rB always (fun i j => !decide (i = j)) :=
  ⟨_, op_ne, fun F H v u x y s r1 r2 _ Q q => by
    obtain ⟨rfl, n1⟩ := r1
    obtain ⟨rfl, n2⟩ := r2
    refine ⟨rfl, q _ F H (.refl s) ?_⟩
    show V.bl (!decide (V.str x = V.str y)) = V.bl _
    by_cases e : x = y
    · subst e; simp
    · rw [decide_eq_false e, decide_eq_false (fun z => e (by injection z))]⟩
theorem o_eqB : OpQ X (compareOp .Eq) (fz rB) (fz rB) rB always (fun i j => decide (i = j)) :=
  ⟨_, op_eq, fun F H v u x y s r1 r2 _ Q q => by
    cases r1; cases r2
    refine ⟨rfl, q _ F H (.refl s) ?_⟩
    cases x <;> cases y <;> rfl⟩
theorem o_neB : OpQ X (compareOp .NotEq) (fz rB) (fz rB) rB always (fun i j => !decide (i = j)) :=
  ⟨_, op_ne, fun F H v u x y s r1 r2 _ Q q => by
    cases r1; cases r2
    refine ⟨rfl, q _ F H (.refl s) ?_⟩
    cases x <;> cases y <;> rfl⟩
/-- None is no int, text, tuple .. -/
class NotNone (R : Rp α) : Prop where
  no : ∀ {F : Hp} {v : V} {x : α}, R.ok F v x → v ≠ .non
instance : NotNone rI := ⟨fun h e => by rw [h] at e; cases e⟩
instance : NotNone rS := ⟨fun h e => by rw [h.1] at e; cases e⟩
instance : NotNone rB := ⟨fun h e => by rw [h] at e; cases e⟩
instance {T : Rw α} : NotNone (rT T) := ⟨fun ⟨p, vs, h, _⟩ e => by rw [h] at e; cases e⟩
instance {f : β → α} [n : NotNone R] : NotNone (rM R f) := ⟨fun h => n.no (R := R) h⟩
instance : NotNone (rL R) := ⟨fun ⟨_, p, vs, h, _⟩ e => by rw [h] at e; cases e⟩
instance : NotNone (rV R) := ⟨fun ⟨_, p, vs, h, _⟩ e => by rw [h] at e; cases e⟩
theorem o_isN [n : NotNone R] : OpQ X (compareOp .Is) (fz (rO R)) (fz rN) rB always (fun i _ => i.isNone) :=
  ⟨_, op_isN, fun F H v u x y s r1 r2 _ Q q => by
    refine ⟨r2, q _ F H (.refl s) ?_⟩
    cases x with
    | none => cases r1; rfl
    | some z => exact congrArg V.bl (decide_eq_false (n.no r1))⟩
theorem o_notN [n : NotNone R] : OpQ X (compareOp .IsNot) (fz (rO R)) (fz rN) rB always (fun i _ => i.isSome) :=
  ⟨_, op_notN, fun F H v u x y s r1 r2 _ Q q => by
    refine ⟨r2, q _ F H (.refl s) ?_⟩
    cases x with
    | none => cases r1; rfl
    | some z => exact congrArg V.bl (by rw [decide_eq_false (n.no r1)]; rfl)⟩
theorem xm_neg {m : R0 Int} (ha : XM X Γ a (fz rI) m) : XM X Γ (.UnaryOp .USub a pos) (fz rI) (m.bind fun x => .ok (-x)) := fun σ F H D g e Q W tk q => (pe_un un_neg (pe_ a)).wp (ha σ F H D g e _ W tk (by
  cases m with
  | bad => exact q
  | ex ε u => exact q
  | ok x => exact fun v F1 H1 g1 r => ⟨x, r, q _ F1 H1 g1 rfl⟩))
theorem xm_ifx {m : R0 Bool} (hc : XMT X Γ c m) {m1 m2 : R0 α} (ha : XM X Γ a B m1) (hb : XM X Γ b B m2) : XM X Γ (.IfExp c a b pos) B (m.bind fun t => bif t then m1 else m2) := by
  intro σ F H D g e Q W tk q
  refine (pe_ifExp (pt_ c) (pe_ a) (pe_ b)).wp (hc σ F H D g e _ W tk ?_)
  cases m with
  | bad => exact q
  | ex ε u => exact q
  | ok t =>
    intro F1 H1 g1
    cases t with
    | true =>
      have q : PM X B m1 Q W σ F H := q
      refine iteT (ha σ F1 H1 D (g.grow g1) (e.grow g g1) _ W tk ?_)
      cases m1 with
      | bad => exact q
      | ex ε u => exact fun c d F' H' g' => q c d F' H' (g1.trans g')
      | ok x => exact fun v F' H' g' => q v F' H' (g1.trans g')
    | false =>
      have q : PM X B m2 Q W σ F H := q
      refine iteF (hb σ F1 H1 D (g.grow g1) (e.grow g g1) _ W tk ?_)
      cases m2 with
      | bad => exact q
      | ex ε u => exact fun c d F' H' g' => q c d F' H' (g1.trans g')
      | ok x => exact fun v F' H' g' => q v F' H' (g1.trans g')
end
end Wf
/-! Rules of the layer for statements, loops. -/
namespace Wf
open PySem L2
/-- a turn of a loop: on to the next, out of the loop, out of the def -/
inductive Lo (σ ρ : Type) where
  | go (s : σ)
  | stop (s : σ)
  | out (r : ρ)
def forK {β σ ρ τ α : Type} (body : σ → α → Res β (Lo σ ρ)) (k : σ → Res β τ) (inj : ρ → τ) : List α → σ → Res β τ
  | [], s => k s
  | x :: xs, s => (body s x).bind fun r => match r with
    | .go s' => forK body k inj xs s'
    | .stop s' => k s'
    | .out r => .ok (inj r)
def whileK {β σ ρ τ : Type} (c : σ → R0 Bool) (bx : σ → β) (body : σ → Res β (Lo σ ρ)) (k : σ → Res β τ) (inj : ρ → τ) : Nat → σ → Res β τ
  | 0, _ => .bad
  | n + 1, s => (c s).bnd (bx s) fun t => bif t then (body s).bind fun r => match r with
    | .go s' => whileK c bx body k inj n s'
    | .stop s' => k s'
    | .out r => .ok (inj r)
    else k s

section
variable {X : Cx} {Γ : Gm} {PP : Program} {w : World} {K : PySem.W.Frag} {mg : Str → Option Value} {base : Heap} {N : List Str} {sc : Scope} {k : Nat} {dd : Bool}
variable {α δ γ β τ : Type} {R : Rp α} {R1 : Rp α} {R2 : Rp δ} {R3 : Rp γ} {x : α} {st : Stmt} {rest : List Stmt} {pos : Pos} {e : Expr}
variable {J : τ → Post} {Γx : β → Gm} {Kt : Gm → Res β τ → Prop} {b : β} {m : R0 α} {f : α → Res β τ} {mm : Res β τ}

/-! ### what the rules share -/
theorem xg_ex {σ : St} {F H : Hp} {D : List Addr} {E : Ends} {W : WX} {ε : Err} (hx : Wk Γ (Γx b)) (g : Good X.K F H D) (en : Env F H D Γ σ) (hm : MG X (.ex ε b : Res β τ) J Γx E W F H D) : ∀ c d F' H', Grow X.K F H F' H' → ExV X.mg ε c d F' → W c d σ H' := by
  intro c d F' H' g' ev
  obtain ⟨D', s, e'⟩ := hx.env (en.grow g g')
  exact hm c d σ F' H' D' ((Step.of g g').sub s) e' ev
theorem xg_run {sts : List Stmt} {σ' : St} {F H F' H' : Hp} {D D' : List Addr} {E : Ends} {W : WX} {Γ' : Gm} (h : XG X Γ' sts mm J Γx Kt) (g : Good X.K F H D) (a : Step X.K F H D F' H' D') (en : Env F' H' D' Γ' σ') (tk : Takes X W)
    (hk : ∀ Γ' m', Kt Γ' m' → ∀ σ' F' H' D', Step X.K F H D F' H' D' → Env F' H' D' Γ' σ' → MG X m' J Γx E W F' H' D' → E.nx σ' H') (hm : MG X mm J Γx E W F H D) : wpB X sts E σ' H' :=
  h σ' F' H' D' (a.good g.tb) en E W tk (fun Γ2 m2 kt σ2 F2 H2 D2 a2 e2 mg => hk Γ2 m2 kt σ2 F2 H2 D2 (a.trans a2) e2 mg) (hm.step a)

theorem MG.nx {m : Res β τ} {E E' : Ends} {W : WX} {F H : Hp} {D : List Addr} (h : MG X m J Γx E W F H D) (h1 : E'.rt = E.rt) (h2 : E'.bk = E.bk) (h3 : E'.ct = E.ct) : MG X m J Γx E' W F H D := by
  cases m with
  | bad => exact h
  | ex ε b => exact h
  | ok t =>
    have h : Meets X.K (J t) E F H D := h
    exact ⟨by rw [h2]; exact h.bk, by rw [h3]; exact h.ct, by rw [h1]; exact h.rt⟩

/-! ### blocks -/
theorem xg_nil (h : ∃ Γ', Wk Γ Γ' ∧ Kt Γ' mm) : XG X Γ [] mm J Γx Kt := by
  intro σ F H D g en E W tk hk hm
  obtain ⟨Γ', wk, h⟩ := h
  obtain ⟨D', s, e'⟩ := wk.env en
  have a := (Step.refl g).sub s
  exact pss_nil.wp (hk Γ' mm h σ F H D' a e' (hm.step a))
theorem xg_wk {Γ' : Gm} {sts : List Stmt} (wk : Wk Γ Γ') (h : XG X Γ' sts mm J Γx Kt) : XG X Γ sts mm J Γx Kt := by
  intro σ F H D g en E W tk hk hm
  obtain ⟨D', s, e'⟩ := wk.env en
  exact xg_run h g ((Step.refl g).sub s) e' tk hk hm
theorem xg_eq {sts : List Stmt} {m' : Res β τ} (h : XG X Γ sts m' J Γx Kt) (q : m' = mm) : XG X Γ sts mm J Γx Kt := q ▸ h
theorem xg_bad {sts : List Stmt} : XG X Γ sts (.bad : Res β τ) J Γx Kt := fun σ F H D g en E W tk hk hm => hm.elim
theorem xm_wk {Γ' : Gm} {B : Rq α} (wk : Wk Γ Γ') (h : XM X Γ' e B m) : XM X Γ e B m := by
  intro σ F H D g en Q W tk q
  obtain ⟨D', s, e'⟩ := wk.env en
  exact h σ F H D' (g.sub s) e' Q W tk q

/-! ### small statements -/
theorem xg_asg (C : Ctx X PP w K mg base N sc k dd) (j : Nat) {n : Str} {pos' : Pos} (he : XM X Γ e (fz R) m) (hr : ∀ x, XG X (Γ.set j (.is R x)) rest (f x) J Γx Kt) (hx : Wk Γ (Γx b)) (hl : locB sc dd n = true := by decide +kernel) (hN : N[j]? = some n := by rfl)
    (hs : swapsWith e (some (.Name n pos')) pos.line X.env = pure false := by rfl) : XG X Γ (.Assign [.Name n pos'] e pos :: rest) (m.bnd b f) J Γx Kt := by
  intro σ F H D g en E W tk hk hm
  obtain ⟨l1, l2⟩ := C.loc hl
  refine (pss_cons (ps_set (i := j) (by rw [C.N]; exact C.nd) (by rw [C.N]; exact hN) l1 (pe_ e) hs l2) (pb_ rest)).wp (he σ F H D g en _ W tk ?_)
  cases m with
  | bad => exact hm
  | ex ε u => exact xg_ex hx g en hm
  | ok x =>
    intro v F' H' g' r
    obtain ⟨D', s, e'⟩ := Env.set (s' := .is R x) (o' := some v) (F := F') (H := H') ⟨rfl, v, rfl, r⟩ j (en.grow g g')
    exact xg_run (hr x) g ((Step.of g g').sub s) e' tk hk hm
/-- the value of an expression, dropped -/
theorem xg_drop {B : Rq α} (he : XM X Γ e B m) (hr : ∀ x, XG X Γ rest (f x) J Γx Kt) (hx : Wk Γ (Γx b)) (hs : swapsWith e none pos.line X.env = pure false := by rfl) : XG X Γ (.Expr e pos :: rest) (m.bnd b f) J Γx Kt := by
  intro σ F H D g en E W tk hk hm
  refine (pss_cons (ps_expr (pe_ e) hs) (pb_ rest)).wp (he σ F H D g en _ W tk ?_)
  cases m with
  | bad => exact hm
  | ex ε u => exact xg_ex hx g en hm
  | ok x => exact fun v F' H' g' r => xg_run (hr x) g (Step.of g g') (en.grow g g') tk hk hm
theorem Step.both {F H F' H' : Hp} {D D' : List Addr} (g : Good X.K F H D) (a : Step X.K F H [] F' H' D') : Step X.K F H D F' H' (D ++ D') where
  ff := a.ff
  fh := a.fh
  keep := fun p o h t _ => a.keep p o h t (by simp)
  dom := a.dom
  dT := fun p hp => (List.mem_append.mp hp).elim (fun z o e => by
    obtain ⟨o', e'⟩ := ex_of (g.dH p z)
    have t := g.dT p z o' e'
    rw [a.keep p o' e' t (by simp)] at e
    cases e; exact t) fun z => a.dT p z
  tb := a.tb
  new := fun p h h' _ => a.new p h h' (by simp)
  nd := List.nodup_append.mpr ⟨g.nd, a.nd, fun p hp q hq e => by
    subst e
    rcases a.dN p hq with z | z
    · cases z
    · exact z (g.dH p hp)⟩
  dF := fun p hp => (List.mem_append.mp hp).elim (fun z => a.grow.new p (g.dF p z) (g.dH p z)) fun z => a.dF p z
  dH := fun p hp => (List.mem_append.mp hp).elim (fun z => a.dom p (g.dH p z)) fun z => a.dH p z
  dN := fun p hp => (List.mem_append.mp hp).elim (fun z => .inl z) fun z => (a.dN p z).elim (fun q => by cases q) fun q => .inr q
theorem Step.perm {F H F' H' : Hp} {D D' D'' : List Addr} (a : Step X.K F H D F' H' D') (s : ∀ p, p ∈ D'' → p ∈ D') (nd : D''.Nodup) : Step X.K F H D F' H' D'' :=
  ⟨a.ff, a.fh, a.keep, a.dom, a.new, nd, fun p hp => a.dF p (s p hp), fun p hp => a.dH p (s p hp), fun p hp => a.dT p (s p hp), fun p hp => a.dN p (s p hp), a.tb⟩
theorem isSome_lt {j : Nat} (h : Γ[j]?.isSome = true) : j < Γ.length := by
  cases q : Γ[j]? with
  | none => rw [q] at h; cases h
  | some o => exact (List.getElem?_eq_some_iff.mp q).1
/-- any slot may be overwritten: the other slots' parts, and the new one -/
theorem Env.put {F H : Hp} {s' : Slot} {o' : Option V} {D' : List Addr} (hs : s'.ok F H D' o') : ∀ {D : List Addr} {Γ : Gm} {σ : St} (i : Nat), i < Γ.length → Env F H D Γ σ → ∃ D1 D2, (D1 ++ D2).Sublist D ∧ Env F H (D1 ++ D' ++ D2) (Γ.set i s') (σ.set i o')
  | _, [], _, _, hi, _ => by simp at hi
  | _, _ :: _, [], _, _, h => h.elim
  | D, s :: Γ, o :: σ, 0, _, ⟨D1, D2, e, h, q⟩ => ⟨[], D2, by rw [e]; exact List.sublist_append_right _ _, D', D2, rfl, hs, q⟩
  | D, s :: Γ, o :: σ, i + 1, hi, ⟨D1, D2, e, h, q⟩ => by
    obtain ⟨D3, D4, h1, h2⟩ := Env.put hs i (by simpa using hi) q
    exact ⟨D1 ++ D3, D4, by rw [e, List.append_assoc]; exact (List.Sublist.refl _).append h1, D1, D3 ++ D' ++ D4, by simp, h, h2⟩
theorem put_step {F H F' H' : Hp} {D D' D1 D2 : List Addr} (g : Good X.K F H D) (a : Step X.K F H [] F' H' D') (s : (D1 ++ D2).Sublist D) : Step X.K F H D F' H' (D1 ++ D' ++ D2) := by
  have b := Step.both g a
  refine b.perm (fun p hp => ?_) ?_
  · rcases List.mem_append.mp hp with z | z
    · rcases List.mem_append.mp z with z | z
      · exact List.mem_append_left _ (s.mem (List.mem_append_left _ z))
      · exact List.mem_append_right _ z
    · exact List.mem_append_left _ (s.mem (List.mem_append_right _ z))
  · have nd := b.nd
    rw [List.nodup_append] at nd
    have n12 := nd.1.sublist s
    rw [List.nodup_append] at n12
    rw [List.nodup_append, List.nodup_append]
    refine ⟨⟨n12.1, nd.2.1, fun p hp q hq => nd.2.2 p (s.mem (List.mem_append_left _ hp)) q hq⟩, n12.2.1, fun p hp q hq => ?_⟩
    rcases List.mem_append.mp hp with z | z
    · exact n12.2.2 p z q hq
    · exact fun e => nd.2.2 q (s.mem (List.mem_append_right _ hq)) p z e.symm
theorem xg_asgO (C : Ctx X PP w K mg base N sc k dd) (j : Nat) {n : Str} {pos' : Pos} {A : Rs α} (he : XMO X Γ e A m) (hr : ∀ x, XG X (Γ.set j (.res A x)) rest (f x) J Γx Kt) (hx : Wk Γ (Γx b)) (hj : Γ[j]?.isSome = true := by rfl) (hl : locB sc dd n = true := by decide +kernel) (hN : N[j]? = some n := by rfl)
    (hs : swapsWith e (some (.Name n pos')) pos.line X.env = pure false := by rfl) : XG X Γ (.Assign [.Name n pos'] e pos :: rest) (m.bnd b f) J Γx Kt := by
  intro σ F H D g en E W tk hk hm
  obtain ⟨l1, l2⟩ := C.loc hl
  refine (pss_cons (ps_set (i := j) (by rw [C.N]; exact C.nd) (by rw [C.N]; exact hN) l1 (pe_ e) hs l2) (pb_ rest)).wp (he σ F H D g en _ W tk ?_)
  cases m with
  | bad => exact hm
  | ex ε u => exact xg_ex hx g en hm
  | ok x =>
    intro v F' H' D' a r
    obtain ⟨D1, D2, s, e'⟩ := Env.put (s' := .res A x) (o' := some v) (F := F') (H := H') (D' := D') ⟨v, rfl, r⟩ j (isSome_lt hj) (en.grow g a.grow)
    exact xg_run (hr x) g (put_step g a s) e' tk hk hm
theorem xg_ret (he : XM X Γ e (fz R) m) (t : α → τ) (hr : ∀ x, ∃ Γ', Wk Γ Γ' ∧ (J (t x)).rt (.is R x) Γ') (hx : Wk Γ (Γx b)) : XG X Γ (.Return (some e) pos :: rest) (m.bnd b fun x => .ok (t x)) J Γx Kt := by
  intro σ F H D g en E W tk hk hm
  refine (pss_cons (ps_ret (pe_ e)) (pb_ rest)).wp (he σ F H D g en _ W tk ?_)
  cases m with
  | bad => exact hm
  | ex ε u => exact xg_ex hx g en hm
  | ok x =>
    intro v F' H' g' r
    obtain ⟨Γ', wk, hj⟩ := hr x
    obtain ⟨D', s, e'⟩ := wk.env (en.grow g g')
    exact Meets.rt (show Meets X.K (J (t x)) E F H D from hm) _ Γ' hj v σ F' H' [] D' ((Step.of g g').sub s) ⟨rfl, v, rfl, r⟩ e'
theorem xg_retO {A : Rs α} (he : XMO X Γ e A m) (t : α → τ) (hr : ∀ x, ∃ Γ', Wk Γ Γ' ∧ (J (t x)).rt (.res A x) Γ') (hx : Wk Γ (Γx b)) : XG X Γ (.Return (some e) pos :: rest) (m.bnd b fun x => .ok (t x)) J Γx Kt := by
  intro σ F H D g en E W tk hk hm
  refine (pss_cons (ps_ret (pe_ e)) (pb_ rest)).wp (he σ F H D g en _ W tk ?_)
  cases m with
  | bad => exact hm
  | ex ε u => exact xg_ex hx g en hm
  | ok x =>
    intro v F' H' D' a r
    obtain ⟨Γ', wk, hj⟩ := hr x
    obtain ⟨D2, s, e'⟩ := wk.env (en.grow g a.grow)
    have b := Step.both g a
    refine Meets.rt (show Meets X.K (J (t x)) E F H D from hm) _ Γ' hj v σ F' H' D' D2 (b.perm (fun p hp => ?_) ?_) ⟨v, rfl, r⟩ e'
    · rcases List.mem_append.mp hp with z | z
      · exact List.mem_append_right _ z
      · exact List.mem_append_left _ (s.mem z)
    · have nd := b.nd
      rw [List.nodup_append] at nd ⊢
      exact ⟨nd.2.1, nd.1.sublist s, fun p hp q hq e => nd.2.2 q (s.mem hq) p hp e.symm⟩
/-- return of what is one's own, by its name -/
theorem xg_retV (C : Ctx X PP w K mg base N sc k dd) (i : Nat) {n : Str} {pos' : Pos} {A : Rs α} (t : τ) (hr : ∃ Γ', Wk (Γ.set i .any) Γ' ∧ (J t).rt (.res A x) Γ') (hs : Γ[i]? = some (.res A x) := by rfl) (hv : visB sc n = true := by decide +kernel) (hN : N[i]? = some n := by rfl)
    (hd : (n == ("__debug__" : Str)) = false := by decide +kernel) (hcd : (n == ("__classdict__" : Str)) = false := by decide +kernel) : XG X Γ (.Return (some (.Name n pos')) pos :: rest) (.ok t) J Γx Kt := by
  intro σ F H D g en E W tk hk hm
  obtain ⟨Da, D1, Db, o, e1, h1, ⟨v, h3, h4⟩, back⟩ := en.upd (s' := .any) (o' := none) (D1' := []) i hs
  subst h3 e1
  refine (pss_cons (ps_ret (pe_var (i := i) (by rw [C.N]; exact hN) (C.vis hv) hd hcd)) (pb_ rest)).wp ⟨v, h1, ?_⟩
  obtain ⟨Γ', wk, hj⟩ := hr
  have e2 := back (s' := .any) (o' := some v) (D1' := []) (F' := F) (H' := H) (.refl _) (fun _ _ => rfl) rfl
  rw [List.append_nil] at e2
  obtain ⟨D2, s, e3⟩ := wk.env e2
  refine Meets.rt (show Meets X.K (J t) E F H _ from hm) _ Γ' hj v _ F H D1 D2 ((Step.refl g).perm (fun p hp => ?_) ?_) ⟨v, rfl, h4⟩ e3
  · rcases List.mem_append.mp hp with z | z
    · exact List.mem_append_left _ (List.mem_append_right _ z)
    · rcases List.mem_append.mp (s.mem z) with q | q
      · exact List.mem_append_left _ (List.mem_append_left _ q)
      · exact List.mem_append_right _ q
  · have nd := g.nd
    rw [List.nodup_append, List.nodup_append] at nd
    have nab : (Da ++ Db).Nodup := List.nodup_append.mpr ⟨nd.1.1, nd.2.1, fun p hp q hq => nd.2.2 p (List.mem_append_left _ hp) q hq⟩
    rw [List.nodup_append]
    refine ⟨nd.1.2.1, nab.sublist s, fun p hp q hq e => ?_⟩
    rcases List.mem_append.mp (s.mem hq) with z | z
    · exact nd.1.2.2 q z p hp e.symm
    · exact nd.2.2 p (List.mem_append_right _ hp) q z e
theorem xg_retN (t : τ) (hr : ∃ Γ', Wk Γ Γ' ∧ (J t).rt (.is rN ()) Γ') : XG X Γ (.Return none pos :: rest) (.ok t) J Γx Kt := by
  intro σ F H D g en E W tk hk hm
  obtain ⟨Γ', wk, hj⟩ := hr
  obtain ⟨D', s, e'⟩ := wk.env en
  exact (pss_cons ps_retN (pb_ rest)).wp (Meets.rt (show Meets X.K (J t) E F H D from hm) _ Γ' hj _ σ F H [] D' ((Step.refl g).sub s) ⟨rfl, _, rfl, rfl⟩ e')
theorem xg_pass (hr : XG X Γ rest mm J Γx Kt) : XG X Γ (.Pass pos :: rest) mm J Γx Kt := fun σ F H D g en E W tk hk hm =>
  (pss_cons ps_pass (pb_ rest)).wp (xg_run hr g (.refl g) en tk hk hm)
theorem xg_break (t : τ) (hr : ∃ Γ', Wk Γ Γ' ∧ (J t).bk Γ') : XG X Γ (.Break pos :: rest) (.ok t) J Γx Kt := by
  intro σ F H D g en E W tk hk hm
  obtain ⟨Γ', wk, hj⟩ := hr
  obtain ⟨D', s, e'⟩ := wk.env en
  exact (pss_cons ps_break (pb_ rest)).wp (Meets.bk (show Meets X.K (J t) E F H D from hm) Γ' hj σ F H D' ((Step.refl g).sub s) e')
theorem xg_cont (t : τ) (hr : ∃ Γ', Wk Γ Γ' ∧ (J t).ct Γ') : XG X Γ (.Continue pos :: rest) (.ok t) J Γx Kt := by
  intro σ F H D g en E W tk hk hm
  obtain ⟨Γ', wk, hj⟩ := hr
  obtain ⟨D', s, e'⟩ := wk.env en
  exact (pss_cons ps_continue (pb_ rest)).wp (Meets.ct (show Meets X.K (J t) E F H D from hm) Γ' hj σ F H D' ((Step.refl g).sub s) e')
/-- if: where a way falls through with what Γ' s tells, all goes on as q s -/
theorem xg_if {c : Expr} {a a' : List Stmt} {mc : R0 Bool} {σ' : Type} {ma mb : Res β τ} (Γ' : σ' → Gm) (q : σ' → Res β τ) (hc : XMT X Γ c mc) (ha : XG X Γ a ma J Γx (fun G m => ∃ s, m = q s ∧ Wk G (Γ' s))) (hb : XG X Γ a' mb J Γx (fun G m => ∃ s, m = q s ∧ Wk G (Γ' s)))
    (hr : ∀ s, XG X (Γ' s) rest (q s) J Γx Kt) (hx : Wk Γ (Γx b)) : XG X Γ (.If c a a' pos :: rest) (mc.bnd b fun t => bif t then ma else mb) J Γx Kt := by
  intro σ F H D g en E W tk hk hm
  refine (pss_cons (ps_if (pt_ c) (pb_ a) (pb_ a')) (pb_ rest)).wp (hc σ F H D g en _ W tk ?_)
  have after : ∀ {F1 H1 : Hp}, Grow X.K F H F1 H1 → ∀ Γ2 m2, (∃ s, m2 = q s ∧ Wk Γ2 (Γ' s)) → ∀ σ2 F2 H2 D2, Step X.K F1 H1 D F2 H2 D2 → Env F2 H2 D2 Γ2 σ2 → MG X m2 J Γx E W F2 H2 D2 → wpB X rest E σ2 H2 := by
    rintro F1 H1 g1 Γ2 m2 ⟨s, rfl, wk⟩ σ2 F2 H2 D2 a2 e2 mg
    obtain ⟨D3, s3, e3⟩ := wk.env e2
    have st := (Step.of g g1).trans a2
    have g2 := st.good g.tb
    exact xg_run (hr s) g2 ((Step.refl g2).sub s3) e3 tk (fun Γ3 m3 kt σ3 F3 H3 D3 a3 e3 mg => hk Γ3 m3 kt σ3 F3 H3 D3 (st.trans a3) e3 mg) mg
  cases mc with
  | bad => exact hm
  | ex ε u => exact xg_ex hx g en hm
  | ok t =>
    intro F1 H1 g1
    cases t with
    | true =>
      have hm1 : MG X ma J Γx E W F H D := hm
      exact iteT (ha σ F1 H1 D (g.grow g1) (en.grow g g1) { E with nx := wpB X rest E } W tk (fun Γ2 m2 h2 σ2 F2 H2 D2 a2 e2 mg => after g1 Γ2 m2 h2 σ2 F2 H2 D2 a2 e2 (mg.nx rfl rfl rfl)) ((hm1.step (Step.of g g1)).nx rfl rfl rfl))
    | false =>
      have hm1 : MG X mb J Γx E W F H D := hm
      exact iteF (hb σ F1 H1 D (g.grow g1) (en.grow g g1) { E with nx := wpB X rest E } W tk (fun Γ2 m2 h2 σ2 F2 H2 D2 a2 e2 mg => after g1 Γ2 m2 h2 σ2 F2 H2 D2 a2 e2 (mg.nx rfl rfl rfl)) ((hm1.step (Step.of g g1)).nx rfl rfl rfl))
/-- x op= e, ints -/
theorem xg_aug (C : Ctx X PP w K mg base N sc k dd) (j : Nat) {n : Str} {pos' : Pos} {o : Operator} {h : Int → Int → Int} {i : Int} {m : R0 Int} {f : Int → Res β τ} (ho : PIp X o (ipI h)) (he : XM X Γ e (fz rI) m) (hr : ∀ z, XG X (Γ.set j (.is rI (h i z))) rest (f z) J Γx Kt) (hx : Wk Γ (Γx b))
    (hl : locB sc dd n = true := by decide +kernel) (hN : N[j]? = some n := by rfl) (hs : Γ[j]? = some (.is rI i) := by rfl) : XG X Γ (.AugAssign (.Name n pos') o e pos :: rest) (m.bnd b f) J Γx Kt := by
  intro σ F H D g en E W tk hk hm
  obtain ⟨l1, l2⟩ := C.loc hl
  obtain ⟨D1, o1, h1, _, _, v, h3, h4⟩ := en.get hs
  subst h3
  refine (pss_cons (ps_aug (i := j) (by rw [C.N]; exact C.nd) (by rw [C.N]; exact hN) l1 (pe_ e) ho l2) (pb_ rest)).wp ⟨v, h1, he σ F H D g en _ W tk ?_⟩
  cases m with
  | bad => exact hm
  | ex ε u => exact xg_ex hx g en hm
  | ok z =>
    intro u F' H' g' r
    refine ⟨i, z, h4, r, ?_⟩
    obtain ⟨D', s, e'⟩ := Env.set (s' := .is rI (h i z)) (o' := some (.int (h i z))) (F := F') (H := H') ⟨rfl, _, rfl, rfl⟩ j (en.grow g g')
    exact xg_run (hr z) g ((Step.of g g').sub s) e' tk hk hm

/-! ### what is one's own becomes frozen -/
theorem xg_freeze {sts : List Stmt} (i : Nat) {A : Rs α} (h : XG X (Γ.set i (.is A.rd x)) sts mm J Γx Kt) (hs : Γ[i]? = some (.res A x) := by rfl) : XG X Γ sts mm J Γx Kt := by
  intro σ F H D g en E W tk hk hm
  obtain ⟨Da, D1, Db, o, e1, h1, ⟨v, h2, h3⟩, back⟩ := en.upd (s' := .any) (o' := none) (D1' := []) i hs
  subst h2
  subst e1
  have nd := g.nd
  have hsub : (Da ++ Db).Sublist (Da ++ D1 ++ Db) := (List.sublist_append_left _ _).append (.refl _)
  have apart : ∀ p, p ∈ Da ++ Db → p ∉ D1 := fun p hp hq => by
    rw [List.nodup_append, List.nodup_append] at nd
    rcases List.mem_append.mp hp with z | z
    · exact nd.1.2.2 p z p hq rfl
    · exact nd.2.2 p (List.mem_append_right _ hq) p z rfl
  have inD : ∀ p, p ∈ D1 → p ∈ Da ++ D1 ++ Db := fun p hp => List.mem_append_left _ (List.mem_append_right _ hp)
  have gs : Same F (ovl F H D1) := fun p u q => by
    rw [ovl_out (fun hp => by rw [g.dF p (inD p hp)] at q; cases q)]; exact q
  have gv : Same (ovl F H D1) (Vw H) := fun p u q => by
    by_cases hp : p ∈ D1
    · rw [ovl_in hp] at q; exact q
    · rw [ovl_out hp] at q; exact g.fh p u q
  have g' : Good X.K (ovl F H D1) H (Da ++ Db) := ⟨gv, g.nd.sublist hsub, fun p hp => by rw [ovl_out (apart p hp)]; exact g.dF p (hsub.mem hp), fun p hp => g.dH p (hsub.mem hp), fun p hp => g.dT p (hsub.mem hp), g.tb⟩
  have st : Step X.K F H (Da ++ D1 ++ Db) (ovl F H D1) H (Da ++ Db) := ⟨gs, gv, fun _ _ h _ _ => h, fun _ h => h, fun p h1 _ h3 => by rw [ovl_out (fun hp => h3 (inD p hp))]; exact h1, g'.nd, g'.dF, g'.dH, g'.dT, fun p hp => .inl (hsub.mem hp), id⟩
  have hset : σ.set i (some v) = σ := by
    apply List.ext_getElem?
    intro j
    by_cases hj : i = j
    · subst hj
      rw [List.getElem?_set_self (List.getElem?_eq_some_iff.mp h1).1, h1]
    · rw [List.getElem?_set_ne hj]
  have e' := back (s' := .is A.rd x) (o' := some v) (D1' := []) (F' := ovl F H D1) (H' := H) gs (fun _ _ => rfl) ⟨rfl, v, rfl, A.read (fun p hp => ovl_in hp) gs h3⟩
  rw [hset, List.append_nil] at e'
  exact xg_run h g st e' tk hk hm

/-! ### while -/
def JL {σ ρ : Type} (Γl : σ → Gm) (JR : ρ → Post) : Lo σ ρ → Post
  | .go s => { ct := fun G => Wk G (Γl s) }
  | .stop s => { bk := fun G => Wk G (Γl s) }
  | .out r => { rt := (JR r).rt }
def KL {σ ρ : Type} (Γl : σ → Gm) (G : Gm) (m : Res β (Lo σ ρ)) : Prop := ∃ s, m = .ok (.go s) ∧ Wk G (Γl s)
theorem xg_while (C : Ctx X PP w K mg base N sc k dd) {c : Expr} {body : List Stmt} {σ' ρ : Type} (Γl : σ' → Gm) (s0 : σ') (n0 : Nat) {JR : ρ → Post} {inj : ρ → τ} {mc : σ' → R0 Bool} {bm : σ' → Res β (Lo σ' ρ)} {bx : σ' → β} {q : σ' → Res β τ}
    (h0 : Wk Γ (Γl s0)) (hc : ∀ s, XMT X (Γl s) c (mc s)) (hb : ∀ s, XG X (Γl s) body (bm s) (JL Γl JR) Γx (KL Γl)) (ho : ∀ r s G, (JR r).rt s G → (J (inj r)).rt s G) (hx : ∀ s, Wk (Γl s) (Γx (bx s)))
    (hr : ∀ s, XG X (Γl s) rest (q s) J Γx Kt) : XG X Γ (.While c body [] pos :: rest) (whileK mc bx bm q inj n0 s0) J Γx Kt := by
  intro σ F H D g en E W tk hk hm
  refine (pss_cons (ps_while C.own (pt_ c) (pb_ body)) (pb_ rest)).wp ?_
  obtain ⟨D0, sb0, e0⟩ := h0.env en
  have a0 := (Step.refl g).sub sb0
  refine ⟨fun n σ' H' => ∃ s F' D', Step X.K F H D F' H' D' ∧ Env F' H' D' (Γl s) σ' ∧ MG X (whileK mc bx bm q inj n s) J Γx E W F' H' D', ⟨n0, s0, F, D0, a0, e0, hm.step a0⟩, ?_⟩
  rintro n σ1 H1 ⟨s, F1, D1, a1, en1, hm1⟩
  have g1 := a1.good g.tb
  cases n with
  | zero => exact hm1.elim
  | succ n =>
    refine hc s σ1 F1 H1 D1 g1 en1 _ W tk ?_
    have hm1 : MG X ((mc s).bnd (bx s) fun t => bif t then (bm s).bind fun r => match r with
      | .go s' => whileK mc bx bm q inj n s'
      | .stop s' => q s'
      | .out r => .ok (inj r)
      else q s) J Γx E W F1 H1 D1 := hm1
    revert hm1
    cases mc s with
    | bad => exact fun hm1 => hm1
    | ex ε u => exact fun hm1 => xg_ex (hx s) g1 en1 hm1
    | ok t =>
      intro hm1 F2 H2 g2
      have st2 := Step.of g1 g2
      have a2 := a1.trans st2
      have en2 := en1.grow g1 g2
      have good2 := a2.good g.tb
      have fin : ∀ s' σ3 F3 H3 D3, Step X.K F H D F3 H3 D3 → Env F3 H3 D3 (Γl s') σ3 → MG X (q s') J Γx E W F3 H3 D3 → wpB X rest E σ3 H3 := fun s' σ3 F3 H3 D3 a3 e3 mg =>
        (hr s') σ3 F3 H3 D3 (a3.good g.tb) e3 E W tk (fun Γ2 m2 kt σ2 F2 H2 D2 a2 e2 mg => hk Γ2 m2 kt σ2 F2 H2 D2 (a3.trans a2) e2 mg) mg
      cases t with
      | false => exact iteF (fin s σ1 F2 H2 D1 a2 en2 (hm1.step st2))
      | true =>
        have hm1 : MG X ((bm s).bind fun r => match r with
          | .go s' => whileK mc bx bm q inj n s'
          | .stop s' => q s'
          | .out r => .ok (inj r)) J Γx E W F1 H1 D1 := hm1
        have hm2 := hm1.step st2
        refine iteT ⟨fun σ3 H3 => ∃ n', n' < n + 1 ∧ ∃ s F' D', Step X.K F H D F' H3 D' ∧ Env F' H3 D' (Γl s) σ3 ∧ MG X (whileK mc bx bm q inj n' s) J Γx E W F' H3 D', fun σ3 H3 ⟨n', l, z⟩ => ⟨n', l, z⟩, ?_⟩
        refine hb s σ1 F2 H2 D1 good2 en2 { E with nx := _, ct := _, bk := wpB X rest E } W tk ?_ ?_
        · rintro Γ' m' ⟨s', rfl, wk⟩ σ3 F3 H3 D3 a3 e3 mg
          have mg : Meets X.K (JL Γl JR (.go s')) _ F3 H3 D3 := mg
          exact mg.ct Γ' wk σ3 F3 H3 D3 (.refl (a3.good (a2.good g.tb).tb)) e3
        · revert hm2
          cases bm s with
          | bad => exact id
          | ex ε b => exact id
          | ok r => cases r with
            | go s' =>
              intro hm2
              have hm2 : MG X (whileK mc bx bm q inj n s') J Γx E W F2 H2 D1 := hm2
              refine ⟨fun _ z => z.elim, fun Γ' wk σ3 F3 H3 D3 a3 e3 => ?_, fun _ _ z => z.elim⟩
              obtain ⟨D4, s4, e4⟩ := Wk.env wk e3
              have a4 := a3.sub s4
              exact ⟨n, Nat.lt_succ_self n, s', F3, D4, a2.trans a4, e4, hm2.step a4⟩
            | stop s' =>
              intro hm2
              have hm2 : MG X (q s') J Γx E W F2 H2 D1 := hm2
              refine ⟨fun Γ' wk σ3 F3 H3 D3 a3 e3 => ?_, fun _ z => z.elim, fun _ _ z => z.elim⟩
              obtain ⟨D4, s4, e4⟩ := Wk.env wk e3
              have a4 := a3.sub s4
              exact fin s' σ3 F3 H3 D4 (a2.trans a4) e4 (hm2.step a4)
            | out r =>
              intro hm2
              have hm2 : Meets X.K (J (inj r)) E F2 H2 D1 := hm2
              exact ⟨fun _ z => z.elim, fun _ z => z.elim, fun s3 G z => hm2.rt s3 G (ho r s3 G z)⟩

/-! ### targets -/
structure WpG (X : Cx) (tg : Expr) (v : V) (σ : St) (H : Hp) (Q : St → Hp → Prop) : Prop where
  go : ∀ pins s u, Inv X pins σ H s → RelV v u → wpAny (model X.prog X.w) X.A (assign tg X.env u) (fun _ s' => ∃ σ' H', Inv X pins σ' H' s' ∧ Q σ' H') X.xe s
def wpG (X : Cx) (tg : Expr) : TG := WpG X tg
theorem pg_ (tg : Expr) : PG X tg (wpG X tg) := ⟨fun pins s σ H v u Q I r h => h.go pins s u I r⟩
theorem _root_.L2.PG.wp {tg : Expr} {t : TG} (h : PG X tg t) {v : V} {σ : St} {H : Hp} {Q : St → Hp → Prop} (q : t v σ H Q) : wpG X tg v σ H Q := ⟨fun pins s u I r => h.run pins s σ H v u Q I r q⟩
/-- the target takes what stands for x: the slots behind it -/
def But (L : List Nat) (σ σ' : St) : Prop := σ'.length = σ.length ∧ ∀ i, i ∉ L → σ'[i]? = σ[i]?
theorem But.set (σ : St) (j : Nat) (o : Option V) : But [j] σ (σ.set j o) := ⟨List.length_set, fun i hi => List.getElem?_set_ne (fun e => hi (by simp [e]))⟩
theorem But.trans {L L' : List Nat} {a b c : St} (h : But L a b) (h' : But L' b c) : But (L ++ L') a c := ⟨h'.1.trans h.1, fun i hi => by
  rw [h'.2 i (fun z => hi (List.mem_append_right _ z)), h.2 i (fun z => hi (List.mem_append_left _ z))]⟩
def XTg {α : Type} (X : Cx) (tg : Expr) (R : Rp α) (L : List Nat) (f : α → Gm → Gm) : Prop :=
  ∀ Γ v x σ F H D, Good X.K F H D → Env F H D Γ σ → R.ok F v x → ∀ Q : St → Hp → Prop, (∀ σ' D', D'.Sublist D → Env F H D' (f x Γ) σ' → But L σ σ' → Q σ' H) → wpG X tg v σ H Q
theorem xtg_name (C : Ctx X PP w K mg base N sc k dd) (j : Nat) {n : Str} {pos' : Pos} (hl : locB sc dd n = true := by decide +kernel) (hN : N[j]? = some n := by rfl) : XTg X (.Name n pos') R [j] (fun x Γ => Γ.set j (.is R x)) := by
  intro Γ v x σ F H D g en r Q q
  obtain ⟨l1, l2⟩ := C.loc hl
  refine (pg_name (i := j) (by rw [C.N]; exact C.nd) (by rw [C.N]; exact hN) l1 l2).wp ?_
  obtain ⟨D', s, e'⟩ := Env.set (s' := .is R x) (o' := some v) (F := F) (H := H) ⟨rfl, v, rfl, r⟩ j en
  exact q _ D' s e' (But.set _ _ _)
structure WpGs (X : Cx) (ts : List Expr) (vs : List V) (σ : St) (H : Hp) (Q : St → Hp → Prop) : Prop where
  go : ∀ pins s us, Inv X pins σ H s → Vals vs us → wpAny (model X.prog X.w) X.A (assignInOrder ((assignEach ts X.env).map (·.2)) us) (fun _ s' => ∃ σ' H', Inv X pins σ' H' s' ∧ Q σ' H') X.xe s
def wpGs (X : Cx) (ts : List Expr) : TGs := WpGs X ts
theorem pgs_ (ts : List Expr) : PGs X ts (wpGs X ts) := ⟨fun pins s σ H v u Q I r h => h.go pins s u I r⟩
theorem _root_.L2.PGs.wp {ts : List Expr} {t : TGs} (h : PGs X ts t) {vs : List V} {σ : St} {H : Hp} {Q : St → Hp → Prop} (q : t vs σ H Q) : wpGs X ts vs σ H Q := ⟨fun pins s us I r => h.run pins s σ H vs us Q I r q⟩
def XTgs {α : Type} (X : Cx) (ts : List Expr) (T : Rw α) (L : List Nat) (f : α → Gm → Gm) : Prop :=
  ∀ Γ vs x σ F H D, Good X.K F H D → Env F H D Γ σ → T.ok F vs x → vs.length = ts.length ∧ ∀ Q : St → Hp → Prop, (∀ σ' D', D'.Sublist D → Env F H D' (f x Γ) σ' → But L σ σ' → Q σ' H) → wpGs X ts vs σ H Q
variable {L L' : List Nat} {t1 : Expr} {ts : List Expr} {h : α → Gm → Gm} {h' : δ → Gm → Gm}
theorem xtgs_1 (ht : XTg X t1 R L h) (hs : (assignEach [t1] X.env).map (·.2) = assign t1 X.env :: (assignEach [] X.env).map (·.2) := by rfl) : XTgs X [t1] (w1 R) L h := by
  rintro Γ vs x σ F H D g en ⟨v, rfl, r⟩
  refine ⟨rfl, fun Q q => (pgs_cons (pg_ t1) pgs_nil hs).wp ⟨v, [], rfl, ht Γ v x σ F H D g en r _ fun σ' D' s e' bt => ⟨rfl, q σ' D' s e' bt⟩⟩⟩
theorem xtgs_c {T : Rw δ} (ht : XTg X t1 R L h) (hr : XTgs X ts T L' h') (hs : (assignEach (t1 :: ts) X.env).map (·.2) = assign t1 X.env :: (assignEach ts X.env).map (·.2) := by rfl) : XTgs X (t1 :: ts) (wc R T) (L ++ L') (fun x Γ => h' x.2 (h x.1 Γ)) := by
  rintro Γ vs x σ F H D g en ⟨v, r, rfl, hv, hT⟩
  refine ⟨by simp [(hr Γ r x.2 σ F H D g en hT).1], fun Q q => (pgs_cons (pg_ t1) (pgs_ ts) hs).wp ⟨v, r, rfl, ht Γ v x.1 σ F H D g en hv _ fun σ' D' s e' bt => ?_⟩⟩
  exact (hr (h x.1 Γ) r x.2 σ' F H D' (g.sub s) e' hT).2 Q fun σ2 D2 s2 e2 bt2 => q σ2 D2 (s2.trans s) e2 (bt.trans bt2)
theorem xtg_tup (C : Ctx X PP w K mg base N sc k dd) {T : Rw α} {kk : Nat} (ht : XTgs X ts T L h) (hn : (assignEach ts X.env).length = ts.length := by rfl) (hst : (assignEach ts X.env).findIdx? (·.1) = none := by rfl) : XTg X (.Tuple ts kk pos) (rT T) L h := by
  rintro Γ v x σ F H D g en ⟨p, vs, rfl, hp, htt⟩ Q q
  obtain ⟨l, go⟩ := ht Γ vs x σ F H D g en htt
  exact (pg_tup C.calm (pgs_ ts) hn hst).wp ⟨p, vs, rfl, .inl (rd_of (g.fh _ _ hp)), l, go Q q⟩
/-- a, b, .. = e -/
theorem xg_unpack {tg : Expr} (he : XM X Γ e (fz R) m) (hg : XTg X tg R L h) (hr : ∀ x, XG X (h x Γ) rest (f x) J Γx Kt) (hx : Wk Γ (Γx b)) (hs : swapsWithSole [tg] e pos.line X.env = pure false := by rfl) (hw : swappedStores [tg] e X.env = pure none := by rfl)
    (h1 : (assignEach [tg] X.env).map (·.2) = [assign tg X.env] := by rfl) : XG X Γ (.Assign [tg] e pos :: rest) (m.bnd b f) J Γx Kt := by
  intro σ F H D g en E W tk hk hm
  refine (pss_cons (ps_asg (pe_ e) (pg_ tg) hs hw h1) (pb_ rest)).wp (he σ F H D g en _ W tk ?_)
  cases m with
  | bad => exact hm
  | ex ε u => exact xg_ex hx g en hm
  | ok x =>
    intro v F' H' g' r
    exact hg Γ v x σ F' H' D (g.grow g') (en.grow g g') r _ fun σ' D' s e' _ => xg_run (hr x) g ((Step.of g g').sub s) e' tk hk hm

/-! ### walks -/
/-- what an iterator yields, as long as F1 stands -/
def Itr' (K : PySem.W.Frag) (I : It) (F1 : Hp) (R : Rp α) (xs : List α) : Prop := ∀ i F' H', Same F1 F' → Same F' (Vw H') →
  (i = xs.length → I.stop i H') ∧ ∀ x, xs[i]? = some x → I.go i H' ∧ ∀ v H'', I.yld i H' v H'' → ∃ F'', Grow K F' H' F'' H'' ∧ R.ok F'' v x
def PMI {α : Type} (X : Cx) (R : Rp α) (mx : R0 (List α)) (R' : It → Hp → Prop) (W : WX) (σ : St) (F H : Hp) : Prop := match mx with
  | .ok xs => ∀ I F1 H1, Grow X.K F H F1 H1 → Itr' X.K I F1 R xs → R' I H1
  | .ex ε _ => ∀ c d F' H', Grow X.K F H F' H' → ExV X.mg ε c d F' → W c d σ H'
  | .bad => False
structure XI {α : Type} (X : Cx) (Γ : Gm) (tg iter : Expr) (R : Rp α) (mx : R0 (List α)) : Prop where
  ex : ∃ wi, PI X tg iter wi ∧ ∀ σ F H D, Good X.K F H D → Env F H D Γ σ → ∀ (R' : It → Hp → Prop) (W : WX), Takes X W → PMI X R mx R' W σ F H → wi σ H R'
theorem xg_for (C : Ctx X PP w K mg base N sc k dd) {tg iter : Expr} {body : List Stmt} {mx : R0 (List α)} {σ' ρ : Type} (Γl : σ' → Gm) (s0 : σ') {JR : ρ → Post} {inj : ρ → τ} {bm : σ' → α → Res β (Lo σ' ρ)} {q : σ' → Res β τ}
    (hi : XI X Γ tg iter R mx) (hg : XTg X tg R L h) (h0 : Wk Γ (Γl s0)) (hb : ∀ s x, XG X (h x (Γl s)) body (bm s x) (JL Γl JR) Γx (KL Γl)) (hx : Wk Γ (Γx b)) (ho : ∀ r s G, (JR r).rt s G → (J (inj r)).rt s G)
    (hr : ∀ s, XG X (Γl s) rest (q s) J Γx Kt) (hs : ∀ x, foldedSetIterable iter X.env x = pure x := by intro _; rfl) : XG X Γ (.For tg iter body [] pos :: rest) (mx.bnd b fun xs => forK bm q inj xs s0) J Γx Kt := by
  intro σ F H D g en E W tk hk hm
  obtain ⟨wi, pi, go⟩ := hi.ex
  refine (pss_cons (ps_for C.own C.calm pi (pg_ tg) (pb_ body) hs) (pb_ rest)).wp (go σ F H D g en _ W tk ?_)
  cases mx with
  | bad => exact hm
  | ex ε u => exact xg_ex hx g en hm
  | ok xs =>
    intro I F1 H1 g1 it
    have hm : MG X (forK bm q inj xs s0) J Γx E W F H D := hm
    have a1 := Step.of g g1
    obtain ⟨D0, sb0, e0⟩ := h0.env (en.grow g g1)
    have a1' := a1.sub sb0
    refine ⟨fun i n σ1 H1' => n = xs.length - i ∧ i ≤ xs.length ∧ ∃ s F' D', Step X.K F1 H1 D0 F' H1' D' ∧ Env F' H1' D' (Γl s) σ1 ∧ MG X (forK bm q inj (xs.drop i) s) J Γx E W F' H1' D', ⟨xs.length, by simp, Nat.zero_le _, s0, F1, D0, .refl (a1'.good g.tb), e0, hm.step a1'⟩, ?_⟩
    rintro i n σ1 H' ⟨rfl, hle, s, F', D', a, en', hm1⟩
    have aa := a1'.trans a
    have g' := aa.good g.tb
    have fin : ∀ s' σ3 F3 H3 D3, Step X.K F H D F3 H3 D3 → Env F3 H3 D3 (Γl s') σ3 → MG X (q s') J Γx E W F3 H3 D3 → wpB X rest E σ3 H3 := fun s' σ3 F3 H3 D3 a3 e3 mg =>
        (hr s') σ3 F3 H3 D3 (a3.good g.tb) e3 E W tk (fun Γ2 m2 kt σ2 F2 H2 D2 a2 e2 mg => hk Γ2 m2 kt σ2 F2 H2 D2 (a3.trans a2) e2 mg) mg
    obtain ⟨stop, go⟩ := it i F' H' a.ff a.fh
    by_cases hlt : i < xs.length
    · obtain ⟨x, hx'⟩ : ∃ x, xs[i]? = some x := ⟨xs[i], List.getElem?_eq_getElem hlt⟩
      have ed : xs.drop i = x :: xs.drop (i + 1) := by
        obtain ⟨h, e⟩ := List.getElem?_eq_some_iff.mp hx'
        rw [List.drop_eq_getElem_cons h, e]
      rw [ed] at hm1
      obtain ⟨jg, jy⟩ := go x hx'
      refine .inr ⟨jg, fun σ2 H2 => i + 1 ≤ xs.length ∧ ∃ s F' D', Step X.K F1 H1 D0 F' H2 D' ∧ Env F' H2 D' (Γl s) σ2 ∧ MG X (forK bm q inj (xs.drop (i + 1)) s) J Γx E W F' H2 D', fun σ2 H2 q => ⟨xs.length - (i + 1), by omega, rfl, q⟩, fun v H'' y => ?_⟩
      obtain ⟨F'', g2, r⟩ := jy v H'' y
      have st2 := Step.of g' g2
      have a2 := aa.trans st2
      refine hg (Γl s) v x σ1 F'' H'' D' (a2.good g.tb) (en'.grow g' g2) r _ fun σ3 D3 s3 e3 _ => ?_
      have st3 := st2.sub s3
      have a3 := aa.trans st3
      have hm1 : MG X ((bm s x).bind fun r => match r with
        | .go s' => forK bm q inj (xs.drop (i + 1)) s'
        | .stop s' => q s'
        | .out r => .ok (inj r)) J Γx E W F' H' D' := hm1
      have hm2 := hm1.step st3
      refine hb s x σ3 F'' H'' D3 (a3.good g.tb) e3 { E with nx := _, ct := _, bk := wpB X rest E } W tk ?_ ?_
      · rintro Γ' m' ⟨s', rfl, wk⟩ σ4 F4 H4 D4 a4 e4 mg
        have mg : Meets X.K (JL Γl JR (.go s')) _ F4 H4 D4 := mg
        exact mg.ct Γ' wk σ4 F4 H4 D4 (.refl (a4.good (a3.good g.tb).tb)) e4
      · revert hm2
        cases bm s x with
        | bad => exact id
        | ex ε b => exact id
        | ok r => cases r with
          | go s' =>
            intro hm2
            have hm2 : MG X (forK bm q inj (xs.drop (i + 1)) s') J Γx E W F'' H'' D3 := hm2
            refine ⟨fun _ z => z.elim, fun Γ' wk σ4 F4 H4 D4 a4 e4 => ?_, fun _ _ z => z.elim⟩
            obtain ⟨D5, s5, e5⟩ := Wk.env wk e4
            have a5 := a4.sub s5
            exact ⟨hlt, s', F4, D5, (a.trans st3).trans a5, e5, hm2.step a5⟩
          | stop s' =>
            intro hm2
            have hm2 : MG X (q s') J Γx E W F'' H'' D3 := hm2
            refine ⟨fun Γ' wk σ4 F4 H4 D4 a4 e4 => ?_, fun _ z => z.elim, fun _ _ z => z.elim⟩
            obtain ⟨D5, s5, e5⟩ := Wk.env wk e4
            have a5 := a4.sub s5
            exact fin s' σ4 F4 H4 D5 (a3.trans a5) e5 (hm2.step a5)
          | out r =>
            intro hm2
            have hm2 : Meets X.K (J (inj r)) E F'' H'' D3 := hm2
            exact ⟨fun _ z => z.elim, fun _ z => z.elim, fun s3 G z => hm2.rt s3 G (ho r s3 G z)⟩
    · have e : i = xs.length := by omega
      subst e
      rw [List.drop_length] at hm1
      exact .inl ⟨stop rfl, fin s σ1 F' H' D' aa en' hm1⟩
variable {tg iter : Expr}
theorem xi_list {mx : R0 (List α)} (hh : XM X Γ iter (fz (rL R)) mx) : XI X Γ tg iter R mx := by
  refine ⟨_, pi_list (pe_ iter), fun σ F H D g en R' W tk q => hh σ F H D g en _ W tk ?_⟩
  cases mx with
  | bad => exact q
  | ex ε u => exact q
  | ok xs =>
    intro v F1 H1 g1 ⟨hz, p, vs, e, hp, pr⟩
    refine ⟨p, e, ⟨vs, .inl (rd_of (g1.fh _ _ hp))⟩, q _ F1 H1 g1 fun i F' H' s1 s2 => ?_⟩
    have hp' : SqL X.K H' p vs := .inl (rd_of (s2 _ _ (s1 _ _ hp)))
    have hl : vs.length = xs.length := pr.length
    refine ⟨fun e => ⟨vs, hp', by omega⟩, fun x hx => ?_⟩
    have hi : i < vs.length := by rw [hl]; exact (List.getElem?_eq_some_iff.mp hx).1
    refine ⟨⟨vs, vs[i], hp', List.getElem?_eq_getElem hi⟩, fun v H'' ⟨e, y⟩ => ?_⟩
    subst e
    obtain ⟨x', e1, r⟩ := pr.get (y vs hp')
    rw [hx] at e1; cases e1
    exact ⟨F', .refl s2, R.mono s1 r⟩
theorem xi_vtup {mx : R0 (List α)} (hh : XM X Γ iter (fz (rV R)) mx) : XI X Γ tg iter R mx := by
  refine ⟨_, pi_tup (pe_ iter), fun σ F H D g en R' W tk q => hh σ F H D g en _ W tk ?_⟩
  cases mx with
  | bad => exact q
  | ex ε u => exact q
  | ok xs =>
    intro v F1 H1 g1 ⟨hz, p, vs, e, hp, pr⟩
    refine ⟨p, e, ⟨vs, .inl (rd_of (g1.fh _ _ hp))⟩, q _ F1 H1 g1 fun i F' H' s1 s2 => ?_⟩
    have hp' : SqT X.K H' p vs := .inl (rd_of (s2 _ _ (s1 _ _ hp)))
    have hl : vs.length = xs.length := pr.length
    refine ⟨fun e => ⟨vs, hp', by omega⟩, fun x hx => ?_⟩
    have hi : i < vs.length := by rw [hl]; exact (List.getElem?_eq_some_iff.mp hx).1
    refine ⟨⟨vs, vs[i], hp', List.getElem?_eq_getElem hi⟩, fun v H'' ⟨e, y⟩ => ?_⟩
    subst e
    obtain ⟨x', e1, r⟩ := pr.get (y vs hp')
    rw [hx] at e1; cases e1
    exact ⟨F', .refl s2, R.mono s1 r⟩
/-- 0, 1, .. below n -/
def upTo (n : Int) : List Int := (List.range n.toNat).map fun (i : Nat) => (i : Int)
def fromTo (a b : Int) : List Int := (List.range (b - a).toNat).map fun (i : Nat) => a + (i : Int)
theorem itr_rng {K : PySem.W.Frag} {lo : Int} {n : Nat} {F1 : Hp} : Itr' K (Itr lo n) F1 rI ((List.range n).map fun (i : Nat) => lo + (i : Int)) := by
  intro i F' H' s1 s2
  refine ⟨fun e => ?_, fun x hx => ?_⟩
  · show n ≤ i
    simp at e; omega
  · rw [List.getElem?_map] at hx
    have hi : i < n := by
      cases q : (List.range n)[i]? with
      | none => rw [q] at hx; cases hx
      | some z => have := (List.getElem?_eq_some_iff.mp q).1; simpa using this
    rw [List.getElem?_range hi] at hx
    have hx' : lo + (i : Int) = x := by simpa using hx
    subst hx'
    exact ⟨hi, fun v H'' ⟨e, e2⟩ => by subst e; exact ⟨F', .refl s2, e2⟩⟩
theorem prd_app {α β : Type} {G : α → β → Prop} {a c : List α} {b d : List β} (h : Paired G a b) (h' : Paired G c d) : Paired G (a ++ c) (b ++ d) := by
  induction h with
  | nil => exact h'
  | cons r _ ih => exact .cons r ih
end
end Wf
/-! Defs, calls, comprehensions. -/
namespace Wf
open PySem L2
/-! ### a def: its promise, its body, its call -/
def EnvR (F H : Hp) (D : List Addr) (l : List (V × Slot)) : Prop := Env F H D (l.map (·.2)) (l.map fun z => some z.1)
/-- arguments of kinds ss i give what m i tells: a result of kind r i x; what is handed in as one's own is behind it as ro, rx tell -/
def spM (K : PySem.W.Frag) (mg : Str → Option Value) {ι β ρ : Type} (ss : ι → Gm) (m : ι → Res β ρ) (r : ι → ρ → Slot) (ro : ι → ρ → List (V × Slot)) (rx : ι → β → List (V × Slot)) : Sp := fun vs H Q E =>
  ∃ i F D, Good K F H D ∧ Env F H D (ss i) (vs.map some) ∧ match m i with
    | .ok x => ∀ v F' H' D1 D2, Step K F H D F' H' (D1 ++ D2) → (r i x).ok F' H' D1 (some v) → EnvR F' H' D2 (ro i x) → Q v H'
    | .ex ε b => ∀ c d F' H' D2, Step K F H D F' H' D2 → EnvR F' H' D2 (rx i b) → ExV mg ε c d F' → E c d H'
    | .bad => False
/-- .. where nothing that is one's own is handed in -/
abbrev spF (K : PySem.W.Frag) (mg : Str → Option Value) {ι ρ : Type} (ss : ι → Gm) (m : ι → R0 ρ) (r : ρ → Slot) : Sp := spM K mg ss m (fun _ x => r x) (fun _ _ => []) (fun _ _ => [])
theorem Env.any {F H : Hp} : ∀ n : Nat, Env F H [] (List.replicate n Slot.any) (List.replicate n none)
  | 0 => ⟨rfl, rfl⟩
  | n + 1 => ⟨[], [], rfl, rfl, Env.any n⟩
theorem Env.app {F H : Hp} : ∀ {D D' : List Addr} {Γ Γ' : Gm} {σ σ' : St}, Env F H D Γ σ → Env F H D' Γ' σ' → Env F H (D ++ D') (Γ ++ Γ') (σ ++ σ')
  | _, _, [], _, _, _, ⟨d, s⟩, h => by subst d s; exact h
  | _, _, _ :: _, _, [], _, h, _ => h.elim
  | D, D', _ :: _, _, _ :: _, _, ⟨D1, D2, e, h, q⟩, h' => ⟨D1, D2 ++ D', by rw [e, List.append_assoc], h, Env.app q h'⟩
abbrev FnP (K : PySem.W.Frag) (x qual : Str) (st : Stmt) (f : Addr) (fd : FuncData) : Prop := FunD K x qual (defArgs st) (defBody st) (defScope st) [] [] f fd
/-- the ends of a def's body -/
def JF {ρ : Type} (r : ρ → Slot) (Γr : ρ → Gm) : ρ → Post := fun x => { rt := fun s G => s = r x ∧ G = Γr x }
def KR {β ρ : Type} (r : ρ → Slot) (Γr : ρ → Gm) (G : Gm) (m : Res β ρ) : Prop := ∃ x, m = .ok x ∧ r x = .is rN () ∧ G = Γr x
theorem fn_M {ι β ρ : Type} {ss : ι → Gm} {m : ι → Res β ρ} {r : ι → ρ → Slot} {ro : ι → ρ → List (V × Slot)} {rx : ι → β → List (V × Slot)} {P : Program} {w : World} {K : PySem.W.Frag} {mg : Str → Option Value} {base : Heap} {x qual : Str} {st : Stmt} {f : Addr} {fd : FuncData} {N ps : List Str} {k : Nat}
    (Fn : FnP K x qual st f fd) (S : FnScope N ps (defScope st)) (Γr : ι → ρ → Gm) (Γx : ι → β → Gm) (hl : ∀ i, (ss i).length = ps.length)
    (h : ∀ i, ∀ X : Cx, Ctx X P w K mg base N (defScope st) k true → XG X (ss i ++ List.replicate (N.length - ps.length) Slot.any) (defBody st) (m i) (JF (r i) (Γr i)) (Γx i) (KR (r i) (Γr i)))
    (ho : ∀ i x F H D σ, Env F H D (Γr i x) σ → ∃ D', D'.Sublist D ∧ EnvR F H D' (ro i x)) (hx : ∀ i b F H D σ, Env F H D (Γx i b) σ → ∃ D', D'.Sublist D ∧ EnvR F H D' (rx i b)) :
    FnOk P w K mg base (L2.CX P w) (k + 1) f fd ps (spM K mg ss m r ro rx) := by
  have hlen : ∀ vs H Q E, spM K mg ss m r ro rx vs H Q E → vs.length = ps.length := fun vs H Q E ⟨i, F, D, _, e, _⟩ => by
    have := e.len
    rw [List.length_map] at this
    rw [this, hl i]
  refine Fn.ok S hlen fun cdv A outer s H vs Q E hr hsp => ?_
  have hvl := hlen _ _ _ _ hsp
  obtain ⟨i, F, D, g, en, kq⟩ := hsp
  have C : Ctx (cxOf (L2.CX P w) P w K mg base N qual (defScope st) f cdv A outer s H E) P w K mg base N (defScope st) k true := ⟨rfl, rfl, rfl, rfl, rfl, rfl, rfl, rfl, hr, S.nd, fun _ _ => rfl, passes_of (K := fun e s' => L2.CX P w outer H s E e s') (E₁ := fun e' s'' => L2.CX P w outer H s E e' s'') rfl⟩
  refine ⟨wpB _ (defBody st), pb_ _, ?_⟩
  have e2 : Env F H D (ss i ++ List.replicate (N.length - ps.length) Slot.any) (L2.start N vs) := by
    unfold L2.start
    rw [hvl]
    have := en.app (Env.any (F := F) (H := H) (N.length - ps.length))
    rwa [List.append_nil] at this
  refine h i _ C (L2.start N vs) F H D g e2 _ (fun cls d _ H => E cls d H) (takes_of rfl rfl rfl rfl) ?_ ?_
  · rintro Γ' m' ⟨x, rfl, hr', rfl⟩ σ' F' H' D' a e3 mg'
    have mg' : Meets K (JF (r i) (Γr i) x) _ F' H' D' := mg'
    have g' := a.good g.tb
    exact mg'.rt (.is rN ()) _ ⟨hr'.symm, rfl⟩ .non σ' F' H' [] D' (.refl g') ⟨rfl, _, rfl, rfl⟩ e3
  · revert kq
    cases m i with
    | bad => exact id
    | ex ε b =>
      intro kq c d σ' F' H' D' a e3 ev
      obtain ⟨D2, s2, e4⟩ := hx i b F' H' D' σ' e3
      exact kq c d F' H' D2 (a.sub s2) e4 ev
    | ok x =>
      intro kq
      refine ⟨fun _ z => z.elim, fun _ z => z.elim, ?_⟩
      rintro s' G ⟨rfl, rfl⟩ v σ' F' H' D1 D2 a ok e3
      obtain ⟨D3, s3, e4⟩ := ho i x F' H' D2 σ' e3
      exact kq v F' H' D1 D3 (a.sub ((List.Sublist.refl _).append s3)) ok e4
/-- .. where nothing that is one's own is handed in -/
theorem fn_F {ι ρ : Type} {ss : ι → Gm} {m : ι → R0 ρ} {r : ρ → Slot} {P : Program} {w : World} {K : PySem.W.Frag} {mg : Str → Option Value} {base : Heap} {x qual : Str} {st : Stmt} {f : Addr} {fd : FuncData} {N ps : List Str} {k : Nat}
    (Fn : FnP K x qual st f fd) (S : FnScope N ps (defScope st)) (hl : ∀ i, (ss i).length = ps.length)
    (h : ∀ i, ∀ X : Cx, Ctx X P w K mg base N (defScope st) k true → XG X (ss i ++ List.replicate (N.length - ps.length) Slot.any) (defBody st) (m i) (JF r (fun _ => List.replicate N.length .any)) (fun _ => List.replicate N.length .any) (KR r (fun _ => List.replicate N.length .any))) :
    FnOk P w K mg base (L2.CX P w) (k + 1) f fd ps (spF K mg ss m r) :=
  fn_M Fn S _ _ hl h (fun _ _ _ _ _ _ _ => ⟨[], List.nil_sublist _, rfl, rfl⟩) (fun _ _ _ _ _ _ _ => ⟨[], List.nil_sublist _, rfl, rfl⟩)
section
variable {X : Cx} {Γ : Gm} {P : Program} {w : World} {K : PySem.W.Frag} {mg : Str → Option Value} {base : Heap} {N : List Str} {sc : Scope} {k j : Nat} {dd : Bool}
variable {α ι τ ρ : Type} {R : Rp α} {f : Addr} {fd : FuncData} {ps : List Str} {n : Str} {p pos : Pos} {e : Expr} {es : List Expr}
/-- what a caller knows of a def -/
structure Fk (P : Program) (w : World) (K : PySem.W.Frag) (mg : Str → Option Value) (base : Heap) (j : Nat) (n : Str) (ps : List Str) (sp : Sp) : Prop where
  ex : ∃ f fd, FnOk P w K mg base (L2.CX P w) j f fd ps sp ∧ mg n = some (.ref f) ∧ PySem.W.keepIn K (.ref f) = true ∧ Binds K fd ps []
theorem fk_of {j : Nat} {n x qual : Str} {st : Stmt} {f : Addr} {fd : FuncData} {ps : List Str} {sp : Sp} (Fn : FnP K x qual st f fd) (F : FnOk P w K mg base (L2.CX P w) j f fd ps sp) (hm : mg n = some (.ref f))
    (hb : ∀ (kV doc pm : Value) (an : Option Addr) (cdv ct : Value) (us : List Value), us.length = ps.length → bindArgs (PySem.W.fnOf x qual (defArgs st) (defBody st) (defScope st) .none kV doc pm an cdv ct) ⟨us, []⟩ = pure (ps.zip us)) : Fk P w K mg base j n ps sp :=
  ⟨f, fd, F, hm, Fn.kp, Fn.bindsN hb⟩
theorem call_fk (C : Ctx X P w K mg base N sc k dd) {sp : Sp} (G : Fk P w K mg base j n ps sp) (hj : j ≤ k) (hg : gloB sc n = true) {Q : VK} {σ : St} {H : Hp} {W : WX} (tk : Takes X W) (h : wpA X (e :: es) σ H fun vs H' => sp vs H' Q (WE W σ))
    (hdb : (n == ("__debug__" : Str)) = false := by decide +kernel) (he : starEach (e :: es) X.env = (false, eval e X.env) :: starEach es X.env := by rfl) (hpl : (backTo pos (starEach es X.env)).any (·.1) = false := by rfl) : wpE X (.Call (.Name n p) (e :: es) [] pos) σ H Q := by
  obtain ⟨f, fd, F, hm, hk, hb⟩ := G.ex
  have hgl := C.gl hg
  obtain ⟨rfl, rfl, rfl, rfl, rfl, _, _, _, hr, _, _, _⟩ := C
  -- the wish is one of these slots
  exact ⟨fun pins s I => (pe_callS (X := X) (E := WE W) F (hr.mono hj) hgl hm hk hb (fun σ => passAt tk σ) (pa_ (e :: es)) hdb he hpl).run pins s σ H Q I h⟩
/-- f(..), nothing of one's own handed in: a frozen answer -/
theorem xm_call (C : Ctx X P w K mg base N sc k dd) {ss : τ → Gm} {m : τ → R0 ρ} {r : ρ → Slot} {rv : ρ → α} (G : Fk P w K mg base j n ps (spF K mg ss m r)) {mt : R0 τ} (ha : XMA X Γ (e :: es) ss mt) (hr : ∀ x, r x = .is R (rv x) := by intro _; rfl) (hj : j ≤ k := by omega) (hg : gloB sc n = true := by decide +kernel)
    (hdb : (n == ("__debug__" : Str)) = false := by decide +kernel) (he : starEach (e :: es) X.env = (false, eval e X.env) :: starEach es X.env := by rfl) (hpl : (backTo pos (starEach es X.env)).any (·.1) = false := by rfl) : XM X Γ (.Call (.Name n p) (e :: es) [] pos) (fz R) (mt.bind fun t => (m t).bind fun x => .ok (rv x)) := by
  obtain rfl := C.K
  obtain rfl := C.mg
  intro σ F H D g en Q W tk q
  refine call_fk C G hj hg tk (ha σ F H D g en _ W tk ?_) hdb he hpl
  cases mt with
  | bad => exact q
  | ex ε u => exact q
  | ok t =>
    intro vs F' H' g' e'
    refine ⟨t, F', [], .nil g'.fh (g'.tb g.tb), e', ?_⟩
    have q : PM X (fz R) ((m t).bind fun x => .ok (rv x)) Q W σ F H := q
    revert q
    cases m t with
    | bad => exact id
    | ex ε u => exact fun q c d F2 H2 D2 a _ ev => q c d F2 H2 (g'.trans (a.sub (List.nil_sublist _)).grow) ev
    | ok x =>
      intro q v F2 H2 D1 D2 a ok _
      have ok : (r x).ok F2 H2 D1 (some v) := ok
      rw [hr x] at ok
      obtain ⟨_, v', ev, ok⟩ := ok
      cases ev
      exact q v F2 H2 (g'.trans (a.sub (List.nil_sublist _)).grow) ok
/-- .. a new object -/
theorem xmo_call (C : Ctx X P w K mg base N sc k dd) {ss : τ → Gm} {m : τ → R0 ρ} {r : ρ → Slot} {A : Rs α} {rv : ρ → α} (G : Fk P w K mg base j n ps (spF K mg ss m r)) {mt : R0 τ} (ha : XMA X Γ (e :: es) ss mt) (hr : ∀ x, r x = .res A (rv x) := by intro _; rfl) (hj : j ≤ k := by omega) (hg : gloB sc n = true := by decide +kernel)
    (hdb : (n == ("__debug__" : Str)) = false := by decide +kernel) (he : starEach (e :: es) X.env = (false, eval e X.env) :: starEach es X.env := by rfl) (hpl : (backTo pos (starEach es X.env)).any (·.1) = false := by rfl) : XMO X Γ (.Call (.Name n p) (e :: es) [] pos) A (mt.bind fun t => (m t).bind fun x => .ok (rv x)) := by
  obtain rfl := C.K
  obtain rfl := C.mg
  intro σ F H D g en Q W tk q
  refine call_fk C G hj hg tk (ha σ F H D g en _ W tk ?_) hdb he hpl
  cases mt with
  | bad => exact q
  | ex ε u => exact q
  | ok t =>
    intro vs F' H' g' e'
    refine ⟨t, F', [], .nil g'.fh (g'.tb g.tb), e', ?_⟩
    have q : PMO X A ((m t).bind fun x => .ok (rv x)) Q W σ F H := q
    revert q
    cases m t with
    | bad => exact id
    | ex ε u => exact fun q c d F2 H2 D2 a _ ev => q c d F2 H2 (g'.trans (a.sub (List.nil_sublist _)).grow) ev
    | ok x =>
      intro q v F2 H2 D1 D2 a ok _
      have ok : (r x).ok F2 H2 D1 (some v) := ok
      rw [hr x] at ok
      obtain ⟨v', ev, ok⟩ := ok
      cases ev
      have b : Step X.K F H [] F' H' [] := Step.of (Good.nil g.fh g.tb) g'
      exact q v F2 H2 D1 (b.trans (a.sub (List.sublist_append_left _ _))) ok
end
/-! ### comprehensions -/
def XE {α : Type} (X : Cx) (Γ : Gm) (e : Expr) (R : Rp α) (x : α) : Prop :=
  ∀ σ F H D, Good X.K F H D → Env F H D Γ σ → ∀ Q : VK, (∀ v F' H', Grow X.K F H F' H' → R.ok F' v x → Q v H') → wpE X e σ H Q
def XT (X : Cx) (Γ : Gm) (e : Expr) (b : Bool) : Prop :=
  ∀ σ F H D, Good X.K F H D → Env F H D Γ σ → ∀ Q : Bool → Hp → Prop, (∀ F' H', Grow X.K F H F' H' → Q b H') → wpT X e σ H Q
theorem XM.xe {α : Type} {X : Cx} {Γ : Gm} {e : Expr} {R : Rp α} {x : α} (h : XM X Γ e (fz R) (.ok x)) : XE X Γ e R x := fun σ F H D g en Q q => h σ F H D g en Q _ takes0 q
theorem XMT.xt {X : Cx} {Γ : Gm} {e : Expr} {b : Bool} (h : XMT X Γ e (.ok b)) : XT X Γ e b := fun σ F H D g en Q q => h σ F H D g en Q _ takes0 q
section
variable {X : Cx} {Γ : Gm} {P : Program} {w : World} {K : PySem.W.Frag} {mg : Str → Option Value} {base : Heap} {N : List Str} {sc : Scope} {k : Nat} {dd : Bool}
variable {α β γ δ : Type} {R : Rp α} {R1 : Rp α} {R2 : Rp β} {R3 : Rp γ} {x : α} {y : β} {a b : Expr} {p pos : Pos}

def wipeG (Γ : Gm) : List Nat → Gm
  | [] => Γ
  | v :: vs => (wipeG Γ vs).set v .any
theorem Env.wipe {F H : Hp} {D : List Addr} {σ : St} (e : Env F H D Γ σ) : ∀ vs : List Nat, ∃ D', D'.Sublist D ∧ Env F H D' (wipeG Γ vs) (L2.wipe σ vs)
  | [] => ⟨D, .refl _, e⟩
  | v :: vs => by
    obtain ⟨D1, s1, e1⟩ := Env.wipe e vs
    obtain ⟨D2, s2, e2⟩ := Env.set (s' := .any) (o' := none) (F := F) (H := H) rfl v e1
    exact ⟨D2, s2.trans s1, e2⟩
theorem wipe_ix {σ : St} {i : Nat} : ∀ {vs : List Nat}, i ∈ vs → (L2.wipe σ vs)[i]? = if i < σ.length then some none else none
  | [], h => by cases h
  | v :: vs, h => by
    show ((L2.wipe σ vs).set v none)[i]? = _
    by_cases hv : v = i
    · subst hv
      by_cases hl : v < σ.length
      · rw [List.getElem?_set_self (by rw [L2.wipe_length]; exact hl), if_pos hl]
      · rw [List.getElem?_eq_none (by rw [List.length_set, L2.wipe_length]; omega), if_neg hl]
    · rw [List.getElem?_set_ne hv]
      exact wipe_ix ((List.mem_cons.mp h).resolve_left fun e => hv e.symm)
theorem wipe_but {J vs : List Nat} {σ σ' : St} (h : But J σ σ') (s : ∀ i ∈ J, i ∈ vs) : L2.wipe σ' vs = L2.wipe σ vs := by
  apply List.ext_getElem?
  intro i
  by_cases hi : i ∈ vs
  · rw [wipe_ix hi, wipe_ix hi, h.1]
  · rw [L2.wipe_out hi, L2.wipe_out hi]
    exact h.2 i fun z => hi (s i z)
theorem wipe_wipe {σ : St} {vs : List Nat} : L2.wipe (L2.wipe σ vs) vs = L2.wipe σ vs := by
  apply List.ext_getElem?
  intro i
  by_cases hi : i ∈ vs
  · rw [wipe_ix hi, wipe_ix hi, L2.wipe_length]
  · rw [L2.wipe_out hi]
/-- the context of a block -/
theorem Ctx.blk (C : Ctx X P w K mg base N sc k dd) {s : Shared} {H : Hp} {scope : Scope} {c : Addr} {cl : List (Str × Addr)} {fp : List Addr} : Ctx (X.blk s H scope (compEnvC scope cl c X.env) fp) P w K mg base N (relS scope sc) k false :=
  ⟨C.prog, C.w, C.K, C.mg, C.base, C.N, by
    show relS scope X.env.scope = _
    rw [C.sc], C.calm, C.room, C.nd, fun h => (by cases h), PassesOwn.never⟩
structure WpTs (X : Cx) (ifs : List Expr) (σ : St) (H : Hp) (Q : Bool → Hp → Prop) : Prop where
  go : ∀ pins s, Inv X pins σ H s →
    wpAny (model X.prog X.w) X.A (forIn ifs true fun c r => if r = true then do let ok ← isTrue c X.env (eval c X.env); pure (ForInStep.yield ok) else pure (ForInStep.yield r)) (TP X pins σ Q) X.xe s
def wpTs (X : Cx) (ifs : List Expr) : TT := WpTs X ifs
def XTs (X : Cx) (Γ : Gm) (ifs : List Expr) (b : Bool) : Prop :=
  ∀ σ F H D, Good X.K F H D → Env F H D Γ σ → ∀ Q : Bool → Hp → Prop, (∀ F' H', Grow X.K F H F' H' → Q b H') → wpTs X ifs σ H Q
theorem xts_nil : XTs X Γ [] true := fun σ F H D g e Q q => ⟨fun pins s I => pts_nil.run pins s σ H Q I (q F H (.refl g.fh))⟩
theorem xts_one {c : Expr} {b : Bool} (h : XT X Γ c b) : XTs X Γ [c] b := fun σ F H D g e Q q => ⟨fun pins s I => (pts_one (pt_ c)).run pins s σ H Q I (h σ F H D g e Q q)⟩
/-- the reading of a comprehension: a new list of what is kept -/
theorem comp_reads {J : List Nat} {f : α → Gm → Gm} {tg elt : Expr} {ifs : List Expr} {own : List (Str × Nat)} {xs : List α} {wi : TI} {pk : α → Bool} {ge : α → γ}
    (hi : ∀ σ F H D, Good X.K F H D → Env F H D Γ σ → ∀ R' : It → Hp → Prop, (∀ J F1 H1, Grow X.K F H F1 H1 → Itr' X.K J F1 R xs → R' J H1) → wi σ H R')
    (hJ : ∀ i ∈ J, i ∈ own.map (·.2)) {XX : Cx → Prop} (hXK : ∀ X', XX X' → X'.K = X.K)
    (hg : ∀ X', XX X' → XTg X' tg R J f) (ht : ∀ X', XX X' → ∀ x, x ∈ xs → XTs X' (f x (wipeG Γ (own.map (·.2)))) ifs (pk x))
    (he : ∀ X', XX X' → ∀ x, x ∈ xs → pk x = true → XE X' (f x (wipeG Γ (own.map (·.2)))) elt R3 (ge x)) (hz : xs.length ≤ sizeLine)
    {σ : St} {F H : Hp} {D : List Addr} (g : Good X.K F H D) (en : Env F H D Γ σ) {Q : VK} (q : ∀ v F' H' D', Step X.K F H [] F' H' D' → (oL R3).ok F' H' D' v ((xs.filter pk).map ge) → Q v H') :
    tLc wi (fun v σ H Q => ∀ X', XX X' → wpG X' tg v σ H Q) (fun σ H Q => ∀ X', XX X' → wpTs X' ifs σ H Q) (fun σ H Q => ∀ X', XX X' → wpE X' elt σ H Q) (own.map (·.2)) σ H Q := by
  refine hi σ F H D g en _ fun J1 F1 H1 g1 it D1 nD => ?_
  -- the new list at D1; turns keep all else
  have nF : F1 D1 = none := by
    cases z : F1 D1 with
    | none => rfl
    | some u => exact absurd nD (of_vw (g1.fh D1 u z))
  have s0 : Step X.K F1 H1 [] F1 (upd H1 D1 (.lst [])) [D1] := xo_fresh g1.fh nD
  have tb1 := g1.tb g.tb
  have tb0 := s0.tb tb1
  refine ⟨fun i n H' => n = xs.length - i ∧ i ≤ xs.length ∧ ∃ F' acc, Step X.K F1 (upd H1 D1 (.lst [])) [D1] F' H' [D1] ∧ H' D1 = some (.lst acc) ∧ Paired (R3.ok F') acc (((xs.take i).filter pk).map ge), ⟨xs.length, by simp, Nat.zero_le _, F1, [], .refl (s0.good tb1), upd_same, .nil⟩, ?_⟩
  rintro i n H' ⟨rfl, hle, F', acc, a, hD, pr⟩
  have a' := s0.trans a
  obtain ⟨stop, go⟩ := it i F' H' a.ff a.fh
  by_cases hlt : i < xs.length
  · obtain ⟨x, hx⟩ : ∃ x, xs[i]? = some x := ⟨xs[i], List.getElem?_eq_getElem hlt⟩
    have hxm : x ∈ xs := List.mem_of_getElem? hx
    have htk : xs.take (i + 1) = xs.take i ++ [x] := by
      rw [List.take_add_one, hx]; rfl
    obtain ⟨jg, jy⟩ := go x hx
    refine .inr ⟨jg, fun H2 => i + 1 ≤ xs.length ∧ ∃ F2 acc2, Step X.K F1 (upd H1 D1 (.lst [])) [D1] F2 H2 [D1] ∧ H2 D1 = some (.lst acc2) ∧ Paired (R3.ok F2) acc2 (((xs.take (i + 1)).filter pk).map ge), fun H2 q2 => ⟨xs.length - (i + 1), by omega, rfl, q2⟩, fun v H'' y => ?_⟩
    obtain ⟨F'', g2, r⟩ := jy v H'' y
    -- the caller's own objects are as they were
    have gD : Good X.K F1 H1 D := g.grow g1
    have b1 := Step.both gD a'
    have b2 := b1.trans (Step.of (b1.good tb1) g2)
    have enD : Env F'' H'' D Γ σ := (en.grow g g1).mono (a'.ff.trans g2.ff) fun p hp => by
      obtain ⟨o, ho⟩ := ex_of (gD.dH p hp)
      have t := gD.dT p hp o ho
      rw [ho]; exact g2.hh p o (a'.keep p o ho t (by simp)) t
    have gD2 : Good X.K F'' H'' D := (b2.good tb1).sub (List.sublist_append_left _ _)
    obtain ⟨Dw, sw, enw⟩ := enD.wipe (own.map (·.2))
    intro X' hX'
    refine hg X' hX' _ v x _ F'' H'' Dw (by rw [hXK X' hX']; exact gD2.sub sw) enw r _ fun σ3 D3 s3 e3 bt => ?_
    refine ⟨by rw [wipe_but bt hJ, wipe_wipe], ?_⟩
    have g3 : Good X.K F'' H'' D3 := gD2.sub (s3.trans sw)
    intro X2 hX2
    refine ht X2 hX2 x hxm σ3 F'' H'' D3 (by rw [hXK X2 hX2]; exact g3) e3 _ fun F4 H4 g4 => ?_
    have g4 : Grow X.K F'' H'' F4 H4 := hXK X2 hX2 ▸ g4
    have gg := g2.trans g4
    have a4 : Step X.K F1 (upd H1 D1 (.lst [])) [D1] F4 H4 [D1] := a.trans (Step.of (a.good tb0) gg)
    have hD4 : H4 D1 = some (.lst acc) := gg.hh _ _ hD (by intro _ z; cases z)
    cases hp : pk x with
    | false =>
      refine iteF ⟨hlt, F4, acc, a4, hD4, ?_⟩
      rw [htk, List.filter_append, List.map_append]
      simpa [hp] using prd_mono gg.ff pr
    | true =>
      refine iteT ?_
      intro X3 hX3
      refine he X3 hX3 x hxm hp σ3 F4 H4 D3 (by rw [hXK X3 hX3]; exact g3.grow g4) (e3.grow g3 g4) _ fun z F5 H5 g5 r5 => ?_
      have g5 : Grow X.K F4 H4 F5 H5 := hXK X3 hX3 ▸ g5
      have gg5 := gg.trans g5
      have a5 : Step X.K F1 (upd H1 D1 (.lst [])) [D1] F5 H5 [D1] := a.trans (Step.of (a.good tb0) gg5)
      have hl : acc.length ≤ i := by
        rw [pr.length, List.length_map]
        refine Nat.le_trans (List.length_filter_le _ _) ?_
        rw [List.length_take]; omega
      refine ⟨acc, gg5.hh _ _ hD (by intro _ z; cases z), by omega, hlt, F5, acc ++ [z], ?_, upd_same, ?_⟩
      · have nF5 : F5 D1 = none := a5.dF D1 (by simp)
        refine a5.trans ⟨.refl _, fun b u q3 => ?_, fun b o hb _ nb => ?_, fun b hb => ?_, fun b h1 _ _ => h1, by simp, a5.dF, fun b hb => ?_, fun b hb u0 e => ?_, fun b hb => .inl hb, tb_upd (gg5.hh _ _ hD (by intro _ z; cases z)) (by intro _ z; cases z) (fun _ z => by cases z)⟩
        · have hb : b ≠ D1 := fun z => by subst z; rw [nF5] at q3; cases q3
          have q4 := a5.fh b u q3
          unfold Vw at q4 ⊢
          rw [upd_ne hb]; exact q4
        · have : b ≠ D1 := fun z => nb (by simp [z])
          rw [upd_ne this]; exact hb
        · exact hb.upd (by intro _ z; cases z)
        · obtain rfl : b = D1 := by simpa using hb
          exact ⟨_, upd_same, by intro _ z; cases z⟩
        · obtain rfl : b = D1 := by simpa using hb
          rw [upd_same] at e; cases e; intro _ z; cases z
      · rw [htk, List.filter_append, List.map_append]
        have := prd_app (prd_mono gg5.ff pr) (.cons r5 .nil)
        simpa [hp] using this
  · have e : i = xs.length := by omega
    subst e
    refine .inl ⟨stop rfl, ?_⟩
    rw [List.take_length] at pr
    have b0 : Step X.K F H [] F1 H1 [] := (Step.of (Good.nil g.fh g.tb) g1)
    refine q _ F' H' [D1] ((b0.trans s0).trans a) ⟨?_, D1, acc, rfl, rfl, hD, pr⟩
    rw [List.length_map]
    exact Nat.le_trans (List.length_filter_le _ _) hz

def compR {α γ : Type} (p : α → R0 Bool) (g : α → R0 γ) : List α → R0 (List γ)
  | [] => .ok []
  | x :: xs => match p x with
    | .ok true => (match g x with
      | .ok y => (compR p g xs).bind fun ys => .ok (y :: ys)
      | _ => .bad)
    | .ok false => compR p g xs
    | _ => .bad
def isT : R0 Bool → Bool | .ok b => b | _ => false
def getR {α : Type} : R0 α → Option α | .ok b => some b | _ => none
theorem compR_ok {α γ : Type} {p : α → R0 Bool} {g : α → R0 γ} : ∀ {xs : List α} {ys : List γ}, compR p g xs = .ok ys →
    (∀ x ∈ xs, p x = .ok (isT (p x))) ∧ (∀ x ∈ xs, isT (p x) = true → ∃ y, g x = .ok y) ∧ ys.map some = (xs.filter fun x => isT (p x)).map fun x => getR (g x)
  | [], ys, h => by cases h; simp
  | x :: xs, ys, h => by
    unfold compR at h
    cases hp : p x with
    | bad => rw [hp] at h; cases h
    | ex e u => rw [hp] at h; cases h
    | ok b =>
      rw [hp] at h
      cases b with
      | false =>
        have h : compR p g xs = .ok ys := h
        obtain ⟨h1, h2, h3⟩ := compR_ok h
        refine ⟨fun y hy => ?_, fun y hy => ?_, ?_⟩
        · rcases List.mem_cons.mp hy with z | z
          · subst z; rw [hp]; rfl
          · exact h1 y z
        · rcases List.mem_cons.mp hy with z | z
          · subst z; rw [hp]; intro q; cases q
          · exact h2 y z
        · rw [List.filter_cons, hp]; exact h3
      | true =>
        have h : (match g x with
          | .ok y => (compR p g xs).bind fun ys => .ok (y :: ys)
          | _ => .bad) = .ok ys := h
        cases hg : g x with
        | bad => rw [hg] at h; cases h
        | ex e u => rw [hg] at h; cases h
        | ok y =>
          rw [hg] at h
          have h : ((compR p g xs).bind fun ys => .ok (y :: ys)) = .ok ys := h
          cases hc : compR p g xs with
          | bad => rw [hc] at h; cases h
          | ex e u => rw [hc] at h; cases h
          | ok zs =>
            rw [hc] at h
            cases h
            obtain ⟨h1, h2, h3⟩ := compR_ok hc
            refine ⟨fun y hy => ?_, fun y' hy => ?_, ?_⟩
            · rcases List.mem_cons.mp hy with z | z
              · subst z; rw [hp]; rfl
              · exact h1 y z
            · rcases List.mem_cons.mp hy with z | z
              · subst z; exact fun _ => ⟨_, hg⟩
              · exact h2 y' z
            · rw [List.filter_cons, hp, List.map_cons]
              simp only [isT, if_true, List.map_cons, hg, getR, h3]
theorem compR_pure {α γ : Type} (p : α → Bool) (g : α → γ) : ∀ xs : List α, compR (fun x => .ok (p x)) (fun x => .ok (g x)) xs = .ok ((xs.filter p).map g)
  | [] => rfl
  | x :: xs => by
    unfold compR
    rw [compR_pure p g xs, List.filter_cons]
    cases p x <;> rfl
/-- as if known -/
theorem compR_eq {α γ : Type} {p : α → R0 Bool} {g : α → R0 γ} {p' : α → Bool} {g' : α → γ} : ∀ {xs : List α}, (∀ x ∈ xs, p x = .ok (p' x)) → (∀ x ∈ xs, p' x = true → g x = .ok (g' x)) → compR p g xs = .ok ((xs.filter p').map g')
  | [], _, _ => rfl
  | x :: xs, h1, h2 => by
    unfold compR
    rw [h1 x (List.mem_cons_self ..), List.filter_cons]
    have ih := compR_eq (xs := xs) (fun y hy => h1 y (List.mem_cons_of_mem _ hy)) (fun y hy => h2 y (List.mem_cons_of_mem _ hy))
    cases hp : p' x with
    | false => exact ih
    | true =>
      simp only [h2 x (List.mem_cons_self ..) hp, ih]; rfl
def XMTs (X : Cx) (Γ : Gm) (ifs : List Expr) (m : R0 Bool) : Prop := ∀ b, m = .ok b → XTs X Γ ifs b
theorem xmts_nil : XMTs X Γ [] (.ok true) := fun b e => by cases e; exact xts_nil
theorem xmts_one {c : Expr} {m : R0 Bool} (h : XMT X Γ c m) : XMTs X Γ [c] m := fun b e => by subst e; exact xts_one h.xt
variable {L : List Nat} {h : α → Gm → Gm} {tg elt iter : Expr} {ifs : List Expr} {scope : Scope} {mx : R0 (List α)} {pm : α → R0 Bool} {gm : α → R0 γ}
theorem comp_PM {wi : TI} {own : List (Str × Nat)} {XX : Cx → Prop} (hXK : ∀ X', XX X' → X'.K = X.K)
    (hi : ∀ σ F H D, Good X.K F H D → Env F H D Γ σ → ∀ (R' : It → Hp → Prop) (W : WX), Takes X W → PMI X R mx R' W σ F H → wi σ H R') (hL : ∀ i ∈ L, i ∈ own.map (·.2)) (hg : ∀ X', XX X' → XTg X' tg R L h)
    (ht : ∀ X', XX X' → ∀ x, XMTs X' (h x (wipeG Γ (own.map (·.2)))) ifs (pm x)) (he : ∀ X', XX X' → ∀ x, XM X' (h x (wipeG Γ (own.map (·.2)))) elt (fz R3) (gm x))
    {σ : St} {F H : Hp} {D : List Addr} (g : Good X.K F H D) (en : Env F H D Γ σ) {Q : VK} {W : WX} (tk : Takes X W) (q : PMO X (oL R3) (mx.bind fun xs => gd (xs.length ≤ sizeLine) (compR pm gm xs)) Q W σ F H) :
    tLc wi (fun v σ H Q => ∀ X', XX X' → wpG X' tg v σ H Q) (fun σ H Q => ∀ X', XX X' → wpTs X' ifs σ H Q) (fun σ H Q => ∀ X', XX X' → wpE X' elt σ H Q) (own.map (·.2)) σ H Q := by
  cases mx with
  | bad => exact hi σ F H D g en _ W tk q
  | ex ε u => exact hi σ F H D g en _ W tk q
  | ok xs =>
    replace q : PMO X (oL R3) (gd (xs.length ≤ sizeLine) (compR pm gm xs)) Q W σ F H := q
    by_cases hz : xs.length ≤ sizeLine
    · rw [gd_true hz] at q
      cases hc : compR pm gm xs with
      | bad => rw [hc] at q; exact q.elim
      | ex ε u =>
        exfalso
        have : ∀ (xs : List α), compR pm gm xs ≠ .ex ε u := by
          intro xs
          induction xs with
          | nil => intro z; cases z
          | cons x xs ih =>
            intro z
            unfold compR at z
            cases hp : pm x with
            | bad => rw [hp] at z; cases z
            | ex _ _ => rw [hp] at z; cases z
            | ok b =>
              rw [hp] at z
              cases b with
              | false => exact ih z
              | true =>
                cases hg : gm x with
                | bad => simp only [hg] at z; cases z
                | ex _ _ => simp only [hg] at z; cases z
                | ok y =>
                  simp only [hg] at z
                  cases hc : compR pm gm xs with
                  | bad => rw [hc] at z; cases z
                  | ok _ => rw [hc] at z; cases z
                  | ex _ _ => rw [hc] at z; cases z; exact ih hc
        exact this xs hc
      | ok ys =>
        rw [hc] at q
        obtain ⟨c1, c2, c3⟩ := compR_ok hc
        cases xs with
        | nil =>
          cases hc
          refine comp_reads (J := L) (f := h) (xs := []) (pk := fun _ => false) (ge := fun (_ : α) => (Classical.choice ⟨([] : List γ)⟩ : List γ)) (R3 := rL R3) (fun σ F H D g en R' k => hi σ F H D g en R' W tk k) hL hXK hg (fun _ _ x hx => by cases hx) (fun _ _ x hx => by cases hx) (by simp) g en fun v F' H' D' a ok => ?_
          obtain ⟨z, p, vs, e, d, hp, pr⟩ := ok
          cases pr
          exact q v F' H' D' a ⟨Nat.zero_le _, p, [], e, d, hp, .nil⟩
        | cons x0 xs0 =>
          by_cases hne : ∃ x ∈ x0 :: xs0, isT (pm x) = true
          · obtain ⟨x1, m1, t1⟩ := hne
            obtain ⟨y1, _⟩ := c2 x1 m1 t1
            have hys : ys = ((x0 :: xs0).filter fun x => isT (pm x)).map fun x => (getR (gm x)).getD y1 := by
              have := congrArg (List.map fun o : Option γ => o.getD y1) c3
              simpa [List.map_map, Function.comp_def] using this
            rw [hys] at q
            refine comp_reads (J := L) (f := h) (xs := x0 :: xs0) (pk := fun x => isT (pm x)) (ge := fun x => (getR (gm x)).getD y1) (R3 := R3) (fun σ F H D g en R' k => hi σ F H D g en R' W tk k) hL hXK hg (fun X' hX x hx => ht X' hX x _ (c1 x hx)) (fun X' hX x hx hp => ?_) hz g en q
            obtain ⟨y, hy⟩ := c2 x hx hp
            have := he X' hX x
            rw [hy] at this ⊢
            exact this.xe
          · have hf : ((x0 :: xs0).filter fun x => isT (pm x)) = [] := by
              rw [List.filter_eq_nil_iff]
              intro x hx z
              exact hne ⟨x, hx, z⟩
            rw [hf] at c3
            have hys : ys = [] := by simpa using c3
            subst hys
            refine comp_reads (J := L) (f := h) (xs := x0 :: xs0) (pk := fun x => isT (pm x)) (ge := fun (_ : α) => (Classical.choice ⟨([] : List γ)⟩ : List γ)) (R3 := rL R3) (fun σ F H D g en R' k => hi σ F H D g en R' W tk k) hL hXK hg (fun X' hX x hx => ht X' hX x _ (c1 x hx)) (fun X' hX x hx hp => absurd ⟨x, hx, hp⟩ hne) hz g en fun v F' H' D' a ok => ?_
            rw [hf] at ok
            obtain ⟨z, p, vs, e, d, hp, pr⟩ := ok
            cases pr
            exact q v F' H' D' a ⟨Nat.zero_le _, p, [], e, d, hp, .nil⟩
    · rw [show gd (xs.length ≤ sizeLine) (compR pm gm xs) = .bad from gd_bad hz] at q
      exact q.elim
theorem xmo_comp (C : Ctx X P w K mg base N sc k dd) (own : List (Str × Nat)) (hi : XI X Γ tg iter R mx) (hg : ∀ X', Ctx X' P w K mg base N (relS scope sc) k false → XTg X' tg R L h)
    (ht : ∀ X', Ctx X' P w K mg base N (relS scope sc) k false → ∀ x, XMTs X' (h x (wipeG Γ (own.map (·.2)))) ifs (pm x))
    (he : ∀ X', Ctx X' P w K mg base N (relS scope sc) k false → ∀ x, XM X' (h x (wipeG Γ (own.map (·.2)))) elt (fz R3) (gm x)) (ok : blkC N sc scope own = true := by decide +kernel) (hL : ∀ i ∈ L, i ∈ own.map (·.2) := by decide)
    (hs : ∀ x, foldedSetIterable iter X.env x = pure x := by intro _; rfl) : XMO X Γ (.ListComp elt [⟨tg, iter, ifs, 0⟩] scope pos) (oL R3) (mx.bind fun xs => gd (xs.length ≤ sizeLine) (compR pm gm xs)) := by
  obtain ⟨wi, pi, go⟩ := hi.ex
  intro σ F H D g en Q W tk q
  refine (pe_lc (own := own) C.calm (by rw [C.N]; exact C.nd) pi (by rw [C.N, C.sc]; exact blkOk_by ok) (g := fun v σ H Q => ∀ X', Ctx X' P w K mg base N (relS scope sc) k false → wpG X' tg v σ H Q) (tt := fun σ H Q => ∀ X', Ctx X' P w K mg base N (relS scope sc) k false → wpTs X' ifs σ H Q)
    (te := fun σ H Q => ∀ X', Ctx X' P w K mg base N (relS scope sc) k false → wpE X' elt σ H Q) (fun s H c cl fp => ⟨fun pins s σ H v u Q I r h => (h _ C.blk).go pins s u I r⟩) (fun s H c cl fp => ⟨fun pins s σ H Q I h => (h _ C.blk).go pins s I⟩) (fun s H c cl fp => ⟨fun pins s σ H Q I h => (h _ C.blk).go pins s I⟩) hs).wp ?_
  exact comp_PM (fun X' C' => C'.K.trans C.K.symm) go hL hg ht he g en tk q
/-- name = [..] -/
theorem xg_asgC {β' τ : Type} {J : τ → Post} {Γx : β' → Gm} {Kt : Gm → Res β' τ → Prop} {b' : β'} {rest : List Stmt} {ff : List γ → Res β' τ} (C : Ctx X P w K mg base N sc k dd) (j : Nat) {n : Str} {p1 p2 : Pos} (own : List (Str × Nat)) (hi : XI X Γ tg iter R mx) (hg : ∀ X', Ctx X' P w K mg base N (relS scope sc) k false → XTg X' tg R L h)
    (ht : ∀ X', Ctx X' P w K mg base N (relS scope sc) k false → ∀ x, XMTs X' (h x (wipeG Γ (own.map (·.2)))) ifs (pm x))
    (he : ∀ X', Ctx X' P w K mg base N (relS scope sc) k false → ∀ x, XM X' (h x (wipeG Γ (own.map (·.2)))) elt (fz R3) (gm x)) (hr : ∀ ys, XG X (Γ.set j (.res (oL R3) ys)) rest (ff ys) J Γx Kt) (hx : Wk Γ (Γx b'))
    (hk : (match sc.kind with | .function => true | _ => false) = true := by decide +kernel) (hl : decide (sc.names.lookup n = some .local) = true := by decide +kernel) (hline : (p1.line == pos.line) = true := by decide +kernel) (ha : (scope.names.any fun (m, k) => m == n && (k == .local || k == .cell)) = false := by decide +kernel)
    (ok : blkC N sc scope own = true := by decide +kernel) (hL : ∀ i ∈ L, i ∈ own.map (·.2) := by decide) (hj : Γ[j]?.isSome = true := by rfl) (hN : N[j]? = some n := by rfl)
    (hs : ∀ x, foldedSetIterable iter X.env x = pure x := by intro _; rfl) : XG X Γ (.Assign [.Name n p1] (.ListComp elt [⟨tg, iter, ifs, 0⟩] scope pos) p2 :: rest) ((mx.bind fun xs => gd (xs.length ≤ sizeLine) (compR pm gm xs)).bnd b' ff) J Γx Kt := by
  obtain ⟨wi, pi, go⟩ := hi.ex
  intro σ F H D g en E W tk kk hm
  have hloc : X.env.scope.names.lookup n = some .local := by rw [C.sc]; exact of_decide_eq_true hl
  have hkf : X.env.scope.kind = .function := by
    rw [C.sc]
    revert hk
    cases sc.kind <;> intro z <;> first | rfl | cases z
  refine (pss_cons (ps_setLc (own := own) (i := j) C.calm (by rw [C.N]; exact C.nd) (by rw [C.N]; exact hN) hloc (sw_true hkf hloc hline ha) pi (by rw [C.N, C.sc]; exact blkOk_by ok) (g := fun v σ H Q => ∀ X', Ctx X' P w K mg base N (relS scope sc) k false → wpG X' tg v σ H Q) (tt := fun σ H Q => ∀ X', Ctx X' P w K mg base N (relS scope sc) k false → wpTs X' ifs σ H Q)
    (te := fun σ H Q => ∀ X', Ctx X' P w K mg base N (relS scope sc) k false → wpE X' elt σ H Q) (fun s H c cl fp => ⟨fun pins s σ H v u Q I r h => (h _ C.blk).go pins s u I r⟩) (fun s H c cl fp => ⟨fun pins s σ H Q I h => (h _ C.blk).go pins s I⟩) (fun s H c cl fp => ⟨fun pins s σ H Q I h => (h _ C.blk).go pins s I⟩) hs) (pb_ rest)).wp ?_
  refine comp_PM (Q := fun v H' => gName j v σ H' fun σ' H' => wpB X rest E σ' H') (fun X' C' => C'.K.trans C.K.symm) go hL hg ht he g en tk ?_
  revert hm
  cases (mx.bind fun xs => gd (xs.length ≤ sizeLine) (compR pm gm xs)) with
  | bad => exact fun hm => hm
  | ex ε u => exact fun hm => xg_ex hx g en hm
  | ok ys =>
    intro hm v F' H' D' a r
    obtain ⟨D1, D2, s, e'⟩ := Env.put (s' := .res (oL R3) ys) (o' := some v) (F := F') (H := H') (D' := D') ⟨v, rfl, r⟩ j (isSome_lt hj) (en.grow g a.grow)
    exact xg_run (hr ys) g (put_step g a s) e' tk kk hm
end
end Wf
/-! Built-ins, lists, texts, tuples. -/
namespace Wf
open PySem L2
/-- the built-in names that the texts use -/
def bnames : List Str := ["len", "range", "list", "dict", "sorted", "min", "max", "int", "str", "tuple", "isinstance", "zip", "enumerate", "abs", "all", "set", "any", "sum", "bool", "ValueError"]
def Free (mg : Str → Option Value) : Prop := ∀ x ∈ bnames, mg x = none
theorem Free.at_ {mg : Str → Option Value} (h : Free mg) {x : Str} (m : decide (x ∈ bnames) = true) : mg x = none := h x (of_decide_eq_true m)
section
variable {X : Cx} {Γ : Gm} {P : Program} {w : World} {K : PySem.W.Frag} {mg : Str → Option Value} {base : Heap} {N : List Str} {sc : Scope} {k : Nat} {dd : Bool}
variable {α δ γ κ : Type} {R : Rp α} {R1 : Rp α} {R2 : Rp δ} {R3 : Rp γ} {x : α} {y : δ} {a b c e : Expr} {p p1 p2 p3 pos : Pos}

/-! ### calls of built-ins, by values -/
structure C1Q (X : Cx) (f : Value) (B1 : Rq α) (R3 : Rp γ) (ok : α → Prop) (op : α → γ) : Prop where
  ex : ∃ r : List V → Hp → VK → Prop, CallR X f r ∧ ∀ F H v x, Same F (Vw H) → B1.ok F H v x → ok x → ∀ Q : VK, (∀ z F' H', Grow X.K F H F' H' → R3.ok F' z (op x) → Q z H') → r [v] H Q
structure C2Q (X : Cx) (f : Value) (B1 : Rq α) (B2 : Rq δ) (R3 : Rp γ) (ok : α → δ → Prop) (op : α → δ → γ) : Prop where
  ex : ∃ r : List V → Hp → VK → Prop, CallR X f r ∧ ∀ F H v u x y, Same F (Vw H) → B1.ok F H v x → B2.ok F H u y → ok x y → ∀ Q : VK, (∀ z F' H', Grow X.K F H F' H' → R3.ok F' z (op x y) → Q z H') → r [v, u] H Q
structure N1Q (X : Cx) (f : Value) (B1 : Rq α) (A : Rs γ) (ok : α → Prop) (op : α → γ) : Prop where
  ex : ∃ r : List V → Hp → VK → Prop, CallR X f r ∧ ∀ F H v x, Same F (Vw H) → B1.ok F H v x → ok x → ∀ Q : VK, (∀ z F' H' D', Step X.K F H [] F' H' D' → A.ok F' H' D' z (op x) → Q z H') → r [v] H Q
variable {B1 : Rq α} {B2 : Rq δ} {ok : α → Prop} {op : α → γ} {ok2 : α → δ → Prop} {op2 : α → δ → γ} {n : Str} {id : String} {m ma : R0 α} {mb : R0 δ} {A : Rs γ}
abbrev alw (_ : α) : Prop := True
theorem xm_b1 [DecidablePred ok] (C : Ctx X P w K mg base N sc k dd) (hf : Free mg) (h : C1Q X (.builtin id) B1 R3 ok op) (ha : XM X Γ a B1 m) (hv : bootBuiltins n = some (.builtin id)) (hg : gloB sc n = true := by decide +kernel) (hm : decide (n ∈ bnames) = true := by decide +kernel)
    (hn : n ≠ "__name__" := by decide +kernel) (hdb : (n == ("__debug__" : Str)) = false := by decide +kernel)
    (he : starEach [a] X.env = (false, eval a X.env) :: starEach [] X.env := by rfl) (hpl : (backTo pos (starEach [] X.env)).any (·.1) = false := by rfl) : XM X Γ (.Call (.Name n p) [a] [] pos) (fz R3) (m.bind fun x => gd (ok x) (.ok (op x))) := by
  obtain ⟨r, hr, go⟩ := h.ex
  intro σ F H D g en Q W tk q
  refine (pe_callB hr (C.gl hg) (by rw [C.mg]; exact hf.at_ hm) hv (pa_cons (pe_ a) pa_nil he) hn hdb he hpl).wp (ha σ F H D g en _ W tk ?_)
  cases m with
  | bad => exact q
  | ex ε u => exact q
  | ok x =>
    replace q : PM X (fz R3) (gd (ok x) (.ok (op x)) : R0 γ) Q W σ F H := q
    by_cases hk : ok x
    · rw [gd_true hk] at q
      exact fun v F1 H1 g1 r1 => go F1 H1 v x g1.fh r1 hk Q fun z F2 H2 g2 r2 => q z F2 H2 (g1.trans g2) r2
    · rw [gd_bad hk] at q; exact q.elim
theorem xm_t1 [DecidablePred ok] (C : Ctx X P w K mg base N sc k dd) (hf : Free mg) (h : C1Q X (.type id) B1 R3 ok op) (ha : XM X Γ a B1 m) (hv : bootBuiltins n = some (.type id)) (hg : gloB sc n = true := by decide +kernel) (hm : decide (n ∈ bnames) = true := by decide +kernel)
    (hn : n ≠ "__name__" := by decide +kernel) (hdb : (n == ("__debug__" : Str)) = false := by decide +kernel)
    (he : starEach [a] X.env = (false, eval a X.env) :: starEach [] X.env := by rfl) (hpl : (backTo pos (starEach [] X.env)).any (·.1) = false := by rfl) : XM X Γ (.Call (.Name n p) [a] [] pos) (fz R3) (m.bind fun x => gd (ok x) (.ok (op x))) := by
  obtain ⟨r, hr, go⟩ := h.ex
  intro σ F H D g en Q W tk q
  refine (pe_callTy hr (C.gl hg) (by rw [C.mg]; exact hf.at_ hm) hv (pa_cons (pe_ a) pa_nil he) hn hdb he hpl).wp (ha σ F H D g en _ W tk ?_)
  cases m with
  | bad => exact q
  | ex ε u => exact q
  | ok x =>
    replace q : PM X (fz R3) (gd (ok x) (.ok (op x)) : R0 γ) Q W σ F H := q
    by_cases hk : ok x
    · rw [gd_true hk] at q
      exact fun v F1 H1 g1 r1 => go F1 H1 v x g1.fh r1 hk Q fun z F2 H2 g2 r2 => q z F2 H2 (g1.trans g2) r2
    · rw [gd_bad hk] at q; exact q.elim
theorem xm_b2 [∀ x y, Decidable (ok2 x y)] (C : Ctx X P w K mg base N sc k dd) (hf : Free mg) (h : C2Q X (.builtin id) B1 B2 R3 ok2 op2) (ha : XM X Γ a B1 ma) (hb : XM X Γ b B2 mb) (hv : bootBuiltins n = some (.builtin id)) (hg : gloB sc n = true := by decide +kernel) (hm : decide (n ∈ bnames) = true := by decide +kernel)
    (hn : n ≠ "__name__" := by decide +kernel) (hdb : (n == ("__debug__" : Str)) = false := by decide +kernel)
    (he : starEach [a, b] X.env = (false, eval a X.env) :: starEach [b] X.env := by rfl) (he' : starEach [b] X.env = (false, eval b X.env) :: starEach [] X.env := by rfl) (hpl : (backTo pos (starEach [b] X.env)).any (·.1) = false := by rfl) : XM X Γ (.Call (.Name n p) [a, b] [] pos) (fz R3) (ma.bind fun x => mb.bind fun y => gd (ok2 x y) (.ok (op2 x y))) := by
  obtain ⟨r, hr, go⟩ := h.ex
  intro σ F H D g en Q W tk q
  refine (pe_callB hr (C.gl hg) (by rw [C.mg]; exact hf.at_ hm) hv (pa_cons (pe_ a) (pa_cons (pe_ b) pa_nil he') he) hn hdb he hpl).wp ?_
  refine two (P := wpE X) ha hb g en tk q fun x y _ _ v u F2 H2 g2 r1 r2 q2 => ?_
  by_cases hk : ok2 x y
  · rw [gd_true hk] at q2
    exact go F2 H2 v u x y g2.fh r1 r2 hk Q fun z F' H' g3 r3 => q2 z F' H' g3 r3
  · rw [gd_bad hk] at q2; exact q2.elim
theorem xmo_b1 [DecidablePred ok] (C : Ctx X P w K mg base N sc k dd) (hf : Free mg) (h : N1Q X (.builtin id) B1 A ok op) (ha : XM X Γ a B1 m) (hv : bootBuiltins n = some (.builtin id)) (hg : gloB sc n = true := by decide +kernel) (hm : decide (n ∈ bnames) = true := by decide +kernel)
    (hn : n ≠ "__name__" := by decide +kernel) (hdb : (n == ("__debug__" : Str)) = false := by decide +kernel)
    (he : starEach [a] X.env = (false, eval a X.env) :: starEach [] X.env := by rfl) (hpl : (backTo pos (starEach [] X.env)).any (·.1) = false := by rfl) : XMO X Γ (.Call (.Name n p) [a] [] pos) A (m.bind fun x => gd (ok x) (.ok (op x))) := by
  obtain ⟨r, hr, go⟩ := h.ex
  intro σ F H D g en Q W tk q
  refine (pe_callB hr (C.gl hg) (by rw [C.mg]; exact hf.at_ hm) hv (pa_cons (pe_ a) pa_nil he) hn hdb he hpl).wp (ha σ F H D g en _ W tk ?_)
  cases m with
  | bad => exact q
  | ex ε u => exact q
  | ok x =>
    replace q : PMO X A (gd (ok x) (.ok (op x)) : R0 γ) Q W σ F H := q
    by_cases hk : ok x
    · rw [gd_true hk] at q
      exact fun v F1 H1 g1 r1 => go F1 H1 v x g1.fh r1 hk Q fun z F2 H2 D2 g2 r2 => q z F2 H2 D2 ((Step.of (Good.nil g.fh g.tb) g1).trans g2) r2
    · rw [gd_bad hk] at q; exact q.elim
theorem xmo_t1 [DecidablePred ok] (C : Ctx X P w K mg base N sc k dd) (hf : Free mg) (h : N1Q X (.type id) B1 A ok op) (ha : XM X Γ a B1 m) (hv : bootBuiltins n = some (.type id)) (hg : gloB sc n = true := by decide +kernel) (hm : decide (n ∈ bnames) = true := by decide +kernel)
    (hn : n ≠ "__name__" := by decide +kernel) (hdb : (n == ("__debug__" : Str)) = false := by decide +kernel)
    (he : starEach [a] X.env = (false, eval a X.env) :: starEach [] X.env := by rfl) (hpl : (backTo pos (starEach [] X.env)).any (·.1) = false := by rfl) : XMO X Γ (.Call (.Name n p) [a] [] pos) A (m.bind fun x => gd (ok x) (.ok (op x))) := by
  obtain ⟨r, hr, go⟩ := h.ex
  intro σ F H D g en Q W tk q
  refine (pe_callTy hr (C.gl hg) (by rw [C.mg]; exact hf.at_ hm) hv (pa_cons (pe_ a) pa_nil he) hn hdb he hpl).wp (ha σ F H D g en _ W tk ?_)
  cases m with
  | bad => exact q
  | ex ε u => exact q
  | ok x =>
    replace q : PMO X A (gd (ok x) (.ok (op x)) : R0 γ) Q W σ F H := q
    by_cases hk : ok x
    · rw [gd_true hk] at q
      exact fun v F1 H1 g1 r1 => go F1 H1 v x g1.fh r1 hk Q fun z F2 H2 D2 g2 r2 => q z F2 H2 D2 ((Step.of (Good.nil g.fh g.tb) g1).trans g2) r2
    · rw [gd_bad hk] at q; exact q.elim

/-! ### len -/
theorem len_list : C1Q X (.builtin "len") (bL R) rI alw (fun xs => (xs.length : Int)) :=
  ⟨_, call_len, fun F H v x s ⟨_, p, vs, e, h, q⟩ _ Q k => ⟨v, vs.length, rfl, by rw [e]; exact .inl ⟨vs, .inl h, rfl⟩, k _ F H (.refl s) (by show V.int _ = V.int _; rw [q.length])⟩⟩
theorem len_vtup : C1Q X (.builtin "len") (fz (rV R)) rI alw (fun xs => (xs.length : Int)) :=
  ⟨_, call_len, fun F H v x s ⟨_, p, vs, e, h, q⟩ _ Q k => ⟨v, vs.length, rfl, by rw [e]; exact .inr ⟨vs, .inl (rd_of (s _ _ h)), rfl⟩, k _ F H (.refl s) (by show V.int _ = V.int _; rw [q.length])⟩⟩
theorem len_str : C1Q X (.builtin "len") (fz rS) rI alw (fun z => (z.length : Int)) :=
  ⟨_, call_len, fun F H v x s r _ Q k => ⟨v, x.length, rfl, by rw [r.1]; exact ⟨Nat.le_trans (niceS_len r.2) (by decide), rfl⟩, k _ F H (.refl s) rfl⟩⟩
theorem d_lenR (h0 : X.calm = X.calm) : CallR X (.builtin "len") (fun xs H Q => ∃ a kvs, xs = [V.ref a] ∧ Rd H a (.dK kvs) ∧ Q (.int (kvs : List (Key × V)).length) H) := by
  intro pins s σ H xs us Q I r h
  obtain ⟨a, kvs, rfl, ha, q⟩ := h
  obtain ⟨u, rfl, ru⟩ := vals1 r
  cases (show u = Value.ref a from ru)
  exact d_len I ha fun t s' I' => ⟨.int _, H, I', ⟨t, rfl⟩, q⟩
theorem len_dict {A : KF κ} : C1Q X (.builtin "len") (bK A R) rI alw (fun xs => (xs.length : Int)) :=
  ⟨_, d_lenR rfl, fun F H v x s ⟨_, p, vs, e, h, q⟩ _ Q k => ⟨p, vs, by rw [e], h, k _ F H (.refl s) (by show V.int _ = V.int _; rw [q.length])⟩⟩
theorem xm_len (C : Ctx X P w K mg base N sc k dd) (hf : Free mg) {B : Rq α} {op : α → Int} (h : C1Q X (.builtin "len") B rI alw op) {m : R0 α} (ha : XM X Γ a B m) (hg : gloB sc "len" = true := by decide +kernel) (he : starEach [a] X.env = (false, eval a X.env) :: starEach [] X.env := by rfl) (hpl : (backTo pos (starEach [] X.env)).any (·.1) = false := by rfl) :
    XM X Γ (.Call (.Name "len" p) [a] [] pos) (fz rI) (m.bind fun x => .ok (op x)) :=
  xm_eq (xm_b1 C hf h ha boot_len hg (by decide +kernel) (by decide +kernel) (by decide +kernel) he hpl) (by cases m <;> first | rfl | exact gd_true trivial)

/-! ### the script -/
def SqV (K : PySem.W.Frag) (F : Hp) (a : Addr) (xs : List V) : Prop := (F a = some (.lst xs) ∨ ∃ o, F a = some (.frz o (.lst xs))) ∨ SqL K (fun _ => none) a xs
theorem SqV.sq {F H : Hp} {a : Addr} {xs : List V} (s : Same F (Vw H)) (h : SqV K F a xs) : SqL K H a xs := by
  rcases h with (h | ⟨o, h⟩) | (h | h)
  · exact .inl (rd_of (s _ _ h))
  · rcases rd_of (s _ _ h) with q | ⟨o', q⟩
    · exact .inl (.inr ⟨o, q⟩)
    · exact absurd (s _ _ h) (by unfold Vw; rw [q]; intro z; cases z)
  · rcases h with h | ⟨o, h⟩ <;> cases h
  · exact .inr h
def rSc (K : PySem.W.Frag) : Rp (List Int) := ⟨fun F v ns => ∃ a, v = .ref a ∧ SqV K F a (ns.map V.int), fun s ⟨a, e, h⟩ => ⟨a, e, h.imp (fun z => z.imp (fun z => s _ _ z) (fun ⟨o, z⟩ => ⟨o, s _ _ z⟩)) (fun z => z)⟩⟩
theorem prd_map {f : α → V} {R : Rp α} {F : Hp} (h : ∀ x, R.ok F (f x) x) : ∀ xs : List α, Paired (R.ok F) (xs.map f) xs
  | [] => .nil
  | x :: xs => .cons (h x) (prd_map h xs)
theorem len_script (C : Ctx X P w K mg base N sc k dd) : C1Q X (.builtin "len") (fz (rSc K)) rI alw (fun xs => (xs.length : Int)) :=
  ⟨_, call_len, fun F H v x s ⟨p, e, h⟩ _ Q k => ⟨v, x.length, rfl, by rw [e, C.K]; exact .inl ⟨_, h.sq s, by simp⟩, k _ F H (.refl s) rfl⟩⟩
theorem i_script (C : Ctx X P w K mg base N sc k dd) : IxQ X (fz (rSc K)) (fz rI) rI inR ix :=
  ⟨_, ix_list, fun F H v u x y s ⟨p, e, h⟩ r2 hi Q k => by
    obtain ⟨w', e1, g⟩ := at_pair (prd_map (f := V.int) (R := rI) (F := F) (fun _ => rfl) x) hi
    exact ⟨p, _, y, w', e, r2, by rw [C.K]; exact h.sq s, e1, k _ F H (.refl s) g⟩⟩

/-! ### truth -/
theorem xmt_truL {m : R0 (List α)} (h : XM X Γ a (bL R) m) (he : ∀ whole, isTrue a X.env whole = (do let v ← whole; standAt a.pos; holding [v] (truthy v)) := by intro _; rfl) : XMT X Γ a (m.bind fun xs => .ok (!xs.isEmpty)) := fun σ F H D g e Q W tk q =>
  (pt_truth (pe_ a) he).wp (h σ F H D g e _ W tk (by
    cases m with
    | bad => exact q
    | ex ε u => exact q
    | ok xs =>
      intro v F1 H1 g1 ⟨_, p, vs, e, hp, pr⟩
      refine ⟨!xs.isEmpty, ?_, q F1 H1 g1⟩
      rw [e]
      refine .inl ⟨vs, .inl hp, ?_⟩
      cases pr <;> rfl))

/-! ### lists -/
theorem lstR {pins : List (Addr × Obj)} {σ : St} {H : Hp} {s : Shared} {l : Addr} {xs : List V} (I : Inv X pins σ H s) (h : Rd H l (.lst xs)) : xs.length ≤ sizeLine ∧ ∃ (its : List Value) (n : Nat), Vals xs its ∧ xs.length = its.length ∧ s.heap.get? l = some { cls := .type "list", data := .seq its.toArray n } := by
  obtain ⟨z, its, n, r, e⟩ := h.ok I.hok
  exact ⟨z, its, n, r, r.length, e⟩
theorem op_catR : OpR X (binaryOp .Add) (fun x y H Q => ∃ l b xs zs, x = .ref l ∧ y = .ref b ∧ Rd H l (.lst xs) ∧ Rd H b (.lst zs) ∧ xs.length + zs.length ≤ sizeLine ∧ ∀ p, H p = none → Q (.ref p) (upd H p (.lst (xs ++ zs)))) := by
  intro pins s σ H x y v u Q I rx ry h
  obtain ⟨l, b, xs, zs, rfl, rfl, hH, hB, hz, q⟩ := h
  cases rx
  cases ry
  obtain ⟨z, its, n, r, hl, e⟩ := lstR I hH
  obtain ⟨z2, its2, n2, r2, hl2, e2⟩ := lstR I hB
  refine PySem.P.add_list e e2 ?_ (by rw [List.size_toArray, List.size_toArray]; omega)
  have ea : its.toArray ++ its2.toArray = (its ++ its2).toArray := by simp
  rw [ea]
  exact ⟨.ref _, _, I.lnew (t' := s.toks) (r.append r2) (by rw [List.length_append]; omega), rfl, q _ I.fresh⟩
def CCat (a b : List α) : Prop := a.length + b.length ≤ 100000
instance {a b : List α} : Decidable (CCat a b) := inferInstanceAs (Decidable (_ ≤ _))
theorem o_cat : OpQ X (binaryOp .Add) (bL R) (bL R) (rL R) CCat (fun a b => a ++ b) :=
  ⟨_, op_catR, fun F H v u x y s ⟨_, p, vs, e, h, q⟩ ⟨_, p2, vs2, e2, h2, q2⟩ hl Q k => ⟨p, p2, vs, vs2, e, e2, h, h2, by
    rw [q.length, q2.length]; exact Nat.le_trans hl (by decide), fun p3 np => by
      have gl := Grow.laid (K := X.K) (o := HO.lst (vs ++ vs2)) s np (fun _ _ z => by cases z)
      exact k _ _ _ gl ⟨by rw [List.length_append]; exact Nat.le_trans hl (by decide), p3, _, rfl, upd_same, prd_app (prd_mono gl.ff q) (prd_mono gl.ff q2)⟩⟩⟩
/-- the same as a new list of one's own -/
theorem xmo_cat {m1 m2 : R0 (List α)} (ha : XM X Γ a (bL R) m1) (hb : XM X Γ b (bL R) m2) : XMO X Γ (.BinOp a .Add b pos) (oL R) (m1.bind fun x => m2.bind fun y => gd (CCat x y) (.ok (x ++ y))) := by
  intro σ F H D g en Q W tk q
  refine (pe_op op_catR (pe_ a) (pe_ b)).wp ?_
  refine ha σ F H D g en _ W tk ?_
  cases m1 with
  | bad => exact q
  | ex ε u => exact q
  | ok x =>
    intro v F1 H1 g1 r1
    refine hb σ F1 H1 D (g.grow g1) (en.grow g g1) _ W tk ?_
    cases m2 with
    | bad => exact q
    | ex ε u => exact fun c d F' H' g' => q c d F' H' (g1.trans g')
    | ok y =>
      intro u F2 H2 g2 r2
      have r1 := (bL R).grow g2 r1
      replace q : PMO X (oL R) (gd (CCat x y) (.ok (x ++ y)) : R0 (List α)) Q W σ F H := q
      by_cases hk : CCat x y
      · rw [gd_true hk] at q
        obtain ⟨_, p, vs, e, h, pr⟩ := r1
        obtain ⟨_, p2, vs2, e2, h2, pr2⟩ := r2
        refine ⟨p, p2, vs, vs2, e, e2, h, h2, by rw [pr.length, pr2.length]; exact Nat.le_trans hk (by decide), fun p3 np => ?_⟩
        have g12 := g1.trans g2
        exact q _ F2 _ [p3] ((Step.of (Good.nil g.fh g.tb) g12).trans (xo_fresh g12.fh np)) ⟨by rw [List.length_append]; exact Nat.le_trans hk (by decide), p3, _, rfl, rfl, upd_same, prd_app pr pr2⟩
      · rw [gd_bad hk] at q; exact q.elim
def CStr (a b : Str) : Prop := a.length + b.length ≤ 100000
instance {a b : Str} : Decidable (CStr a b) := inferInstanceAs (Decidable (_ ≤ _))
theorem o_addS : OpQ X (binaryOp .Add) (fz rS) (fz rS) rS CStr (fun a b => a ++ b) :=
  ⟨_, op_add_str, fun F H v u x y s r1 r2 hl Q k => ⟨x, y, r1.1, r2.1, Nat.le_trans hl (by decide), k _ F H (.refl s) ⟨rfl, by
    have e1 := niceS_ok r1.2
    have e2 := niceS_ok r2.2
    unfold PyData.strOk at e1 e2
    unfold niceS PyData.strOk
    have : (x ++ y).cps = x.cps ++ y.cps := rfl
    have hl' : (x ++ y).length ≤ 100000 := by
      show (x ++ y).cps.size ≤ _
      rw [this, Array.size_append]; exact hl
    rw [this, Array.all_append, e1, e2, decide_eq_true hl']; rfl⟩⟩⟩
/-- a part of a list -/
def cut (xs : List α) (lo hi : Option Int) : List α := (xs.drop (HT.sIx xs.length 0 lo)).take (HT.sIx xs.length xs.length hi - HT.sIx xs.length 0 lo)
theorem cut_len (xs : List α) (lo hi : Option Int) : (cut xs lo hi).length ≤ xs.length := by
  unfold cut
  rw [List.length_take, List.length_drop]
  omega
theorem prd_drop {β : Type} {G : α → β → Prop} : ∀ {vs : List α} {xs : List β} (n : Nat), Paired G vs xs → Paired G (vs.drop n) (xs.drop n)
  | _, _, 0, h => h
  | _, _, _ + 1, .nil => .nil
  | _, _, n + 1, .cons _ t => prd_drop n t
theorem prd_take {β : Type} {G : α → β → Prop} : ∀ {vs : List α} {xs : List β} (n : Nat), Paired G vs xs → Paired G (vs.take n) (xs.take n)
  | _, _, 0, h => by simpa using Paired.nil
  | _, _, _ + 1, .nil => .nil
  | _, _, n + 1, .cons r t => .cons r (prd_take n t)
theorem prd_cut {β : Type} {G : α → β → Prop} {vs : List α} {xs : List β} (h : Paired G vs xs) (lo hi : Option Int) : Paired G (cut vs lo hi) (cut xs lo hi) := by
  unfold cut
  rw [h.length]
  exact prd_take _ (prd_drop _ h)
structure WpP (X : Cx) (e : Option Expr) (σ : St) (H : Hp) (Q : Option Int → Hp → Prop) : Prop where
  go : ∀ pins s, Inv X pins σ H s → wpAny (model X.prog X.w) X.A (evalPart e X.env) (fun u s' => ∃ o H', Inv X pins σ H' s' ∧ IsPart u o ∧ Q o H') X.xe s
def wpP (X : Cx) (e : Option Expr) : TO := WpP X e
theorem po_ (e : Option Expr) : PO X e (wpP X e) := ⟨fun pins s _ _ _ I h => h.go pins s I⟩

def PMP (X : Cx) (m : R0 (Option Int)) (Q : Option Int → Hp → Prop) (W : WX) (σ : St) (F H : Hp) : Prop := match m with
  | .ok o => ∀ F' H', Grow X.K F H F' H' → Q o H'
  | .ex ε _ => ∀ c d F' H', Grow X.K F H F' H' → ExV X.mg ε c d F' → W c d σ H'
  | .bad => False
def XMP (X : Cx) (Γ : Gm) (e : Option Expr) (m : R0 (Option Int)) : Prop :=
  ∀ σ F H D, Good X.K F H D → Env F H D Γ σ → ∀ (Q : Option Int → Hp → Prop) (W : WX), Takes X W → PMP X m Q W σ F H → wpP X e σ H Q
theorem xmp_none : XMP X Γ none (.ok none) := fun σ F H D g e Q W tk q => ⟨fun pins s I => po_none.run pins s σ H Q I (q F H (.refl g.fh))⟩
theorem xmp_some {m : R0 Int} (h : XM X Γ a (fz rI) m) : XMP X Γ (some a) (m.bind fun i => .ok (some i)) := fun σ F H D g e Q W tk q => ⟨fun pins s I => (po_some (pe_ a)).run pins s σ H Q I (h σ F H D g e _ W tk (by
  cases m with
  | bad => exact q
  | ex ε u => exact q
  | ok i => exact fun v F' H' g' r => ⟨i, r, q F' H' g'⟩))⟩
variable {lo hi : Option Expr} {ml mu : R0 (Option Int)}
theorem three {m1 : R0 α} {B : Rq α} (h : XM X Γ a B m1) (hl : XMP X Γ lo ml) (hu : XMP X Γ hi mu) {σ : St} {F H : Hp} {D : List Addr} (g : Good X.K F H D) (en : Env F H D Γ σ) {W : WX} (tk : Takes X W) {Q : V → Option Int → Option Int → Hp → Prop} {Ex : Prop} {f : α → Option Int → Option Int → R0 γ}
    (he : Ex) (hx : ∀ ε u, (m1.bind fun x => ml.bind fun l => mu.bind fun r => f x l r) = .ex ε u → Ex → ∀ c d F' H', Grow X.K F H F' H' → ExV X.mg ε c d F' → W c d σ H') (hb : (m1.bind fun x => ml.bind fun l => mu.bind fun r => f x l r) ≠ .bad)
    (k : ∀ x l r, m1 = .ok x → ml = .ok l → mu = .ok r → ∀ v F' H', Grow X.K F H F' H' → B.ok F' H' v x → Q v l r H') :
    wpE X a σ H fun v H1 => wpP X lo σ H1 fun l H2 => wpP X hi σ H2 fun r H3 => Q v l r H3 := by
  refine h σ F H D g en _ W tk ?_
  cases m1 with
  | bad => exact (hb rfl).elim
  | ex ε u => exact hx ε u rfl he
  | ok x =>
    intro v F1 H1 g1 r1
    refine hl σ F1 H1 D (g.grow g1) (en.grow g g1) _ W tk ?_
    cases ml with
    | bad => exact (hb rfl).elim
    | ex ε u => exact fun c d F' H' g' => hx ε u rfl he c d F' H' (g1.trans g')
    | ok l =>
      intro F2 H2 g2
      have g12 := g1.trans g2
      refine hu σ F2 H2 D (g.grow g12) (en.grow g g12) _ W tk ?_
      cases mu with
      | bad => exact (hb rfl).elim
      | ex ε u => exact fun c d F' H' g' => hx ε u rfl he c d F' H' (g12.trans g')
      | ok r => exact fun F3 H3 g3 => k x l r rfl rfl rfl v F3 H3 (g12.trans g3) (B.grow (g2.trans g3) r1)
theorem xmo_slice {m : R0 (List α)} (h : XM X Γ a (bL R) m) (hl : XMP X Γ lo ml) (hu : XMP X Γ hi mu) : XMO X Γ (.Subscript a (.Slice lo hi none p2) pos) (oL R) (m.bind fun xs => ml.bind fun l => mu.bind fun u => .ok (cut xs l u)) := by
  intro σ F H D g e Q W tk q
  refine (pe_slice sl_list (pe_ a) (po_ lo) (po_ hi)).wp (three (γ := List α) (f := fun xs l u => .ok (cut xs l u)) h hl hu g e tk q (fun ε u e q => ?_) (fun e => ?_) fun x l r e1 e2 e3 v F' H' g' ⟨z, p, vs, ev, hp, pr⟩ => ⟨p, vs, ev, .inl hp, fun q1 nq => ?_⟩)
  · rw [e] at q; exact q
  · rw [e] at q; exact q
  · subst e1 e2 e3
    have st := (Step.of (Good.nil g.fh g.tb) g').trans (xo_fresh (o := .lst (cutV vs l r)) g'.fh nq)
    exact q _ F' _ [q1] st ⟨Nat.le_trans (cut_len _ _ _) z, q1, _, rfl, rfl, upd_same, prd_cut pr l r⟩
/-- xs[::-1] -/
theorem xmo_rev {m : R0 (List α)} {j : Nat} {p1 p3 p4 : Pos} (h : XM X Γ a (bL R) m) : XMO X Γ (.Subscript a (.Slice none none (some (.UnaryOp .USub (.Constant (.int 1) j p1) p3)) p4) pos) (oL R) (m.bind fun xs => .ok xs.reverse) := by
  intro σ F H D g e Q W tk q
  refine (pe_revL (pe_ a)).wp (h σ F H D g e _ W tk ?_)
  cases m with
  | bad => exact q
  | ex ε u => exact q
  | ok xs =>
    intro v F1 H1 g1 ⟨z, p, vs, ev, hp, pr⟩
    refine ⟨p, vs, ev, .inl hp, fun q1 nq => ?_⟩
    have st := (Step.of (Good.nil g.fh g.tb) g1).trans (xo_fresh (o := .lst vs.reverse) g1.fh nq)
    refine q _ F1 _ [q1] st ⟨by rw [List.length_reverse]; exact z, q1, _, rfl, rfl, upd_same, ?_⟩
    have : ∀ {vs : List V} {xs : List α}, Paired (R.ok F1) vs xs → Paired (R.ok F1) vs.reverse xs.reverse := by
      intro vs xs h
      induction h with
      | nil => exact .nil
      | cons r _ ih => rw [List.reverse_cons, List.reverse_cons]; exact prd_app ih (.cons r .nil)
    exact this pr
/-- a slice of a tuple of one kind -/
theorem xm_vslice {m : R0 (List α)} (h : XM X Γ a (fz (rV R)) m) (hl : XMP X Γ lo ml) (hu : XMP X Γ hi mu) : XM X Γ (.Subscript a (.Slice lo hi none p2) pos) (fz (rV R)) (m.bind fun xs => ml.bind fun l => mu.bind fun u => .ok (cut xs l u)) := by
  intro σ F H D g e Q W tk q
  refine (pe_slice sl_tupA (pe_ a) (po_ lo) (po_ hi)).wp (three (γ := List α) (f := fun xs l u => .ok (cut xs l u)) h hl hu g e tk q (fun ε u e q => ?_) (fun e => ?_) fun x l r e1 e2 e3 v F' H' g' ⟨z, p, vs, ev, hp, pr⟩ => ⟨p, vs, ev, .inl (rd_of (g'.fh _ _ hp)), fun hw => ?_, fun _ q1 nq => ?_⟩)
  · rw [e] at q; exact q
  · rw [e] at q; exact q
  · subst e1 e2 e3
    refine q _ F' H' g' ⟨Nat.le_trans (cut_len _ _ _) z, p, vs, rfl, hp, ?_⟩
    have : cut x l r = x := by
      unfold cut
      rw [← pr.length, hw.1, hw.2, List.drop_zero, pr.length, Nat.sub_zero, List.take_length]
    rw [this]; exact pr
  · subst e1 e2 e3
    have gl := Grow.laid (K := X.K) (o := HO.tup (cutV vs l r)) g'.fh nq (fun _ _ z => by cases z)
    exact q _ _ _ (g'.trans gl) ⟨Nat.le_trans (cut_len _ _ _) z, q1, _, rfl, upd_same, prd_mono gl.ff (prd_cut pr l r)⟩
/-! ### parts and sums of written tuples -/
/-- the first n values | the rest behind n -/
class RwTake {α : Type} {δ : outParam Type} (T : Rw α) (n : Nat) (T' : outParam (Rw δ)) (f : outParam (α → δ)) : Prop where
  ok : ∀ {F : Hp} {vs : List V} {x : α}, T.ok F vs x → n < vs.length ∧ T'.ok F (vs.take n) (f x)
/-- how many values -/
class RwLen (T : Rw α) (n : outParam Nat) : Prop where
  ok : ∀ {F : Hp} {vs : List V} {x : α}, T.ok F vs x → vs.length = n
instance rwl_1 : RwLen (w1 R) 1 := ⟨fun ⟨v, e, _⟩ => by rw [e]; rfl⟩
instance rwl_c {T : Rw δ} {n : Nat} [t : RwLen T n] : RwLen (wc R T) (n + 1) := ⟨fun ⟨v, r, e, _, q⟩ => by rw [e, List.length_cons, t.ok q]⟩
instance rwt_1 {T : Rw δ} {n : Nat} [t : RwLen T (n + 1)] : RwTake (wc R T) 1 (w1 R) (fun x => x.1) := ⟨fun {F vs x} ⟨v, r, e, h, q⟩ => by
  subst e
  exact ⟨by rw [List.length_cons, t.ok q]; omega, v, rfl, h⟩⟩
instance rwt_1w {R' : Rp δ} : RwTake (wc R (w1 R')) 1 (w1 R) (fun x => x.1) := ⟨fun {F vs x} ⟨v, r, e, h, u, e2, q⟩ => by
  subst e e2
  exact ⟨by simp, v, rfl, h⟩⟩
instance rwt_S0 {T : Rw δ} {T' : Rw γ} {f : δ → γ} [t : RwTake T 1 T' f] : RwTake (wc R T) 2 (wc R T') (fun x => (x.1, f x.2)) := ⟨fun {F vs x} ⟨v, r, e, h, q⟩ => by
  subst e
  obtain ⟨l, o⟩ := t.ok q
  exact ⟨by rw [List.length_cons]; omega, v, r.take 1, rfl, h, o⟩⟩
instance rwt_S1 {T : Rw δ} {T' : Rw γ} {f : δ → γ} [t : RwTake T 2 T' f] : RwTake (wc R T) 3 (wc R T') (fun x => (x.1, f x.2)) := ⟨fun {F vs x} ⟨v, r, e, h, q⟩ => by
  subst e
  obtain ⟨l, o⟩ := t.ok q
  exact ⟨by rw [List.length_cons]; omega, v, r.take 2, rfl, h, o⟩⟩
instance rwt_S2 {T : Rw δ} {T' : Rw γ} {f : δ → γ} [t : RwTake T 3 T' f] : RwTake (wc R T) 4 (wc R T') (fun x => (x.1, f x.2)) := ⟨fun {F vs x} ⟨v, r, e, h, q⟩ => by
  subst e
  obtain ⟨l, o⟩ := t.ok q
  exact ⟨by rw [List.length_cons]; omega, v, r.take 3, rfl, h, o⟩⟩
instance rwt_S3 {T : Rw δ} {T' : Rw γ} {f : δ → γ} [t : RwTake T 4 T' f] : RwTake (wc R T) 5 (wc R T') (fun x => (x.1, f x.2)) := ⟨fun {F vs x} ⟨v, r, e, h, q⟩ => by
  subst e
  obtain ⟨l, o⟩ := t.ok q
  exact ⟨by rw [List.length_cons]; omega, v, r.take 4, rfl, h, o⟩⟩
instance rwt_S4 {T : Rw δ} {T' : Rw γ} {f : δ → γ} [t : RwTake T 5 T' f] : RwTake (wc R T) 6 (wc R T') (fun x => (x.1, f x.2)) := ⟨fun {F vs x} ⟨v, r, e, h, q⟩ => by
  subst e
  obtain ⟨l, o⟩ := t.ok q
  exact ⟨by rw [List.length_cons]; omega, v, r.take 5, rfl, h, o⟩⟩
class RwDrop {α : Type} {δ : outParam Type} (T : Rw α) (n : Nat) (T' : outParam (Rw δ)) (f : outParam (α → δ)) : Prop where
  ok : ∀ {F : Hp} {vs : List V} {x : α}, T.ok F vs x → 0 < n ∧ n ≤ vs.length ∧ T'.ok F (vs.drop n) (f x)
instance rwd_1 {T : Rw δ} : RwDrop (wc R T) 1 T (fun x => x.2) := ⟨fun {F vs x} ⟨v, r, e, h, q⟩ => by
  subst e
  exact ⟨by omega, by rw [List.length_cons]; omega, q⟩⟩
instance rwd_S0 {T : Rw δ} {T' : Rw γ} {f : δ → γ} [t : RwDrop T 1 T' f] : RwDrop (wc R T) 2 T' (fun x => f x.2) := ⟨fun {F vs x} ⟨v, r, e, h, q⟩ => by
  subst e
  obtain ⟨_, l, o⟩ := t.ok q
  exact ⟨by omega, by rw [List.length_cons]; omega, o⟩⟩
instance rwd_S1 {T : Rw δ} {T' : Rw γ} {f : δ → γ} [t : RwDrop T 2 T' f] : RwDrop (wc R T) 3 T' (fun x => f x.2) := ⟨fun {F vs x} ⟨v, r, e, h, q⟩ => by
  subst e
  obtain ⟨_, l, o⟩ := t.ok q
  exact ⟨by omega, by rw [List.length_cons]; omega, o⟩⟩
instance rwd_S2 {T : Rw δ} {T' : Rw γ} {f : δ → γ} [t : RwDrop T 3 T' f] : RwDrop (wc R T) 4 T' (fun x => f x.2) := ⟨fun {F vs x} ⟨v, r, e, h, q⟩ => by
  subst e
  obtain ⟨_, l, o⟩ := t.ok q
  exact ⟨by omega, by rw [List.length_cons]; omega, o⟩⟩
instance rwd_S3 {T : Rw δ} {T' : Rw γ} {f : δ → γ} [t : RwDrop T 4 T' f] : RwDrop (wc R T) 5 T' (fun x => f x.2) := ⟨fun {F vs x} ⟨v, r, e, h, q⟩ => by
  subst e
  obtain ⟨_, l, o⟩ := t.ok q
  exact ⟨by omega, by rw [List.length_cons]; omega, o⟩⟩
instance rwd_S4 {T : Rw δ} {T' : Rw γ} {f : δ → γ} [t : RwDrop T 5 T' f] : RwDrop (wc R T) 6 T' (fun x => f x.2) := ⟨fun {F vs x} ⟨v, r, e, h, q⟩ => by
  subst e
  obtain ⟨_, l, o⟩ := t.ok q
  exact ⟨by omega, by rw [List.length_cons]; omega, o⟩⟩
class RwApp {α δ : Type} {γ : outParam Type} (T : Rw α) (T' : Rw δ) (T2 : outParam (Rw γ)) (f : outParam (α → δ → γ)) : Prop where
  ok : ∀ {F : Hp} {vs us : List V} {x : α} {y : δ}, T.ok F vs x → T'.ok F us y → T2.ok F (vs ++ us) (f x y) ∧ vs ≠ []
instance rwa_1 {T : Rw δ} : RwApp (w1 R) T (wc R T) (fun x y => (x, y)) := ⟨fun {F vs us x y} ⟨v, e, h⟩ q => by
  subst e
  exact ⟨⟨v, us, rfl, h, q⟩, by simp⟩⟩
instance rwa_c {T : Rw δ} {T' : Rw γ} {T2 : Rw δ} {f : δ → γ → δ} [t : RwApp T T' T2 f] : RwApp (wc R T) T' (wc R T2) (fun x y => (x.1, f x.2 y)) := ⟨fun {F vs us x y} ⟨v, r, e, h, q⟩ q' => by
  subst e
  exact ⟨⟨v, r ++ us, rfl, h, (t.ok q q').1⟩, by simp⟩⟩
theorem sIx_some (n d j : Nat) : HT.sIx n d (some (j : Int)) = min j n := HT.sIx_nat n d j
theorem xm_take {T : Rw α} {T' : Rw δ} {f : α → δ} {m : R0 α} (n : Nat) [t : RwTake T n T' f] {j pos'} (ha : XM X Γ a (fz (rT T)) m) : XM X Γ (.Subscript a (.Slice none (some (.Constant (.int (n : Int)) j pos')) none p2) pos) (fz (rT T')) (m.bind fun x => .ok (f x)) := by
  intro σ F H D g e Q W tk q
  refine (pe_slice sl_tupA (pe_ a) po_none (po_some pe_int)).wp (ha σ F H D g e _ W tk ?_)
  cases m with
  | bad => exact q
  | ex ε u => exact q
  | ok x =>
    intro v F1 H1 g1 ⟨p, vs, ev, hp, r⟩
    obtain ⟨l, o⟩ := t.ok r
    refine ⟨(n : Int), rfl, p, vs, ev, .inl (rd_of (g1.fh _ _ hp)), fun hw => ?_, fun _ q1 nq => ?_⟩
    · have := hw.2
      rw [sIx_some] at this
      omega
    · have gl := Grow.laid (K := X.K) (o := HO.tup (cutV vs none (some (n : Int)))) g1.fh nq (fun _ _ z => by cases z)
      refine q _ _ _ (g1.trans gl) ⟨q1, _, rfl, upd_same, T'.mono gl.ff ?_⟩
      have : cutV vs none (some (n : Int)) = vs.take n := by
        unfold cutV
        rw [sIx_some, HT.sIx_none, Nat.min_eq_left (Nat.le_of_lt l)]; rfl
      rw [this]; exact o
theorem xm_drop {T : Rw α} {T' : Rw δ} {f : α → δ} {m : R0 α} (n : Nat) [t : RwDrop T n T' f] {j pos'} (ha : XM X Γ a (fz (rT T)) m) : XM X Γ (.Subscript a (.Slice (some (.Constant (.int (n : Int)) j pos')) none none p2) pos) (fz (rT T')) (m.bind fun x => .ok (f x)) := by
  intro σ F H D g e Q W tk q
  refine (pe_slice sl_tupA (pe_ a) (po_some pe_int) po_none).wp (ha σ F H D g e _ W tk ?_)
  cases m with
  | bad => exact q
  | ex ε u => exact q
  | ok x =>
    intro v F1 H1 g1 ⟨p, vs, ev, hp, r⟩
    obtain ⟨l0, l, o⟩ := t.ok r
    refine ⟨(n : Int), rfl, p, vs, ev, .inl (rd_of (g1.fh _ _ hp)), fun hw => ?_, fun _ q1 nq => ?_⟩
    · have := hw.1
      rw [sIx_some] at this
      omega
    · have gl := Grow.laid (K := X.K) (o := HO.tup (cutV vs (some (n : Int)) none)) g1.fh nq (fun _ _ z => by cases z)
      refine q _ _ _ (g1.trans gl) ⟨q1, _, rfl, upd_same, T'.mono gl.ff ?_⟩
      have : cutV vs (some (n : Int)) none = vs.drop n := by
        unfold cutV
        rw [sIx_some, HT.sIx_none, Nat.min_eq_left l]
        exact List.take_of_length_le (by rw [List.length_drop]; omega)
      rw [this]; exact o
theorem o_catT {T : Rw α} {T' : Rw δ} {T2 : Rw γ} {f : α → δ → γ} [t : RwApp T T' T2 f] {n m : Nat} [l1 : RwLen T n] [l2 : RwLen T' m] (hs : n + m ≤ 1000 := by decide) : OpQ X (binaryOp .Add) (fz (rT T)) (fz (rT T')) (rT T2) always f :=
  ⟨_, op_catA, fun F H v u x y s ⟨p, vs, e, h, q⟩ ⟨p2, vs2, e2, h2, q2⟩ _ Q k => by
    obtain ⟨o, ne⟩ := t.ok q q2
    refine ⟨p, p2, vs, vs2, e, e2, .inl (rd_of (s _ _ h)), .inl (rd_of (s _ _ h2)), by rw [l1.ok q, l2.ok q2]; exact Nat.le_trans hs (by decide), fun z => absurd z ne, fun _ z => ?_, fun _ _ p3 np => ?_⟩
    · subst z
      refine k _ F H (.refl s) ⟨p, vs, rfl, h, ?_⟩
      simpa using o
    · have gl := Grow.laid (K := X.K) (o := HO.tup (vs ++ vs2)) s np (fun _ _ z => by cases z)
      exact k _ _ _ gl ⟨p3, _, rfl, upd_same, T2.mono gl.ff o⟩⟩
theorem o_catV : OpQ X (binaryOp .Add) (fz (rV R)) (fz (rV R)) (rV R) CCat (fun a b => a ++ b) :=
  ⟨_, op_catA, fun F H v u x y s ⟨z1, p, vs, e, h, q⟩ ⟨z2, p2, vs2, e2, h2, q2⟩ hl Q k => by
    refine ⟨p, p2, vs, vs2, e, e2, .inl (rd_of (s _ _ h)), .inl (rd_of (s _ _ h2)), by rw [q.length, q2.length]; exact Nat.le_trans hl (by decide), fun z => ?_, fun _ z => ?_, fun _ _ p3 np => ?_⟩
    · subst z
      cases q
      exact k _ F H (.refl s) ⟨z2, p2, vs2, rfl, h2, q2⟩
    · subst z
      cases q2
      exact k _ F H (.refl s) ⟨by rw [List.append_nil]; exact z1, p, vs, rfl, h, by rw [List.append_nil]; exact q⟩
    · have gl := Grow.laid (K := X.K) (o := HO.tup (vs ++ vs2)) s np (fun _ _ z => by cases z)
      exact k _ _ _ gl ⟨by rw [List.length_append]; exact Nat.le_trans hl (by decide), p3, _, rfl, upd_same, prd_app (prd_mono gl.ff q) (prd_mono gl.ff q2)⟩⟩

/-! ### numbers -/
def absI (i : Int) : Int := if i < 0 then -i else i
theorem c_abs : C1Q X (.builtin "abs") (fz rI) rI alw absI :=
  ⟨_, call_abs, fun F H v x s r _ Q q => ⟨x, by rw [r], q _ F H (.refl s) rfl⟩⟩
def b2n (b : Bool) : Int := if b then 1 else 0
theorem c_intB : C1Q X (.type "int") (fz rB) rI alw b2n :=
  ⟨_, call_int1, fun F H v x s r _ Q q => .inr ⟨x, by rw [r], q _ F H (.refl s) rfl⟩⟩
def maxI (i j : Int) : Int := if j > i then j else i
def minI (i j : Int) : Int := if j < i then j else i
theorem c_max2 (C : Ctx X P w K mg base N sc k dd) : C2Q X (.builtin "max") (fz rI) (fz rI) rI always maxI :=
  ⟨_, call_max2 C.calm, fun F H v u x y s r1 r2 _ Q q => ⟨x, y, by rw [r1, r2], q _ F H (.refl s) rfl⟩⟩
theorem c_min2 (C : Ctx X P w K mg base N sc k dd) : C2Q X (.builtin "min") (fz rI) (fz rI) rI always minI :=
  ⟨_, call_min2 C.calm, fun F H v u x y s r1 r2 _ Q q => ⟨x, y, by rw [r1, r2], q _ F H (.refl s) rfl⟩⟩

/-! ### new lists -/
theorem n_list : N1Q X (.type "list") (bL R) (oL R) alw (fun xs => xs) :=
  ⟨_, call_list_of, fun F H v x s ⟨z, p, vs, e, hp, pr⟩ _ Q q => ⟨p, vs, by rw [e], .inl (.inl hp), fun l nl => q _ F _ [l] (xo_fresh s nl) ⟨z, l, vs, rfl, rfl, upd_same, pr⟩⟩⟩
theorem n_listV : N1Q X (.type "list") (fz (rV R)) (oL R) alw (fun xs => xs) :=
  ⟨_, call_list_of, fun F H v x s ⟨z, p, vs, e, hp, pr⟩ _ Q q => ⟨p, vs, by rw [e], .inr (.inl (rd_of (s _ _ hp))), fun l nl => q _ F _ [l] (xo_fresh s nl) ⟨z, l, vs, rfl, rfl, upd_same, pr⟩⟩⟩
theorem c_tupleL : C1Q X (.type "tuple") (bL R) (rV R) alw (fun xs => xs) :=
  ⟨_, call_tuple_of, fun F H v x s ⟨z, p, vs, e, hp, pr⟩ _ Q q => ⟨p, vs, by rw [e], .inl ⟨.inl hp, fun l nl => by
    have gl := Grow.laid (K := X.K) (o := HO.tup vs) s nl (fun _ _ z => by cases z)
    exact q _ _ _ gl ⟨z, l, vs, rfl, upd_same, prd_mono gl.ff pr⟩⟩⟩⟩
theorem c_tupleV : C1Q X (.type "tuple") (fz (rV R)) (rV R) alw (fun xs => xs) :=
  ⟨_, call_tuple_of, fun F H v x s ⟨z, p, vs, e, hp, pr⟩ _ Q q => ⟨p, vs, by rw [e], .inr ⟨.inl (rd_of (s _ _ hp)), q _ F H (.refl s) ⟨z, p, vs, rfl, hp, pr⟩⟩⟩⟩
theorem boot_tuple : bootBuiltins "tuple" = some (.type "tuple") := by decide +kernel
theorem boot_list : bootBuiltins "list" = some (.type "list") := by decide +kernel
theorem boot_dict : bootBuiltins "dict" = some (.type "dict") := by decide +kernel
theorem boot_abs : bootBuiltins "abs" = some (.builtin "abs") := by decide +kernel
theorem boot_sorted : bootBuiltins "sorted" = some (.builtin "sorted") := by decide +kernel
theorem boot_isinstance : bootBuiltins "isinstance" = some (.builtin "isinstance") := by decide +kernel
theorem boot_bool : bootBuiltins "bool" = some (.type "bool") := by decide +kernel
theorem boot_int : bootBuiltins "int" = some (.type "int") := by decide +kernel
theorem boot_str : bootBuiltins "str" = some (.type "str") := by decide +kernel
theorem boot_max : bootBuiltins "max" = some (.builtin "max") := by decide +kernel
theorem boot_min : bootBuiltins "min" = some (.builtin "min") := by decide +kernel
theorem boot_len' : bootBuiltins "len" = some (.builtin "len") := by decide +kernel

/-! ### what is one's own at one address is written -/
theorem set_same {σ : St} {i : Nat} {o : Option V} (h : σ[i]? = some o) : σ.set i o = σ := by
  apply List.ext_getElem?
  intro j
  by_cases hj : i = j
  · subst hj
    rw [List.getElem?_set_self (List.getElem?_eq_some_iff.mp h).1, h]
  · rw [List.getElem?_set_ne hj]
def At1 (A : Rs α) : Prop := ∀ {F H : Hp} {D : List Addr} {v : V} {x : α}, A.ok F H D v x → ∃ p, v = .ref p ∧ D = [p] ∧ ∃ o, H p = some o ∧ noTb o ∧ ∀ f, o ≠ .ext f
theorem at1L : At1 (oL R) := fun ⟨_, p, vs, e, d, hp, _⟩ => ⟨p, e, d, _, hp, (by intro _ z; cases z), (by intro _ z; cases z)⟩
theorem at1K {A : KF κ} : At1 (oK A R) := fun ⟨_, p, vs, e, d, hp, _⟩ => ⟨p, e, d, _, hp, (by intro _ z; cases z), (by intro _ z; cases z)⟩
theorem at1KT {A : KT' κ} : At1 (oKT A R) := fun ⟨_, p, vs, e, d, hp, _⟩ => ⟨p, e, d, _, hp, (by intro _ z; cases z), (by intro _ z; cases z)⟩
theorem own_at {A : Rs α} (one : At1 A) {i : Nat} (hs : Γ[i]? = some (.res A x)) {F H : Hp} {D : List Addr} {σ : St} (g : Good X.K F H D) (en : Env F H D Γ σ) :
    ∃ p, σ[i]? = some (some (.ref p)) ∧ A.ok F H [p] (.ref p) x ∧ ∀ {F1 H1 : Hp} {o : HO} {τ' : Type} {A' : Rs τ'} {x' : τ'}, Grow X.K F H F1 H1 → noTb o → A'.ok F1 (upd H1 p o) [p] (.ref p) x' →
      Step X.K F H D F1 (upd H1 p o) D ∧ Env F1 (upd H1 p o) D (Γ.set i (.res A' x')) σ := by
  obtain ⟨Da, D1, Db, o1, e1, h1, ⟨v, h2, h3⟩, back⟩ := en.upd (s' := .any) (o' := none) (D1' := []) i hs
  obtain ⟨p, rfl, rfl, u0, hu0, t0, x0⟩ := one h3
  subst h2 e1
  refine ⟨p, h1, h3, fun {F1 H1 o β A' x'} g1 to ok => ?_⟩
  have ga := g.grow g1
  have pin : p ∈ Da ++ [p] ++ Db := by simp
  have nF : F1 p = none := ga.dF p pin
  have pd : ∀ b ∈ Da ++ Db, b ≠ p := fun b hb z => by
    subst z
    have nd := g.nd
    rw [List.nodup_append, List.nodup_append] at nd
    rcases List.mem_append.mp hb with q | q
    · exact nd.1.2.2 b q b (by simp) rfl
    · exact nd.2.2 b (by simp) b q rfl
  have hv2 : Same F1 (Vw (upd H1 p o)) := fun b w' q => by
    have hb : b ≠ p := fun z => by subst z; rw [nF] at q; cases q
    have q2 := g1.fh b w' q
    unfold Vw at q2 ⊢
    rw [upd_ne hb]; exact q2
  have e' := back (s' := .res A' x') (o' := some (.ref p)) (D1' := [p]) (F' := F1) (H' := upd H1 p o) g1.ff (fun b hb => by
    rw [upd_ne (pd b hb)]
    obtain ⟨o, ho⟩ := ex_of (g.dH b (by
      rcases List.mem_append.mp hb with q | q
      · exact List.mem_append_left _ (List.mem_append_left _ q)
      · exact List.mem_append_right _ q))
    rw [ho]; exact g1.hh _ _ ho (g.dT _ (by
      rcases List.mem_append.mp hb with q | q
      · exact List.mem_append_left _ (List.mem_append_left _ q)
      · exact List.mem_append_right _ q) _ ho)) ⟨_, rfl, ok⟩
  rw [set_same h1] at e'
  refine ⟨⟨g1.ff, hv2, fun b o' hb t nb => ?_, fun b hb => ?_, fun b h1 h2 _ => g1.new b h1 h2, g.nd, ga.dF, fun b hb => ?_, fun b hb u1 e => ?_, fun b hb => .inl hb, fun t => tb_upd (g1.hh _ _ hu0 t0) t0 x0 (g1.tb t)⟩, e'⟩
  · have : b ≠ p := fun z => nb (z ▸ pin)
    rw [upd_ne this]; exact g1.hh b o' hb t
  · exact (g1.hn b hb).upd to
  · exact (ga.dH b hb).upd to
  · by_cases z : b = p
    · subst z; rw [upd_same] at e; cases e; exact to
    · rw [upd_ne z] at e; exact ga.dT b hb u1 e

section
variable {β τ : Type} {J : τ → Post} {Γx : β → Gm} {Kt : Gm → Res β τ → Prop} {bb : β} {rest : List Stmt}
/-- xs.append(e) -/
theorem xg_append (C : Ctx X P w K mg base N sc k dd) (i : Nat) {n : Str} {p1 p2 p3 : Pos} {xs : List α} {m : R0 α} {f : α → Res β τ} (he : XM X Γ e (fz R) m) (hr : ∀ x, XG X (Γ.set i (.res (oL R) (xs ++ [x]))) rest (f x) J Γx Kt) (hx : Wk Γ (Γx bb)) (hv : visB sc n = true := by decide +kernel) (hN : N[i]? = some n := by rfl) (hs : Γ[i]? = some (.res (oL R) xs) := by rfl)
    (hd : (n == ("__debug__" : Str)) = false := by decide +kernel) (hcd : (n == ("__classdict__" : Str)) = false := by decide +kernel)
    (hbase : attributeBase (.Name n p1) "append" X.env (eval (.Name n p1) X.env) = eval (.Name n p1) X.env := by rfl) (hline : (p2.endLine == p3.line) = true := by rfl) (hst : starEach [e] X.env = (false, eval e X.env) :: starEach [] X.env := by rfl)
    (hfew : ((backTo p3 (starEach [e] X.env)).all (fun x => !x.1) && (backToKw p3 (keywordEach [] X.env)).all (fun x => x.1.isSome)
      && decide ([e].length + ([] : List Keyword).length + (if ([] : List Keyword).isEmpty then 0 else 1) < 30)) = true := by rfl)
    (hsw : swapsWith (.Call (.Attribute (.Name n p1) "append" p2) [e] [] p3) none pos.line X.env = pure false := by rfl) :
    XG X Γ (.Expr (.Call (.Attribute (.Name n p1) "append" p2) [e] [] p3) pos :: rest) (m.bnd bb fun x => gd (xs.length ≤ 100000) (f x)) J Γx Kt := by
  intro σ F H D g en E W tk hk hm
  obtain ⟨p, h1, ⟨hz, p', vs, ep, _, hp, pr⟩, fin⟩ := own_at at1L hs g en
  cases ep
  refine (pss_cons (ps_expr (pe_bm PySem.F.plainAttrs_list PySem.F.slot_list_append PySem.F.type_list_append mt_append (pe_var (i := i) (by rw [C.N]; exact hN) (C.vis hv) hd hcd) (pa_cons (pe_ e) pa_nil hst) hbase hfew hline hst) hsw) (pb_ rest)).wp ?_
  refine ⟨_, h1, .inl ⟨rfl, _, .inl (.inl hp)⟩, ?_⟩
  refine he σ F H D g en _ W tk ?_
  cases m with
  | bad => exact hm
  | ex ε u => exact xg_ex hx g en hm
  | ok x =>
    intro u F1 H1 g1 r
    replace hm : MG X (gd (xs.length ≤ 100000) (f x)) J Γx E W F H D := hm
    by_cases hl : xs.length ≤ 100000
    · rw [gd_true hl] at hm
      refine ⟨p, vs, u, rfl, rfl, g1.hh _ _ hp (by intro _ z; cases z), ?_, ?_⟩
      · rw [pr.length]; exact Nat.lt_of_le_of_lt hl (by decide)
      · obtain ⟨st, en2⟩ := fin (A' := oL R) (x' := xs ++ [x]) g1 (by intro _ z; cases z) ⟨by rw [List.length_append]; exact Nat.le_trans (Nat.add_le_add_right hl 1) (by decide), p, vs ++ [u], rfl, rfl, upd_same, prd_app (prd_mono g1.ff pr) (.cons r .nil)⟩
        exact xg_run (hr x) g st en2 tk hk hm
    · rw [gd_bad hl] at hm; exact hm.elim
/-- xs.clear(): what is behind it is not told any more -/
theorem xg_clear (C : Ctx X P w K mg base N sc k dd) (i : Nat) {n : Str} {p1 p2 p3 : Pos} {xs : List α} {mm : Res β τ} (hr : XG X (Γ.set i (.res (oL R) [])) rest mm J Γx Kt) (hv : visB sc n = true := by decide +kernel) (hN : N[i]? = some n := by rfl) (hs : Γ[i]? = some (.res (oL R) xs) := by rfl)
    (hd : (n == ("__debug__" : Str)) = false := by decide +kernel) (hcd : (n == ("__classdict__" : Str)) = false := by decide +kernel)
    (hbase : attributeBase (.Name n p1) "clear" X.env (eval (.Name n p1) X.env) = eval (.Name n p1) X.env := by rfl) (hline : (p2.endLine == p3.line) = true := by rfl)
    (hsw : swapsWith (.Call (.Attribute (.Name n p1) "clear" p2) [] [] p3) none pos.line X.env = pure false := by rfl) : XG X Γ (.Expr (.Call (.Attribute (.Name n p1) "clear" p2) [] [] p3) pos :: rest) mm J Γx Kt := by
  intro σ F H D g en E W tk hk hm
  obtain ⟨p, h1, ⟨hz, p', vs, ep, _, hp, pr⟩, fin⟩ := own_at at1L hs g en
  cases ep
  refine (pss_cons (ps_expr (pe_bm0 PySem.F.plainAttrs_list PySem.F.slot_list_clear PySem.F.type_list_clear mt_clear (pe_var (i := i) (by rw [C.N]; exact hN) (C.vis hv) hd hcd) hbase hline) hsw) (pb_ rest)).wp ?_
  refine ⟨_, h1, .inl ⟨rfl, _, .inl (.inl hp)⟩, p, vs, rfl, rfl, hp, ?_⟩
  obtain ⟨st, en2⟩ := fin (A' := oL R) (x' := []) (.refl g.fh) (by intro _ z; cases z) ⟨Nat.zero_le _, p, [], rfl, rfl, upd_same, .nil⟩
  exact xg_run hr g st en2 tk hk hm
end

/-! ### walks over ranges, enumerate, zip -/
variable {tg : Expr}
def CR62 (n : Int) : Prop := -(2 ^ 62) ≤ n ∧ n < 2 ^ 62
instance {n : Int} : Decidable (CR62 n) := inferInstanceAs (Decidable (_ ∧ _))
theorem xi_range1 (C : Ctx X P w K mg base N sc k dd) (hf : Free mg) {m : R0 Int} (ha : XM X Γ a (fz rI) m) (hg : gloB sc "range" = true := by decide +kernel) (hs : starEach [a] X.env = [(false, eval a X.env)] := by rfl) :
    XI X Γ tg (.Call (.Name "range" p) [a] [] pos) rI (m.bind fun n => gd (CR62 n) (.ok (upTo n))) := by
  refine ⟨_, pi_range1 (C.gl hg) (by rw [C.mg]; exact hf.at_ (by decide +kernel)) (pa_cons (pe_ a) pa_nil hs) hs, fun σ F H D g en R' W tk q => ha σ F H D g en _ W tk ?_⟩
  cases m with
  | bad => exact q
  | ex ε u => exact q
  | ok n =>
    replace q : PMI X rI (gd (CR62 n) (.ok (upTo n)) : R0 (List Int)) R' W σ F H := q
    by_cases hn : CR62 n
    · rw [gd_true hn] at q
      intro v F1 H1 g1 r
      refine ⟨n, by rw [r], hn.1, hn.2, q _ F1 H1 g1 ?_⟩
      have := itr_rng (K := X.K) (lo := 0) (n := n.toNat) (F1 := F1)
      simpa [upTo] using this
    · rw [gd_bad hn] at q; exact q.elim
end
end Wf
/-! Dicts; data as a whole: equality, order, sorting; data of no known kind. -/
namespace Wf
open PySem L2
section
variable {X : Cx} {Γ : Gm} {P : Program} {w : World} {K : PySem.W.Frag} {mg : Str → Option Value} {base : Heap} {N : List Str} {sc : Scope} {k : Nat} {dd : Bool}
variable {α δ γ κ : Type} {R : Rp α} {R1 : Rp α} {R2 : Rp δ} {R3 : Rp γ} {x : α} {y : δ} {a b c e : Expr} {p p1 p2 p3 pos : Pos}
/-! ### what a dict holds -/
def look [DecidableEq κ] (d : List (κ × α)) (k : κ) : Option α := (d.find? fun kv => decide (kv.1 = k)).map (·.2)
def dput [DecidableEq κ] (d : List (κ × α)) (k : κ) (v : α) : List (κ × α) := if (d.any fun kv => decide (kv.1 = k)) = true then d.map (fun kv => if kv.1 = k then (kv.1, v) else kv) else d ++ [(k, v)]
def ddrop [DecidableEq κ] (d : List (κ × α)) (k : κ) : List (κ × α) := d.filter fun kv => decide (kv.1 ≠ k)
def has [DecidableEq κ] (d : List (κ × α)) (k : κ) : Bool := (look d k).isSome
theorem prd_look {κ' : Type} [DecidableEq κ] [DecidableEq κ'] {f : κ' → κ} (inj : ∀ {a b}, f a = f b → a = b) {n : κ' → Prop} {F : Hp} : ∀ {vs : List (κ × V)} {xs : List (κ' × α)}, Paired (fun (a : κ × V) (b : κ' × α) => a.1 = f b.1 ∧ n b.1 ∧ R.ok F a.2 b.2) vs xs → ∀ k : κ',
    match look xs k with | none => valV vs (f k) = none | some z => ∃ v, valV vs (f k) = some v ∧ R.ok F v z
  | _, _, .nil, k => rfl
  | (a, v) :: vs, (b, z) :: xs, .cons ⟨e, _, h⟩ t, k => by
    have e : a = f b := e
    subst e
    by_cases hk : b = k
    · subst hk
      have : look ((b, z) :: xs) b = some z := by simp [look, List.find?_cons]
      rw [this]
      exact ⟨v, valV_pos rfl, h⟩
    · have e1 : look ((b, z) :: xs) k = look xs k := by simp [look, List.find?_cons, hk]
      have e2 : valV ((f b, v) :: vs) (f k) = valV vs (f k) := valV_neg (fun z => hk (inj z))
      rw [e1, e2]
      exact prd_look inj t k
theorem prd_any {κ' : Type} [DecidableEq κ] [DecidableEq κ'] {f : κ' → κ} (inj : ∀ {a b}, f a = f b → a = b) {n : κ' → Prop} {F : Hp} : ∀ {vs : List (κ × V)} {xs : List (κ' × α)}, Paired (fun (a : κ × V) (b : κ' × α) => a.1 = f b.1 ∧ n b.1 ∧ R.ok F a.2 b.2) vs xs → ∀ k : κ',
    (vs.any fun kv => decide (kv.1 = f k)) = xs.any fun kv => decide (kv.1 = k)
  | _, _, .nil, k => rfl
  | (a, v) :: vs, (b, z) :: xs, .cons ⟨e, _, h⟩ t, k => by
    have e : a = f b := e
    subst e
    rw [List.any_cons, List.any_cons, prd_any inj t k]
    congr 1
    by_cases hk : b = k
    · subst hk; simp
    · rw [decide_eq_false hk, decide_eq_false (fun z => hk (inj z))]
theorem prd_repl {κ' : Type} [DecidableEq κ] [DecidableEq κ'] {f : κ' → κ} (inj : ∀ {a b}, f a = f b → a = b) {n : κ' → Prop} {F : Hp} {k : κ'} {v : V} {z : α} (r : R.ok F v z) : ∀ {vs : List (κ × V)} {xs : List (κ' × α)}, Paired (fun (a : κ × V) (b : κ' × α) => a.1 = f b.1 ∧ n b.1 ∧ R.ok F a.2 b.2) vs xs →
    Paired (fun (a : κ × V) (b : κ' × α) => a.1 = f b.1 ∧ n b.1 ∧ R.ok F a.2 b.2) (vs.map fun kv => if kv.1 = f k then (kv.1, v) else kv) (xs.map fun kv => if kv.1 = k then (kv.1, z) else kv)
  | _, _, .nil => .nil
  | (a, v') :: vs, (b, z') :: xs, .cons ⟨e, nb, h⟩ t => by
    have e : a = f b := e
    subst e
    refine .cons ?_ (prd_repl inj r t)
    by_cases hk : b = k
    · subst hk
      simp only [if_true]
      exact ⟨trivial, nb, r⟩
    · have hk' : ¬ f b = f k := fun z => hk (inj z)
      simp only [hk, hk', if_false]
      exact ⟨trivial, nb, h⟩
theorem prd_drop' {κ' : Type} [DecidableEq κ] [DecidableEq κ'] {f : κ' → κ} (inj : ∀ {a b}, f a = f b → a = b) {n : κ' → Prop} {F : Hp} {k : κ'} : ∀ {vs : List (κ × V)} {xs : List (κ' × α)}, Paired (fun (a : κ × V) (b : κ' × α) => a.1 = f b.1 ∧ n b.1 ∧ R.ok F a.2 b.2) vs xs →
    Paired (fun (a : κ × V) (b : κ' × α) => a.1 = f b.1 ∧ n b.1 ∧ R.ok F a.2 b.2) (dropK vs (f k)) (ddrop xs k)
  | _, _, .nil => .nil
  | (a, v') :: vs, (b, z') :: xs, .cons ⟨e, nb, h⟩ t => by
    have e : a = f b := e
    subst e
    have ih := prd_drop' inj (k := k) t
    unfold dropK ddrop at *
    rw [List.filter_cons, List.filter_cons]
    by_cases hk : b = k
    · subst hk
      simpa using ih
    · have : f b ≠ f k := fun z => hk (inj z)
      simpa [hk, this] using Paired.cons (F := fun (a : κ × V) (b : κ' × α) => a.1 = f b.1 ∧ n b.1 ∧ R.ok F a.2 b.2) ⟨rfl, nb, h⟩ ih
theorem prd_put {κ' : Type} [DecidableEq κ] [DecidableEq κ'] {f : κ' → κ} (inj : ∀ {a b}, f a = f b → a = b) {n : κ' → Prop} {F : Hp} {vs : List (κ × V)} {xs : List (κ' × α)} (h : Paired (fun (a : κ × V) (b : κ' × α) => a.1 = f b.1 ∧ n b.1 ∧ R.ok F a.2 b.2) vs xs) {k : κ'} {v : V} {z : α} (nk : n k) (r : R.ok F v z) :
    Paired (fun (a : κ × V) (b : κ' × α) => a.1 = f b.1 ∧ n b.1 ∧ R.ok F a.2 b.2) (putK vs (f k) v) (dput xs k z) := by
  unfold putK dput
  rw [prd_any inj h k]
  split
  · exact prd_repl inj r h
  · exact prd_app h (.cons ⟨rfl, nk, r⟩ .nil)
theorem dput_len [DecidableEq κ] (d : List (κ × α)) (k : κ) (v : α) : (dput d k v).length ≤ d.length + 1 := by
  unfold dput
  split
  · rw [List.length_map]; omega
  · rw [List.length_append]; simp

theorem xm_dget [DecidableEq κ] [Inhabited α] (C : Ctx X P w K mg base N sc k dd) {A : KF κ} {m : R0 (List (κ × α))} {mq : R0 κ} (ha : XM X Γ a (bK A R) m) (hb : XM X Γ b (fz A.R) mq) (hs : NoSl b := by exact fun _ _ => rfl) : XM X Γ (.Subscript a b pos) (fz R) (m.bind fun d => mq.bind fun q => gd (has d q = true) (.ok ((look d q).getD default))) := by
  intro σ F H D g en Q W tk hq
  refine (pe_dget C.hu (pe_ a) (pe_ b) hs).wp (two (P := wpE X) ha hb g en tk hq fun d q _ _ v u F2 H2 g2 ⟨z, p, vs, ev, hp, pr⟩ r2 q2 => ?_)
  by_cases hk : has d q = true
  · rw [gd_true hk] at q2
    obtain ⟨eu, nu⟩ := A.to r2
    have l := prd_look A.inj pr q
    cases hl : look d q with
    | none => unfold has at hk; rw [hl] at hk; cases hk
    | some z' =>
      rw [hl] at l q2
      obtain ⟨v', e1, r⟩ := l
      exact ⟨p, v', ev, .inl ⟨vs, A.f q, hp, eu, e1.symm⟩, q2 v' F2 H2 (.refl g2.fh) r⟩
  · rw [show gd (has d q = true) (Res.ok ((look d q).getD default) : R0 α) = .bad from gd_bad hk] at q2; exact q2.elim
theorem xm_dgetT [DecidableEq κ] [Inhabited α] (C : Ctx X P w K mg base N sc k dd) {A : KT' κ} {m : R0 (List (κ × α))} {mq : R0 κ} (ha : XM X Γ a (bKT A R) m) (hb : XM X Γ b (fz (rT A.T)) mq) (hs : NoSl b := by exact fun _ _ => rfl) : XM X Γ (.Subscript a b pos) (fz R) (m.bind fun d => mq.bind fun q => gd (has d q = true) (.ok ((look d q).getD default))) := by
  intro σ F H D g en Q W tk hq
  refine (pe_dget C.hu (pe_ a) (pe_ b) hs).wp (two (P := wpE X) ha hb g en tk hq fun d q _ _ v u F2 H2 g2 ⟨z, p, vs, ev, hp, pr⟩ ⟨p2, us, eu, hu, ht⟩ q2 => ?_)
  by_cases hk : has d q = true
  · rw [gd_true hk] at q2
    obtain ⟨e3, nu⟩ := A.to ht
    subst e3
    have l := prd_look A.inj pr q
    cases hl : look d q with
    | none => unfold has at hk; rw [hl] at hk; cases hk
    | some z' =>
      rw [hl] at l q2
      obtain ⟨v', e1, r⟩ := l
      have h4 : H2 p2 = some (.tup ((A.f q).map kV)) := tup_of (g2.fh _ _ hu)
      exact ⟨p, v', ev, .inr ⟨vs, A.f q, p2, hp, eu, h4, e1.symm⟩, q2 v' F2 H2 (.refl g2.fh) r⟩
  · rw [show gd (has d q = true) (Res.ok ((look d q).getD default) : R0 α) = .bad from gd_bad hk] at q2; exact q2.elim
theorem op_dinR (hu : X.A.units + 1 < cLine) : OpR X (compareOp .In) (fun y x H Q => ∃ a o, x = .ref a ∧ DGet H a y o ∧ Q (.bl o.isSome) H) := by
  intro pins s σ H x y v u Q I rx ry ⟨a, o, e, g, q⟩
  subst e
  cases ry
  exact d_in hu I g rx fun s' I' => ⟨.bl _, H, I', rfl, q⟩
theorem op_dnotR (hu : X.A.units + 1 < cLine) : OpR X (compareOp .NotIn) (fun y x H Q => ∃ a o, x = .ref a ∧ DGet H a y o ∧ Q (.bl (!o.isSome)) H) := by
  intro pins s σ H x y v u Q I rx ry ⟨a, o, e, g, q⟩
  subst e
  cases ry
  exact d_notIn hu I g rx fun s' I' => ⟨.bl _, H, I', rfl, q⟩
theorem valV_has [DecidableEq κ] {A : KF κ} {F : Hp} {vs : List (Key × V)} {d : List (κ × α)} (pr : Paired (fun (a : Key × V) (b : κ × α) => a.1 = A.f b.1 ∧ A.nice b.1 ∧ R.ok F a.2 b.2) vs d) (q : κ) : (valV vs (A.f q)).isSome = has d q := by
  have l := prd_look A.inj pr q
  unfold has
  cases hl : look d q with
  | none => rw [hl] at l; rw [show valV vs (A.f q) = none from l]; rfl
  | some z => rw [hl] at l; obtain ⟨v, e, _⟩ := l; rw [e]; rfl
theorem valV_hasT [DecidableEq κ] {A : KT' κ} {F : Hp} {vs : List (List Key × V)} {d : List (κ × α)} (pr : Paired (fun (a : List Key × V) (b : κ × α) => a.1 = A.f b.1 ∧ A.nice b.1 ∧ R.ok F a.2 b.2) vs d) (q : κ) : (valV vs (A.f q)).isSome = has d q := by
  have l := prd_look A.inj pr q
  unfold has
  cases hl : look d q with
  | none => rw [hl] at l; rw [show valV vs (A.f q) = none from l]; rfl
  | some z => rw [hl] at l; obtain ⟨v, e, _⟩ := l; rw [e]; rfl
theorem o_inD [DecidableEq κ] (C : Ctx X P w K mg base N sc k dd) {A : KF κ} : OpQ X (compareOp .In) (fz A.R) (bK A R) rB always (fun q d => has d q) :=
  ⟨_, op_dinR C.hu, fun F H v u q d s r1 ⟨_, p, vs, e, h, pr⟩ _ Q kq => ⟨p, _, e, .inl ⟨vs, A.f q, h, (A.to r1).1, rfl⟩, kq _ F H (.refl s) (congrArg V.bl (valV_has pr q))⟩⟩
theorem o_notInD [DecidableEq κ] (C : Ctx X P w K mg base N sc k dd) {A : KF κ} : OpQ X (compareOp .NotIn) (fz A.R) (bK A R) rB always (fun q d => !has d q) :=
  ⟨_, op_dnotR C.hu, fun F H v u q d s r1 ⟨_, p, vs, e, h, pr⟩ _ Q kq => ⟨p, _, e, .inl ⟨vs, A.f q, h, (A.to r1).1, rfl⟩, kq _ F H (.refl s) (congrArg (fun z => V.bl (!z)) (valV_has pr q))⟩⟩
theorem o_inDT [DecidableEq κ] (C : Ctx X P w K mg base N sc k dd) {A : KT' κ} : OpQ X (compareOp .In) (fz (rT A.T)) (bKT A R) rB always (fun q d => has d q) :=
  ⟨_, op_dinR C.hu, fun F H v u q d s ⟨p2, us, e2, h2, t⟩ ⟨_, p, vs, e, h, pr⟩ _ Q kq => ⟨p, _, e, .inr ⟨vs, A.f q, p2, h, e2, by rw [← (A.to t).1]; exact tup_of (s _ _ h2), rfl⟩, kq _ F H (.refl s) (congrArg V.bl (valV_hasT pr q))⟩⟩
theorem o_notInDT [DecidableEq κ] (C : Ctx X P w K mg base N sc k dd) {A : KT' κ} : OpQ X (compareOp .NotIn) (fz (rT A.T)) (bKT A R) rB always (fun q d => !has d q) :=
  ⟨_, op_dnotR C.hu, fun F H v u q d s ⟨p2, us, e2, h2, t⟩ ⟨_, p, vs, e, h, pr⟩ _ Q kq => ⟨p, _, e, .inr ⟨vs, A.f q, p2, h, e2, by rw [← (A.to t).1]; exact tup_of (s _ _ h2), rfl⟩, kq _ F H (.refl s) (congrArg (fun z => V.bl (!z)) (valV_hasT pr q))⟩⟩
section
variable {β τ : Type} {J : τ → Post} {Γx : β → Gm} {Kt : Gm → Res β τ → Prop} {bb : β} {rest : List Stmt}
/-- d[k] = v, d one's own -/
theorem xg_dput [DecidableEq κ] (C : Ctx X P w K mg base N sc k dd) (i : Nat) {n : Str} {p1 p2 : Pos} {A : KF κ} {d : List (κ × α)} {m : R0 α} {mq : R0 κ} {ke : Expr} {f : α → κ → Res β τ} (he : XM X Γ e (fz R) m) (hk : XM X Γ ke (fz A.R) mq) (hr : ∀ x q, XG X (Γ.set i (.res (oK A R) (dput d q x))) rest (f x q) J Γx Kt) (hx : Wk Γ (Γx bb)) (hv : visB sc n = true := by decide +kernel)
    (hN : N[i]? = some n := by rfl) (hs : Γ[i]? = some (.res (oK A R) d) := by rfl) (hd : (n == ("__debug__" : Str)) = false := by decide +kernel) (hcd : (n == ("__classdict__" : Str)) = false := by decide +kernel)
    (hsw : swapsWith e (some (.Subscript (.Name n p1) ke p2)) pos.line X.env = pure false := by rfl) : XG X Γ (.Assign [.Subscript (.Name n p1) ke p2] e pos :: rest) (m.bnd bb fun x => mq.bnd bb fun q => gd (d.length ≤ 100000) (f x q)) J Γx Kt := by
  intro σ F H D g en E W tk kk hm
  obtain ⟨p, h1, ⟨hz, p', vs, ep, _, hp, pr⟩, fin⟩ := own_at at1K hs g en
  cases ep
  refine (pss_cons (ps_dput C.hu (pe_var (i := i) (by rw [C.N]; exact hN) (C.vis hv) hd hcd) (pe_ ke) (pe_ e) hsw) (pb_ rest)).wp (he σ F H D g en _ W tk ?_)
  cases m with
  | bad => exact hm
  | ex ε u => exact xg_ex hx g en hm
  | ok x =>
    intro v F1 H1 g1 r
    refine ⟨_, h1, hk σ F1 H1 D (g.grow g1) (en.grow g g1) _ W tk ?_⟩
    cases mq with
    | bad => exact hm
    | ex ε u => exact fun c d F' H' g' => xg_ex hx g en hm c d F' H' (g1.trans g')
    | ok q =>
      intro y F2 H2 g2 r2
      replace hm : MG X (gd (d.length ≤ 100000) (f x q)) J Γx E W F H D := hm
      by_cases hl : d.length ≤ 100000
      · rw [gd_true hl] at hm
        have g12 := g1.trans g2
        obtain ⟨ey, ny⟩ := A.to r2
        have hp2 : H2 p = some (.dK vs) := g12.hh _ _ hp (by intro _ z; cases z)
        refine ⟨p, _, rfl, .inl ⟨vs, A.f q, hp2, ey, ?_, rfl⟩, ?_⟩
        · rw [pr.length]; exact Nat.lt_of_le_of_lt hl (by decide)
        · obtain ⟨st, en2⟩ := fin (A' := oK A R) (x' := dput d q x) g12 (by intro _ z; cases z) ⟨Nat.le_trans (dput_len _ _ _) (Nat.le_trans (Nat.add_le_add_right hl 1) (by decide)), p, _, rfl, rfl, upd_same, prd_put A.inj (kv_mono g12.ff pr) ny (R.mono g2.ff r)⟩
          exact xg_run (hr x q) g st en2 tk kk hm
      · rw [gd_bad hl] at hm; exact hm.elim
theorem xg_dputT [DecidableEq κ] (C : Ctx X P w K mg base N sc k dd) (i : Nat) {n : Str} {p1 p2 : Pos} {A : KT' κ} {d : List (κ × α)} {m : R0 α} {mq : R0 κ} {ke : Expr} {f : α → κ → Res β τ} (he : XM X Γ e (fz R) m) (hk : XM X Γ ke (fz (rT A.T)) mq) (hr : ∀ x q, XG X (Γ.set i (.res (oKT A R) (dput d q x))) rest (f x q) J Γx Kt) (hx : Wk Γ (Γx bb)) (hv : visB sc n = true := by decide +kernel)
    (hN : N[i]? = some n := by rfl) (hs : Γ[i]? = some (.res (oKT A R) d) := by rfl) (hd : (n == ("__debug__" : Str)) = false := by decide +kernel) (hcd : (n == ("__classdict__" : Str)) = false := by decide +kernel)
    (hsw : swapsWith e (some (.Subscript (.Name n p1) ke p2)) pos.line X.env = pure false := by rfl) : XG X Γ (.Assign [.Subscript (.Name n p1) ke p2] e pos :: rest) (m.bnd bb fun x => mq.bnd bb fun q => gd (d.length ≤ 100000) (f x q)) J Γx Kt := by
  intro σ F H D g en E W tk kk hm
  obtain ⟨p, h1, ⟨hz, p', vs, ep, _, hp, pr⟩, fin⟩ := own_at at1KT hs g en
  cases ep
  refine (pss_cons (ps_dput C.hu (pe_var (i := i) (by rw [C.N]; exact hN) (C.vis hv) hd hcd) (pe_ ke) (pe_ e) hsw) (pb_ rest)).wp (he σ F H D g en _ W tk ?_)
  cases m with
  | bad => exact hm
  | ex ε u => exact xg_ex hx g en hm
  | ok x =>
    intro v F1 H1 g1 r
    refine ⟨_, h1, hk σ F1 H1 D (g.grow g1) (en.grow g g1) _ W tk ?_⟩
    cases mq with
    | bad => exact hm
    | ex ε u => exact fun c d F' H' g' => xg_ex hx g en hm c d F' H' (g1.trans g')
    | ok q =>
      intro y F2 H2 g2 ⟨p2, us, ey, hu, t⟩
      replace hm : MG X (gd (d.length ≤ 100000) (f x q)) J Γx E W F H D := hm
      by_cases hl : d.length ≤ 100000
      · rw [gd_true hl] at hm
        have g12 := g1.trans g2
        obtain ⟨eu, ny⟩ := A.to t
        have hp2 : H2 p = some (.dT vs) := g12.hh _ _ hp (by intro _ z; cases z)
        refine ⟨p, _, rfl, .inr ⟨vs, A.f q, p2, hp2, ey, by rw [← eu]; exact tup_of (g2.fh _ _ hu), ?_, rfl⟩, ?_⟩
        · rw [pr.length]; exact Nat.lt_of_le_of_lt hl (by decide)
        · obtain ⟨st, en2⟩ := fin (A' := oKT A R) (x' := dput d q x) g12 (by intro _ z; cases z) ⟨Nat.le_trans (dput_len _ _ _) (Nat.le_trans (Nat.add_le_add_right hl 1) (by decide)), p, _, rfl, rfl, upd_same, prd_put A.inj (kv_mono g12.ff pr) ny (R.mono g2.ff r)⟩
          exact xg_run (hr x q) g st en2 tk kk hm
      · rw [gd_bad hl] at hm; exact hm.elim
end
theorem prd_keys {A : KF κ} {F : Hp} : ∀ {vs : List (Key × V)} {d : List (κ × α)}, Paired (fun (a : Key × V) (b : κ × α) => a.1 = A.f b.1 ∧ A.nice b.1 ∧ R.ok F a.2 b.2) vs d → Paired (A.R.ok F) (vs.map fun kv => kV kv.1) (d.map (·.1))
  | _, _, .nil => .nil
  | _, _, .cons h t => .cons (by show A.R.ok F (kV _) _; rw [h.1]; exact A.of h.2.1) (prd_keys t)
theorem n_listD (C : Ctx X P w K mg base N sc k dd) {A : KF κ} : N1Q X (.type "list") (bK A R) (oL A.R) alw (fun d => d.map (·.1)) :=
  ⟨_, call_listD C.calm, fun F H v x s ⟨z, p, vs, e, hp, pr⟩ _ Q q => ⟨p, vs, by rw [e], hp, fun l nl => q _ F _ [l] (xo_fresh s nl) ⟨by rw [List.length_map]; exact z, l, _, rfl, rfl, upd_same, prd_keys pr⟩⟩⟩
theorem call_dictC : CallR X (.type "dict") (fun xs H Q => ∃ a kvs, xs = [V.ref a] ∧ Rd H a (.dK kvs) ∧ ∀ p, H p = none → Q (.ref p) (upd H p (.dK kvs))) := by
  intro pins s σ H xs us Q I r ⟨a, kvs, ex, hd, q⟩
  subst ex
  obtain ⟨u, rfl, ru⟩ := vals1 r
  cases (show u = Value.ref a from ru)
  exact d_copyOf I hd fun p s' np I' => ⟨.ref p, _, I', rfl, q p np⟩
theorem n_dict {A : KF κ} : N1Q X (.type "dict") (bK A R) (oK A R) alw (fun d => d) :=
  ⟨_, call_dictC, fun F H v x s ⟨z, p, vs, e, hp, pr⟩ _ Q q => ⟨p, vs, by rw [e], hp, fun l nl => q _ F _ [l] (xo_fresh s nl) ⟨z, l, vs, rfl, rfl, upd_same, pr⟩⟩⟩
/-! ### texts -/
theorem joinStr : ∀ ys : List Str, (Str.join Str.empty ys).cps = (ys.map (·.cps)).foldr (· ++ ·) #[]
  | [] => rfl
  | [x] => by simp [Str.join]
  | x :: y :: r => by
    have ih := joinStr (y :: r)
    show (x ++ Str.empty ++ Str.join Str.empty (y :: r)).cps = _
    have e : (x ++ Str.empty ++ Str.join Str.empty (y :: r)).cps = (x.cps ++ #[]) ++ (Str.join Str.empty (y :: r)).cps := rfl
    rw [e, ih]
    simp
theorem nice_join : ∀ (ys : List Str), (∀ y ∈ ys, niceS y = true) → PyData.strOk (Str.join Str.empty ys) = true ∧ (Str.join Str.empty ys).length = (ys.map (·.length)).sum
  | [], _ => ⟨by decide +kernel, rfl⟩
  | [x], h => ⟨niceS_ok (h x (by simp)), by simp [Str.join]⟩
  | x :: y :: r, h => by
    obtain ⟨h1, h2⟩ := nice_join (y :: r) fun z hz => h z (List.mem_cons_of_mem _ hz)
    have hx := niceS_ok (h x (by simp))
    have e : (Str.join Str.empty (x :: y :: r)).cps = (x.cps ++ #[]) ++ (Str.join Str.empty (y :: r)).cps := rfl
    constructor
    · unfold PyData.strOk at h1 hx ⊢
      rw [e, Array.all_append, Array.all_append, hx, h1]; simp
    · show (Str.join Str.empty (x :: y :: r)).cps.size = _
      rw [e, Array.size_append, Array.size_append]
      show x.cps.size + 0 + (Str.join Str.empty (y :: r)).length = _
      rw [h2]; simp [Str.length]
theorem prd_strs {F : Hp} : ∀ {vs : List V} {ys : List Str}, Paired (rS.ok F) vs ys → vs = ys.map V.str ∧ ∀ y ∈ ys, niceS y = true
  | _, _, .nil => ⟨rfl, fun _ h => by cases h⟩
  | _, _, .cons h t => by
    obtain ⟨e, q⟩ := prd_strs t
    exact ⟨by rw [h.1, e]; rfl, fun y hy => (List.mem_cons.mp hy).elim (fun z => by rw [z]; exact h.2) fun z => q y z⟩
/-- ''.join(..) -/
def glue (ys : List Str) : Str := Str.join Str.empty ys
theorem xm_glue {m : R0 (List Str)} {j : Nat} (he : XM X Γ a (bL rS) m) {s0 : Str} (h0 : s0 = Str.empty := by decide +kernel) (hs : starEach [a] X.env = [(false, eval a X.env)] := by rfl)
    (hbase : attributeBase (.Constant (.str s0) j p1) "join" X.env (eval (.Constant (.str s0) j p1) X.env) = eval (.Constant (.str s0) j p1) X.env := by rfl) (hline : (p2.endLine == p3.line) = true := by rfl) :
    XM X Γ (.Call (.Attribute (.Constant (.str s0) j p1) "join" p2) [a] [] p3) (fz rS) (m.bind fun ys => gd ((ys.map (·.length)).sum ≤ 100000) (.ok (glue ys))) := by
  subst h0
  intro σ F H D g en Q W tk q
  refine (pe_join pe_str (pe_ a) hs hbase hline).wp ?_
  refine ⟨⟨_, rfl⟩, he σ F H D g en _ W tk ?_⟩
  cases m with
  | bad => exact q
  | ex ε u => exact q
  | ok ys =>
    intro v F1 H1 g1 ⟨z, l, vs, ev, hp, pr⟩
    replace q : PM X (fz rS) (gd ((ys.map (·.length)).sum ≤ 100000) (.ok (glue ys)) : R0 Str) Q W σ F H := q
    by_cases hz : (ys.map (·.length)).sum ≤ 100000
    · rw [gd_true hz] at q
      obtain ⟨e1, ny⟩ := prd_strs pr
      obtain ⟨n1, n2⟩ := nice_join ys ny
      refine ⟨Str.empty, l, ys, rfl, by rw [ev], .inl (.inl (by rw [← e1]; exact hp)), ?_, ?_⟩
      · show _ + ys.length * 0 ≤ _
        omega
      · have ej : Txt.join Str.empty ys = glue ys := TL.join_eq _ _
        rw [ej]
        refine q _ F1 H1 g1 ⟨rfl, ?_⟩
        unfold niceS glue
        rw [n1, n2, decide_eq_true hz]; rfl
    · rw [gd_bad hz] at q; exact q.elim
end
end Wf
namespace Wf
open PySem L2
theorem Ctx.hu65 {X : Cx} {P : Program} {w : World} {K : PySem.W.Frag} {mg : Str → Option Value} {base : Heap} {N : List Str} {sc : Scope} {k : Nat} {dd : Bool} (C : Ctx X P w K mg base N sc k dd) : X.A.units + 65 < cLine := by
  have := C.room.un
  omega
mutual
/-- data as they stand in frozen parts -/
inductive Lp (F : Hp) : V → PyData → Prop
  | non : Lp F .non .none
  | bl (b : Bool) : Lp F (.bl b) (.bool b)
  | int (i : Int) : Lp F (.int i) (.int i)
  | str (x : Str) : niceS x = true → Lp F (.str x) (.str x)
  | lst {a : Addr} {xs : List V} {ds : List PyData} : F a = some (.lst xs) → LpAll F xs ds → Lp F (.ref a) (.list ds)
  | tup {a : Addr} {xs : List V} {ds : List PyData} : F a = some (.tup xs) → LpAll F xs ds → Lp F (.ref a) (.tuple ds)
inductive LpAll (F : Hp) : List V → List PyData → Prop
  | nil : LpAll F [] []
  | cons {v : V} {vs : List V} {d : PyData} {ds : List PyData} : Lp F v d → LpAll F vs ds → LpAll F (v :: vs) (d :: ds)
end
/-- kinds that read off as data -/
class Dat {α : Type} (R : Rp α) where
  enc : α → PyData
  dep : Nat
  rd : ∀ {K : PySem.W.Frag} {F H : Hp} {v : V} {x : α}, Same F (Vw H) → R.ok F v x → Dp K H v (enc x) ∧ (enc x).canLay0 = true
  lp : ∀ {F : Hp} {v : V} {x : α}, R.ok F v x → Lp F v (enc x)
  depth : ∀ x, (enc x).depth ≤ dep
  inj : ∀ x y, PyData.eqv (enc x) (enc y) = true → x = y
  refl : ∀ x, PyData.eqv (enc x) (enc x) = true
section
variable {α β γ : Type} {R : Rp α} {R2 : Rp β}
theorem Dat.eqv [d : Dat R] [DecidableEq α] (x y : α) : PyData.eqv (d.enc x) (d.enc y) = decide (x = y) := by
  by_cases e : x = y
  · subst e; rw [d.refl, decide_eq_true rfl]
  · rw [decide_eq_false e]
    cases h : PyData.eqv (d.enc x) (d.enc y) with
    | false => rfl
    | true => exact absurd (d.inj x y h) e
instance : Dat rI where
  enc := .int
  dep := 0
  rd := fun s h => by cases h; exact ⟨.int _, by simp [PyData.canLay0]⟩
  lp := fun h => by cases h; exact .int _
  depth := fun x => by simp [PyData.depth]
  inj := fun x y h => by simpa [PyData.eqv] using h
  refl := fun x => by simp [PyData.eqv]
instance : Dat rB where
  enc := .bool
  dep := 0
  rd := fun s h => by cases h; exact ⟨.bl _, by simp [PyData.canLay0]⟩
  lp := fun h => by cases h; exact .bl _
  depth := fun x => by simp [PyData.depth]
  inj := fun x y h => by simpa [PyData.eqv] using h
  refl := fun x => by simp [PyData.eqv]
instance : Dat rS where
  enc := .str
  dep := 0
  rd := fun s h => by
    obtain ⟨rfl, n⟩ := h
    exact ⟨.str _, by simp [PyData.canLay0, niceS_ok n]⟩
  lp := fun h => by obtain ⟨rfl, n⟩ := h; exact .str _ n
  depth := fun x => by simp [PyData.depth]
  inj := fun x y h => by simpa [PyData.eqv] using h
  refl := fun x => by simp [PyData.eqv]
instance : Dat rN where
  enc := fun _ => .none
  dep := 0
  rd := fun s h => by cases h; exact ⟨.non, by simp [PyData.canLay0]⟩
  lp := fun h => by cases h; exact .non
  depth := fun x => by simp [PyData.depth]
  inj := fun x y h => rfl
  refl := fun x => by simp [PyData.eqv]
/-- no datum of the kind is None -/
class Some' (R : Rp α) [d : Dat R] : Prop where
  l : ∀ x, PyData.eqv .none (d.enc x) = false
  r : ∀ x, PyData.eqv (d.enc x) .none = false
instance : Some' rI := ⟨fun x => by simp [Dat.enc, PyData.eqv], fun x => by simp [Dat.enc, PyData.eqv]⟩
instance : Some' rB := ⟨fun x => by simp [Dat.enc, PyData.eqv], fun x => by simp [Dat.enc, PyData.eqv]⟩
instance : Some' rS := ⟨fun x => by simp [Dat.enc, PyData.eqv], fun x => by simp [Dat.enc, PyData.eqv]⟩
instance instDatO [d : Dat R] [n : Some' R] : Dat (rO R) where
  enc := fun x => match x with | none => .none | some y => d.enc y
  dep := d.dep
  rd := fun {K F H v x} s h => by
    cases x with
    | none => cases h; exact ⟨.non, by simp [PyData.canLay0]⟩
    | some y => exact d.rd s h
  lp := fun {F v x} h => by
    cases x with
    | none => cases h; exact .non
    | some y => exact d.lp h
  depth := fun x => by
    cases x with
    | none => simp [PyData.depth]
    | some y => exact d.depth y
  inj := fun x y h => by
    cases x with
    | none => cases y with
      | none => rfl
      | some y => rw [n.l] at h; cases h
    | some x => cases y with
      | none => rw [n.r] at h; cases h
      | some y => rw [d.inj x y h]
  refl := fun x => by
    cases x with
    | none => simp [PyData.eqv]
    | some y => exact d.refl y
theorem eqvAll_inj [d : Dat R] : ∀ xs ys : List α, PyData.eqvAll (xs.map d.enc) (ys.map d.enc) = true → xs = ys
  | [], [], _ => rfl
  | [], _ :: _, h => by simp [PyData.eqvAll] at h
  | _ :: _, [], h => by simp [PyData.eqvAll] at h
  | x :: xs, y :: ys, h => by
    simp only [List.map_cons, PyData.eqvAll, Bool.and_eq_true] at h
    rw [d.inj x y h.1, eqvAll_inj xs ys h.2]
theorem eqvAll_refl [d : Dat R] : ∀ xs : List α, PyData.eqvAll (xs.map d.enc) (xs.map d.enc) = true
  | [] => by simp [PyData.eqvAll]
  | x :: xs => by simp only [List.map_cons, PyData.eqvAll, d.refl x, eqvAll_refl xs, Bool.and_self]
theorem depthAll_map [d : Dat R] : ∀ xs : List α, PyData.depthAll (xs.map d.enc) ≤ d.dep
  | [] => by simp [PyData.depthAll]
  | x :: xs => by
    simp only [List.map_cons, PyData.depthAll]
    exact Nat.max_le.mpr ⟨d.depth x, depthAll_map xs⟩
theorem rdAll [d : Dat R] {K : PySem.W.Frag} {F H : Hp} (s : Same F (Vw H)) : ∀ {vs : List V} {xs : List α}, Paired (R.ok F) vs xs → DpAll K H vs (xs.map d.enc) ∧ PyData.canLayAll0 (xs.map d.enc) = true
  | _, _, .nil => ⟨.nil, by simp [PyData.canLayAll0]⟩
  | _, _, .cons r t => by
    obtain ⟨h1, h2⟩ := d.rd (K := K) s r
    obtain ⟨h3, h4⟩ := rdAll s t
    exact ⟨.cons h1 h3, by simp [PyData.canLayAll0, h2, h4]⟩
theorem lpAll_of [d : Dat R] {F : Hp} : ∀ {vs : List V} {xs : List α}, Paired (R.ok F) vs xs → LpAll F vs (xs.map d.enc)
  | _, _, .nil => .nil
  | _, _, .cons r t => .cons (d.lp r) (lpAll_of t)
instance instDatL [d : Dat R] : Dat (rL R) where
  enc := fun xs => .list (xs.map d.enc)
  dep := d.dep + 1
  rd := fun s ⟨_, p, vs, e, hp, pr⟩ => by
    obtain ⟨h1, h2⟩ := rdAll s pr
    exact ⟨by rw [e]; exact .lst (.inl (rd_of (s _ _ hp))) h1, by simpa [PyData.canLay0] using h2⟩
  lp := fun ⟨z, p, vs, e, hp, pr⟩ => by rw [e]; exact .lst hp (lpAll_of pr)
  depth := fun xs => by
    simp only [PyData.depth]
    exact Nat.add_le_add_right (depthAll_map xs) 1
  inj := fun xs ys h => eqvAll_inj xs ys (by simpa [PyData.eqv] using h)
  refl := fun xs => by simpa [PyData.eqv] using eqvAll_refl (R := R) xs
instance instDatV [d : Dat R] : Dat (rV R) where
  enc := fun xs => .tuple (xs.map d.enc)
  dep := d.dep + 1
  rd := fun s ⟨_, p, vs, e, hp, pr⟩ => by
    obtain ⟨h1, h2⟩ := rdAll s pr
    exact ⟨by rw [e]; exact .tup (.inl (rd_of (s _ _ hp))) h1, by simpa [PyData.canLay0] using h2⟩
  lp := fun ⟨z, p, vs, e, hp, pr⟩ => by rw [e]; exact .tup hp (lpAll_of pr)
  depth := fun xs => by
    simp only [PyData.depth]
    exact Nat.add_le_add_right (depthAll_map xs) 1
  inj := fun xs ys h => eqvAll_inj xs ys (by simpa [PyData.eqv] using h)
  refl := fun xs => by simpa [PyData.eqv] using eqvAll_refl (R := R) xs
class DatW {α : Type} (T : Rw α) where
  enc : α → List PyData
  dep : Nat
  ne : ∀ x, enc x ≠ []
  rd : ∀ {K : PySem.W.Frag} {F H : Hp} {vs : List V} {x : α}, Same F (Vw H) → T.ok F vs x → DpAll K H vs (enc x) ∧ PyData.canLayAll0 (enc x) = true
  lp : ∀ {F : Hp} {vs : List V} {x : α}, T.ok F vs x → LpAll F vs (enc x)
  depth : ∀ x, PyData.depthAll (enc x) ≤ dep
  inj : ∀ x y, PyData.eqvAll (enc x) (enc y) = true → x = y
  refl : ∀ x, PyData.eqvAll (enc x) (enc x) = true
instance [d : Dat R] : DatW (w1 R) where
  enc := fun x => [d.enc x]
  dep := d.dep
  ne := fun _ => by simp
  rd := fun s ⟨v, e, h⟩ => by
    obtain ⟨h1, h2⟩ := d.rd s h
    subst e
    exact ⟨.cons h1 .nil, by simp [PyData.canLayAll0, h2]⟩
  lp := fun ⟨v, e, h⟩ => by subst e; exact .cons (d.lp h) .nil
  depth := fun x => by
    simp only [PyData.depthAll]
    exact Nat.max_le.mpr ⟨d.depth x, Nat.zero_le _⟩
  inj := fun x y h => by
    simp only [PyData.eqvAll, Bool.and_true] at h
    exact d.inj x y h
  refl := fun x => by simp [PyData.eqvAll, d.refl x]
instance {T : Rw β} [d : Dat R] [e : DatW T] : DatW (wc R T) where
  enc := fun x => d.enc x.1 :: e.enc x.2
  dep := max d.dep e.dep
  ne := fun _ => by simp
  rd := fun s ⟨v, r, ev, h, q⟩ => by
    obtain ⟨h1, h2⟩ := d.rd s h
    obtain ⟨h3, h4⟩ := e.rd s q
    subst ev
    exact ⟨.cons h1 h3, by simp [PyData.canLayAll0, h2, h4]⟩
  lp := fun ⟨v, r, ev, h, q⟩ => by subst ev; exact .cons (d.lp h) (e.lp q)
  depth := fun x => by
    simp only [PyData.depthAll]
    exact Nat.max_le.mpr ⟨Nat.le_trans (d.depth _) (Nat.le_max_left _ _), Nat.le_trans (e.depth _) (Nat.le_max_right _ _)⟩
  inj := fun x y h => by
    simp only [PyData.eqvAll, Bool.and_eq_true] at h
    exact Prod.ext (d.inj _ _ h.1) (e.inj _ _ h.2)
  refl := fun x => by simp [PyData.eqvAll, d.refl, e.refl]
instance instDatT {T : Rw α} [d : DatW T] : Dat (rT T) where
  enc := fun x => .tuple (d.enc x)
  dep := d.dep + 1
  rd := fun s ⟨p, vs, e, hp, h⟩ => by
    obtain ⟨h1, h2⟩ := d.rd s h
    exact ⟨by rw [e]; exact .tup (.inl (rd_of (s _ _ hp))) h1, by simpa [PyData.canLay0] using h2⟩
  lp := fun {F v x} ⟨p, vs, e, hp, h⟩ => by rw [e]; exact .tup hp (d.lp h)
  depth := fun x => by
    simp only [PyData.depth]
    exact Nat.add_le_add_right (d.depth x) 1
  inj := fun x y h => d.inj x y (by simpa [PyData.eqv] using h)
  refl := fun x => by simpa [PyData.eqv] using d.refl x
instance {T : Rw α} [d : DatW T] : Some' (rT T) := ⟨fun x => by simp [Dat.enc, PyData.eqv], fun x => by simp [Dat.enc, PyData.eqv]⟩
instance [d : Dat R] : Some' (rL R) := ⟨fun x => by simp [Dat.enc, PyData.eqv], fun x => by simp [Dat.enc, PyData.eqv]⟩
instance [d : Dat R] : Some' (rV R) := ⟨fun x => by simp [Dat.enc, PyData.eqv], fun x => by simp [Dat.enc, PyData.eqv]⟩
end
section
variable {X : Cx} {Γ : Gm} {P : Program} {w : World} {K : PySem.W.Frag} {mg : Str → Option Value} {base : Heap} {N : List Str} {sc : Scope} {k : Nat} {dd : Bool}
variable {α β γ : Type} {R : Rp α} {R2 : Rp β} {a b : Expr} {p pos : Pos}
theorem shaped_of {d : PyData} (h : d.canLay0 = true) (h' : d.depth ≤ 64) : SeqAt.shaped d = true := by
  unfold SeqAt.shaped
  rw [h, decide_eq_true h']; rfl
/-- x == y, where the whole is data -/
theorem o_eq [d : Dat R] [DecidableEq α] (C : Ctx X P w K mg base N sc k dd) (hd : d.dep ≤ 60 := by decide) : OpQ X (compareOp .Eq) (fz R) (fz R) rB always (fun x y => decide (x = y)) :=
  ⟨_, op_eqD C.room.units, fun F H v u x y s r1 r2 _ Q q => by
    obtain ⟨h1, h2⟩ := d.rd (K := X.K) s r1
    obtain ⟨h3, h4⟩ := d.rd (K := X.K) s r2
    refine ⟨d.enc x, d.enc y, h1, h3, shaped_of h2 (Nat.le_trans (d.depth x) (by omega)), shaped_of h4 (Nat.le_trans (d.depth y) (by omega)), q _ F H (.refl s) ?_⟩
    show V.bl _ = V.bl _
    rw [Dat.eqv]⟩
theorem o_ne [d : Dat R] [DecidableEq α] (C : Ctx X P w K mg base N sc k dd) (hd : d.dep ≤ 60 := by decide) : OpQ X (compareOp .NotEq) (fz R) (fz R) rB always (fun x y => !decide (x = y)) :=
  ⟨_, op_neD C.room.units, fun F H v u x y s r1 r2 _ Q q => by
    obtain ⟨h1, h2⟩ := d.rd (K := X.K) s r1
    obtain ⟨h3, h4⟩ := d.rd (K := X.K) s r2
    refine ⟨d.enc x, d.enc y, h1, h3, shaped_of h2 (Nat.le_trans (d.depth x) (by omega)), shaped_of h4 (Nat.le_trans (d.depth y) (by omega)), q _ F H (.refl s) ?_⟩
    show V.bl _ = V.bl _
    rw [Dat.eqv]⟩
/-- a list's data, frozen or one's own -/
theorem rdB [d : Dat R] {K : PySem.W.Frag} {F H : Hp} {v : V} {xs : List α} (s : Same F (Vw H)) (h : (bL R).ok F H v xs) : Dp K H v (.list (xs.map d.enc)) ∧ (PyData.list (xs.map d.enc)).canLay0 = true := by
  obtain ⟨_, p, vs, e, hp, pr⟩ := h
  obtain ⟨h1, h2⟩ := rdAll (K := K) s pr
  exact ⟨by rw [e]; exact .lst (.inl hp) h1, by simpa [PyData.canLay0] using h2⟩
theorem o_eqL [d : Dat R] [DecidableEq α] (C : Ctx X P w K mg base N sc k dd) (hd : d.dep ≤ 50 := by decide) : OpQ X (compareOp .Eq) (bL R) (bL R) rB always (fun x y => decide (x = y)) :=
  ⟨_, op_eqD C.room.units, fun F H v u x y s r1 r2 _ Q q => by
    obtain ⟨h1, h2⟩ := rdB (K := X.K) s r1
    obtain ⟨h3, h4⟩ := rdB (K := X.K) s r2
    refine ⟨_, _, h1, h3, shaped_of h2 (Nat.le_trans ((instDatL (R := R)).depth x) (by show d.dep + 1 ≤ 64; omega)), shaped_of h4 (Nat.le_trans ((instDatL (R := R)).depth y) (by show d.dep + 1 ≤ 64; omega)), q _ F H (.refl s) ?_⟩
    show V.bl _ = V.bl _
    have := Dat.eqv (R := rL R) x y
    exact congrArg V.bl this⟩
theorem o_neL [d : Dat R] [DecidableEq α] (C : Ctx X P w K mg base N sc k dd) (hd : d.dep ≤ 50 := by decide) : OpQ X (compareOp .NotEq) (bL R) (bL R) rB always (fun x y => !decide (x = y)) :=
  ⟨_, op_neD C.room.units, fun F H v u x y s r1 r2 _ Q q => by
    obtain ⟨h1, h2⟩ := rdB (K := X.K) s r1
    obtain ⟨h3, h4⟩ := rdB (K := X.K) s r2
    refine ⟨_, _, h1, h3, shaped_of h2 (Nat.le_trans ((instDatL (R := R)).depth x) (by show d.dep + 1 ≤ 64; omega)), shaped_of h4 (Nat.le_trans ((instDatL (R := R)).depth y) (by show d.dep + 1 ≤ 64; omega)), q _ F H (.refl s) ?_⟩
    show V.bl _ = V.bl _
    have := Dat.eqv (R := rL R) x y
    exact congrArg (fun z => V.bl (!z)) this⟩
theorem any_eqv [d : Dat R] [DecidableEq α] (x : α) : ∀ xs : List α, ((xs.map d.enc).any fun z => PyData.eqv z (d.enc x)) = decide (x ∈ xs)
  | [] => by simp
  | y :: ys => by
    rw [List.map_cons, List.any_cons, any_eqv x ys, Dat.eqv]
    by_cases e : y = x
    · subst e; simp
    · have e' : ¬ x = y := fun z => e z.symm
      simp [e, e']
theorem o_in [d : Dat R] [DecidableEq α] (C : Ctx X P w K mg base N sc k dd) (hd : d.dep ≤ 50 := by decide) : OpQ X (compareOp .In) (fz R) (bL R) rB always (fun x xs => decide (x ∈ xs)) :=
  ⟨_, op_inD C.hu65, fun F H v u x xs s r1 r2 _ Q q => by
    obtain ⟨h1, h2⟩ := d.rd (K := X.K) s r1
    obtain ⟨h3, h4⟩ := rdB (K := X.K) s r2
    refine ⟨d.enc x, xs.map d.enc, h1, h3, shaped_of h2 (Nat.le_trans (d.depth x) (by omega)), shaped_of h4 (Nat.le_trans ((instDatL (R := R)).depth xs) (by show d.dep + 1 ≤ 64; omega)), q _ F H (.refl s) ?_⟩
    show V.bl _ = V.bl _
    rw [any_eqv]⟩
theorem o_notIn [d : Dat R] [DecidableEq α] (C : Ctx X P w K mg base N sc k dd) (hd : d.dep ≤ 50 := by decide) : OpQ X (compareOp .NotIn) (fz R) (bL R) rB always (fun x xs => !decide (x ∈ xs)) :=
  ⟨_, op_notInD C.hu65, fun F H v u x xs s r1 r2 _ Q q => by
    obtain ⟨h1, h2⟩ := d.rd (K := X.K) s r1
    obtain ⟨h3, h4⟩ := rdB (K := X.K) s r2
    refine ⟨d.enc x, xs.map d.enc, h1, h3, shaped_of h2 (Nat.le_trans (d.depth x) (by omega)), shaped_of h4 (Nat.le_trans ((instDatL (R := R)).depth xs) (by show d.dep + 1 ≤ 64; omega)), q _ F H (.refl s) ?_⟩
    show V.bl _ = V.bl _
    rw [any_eqv]⟩
end
end Wf
namespace Wf
open PySem L2
/-- data of the kind can be put in order -/
class Ord' {α : Type} (R : Rp α) [d : Dat R] : Prop where
  al : ∀ x y, PySem.W.alike (d.enc x) (d.enc y) = true
  nn : ∀ x, d.enc x ≠ .none
  srt : (∀ x, ∃ a r, d.enc x = .tuple (a :: r)) ∨ ∀ x, d.enc x ≠ .none ∧ ∀ xs, d.enc x ≠ .tuple xs
class OrdW {α : Type} (T : Rw α) [d : DatW T] : Prop where
  al : ∀ x y, PySem.W.alikeAll (d.enc x) (d.enc y) = true
section
variable {α β γ : Type} {R : Rp α} {R2 : Rp β}
instance : Ord' rI := ⟨fun x y => by simp [Dat.enc, PySem.W.alike], fun x => by simp [Dat.enc], .inr fun x => ⟨by simp [Dat.enc], by simp [Dat.enc]⟩⟩
instance : Ord' rS := ⟨fun x y => by simp [Dat.enc, PySem.W.alike], fun x => by simp [Dat.enc], .inr fun x => ⟨by simp [Dat.enc], by simp [Dat.enc]⟩⟩
instance : Ord' rB := ⟨fun x y => by simp [Dat.enc, PySem.W.alike], fun x => by simp [Dat.enc], .inr fun x => ⟨by simp [Dat.enc], by simp [Dat.enc]⟩⟩
theorem alike_map [d : Dat R] [o : Ord' R] : ∀ xs ys : List α, PySem.W.alikeAll (xs.map d.enc) (ys.map d.enc) = true
  | [], _ => by simp [PySem.W.alikeAll]
  | _ :: _, [] => by simp [PySem.W.alikeAll]
  | x :: xs, y :: ys => by simp only [List.map_cons, PySem.W.alikeAll, o.al, alike_map xs ys, Bool.and_self]
instance [d : Dat R] [o : Ord' R] : Ord' (rL R) := ⟨fun x y => by simpa [Dat.enc, PySem.W.alike] using alike_map (R := R) x y, fun x => by simp [Dat.enc], .inr fun x => ⟨by simp [Dat.enc], by simp [Dat.enc]⟩⟩
instance [d : Dat R] [o : Ord' R] : OrdW (w1 R) := ⟨fun x y => by simp [DatW.enc, PySem.W.alikeAll, o.al]⟩
instance {T : Rw β} [d : Dat R] [o : Ord' R] [e : DatW T] [u : OrdW T] : OrdW (wc R T) := ⟨fun x y => by simp only [DatW.enc, PySem.W.alikeAll, o.al, u.al, Bool.and_self]⟩
instance {T : Rw α} [d : DatW T] [u : OrdW T] : Ord' (rT T) := ⟨fun x y => by simpa [Dat.enc, PySem.W.alike] using u.al x y, fun x => by simp [Dat.enc], .inl fun x => by
  have h := d.ne x
  show ∃ a r, PyData.tuple (d.enc x) = .tuple (a :: r)
  cases e : d.enc x with
  | nil => exact absurd e h
  | cons a r => exact ⟨a, r, rfl⟩⟩
/-- Python's < and the order by which it sorts -/
def dlt [d : Dat R] (x y : α) : Bool := PySem.W.dataLt (d.enc x) (d.enc y)
def dle (R : Rp α) [d : Dat R] (x y : α) : Bool := PySem.W.dataLe false d.enc x y
def srt (R : Rp α) [d : Dat R] (xs : List α) : List α := xs.mergeSort (dle R)
def minF (R : Rp α) [d : Dat R] (x : α) (xs : List α) : α := xs.foldl (fun a y => if PySem.W.dataLt (d.enc y) (d.enc a) = true then y else a) x
def maxF (R : Rp α) [d : Dat R] (x : α) (xs : List α) : α := xs.foldl (fun a y => if PySem.W.dataLt (d.enc a) (d.enc y) = true then y else a) x
def minL (R : Rp α) [d : Dat R] [Inhabited α] : List α → α
  | [] => default
  | x :: xs => minF R x xs
def maxL (R : Rp α) [d : Dat R] [Inhabited α] : List α → α
  | [] => default
  | x :: xs => maxF R x xs
theorem minF_enc [d : Dat R] : ∀ (xs : List α) (x : α), d.enc (minF R x xs) = PySem.W.minD (d.enc x) (xs.map d.enc)
  | [], x => rfl
  | y :: ys, x => by
    have ih := minF_enc ys (if PySem.W.dataLt (d.enc y) (d.enc x) = true then y else x)
    unfold minF PySem.W.minD at *
    rw [List.foldl_cons, List.map_cons, List.foldl_cons, ih]
    congr 1
    split <;> rfl
theorem maxF_enc [d : Dat R] : ∀ (xs : List α) (x : α), d.enc (maxF R x xs) = PySem.W.maxD (d.enc x) (xs.map d.enc)
  | [], x => rfl
  | y :: ys, x => by
    have ih := maxF_enc ys (if PySem.W.dataLt (d.enc x) (d.enc y) = true then y else x)
    unfold maxF PySem.W.maxD at *
    rw [List.foldl_cons, List.map_cons, List.foldl_cons, ih]
    congr 1
    split <;> rfl
theorem Dat.enc_inj [d : Dat R] {x y : α} (h : d.enc x = d.enc y) : x = y := d.inj x y (by rw [h]; exact d.refl y)
theorem pairGet {α β : Type} {G : α → β → Prop} {vs : List α} {xs : List β} (h : Paired G vs xs) {j : Nat} {v : α} (e : vs[j]? = some v) : ∃ x, xs[j]? = some x ∧ G v x := h.get e
end
section
variable {X : Cx} {Γ : Gm} {P : Program} {w : World} {K : PySem.W.Frag} {mg : Str → Option Value} {base : Heap} {N : List Str} {sc : Scope} {k : Nat} {dd : Bool}
variable {α β γ : Type} {R : Rp α} {R2 : Rp β} {a b : Expr} {p pos : Pos}
/-- the values of the list at l, as they are now, and what they read as -/
theorem reads_list [d : Dat R] {pins : List (Addr × Obj)} {σ : St} {F H : Hp} {s : Shared} {l : Addr} {vs : List V} {xs : List α} (I : Inv X pins σ H s) (f : Same F (Vw H)) (hp : Rd H l (.lst vs)) (pr : Paired (R.ok F) vs xs) :
    ∃ its : List Value, Vals vs its ∧ s.heap.IsList l its.toArray ∧ ∃ as, ReadsAll s.heap its (xs.map d.enc) as := by
  obtain ⟨its, r, pl, _⟩ := I.list (.inl hp)
  obtain ⟨h1, _⟩ := rdAll (K := X.K) f pr
  obtain ⟨as, q⟩ := Dp.readsAll I _ vs its h1 r
  exact ⟨its, r, pl.isList, as, q⟩
def CNe (xs : List α) : Prop := xs ≠ []
instance : DecidablePred (CNe (α := α)) := fun xs => match xs with | [] => isFalse (fun h => h rfl) | _ :: _ => isTrue (by simp [CNe])
theorem cr_min [d : Dat R] [o : Ord' R] [Inhabited α] (C : Ctx X P w K mg base N sc k dd) (hd : d.dep ≤ 50 := by decide) : C1Q X (.builtin "min") (bL R) R CNe (minL R) := by
  refine ⟨fun xs H Q => ∃ (F : Hp) (l : Addr) (vs : List V) (zs : List α), xs = [.ref l] ∧ Same F (Vw H) ∧ Rd H l (.lst vs) ∧ Paired (R.ok F) vs zs ∧ zs ≠ [] ∧ ∀ z, R.ok F z (minL R zs) → Q z H, ?_, ?_⟩
  · intro pins s σ H xs us Q I r h
    obtain ⟨F, l, vs, zs, rfl, f, hp, pr, hne, q⟩ := h
    rw [Vals.ref1 r]
    obtain ⟨its, rv, il, as, ra⟩ := reads_list I f hp pr
    cases zs with
    | nil => exact absurd rfl hne
    | cons z zs =>
      refine PySem.W.min_list_data (I.ok.hd C.calm) il ra ⟨fun x hx y hy => ?_, fun x hx => ?_⟩ ?_ fun i v h' tk bs hi hr hk => ?_
      · obtain ⟨x, _, rfl⟩ := List.mem_map.mp (show x ∈ (z :: zs).map d.enc from hx)
        obtain ⟨y, _, rfl⟩ := List.mem_map.mp (show y ∈ (z :: zs).map d.enc from hy)
        exact o.al x y
      · obtain ⟨x, _, rfl⟩ := List.mem_map.mp (show x ∈ (z :: zs).map d.enc from hx)
        exact o.nn x
      · have h1 := depthAll_map (R := R) (z :: zs)
        have h2 := C.room.un
        simp only [List.map_cons] at h1
        omega
      · have hi' : its[i]? = some v := by simpa using hi
        obtain ⟨w', hw, rw'⟩ : ∃ x, vs[i]? = some x ∧ RelV x v := by
          cases e : vs[i]? with
          | none => rw [rv.none_of e] at hi'; cases hi'
          | some x =>
            obtain ⟨u, e1, e2⟩ := rv.get e
            rw [hi'] at e1; cases e1
            exact ⟨x, rfl, e2⟩
        obtain ⟨y, hy, ry⟩ := pr.get hw
        have I' : Inv X pins σ H { s with heap := h', toks := tk } := I.kept hk
        obtain ⟨d1, _⟩ := d.rd (K := X.K) f ry
        obtain ⟨as', r2⟩ := Dp.reads I' _ _ _ d1 rw'
        have e := (Reads.unique r2 _ _ hr).1
        rw [← minF_enc] at e
        refine ⟨w', H, I', rw', q w' ?_⟩
        show R.ok F w' (minF R z zs)
        rw [← Dat.enc_inj e]; exact ry
  · intro F H v x s ⟨_, p, vs, e, h, pr⟩ hne Q kq
    exact ⟨F, p, vs, x, by rw [e], s, h, pr, hne, fun z r => kq z F H (.refl s) r⟩
theorem cr_max [d : Dat R] [o : Ord' R] [Inhabited α] (C : Ctx X P w K mg base N sc k dd) (hd : d.dep ≤ 50 := by decide) : C1Q X (.builtin "max") (bL R) R CNe (maxL R) := by
  refine ⟨fun xs H Q => ∃ (F : Hp) (l : Addr) (vs : List V) (zs : List α), xs = [.ref l] ∧ Same F (Vw H) ∧ Rd H l (.lst vs) ∧ Paired (R.ok F) vs zs ∧ zs ≠ [] ∧ ∀ z, R.ok F z (maxL R zs) → Q z H, ?_, ?_⟩
  · intro pins s σ H xs us Q I r h
    obtain ⟨F, l, vs, zs, rfl, f, hp, pr, hne, q⟩ := h
    rw [Vals.ref1 r]
    obtain ⟨its, rv, il, as, ra⟩ := reads_list I f hp pr
    cases zs with
    | nil => exact absurd rfl hne
    | cons z zs =>
      refine PySem.W.max_list_data (I.ok.hd C.calm) il ra ⟨fun x hx y hy => ?_, fun x hx => ?_⟩ ?_ fun i v h' tk bs hi hr hk => ?_
      · obtain ⟨x, _, rfl⟩ := List.mem_map.mp (show x ∈ (z :: zs).map d.enc from hx)
        obtain ⟨y, _, rfl⟩ := List.mem_map.mp (show y ∈ (z :: zs).map d.enc from hy)
        exact o.al x y
      · obtain ⟨x, _, rfl⟩ := List.mem_map.mp (show x ∈ (z :: zs).map d.enc from hx)
        exact o.nn x
      · have h1 := depthAll_map (R := R) (z :: zs)
        have h2 := C.room.un
        simp only [List.map_cons] at h1
        omega
      · have hi' : its[i]? = some v := by simpa using hi
        obtain ⟨w', hw, rw'⟩ : ∃ x, vs[i]? = some x ∧ RelV x v := by
          cases e : vs[i]? with
          | none => rw [rv.none_of e] at hi'; cases hi'
          | some x =>
            obtain ⟨u, e1, e2⟩ := rv.get e
            rw [hi'] at e1; cases e1
            exact ⟨x, rfl, e2⟩
        obtain ⟨y, hy, ry⟩ := pr.get hw
        have I' : Inv X pins σ H { s with heap := h', toks := tk } := I.kept hk
        obtain ⟨d1, _⟩ := d.rd (K := X.K) f ry
        obtain ⟨as', r2⟩ := Dp.reads I' _ _ _ d1 rw'
        have e := (Reads.unique r2 _ _ hr).1
        rw [← maxF_enc] at e
        refine ⟨w', H, I', rw', q w' ?_⟩
        show R.ok F w' (maxF R z zs)
        rw [← Dat.enc_inj e]; exact ry
  · intro F H v x s ⟨_, p, vs, e, h, pr⟩ hne Q kq
    exact ⟨F, p, vs, x, by rw [e], s, h, pr, hne, fun z r => kq z F H (.refl s) r⟩
/-- what a value of the model stands for -/
def RV (R : Rp α) (F : Hp) (u : Value) (x : α) : Prop := ∃ v, RelV v u ∧ R.ok F v x
theorem each_rv {F : Hp} : ∀ {vs : List V} {us : List Value} {xs : List α}, Vals vs us → Paired (R.ok F) vs xs → PySem.W.EachIs (RV R F) us xs
  | _, _, _, .nil, .nil => .nil
  | _, _, _, .cons h t, .cons r q => .cons ⟨_, h, r⟩ (each_rv t q)
theorem rv_each {F : Hp} : ∀ {us : List Value} {xs : List α}, PySem.W.EachIs (RV R F) us xs → ∃ vs, Vals vs us ∧ Paired (R.ok F) vs xs
  | _, _, .nil => ⟨[], .nil, .nil⟩
  | _, _, .cons ⟨v, h, r⟩ t => by
    obtain ⟨vs, h1, h2⟩ := rv_each t
    exact ⟨v :: vs, .cons h h1, .cons r h2⟩
theorem cr_sortedD [d : Dat R] [o : Ord' R] (C : Ctx X P w K mg base N sc k dd) (hd : d.dep ≤ 50) : CallR X (.builtin "sorted") (fun xs H Q => ∃ (F : Hp) (l : Addr) (vs : List V) (zs : List α), xs = [.ref l] ∧ Same F (Vw H) ∧ Rd H l (.lst vs) ∧ Paired (R.ok F) vs zs ∧ zs.length ≤ sizeLine ∧ ∀ p ws, H p = none → Paired (R.ok F) ws (srt R zs) → Q (.ref p) (upd H p (.lst ws))) := by
  intro pins s σ H xs us Q I r h
  obtain ⟨F, l, vs, zs, rfl, f, hp, pr, hz, q⟩ := h
  rw [Vals.ref1 r]
  obtain ⟨its, rv, il, as, ra⟩ := reads_list I f hp pr
  have hu := C.hu65
  refine PySem.W.sorted_data (R := RV R F) (enc := d.enc) (vs := its) (bs := zs) il (each_rv rv pr) ?_ ?_ ?_ hz ?_ fun out hl ho => ?_
  · have : ∀ {us : List Value} {xs : List α} {as : List Addr}, ReadsAll s.heap us (xs.map d.enc) as → PySem.W.EachIs (fun v b => ∃ as, Reads s.heap v (d.enc b) as) us xs := by
      intro us xs
      induction xs generalizing us with
      | nil => intro as h; cases h; exact .nil
      | cons x xs ih => intro as h; cases h with
        | cons h1 h2 => exact .cons ⟨_, h1⟩ (ih h2)
    exact this ra
  · intro a ha b hb
    obtain ⟨x, _, rfl⟩ := List.mem_map.mp ha
    obtain ⟨y, _, rfl⟩ := List.mem_map.mp hb
    exact o.al x y
  · rcases o.srt with h | h
    · refine .inl fun a ha => ?_
      obtain ⟨x, _, rfl⟩ := List.mem_map.mp ha
      exact h x
    · refine .inr fun a ha => ?_
      obtain ⟨x, _, rfl⟩ := List.mem_map.mp ha
      exact h x
  · intro b _
    have := d.depth b
    omega
  · obtain ⟨ws, w1, w2⟩ := rv_each ho
    obtain ⟨ep, he⟩ := PyProof.Rows.sortedAll_at s.heap its out.toArray
    have hw : ws.length ≤ sizeLine := by rw [w1.length, hl]; exact hz
    have nf : H (s.heap.objs.size + 1) = none := I.hok.fresh (Nat.le_succ _)
    exact ⟨.ref _, upd H (s.heap.objs.size + 1) (.lst ws), I.laid (t' := s.toks) (fun _ _ => PyProof.Rows.sortedAll_old) (Nat.le_succ _) (show ObjOk X.prog X.w _ _ _ (.lst ws) from ⟨hw, out, ep, w1, he⟩), rfl, q _ _ nf w2⟩
theorem srt_len [d : Dat R] (xs : List α) : (srt R xs).length = xs.length := List.length_mergeSort _
theorem n_sorted [d : Dat R] [o : Ord' R] (C : Ctx X P w K mg base N sc k dd) (hd : d.dep ≤ 50 := by decide) : N1Q X (.builtin "sorted") (bL R) (oL R) alw (srt R) :=
  ⟨_, cr_sortedD C hd, fun F H v x s ⟨z, p, vs, e, hp, pr⟩ _ Q q => ⟨F, p, vs, x, by rw [e], s, hp, pr, z, fun l ws nl pw => q _ F _ [l] (xo_fresh s nl) ⟨by rw [srt_len]; exact z, l, ws, rfl, rfl, upd_same, pw⟩⟩⟩
end
end Wf
namespace Wf
open PySem L2
mutual
theorem Lp.mono {F G : Hp} (s : Same F G) : ∀ {v : V} {d : PyData}, Lp F v d → Lp G v d
  | _, _, .non => .non
  | _, _, .bl b => .bl b
  | _, _, .int b => .int b
  | _, _, .str b n => .str b n
  | _, _, .lst h q => .lst (s _ _ h) (LpAll.mono s q)
  | _, _, .tup h q => .tup (s _ _ h) (LpAll.mono s q)
theorem LpAll.mono {F G : Hp} (s : Same F G) : ∀ {v : List V} {d : List PyData}, LpAll F v d → LpAll G v d
  | _, _, .nil => .nil
  | _, _, .cons h q => .cons (Lp.mono s h) (LpAll.mono s q)
end
def rP : Rp PyData := ⟨Lp, fun s h => h.mono s⟩
mutual
theorem Lp.dp {K : PySem.W.Frag} {F H : Hp} (s : Same F (Vw H)) : ∀ {v : V} {d : PyData}, Lp F v d → Dp K H v d ∧ d.canLay0 = true
  | _, _, .non => ⟨.non, by simp [PyData.canLay0]⟩
  | _, _, .bl b => ⟨.bl b, by simp [PyData.canLay0]⟩
  | _, _, .int b => ⟨.int b, by simp [PyData.canLay0]⟩
  | _, _, .str b n => ⟨.str b, by simp [PyData.canLay0, niceS_ok n]⟩
  | _, _, .lst h q => ⟨.lst (.inl (rd_of (s _ _ h))) (LpAll.dp s q).1, by simpa [PyData.canLay0] using (LpAll.dp (K := K) s q).2⟩
  | _, _, .tup h q => ⟨.tup (.inl (rd_of (s _ _ h))) (LpAll.dp s q).1, by simpa [PyData.canLay0] using (LpAll.dp (K := K) s q).2⟩
theorem LpAll.dp {K : PySem.W.Frag} {F H : Hp} (s : Same F (Vw H)) : ∀ {v : List V} {d : List PyData}, LpAll F v d → DpAll K H v d ∧ PyData.canLayAll0 d = true
  | _, _, .nil => ⟨.nil, by simp [PyData.canLayAll0]⟩
  | _, _, .cons h q => ⟨.cons (Lp.dp s h).1 (LpAll.dp s q).1, by simp [PyData.canLayAll0, (Lp.dp (K := K) s h).2, (LpAll.dp (K := K) s q).2]⟩
end
theorem LpAll.prd {F : Hp} : ∀ {v : List V} {d : List PyData}, LpAll F v d → Paired (Lp F) v d
  | _, _, .nil => .nil
  | _, _, .cons h q => .cons h q.prd
def tyN : PyData → String
  | .none => "NoneType"
  | .bool _ => "bool"
  | .int _ => "int"
  | .str _ => "str"
  | .list _ => "list"
  | .tuple _ => "tuple"
  | .dict _ => "dict"
/-- the classes that are asked for -/
def isN (t n : String) : Bool := t == n || (n == "int" && t == "bool")
def isA (d : PyData) (n : String) : Bool := isN (tyN d) n
theorem ty_lp {K : PySem.W.Frag} {F H : Hp} (s : Same F (Vw H)) {v : V} {d : PyData} (h : Lp F v d) : TyX K H v (.type (tyN d)) := by
  cases h with
  | non => exact .base .non
  | bl b => exact .base (.bl b)
  | int i => exact .base (.int i)
  | str x _ => exact .base (.str x)
  | lst h _ =>
    rcases rd_of (s _ _ h) with q | ⟨o, q⟩
    · exact .base (.lst q)
    · exact .base (.frz q)
  | tup h _ => exact .base (.tup (tup_of (s _ _ h)))
def okN : List String := ["tuple", "list", "bool", "int", "str"]
def tyNs : List String := ["NoneType", "bool", "int", "str", "list", "tuple", "dict"]
theorem ty_in (d : PyData) : tyN d ∈ tyNs := by cases d <;> simp [tyN, tyNs]
theorem kit_all : ∀ t ∈ tyNs, ∀ n ∈ okN, kitB t n = some (isN t n) := by decide +kernel
theorem kit_isA (d : PyData) {n : String} (h : n ∈ okN) : kitB (tyN d) n = some (isA d n) := kit_all _ (ty_in d) _ h
theorem isN_f : ∀ t ∈ tyNs, t ≠ "tuple" → t ≠ "list" → isN t "tuple" = false ∧ isN t "list" = false := by decide +kernel
theorem isA_f {d : PyData} (h1 : tyN d ≠ "tuple") (h2 : tyN d ≠ "list") : isA d "tuple" = false ∧ isA d "list" = false := isN_f _ (ty_in d) h1 h2
def rC : Rp String := ⟨fun _ v x => v = .ty x, fun _ h => h⟩
section
variable {X : Cx} {Γ : Gm} {P : Program} {w : World} {K : PySem.W.Frag} {mg : Str → Option Value} {base : Heap} {N : List Str} {sc : Scope} {k : Nat} {dd : Bool}
variable {α β γ : Type} {R : Rp α} {R2 : Rp β} {a b : Expr} {p pos : Pos}
theorem xm_cls (C : Ctx X P w K mg base N sc k dd) (hf : Free mg) {n : Str} {T : String} (hv : bootBuiltins n = some (.type T)) (hg : gloB sc n = true := by decide +kernel) (hm : decide (n ∈ bnames) = true := by decide +kernel)
    (hn : n ≠ "__name__" := by decide +kernel) (hdb : (n == ("__debug__" : Str)) = false := by decide +kernel) : XM X Γ (.Name n pos) (fz rC) (.ok T) := fun σ F H D g en Q W tk q =>
  (pe_bltn (v := .ty T) (C.gl hg) (by rw [C.mg]; exact hf.at_ hm) hv rfl hn hdb).wp (q _ F H (.refl g.fh) rfl)
def COk (_ : PyData) (n : String) : Prop := n ∈ okN
instance {d : PyData} {n : String} : Decidable (COk d n) := inferInstanceAs (Decidable (_ ∈ _))
def COk2 (_ : PyData) (n : String × String) : Prop := n.1 ∈ okN ∧ n.2 ∈ okN
instance {d : PyData} {n : String × String} : Decidable (COk2 d n) := inferInstanceAs (Decidable (_ ∧ _))
def CDep (d e : PyData) : Prop := d.depth ≤ 64 ∧ e.depth ≤ 64
instance {d e : PyData} : Decidable (CDep d e) := inferInstanceAs (Decidable (_ ∧ _))
theorem c_isi : C2Q X (.builtin "isinstance") (fz rP) (fz rC) rB COk isA :=
  ⟨_, call_isi, fun F H v u d n s r1 r2 hn Q q => by
    cases r2
    exact ⟨v, .ty n, _, _, isA d n, rfl, .ty n, ty_lp s r1, kit_ty (kit_isA d hn), q _ F H (.refl s) rfl⟩⟩
theorem c_isi2 : C2Q X (.builtin "isinstance") (fz rP) (fz (rT (wc rC (w1 rC)))) rB COk2 (fun d n => isA d n.1 || isA d n.2) :=
  ⟨_, call_isiT, fun F H v u d n s r1 ⟨p, vs, e, hp, v1, r, ev, e1, v2, er, e2⟩ hn Q q => by
    subst e ev er
    cases e1
    cases e2
    refine ⟨v, p, [.ty n.1, .ty n.2], _, _, isA d n.1 || isA d n.2, rfl, tup_of (s _ _ hp), .cons (.ty _) (.cons (.ty _) .nil), ty_lp s r1, ?_, q _ F H (.refl s) rfl⟩
    refine kitAny_cons (kit_ty (kit_isA d hn.1)) (fun h => ?_) fun h => by rw [h]; rfl
    refine kitAny_cons (kit_ty (kit_isA d hn.2)) (fun h2 => ?_) fun h2 => by rw [h, h2]; rfl
    rw [h, h2]; rfl⟩
theorem lp_non {F : Hp} {v : V} {d : PyData} (h : Lp F v d) : decide (v = .non) = (tyN d == "NoneType") := by
  cases h with
  | non => decide +kernel
  | bl b => exact (decide_eq_false (fun e => nomatch e)).trans (by decide +kernel : false = ("bool" == "NoneType"))
  | int b => exact (decide_eq_false (fun e => nomatch e)).trans (by decide +kernel : false = ("int" == "NoneType"))
  | str b _ => exact (decide_eq_false (fun e => nomatch e)).trans (by decide +kernel : false = ("str" == "NoneType"))
  | lst _ _ => exact (decide_eq_false (fun e => nomatch e)).trans (by decide +kernel : false = ("list" == "NoneType"))
  | tup _ _ => exact (decide_eq_false (fun e => nomatch e)).trans (by decide +kernel : false = ("tuple" == "NoneType"))
theorem o_isNP : OpQ X (compareOp .Is) (fz rP) (fz rN) rB always (fun d _ => tyN d == "NoneType") :=
  ⟨_, op_isN, fun F H v u x y s r1 r2 _ Q q => ⟨r2, q _ F H (.refl s) (by show V.bl _ = V.bl _; rw [lp_non r1])⟩⟩
theorem o_eqP (C : Ctx X P w K mg base N sc k dd) : OpQ X (compareOp .Eq) (fz rP) (fz rP) rB CDep (fun x y => PyData.eqv x y) :=
  ⟨_, op_eqD C.room.units, fun F H v u x y s r1 r2 hd Q q => by
    obtain ⟨h1, h2⟩ := Lp.dp (K := X.K) s r1
    obtain ⟨h3, h4⟩ := Lp.dp (K := X.K) s r2
    exact ⟨x, y, h1, h3, shaped_of h2 hd.1, shaped_of h4 hd.2, q _ F H (.refl s) rfl⟩⟩
/-- what a list or a tuple holds -/
def kids : PyData → List PyData
  | .list xs => xs
  | .tuple xs => xs
  | _ => []
def isSeq (d : PyData) : Prop := isA d "tuple" = true ∨ isA d "list" = true
instance : DecidablePred isSeq := fun d => inferInstanceAs (Decidable (_ ∨ _))
theorem not_seq {d : PyData} (h1 : tyN d ≠ "tuple") (h2 : tyN d ≠ "list") (q : isSeq d) : False := by
  have h := isA_f h1 h2
  rcases q with q | q
  · rw [h.1] at q; cases q
  · rw [h.2] at q; cases q
theorem seqL {d : PyData} (h : isA d "list" = true) : ∃ xs, d = .list xs := by
  cases d with
  | list xs => exact ⟨xs, rfl⟩
  | none => exact absurd h (show ¬ isN "NoneType" "list" = true by decide +kernel)
  | bool b => exact absurd h (show ¬ isN "bool" "list" = true by decide +kernel)
  | int b => exact absurd h (show ¬ isN "int" "list" = true by decide +kernel)
  | str b => exact absurd h (show ¬ isN "str" "list" = true by decide +kernel)
  | tuple b => exact absurd h (show ¬ isN "tuple" "list" = true by decide +kernel)
  | dict b => exact absurd h (show ¬ isN "dict" "list" = true by decide +kernel)
theorem seqT {d : PyData} (h : isA d "tuple" = true) : ∃ xs, d = .tuple xs := by
  cases d with
  | tuple xs => exact ⟨xs, rfl⟩
  | none => exact absurd h (show ¬ isN "NoneType" "tuple" = true by decide +kernel)
  | bool b => exact absurd h (show ¬ isN "bool" "tuple" = true by decide +kernel)
  | int b => exact absurd h (show ¬ isN "int" "tuple" = true by decide +kernel)
  | str b => exact absurd h (show ¬ isN "str" "tuple" = true by decide +kernel)
  | list b => exact absurd h (show ¬ isN "list" "tuple" = true by decide +kernel)
  | dict b => exact absurd h (show ¬ isN "dict" "tuple" = true by decide +kernel)
theorem lp_seq {K : PySem.W.Frag} {F H : Hp} (s : Same F (Vw H)) {v : V} {d : PyData} (h : Lp F v d) (q : isSeq d) : ∃ a vs, v = .ref a ∧ Paired (Lp F) vs (kids d) ∧ (SqL K H a vs ∨ SqT K H a vs) := by
  cases h with
  | lst h p => exact ⟨_, _, rfl, p.prd, .inl (.inl (rd_of (s _ _ h)))⟩
  | tup h p => exact ⟨_, _, rfl, p.prd, .inr (.inl (rd_of (s _ _ h)))⟩
  | non => exact (not_seq (d := .none) (by decide +kernel) (by decide +kernel) q).elim
  | bl b => exact (not_seq (d := .bool b) (show "bool" ≠ _ by decide +kernel) (show "bool" ≠ _ by decide +kernel) q).elim
  | int b => exact (not_seq (d := .int b) (show "int" ≠ _ by decide +kernel) (show "int" ≠ _ by decide +kernel) q).elim
  | str b _ => exact (not_seq (d := .str b) (show "str" ≠ _ by decide +kernel) (show "str" ≠ _ by decide +kernel) q).elim
theorem len_lp : C1Q X (.builtin "len") (fz rP) rI isSeq (fun d => ((kids d).length : Int)) :=
  ⟨_, call_len, fun F H v x s r hq Q q => by
    obtain ⟨a, vs, rfl, pr, h⟩ := lp_seq (K := X.K) s r hq
    refine ⟨_, (kids x).length, rfl, ?_, q _ F H (.refl s) rfl⟩
    rw [← pr.length]
    exact h.imp (fun h => ⟨vs, h, rfl⟩) fun h => ⟨vs, h, rfl⟩⟩
instance : Inhabited PyData := ⟨.none⟩
def CIxL (d : PyData) (i : Int) : Prop := isA d "list" = true ∧ inR (kids d) i
def CIxT (d : PyData) (i : Int) : Prop := isA d "tuple" = true ∧ inR (kids d) i
theorem ix_lpL : IxQ X (fz rP) (fz rI) rP CIxL (fun d i => ix (kids d) i) :=
  ⟨_, ix_list, fun F H v u x y s r1 r2 hi Q k => by
    obtain ⟨xs, rfl⟩ := seqL hi.1
    cases r1 with
    | lst h p =>
      obtain ⟨w', e1, g⟩ := at_pair p.prd hi.2
      exact ⟨_, _, y, w', rfl, r2, .inl (rd_of (s _ _ h)), e1, k _ F H (.refl s) g⟩⟩
theorem ix_lpT : IxQ X (fz rP) (fz rI) rP CIxT (fun d i => ix (kids d) i) :=
  ⟨_, ix_tup, fun F H v u x y s r1 r2 hi Q k => by
    obtain ⟨xs, rfl⟩ := seqT hi.1
    cases r1 with
    | tup h p =>
      obtain ⟨w', e1, g⟩ := at_pair p.prd hi.2
      exact ⟨_, _, y, w', rfl, r2, .inl (rd_of (s _ _ h)), e1, k _ F H (.refl s) g⟩⟩
theorem xm_lp [d : Dat R] {m : R0 α} (h : XM X Γ a (fz R) m) : XM X Γ a (fz rP) (m.bind fun x => .ok (d.enc x)) := xm_map d.enc (fun _ _ _ r => d.lp r) h
end
/-! ### what _law_same answers -/
mutual
def sm : PyData → PyData → Bool
  | .tuple xs, .tuple ys => smA xs ys
  | .list xs, .list ys => smA xs ys
  | .none, .none => true
  | .bool a, .bool b => a == b
  | .int a, .int b => a == b
  | .str a, .str b => a == b
  | _, _ => false
def smA : List PyData → List PyData → Bool
  | [], [] => true
  | x :: xs, y :: ys => sm x y && smA xs ys
  | _, _ => false
end
theorem smA_len : ∀ {xs ys : List PyData}, smA xs ys = true → xs.length = ys.length
  | [], [], _ => rfl
  | [], _ :: _, h => by simp [smA] at h
  | _ :: _, [], h => by simp [smA] at h
  | x :: xs, y :: ys, h => by
    simp only [smA, Bool.and_eq_true] at h
    rw [List.length_cons, List.length_cons, smA_len h.2]
theorem smA_iff : ∀ {xs ys : List PyData}, xs.length = ys.length → (smA xs ys = true ↔ ∀ i : Nat, i < ys.length → sm (ix xs i) (ix ys i) = true)
  | [], [], _ => ⟨fun _ i h => by simp at h, fun _ => by simp [smA]⟩
  | [], _ :: _, h => by simp at h
  | _ :: _, [], h => by simp at h
  | x :: xs, y :: ys, h => by
    have ih := smA_iff (xs := xs) (ys := ys) (by simpa using h)
    simp only [smA, Bool.and_eq_true, ih]
    have at0 : ∀ (z : PyData) zs, ix (z :: zs) (0 : Nat) = z := fun z zs => by simp [ix, atI, ixN]
    have atS : ∀ (z : PyData) (zs : List PyData) (i : Nat), i < zs.length → ix (z :: zs) ((i + 1 : Nat) : Int) = ix zs (i : Int) := fun z zs i hi => by
      unfold ix
      rw [atI_nat (v := zs[i]) (by simp [hi]), atI_nat (v := zs[i]) (by simp [hi])]
    have hl : xs.length = ys.length := by simpa using h
    constructor
    · rintro ⟨h1, h2⟩ i hi
      cases i with
      | zero => rw [at0, at0]; exact h1
      | succ i =>
        have hi' : i < ys.length := by simpa using hi
        rw [atS _ _ _ (by omega), atS _ _ _ hi']
        exact h2 i hi'
    · intro h0
      refine ⟨?_, fun i hi => ?_⟩
      · have := h0 0 (by simp)
        rw [at0, at0] at this
        exact this
      · have := h0 (i + 1) (by simpa using hi)
        rw [atS _ _ _ (by omega), atS _ _ _ hi] at this
        exact this
/-- on data of one kind it is equality -/
class Sm {α : Type} (R : Rp α) [d : Dat R] : Prop where
  eq : ∀ x y, sm (d.enc x) (d.enc y) = true ↔ x = y
class SmW {α : Type} (T : Rw α) [d : DatW T] : Prop where
  eq : ∀ x y, smA (d.enc x) (d.enc y) = true ↔ x = y
section
variable {α β : Type} {R : Rp α}
theorem sm_dec [d : Dat R] [s : Sm R] [DecidableEq α] (x y : α) : sm (d.enc x) (d.enc y) = decide (x = y) := by
  by_cases e : x = y
  · rw [decide_eq_true e]; exact (s.eq x y).mpr e
  · rw [decide_eq_false e]
    cases h : sm (d.enc x) (d.enc y) with
    | false => rfl
    | true => exact absurd ((s.eq x y).mp h) e
instance : Sm rI := ⟨fun x y => by simp [Dat.enc, sm]⟩
instance : Sm rB := ⟨fun x y => by simp [Dat.enc, sm]⟩
instance : Sm rS := ⟨fun x y => by simp [Dat.enc, sm]⟩
instance : Sm rN := ⟨fun x y => by simp [Dat.enc, sm]⟩
class SomeS (R : Rp α) [d : Dat R] : Prop where
  l : ∀ x, sm .none (d.enc x) = false
  r : ∀ x, sm (d.enc x) .none = false
instance : SomeS rI := ⟨fun x => by simp [Dat.enc, sm], fun x => by simp [Dat.enc, sm]⟩
instance : SomeS rB := ⟨fun x => by simp [Dat.enc, sm], fun x => by simp [Dat.enc, sm]⟩
instance : SomeS rS := ⟨fun x => by simp [Dat.enc, sm], fun x => by simp [Dat.enc, sm]⟩
instance {T : Rw α} [d : DatW T] : SomeS (rT T) := ⟨fun x => by simp [Dat.enc, sm], fun x => by simp [Dat.enc, sm]⟩
instance [d : Dat R] : SomeS (rL R) := ⟨fun x => by simp [Dat.enc, sm], fun x => by simp [Dat.enc, sm]⟩
instance [d : Dat R] : SomeS (rV R) := ⟨fun x => by simp [Dat.enc, sm], fun x => by simp [Dat.enc, sm]⟩
instance [d : Dat R] [n : Some' R] [s : Sm R] [o : SomeS R] : Sm (rO R) := ⟨fun x y => by
  cases x with
  | none => cases y with
    | none => simp [Dat.enc, sm]
    | some y => simpa [Dat.enc] using o.l y
  | some x => cases y with
    | none => simpa [Dat.enc] using o.r x
    | some y => simpa [Dat.enc] using s.eq x y⟩
theorem smA_map [d : Dat R] [s : Sm R] : ∀ xs ys : List α, smA (xs.map d.enc) (ys.map d.enc) = true ↔ xs = ys
  | [], [] => by simp [smA]
  | [], _ :: _ => by simp [smA]
  | _ :: _, [] => by simp [smA]
  | x :: xs, y :: ys => by simp only [List.map_cons, smA, Bool.and_eq_true, s.eq, smA_map xs ys, List.cons.injEq]
instance [d : Dat R] [s : Sm R] : Sm (rL R) := ⟨fun x y => by simpa [Dat.enc, sm] using smA_map (R := R) x y⟩
instance [d : Dat R] [s : Sm R] : Sm (rV R) := ⟨fun x y => by simpa [Dat.enc, sm] using smA_map (R := R) x y⟩
instance [d : Dat R] [s : Sm R] : SmW (w1 R) := ⟨fun x y => by simp [DatW.enc, smA, s.eq]⟩
instance {T : Rw β} [d : Dat R] [s : Sm R] [e : DatW T] [t : SmW T] : SmW (wc R T) := ⟨fun x y => by
  simp only [DatW.enc, smA, Bool.and_eq_true, s.eq, t.eq]
  exact ⟨fun h => Prod.ext h.1 h.2, fun h => by rw [h]; exact ⟨rfl, rfl⟩⟩⟩
instance {T : Rw α} [d : DatW T] [s : SmW T] : Sm (rT T) := ⟨fun x y => by simpa [Dat.enc, sm] using s.eq x y⟩
end
end Wf
namespace Wf
open PySem L2
def rZ : Rp Int := ⟨fun _ v x => v = .int x ∧ x ≤ 16777216 ∧ 0 ≤ x, fun _ h => h⟩
theorem upTo_get {n : Int} {i : Nat} {x : Int} (h : (upTo n)[i]? = some x) : x = i ∧ (i : Int) < n := by
  unfold upTo at h
  rw [List.getElem?_map] at h
  cases q : (List.range n.toNat)[i]? with
  | none => rw [q] at h; cases h
  | some z =>
    have hi : i < n.toNat := by have := (List.getElem?_eq_some_iff.mp q).1; simpa using this
    rw [List.getElem?_range hi] at q
    cases q
    rw [List.getElem?_range hi] at h
    have : (i : Int) = x := by simpa using h
    exact ⟨this.symm, by omega⟩
theorem upTo_len (n : Int) : (upTo n).length = n.toNat := by simp [upTo]
theorem fromTo_get {a b : Int} {i : Nat} {x : Int} (h : (fromTo a b)[i]? = some x) : x = a + i ∧ a + (i : Int) < b := by
  unfold fromTo at h
  rw [List.getElem?_map] at h
  cases q : (List.range (b - a).toNat)[i]? with
  | none => rw [q] at h; cases h
  | some z =>
    have hi : i < (b - a).toNat := by have := (List.getElem?_eq_some_iff.mp q).1; simpa using this
    rw [List.getElem?_range hi] at h
    have : a + (i : Int) = x := by simpa using h
    exact ⟨this.symm, by omega⟩
theorem fromTo_len (a b : Int) : (fromTo a b).length = (b - a).toNat := by simp [fromTo]
theorem Wk.set {Γ Γ' : Gm} (h : Wk Γ Γ') (s : Slot) : ∀ j : Nat, Wk (Γ.set j s) (Γ'.set j s) := by
  induction h with
  | nil => intro j; exact .nil
  | @same t _ _ _ ih => intro j; cases j with
    | zero => exact .same (by assumption)
    | succ j => exact .same (ih j)
  | @any t _ _ _ ih => intro j; cases j with
    | zero => exact .same (by assumption)
    | succ j => exact .any (ih j)
section
variable {X : Cx} {Γ : Gm} {P : Program} {w : World} {K : PySem.W.Frag} {mg : Str → Option Value} {base : Heap} {N : List Str} {sc : Scope} {k : Nat} {dd : Bool}
variable {α δ γ κ : Type} {R : Rp α} {R1 : Rp α} {R2 : Rp δ} {R3 : Rp γ} {x : α} {y : δ} {a b c e : Expr} {p p1 p2 p3 pos : Pos}
variable {tg : Expr}
theorem call_lenZ : CallR X (.builtin "len") (fun xs H Q => ∃ x n, xs = [x] ∧ ((∃ a ys, x = .ref a ∧ (SqL X.K H a ys ∨ SqT X.K H a ys) ∧ n = (ys.length : Int))) ∧ (n ≤ 16777216 → Q (.int n) H)) := by
  intro pins s σ H xs us Q I r h
  obtain ⟨x, n, rfl, ⟨a, ys, rfl, hs, rfl⟩, q⟩ := h
  have hz : ys.length ≤ sizeLine := by
    rcases hs with h | h
    · obtain ⟨_, _, _, z⟩ := I.list h; exact z
    · obtain ⟨_, _, _, z⟩ := I.tuple h; exact z
  have hz2 : sizeLine = 16777216 := sizeLine_eq
  exact call_len pins s σ H _ us Q I r ⟨.ref a, ys.length, rfl, hs.imp (fun h => ⟨ys, h, rfl⟩) (fun h => ⟨ys, h, rfl⟩), q (by omega)⟩
theorem lenZ_lp : C1Q X (.builtin "len") (fz rP) rZ isSeq (fun d => ((kids d).length : Int)) :=
  ⟨_, call_lenZ, fun F H v x s r hq Q q => by
    obtain ⟨a, vs, rfl, pr, h⟩ := lp_seq (K := X.K) s r hq
    exact ⟨_, (kids x).length, rfl, ⟨a, vs, rfl, h, by rw [pr.length]⟩, fun hz => q _ F H (.refl s) ⟨rfl, hz, by omega⟩⟩⟩
theorem xi_rangeZ (C : Ctx X P w K mg base N sc k dd) (hf : Free mg) {m : R0 Int} (ha : XM X Γ a (fz rZ) m) (hg : gloB sc "range" = true := by decide +kernel) (hs : starEach [a] X.env = [(false, eval a X.env)] := by rfl) : XI X Γ tg (.Call (.Name "range" p) [a] [] pos) rI (m.bind fun n => .ok (upTo n)) := by
  refine ⟨_, pi_range1 (C.gl hg) (by rw [C.mg]; exact hf.at_ (by decide +kernel)) (pa_cons (pe_ a) pa_nil hs) hs, fun σ F H D g en R' W tk q => ha σ F H D g en _ W tk ?_⟩
  cases m with
  | bad => exact q
  | ex ε u => exact q
  | ok n =>
    intro v F1 H1 g1 r
    refine ⟨n, by rw [r.1], ?_, ?_, q _ F1 H1 g1 ?_⟩
    · have := r.2.2
      have h2 : (2:Int) ^ 62 = 4611686018427387904 := by decide
      omega
    · have := r.2.1
      have h2 : (2:Int) ^ 62 = 4611686018427387904 := by decide
      omega
    · have := itr_rng (K := X.K) (lo := 0) (n := n.toNat) (F1 := F1)
      simpa [upTo] using this
end
section
variable {X : Cx}
def CIxP (d : PyData) (i : Int) : Prop := isSeq d ∧ inR (kids d) i
instance {d : PyData} {i : Int} : Decidable (CIxP d i) := inferInstanceAs (Decidable (_ ∧ _))
theorem ix_lp : IxQ X (fz rP) (fz rI) rP CIxP (fun d i => ix (kids d) i) := by
  obtain ⟨r1, h1, g1⟩ := (ix_lpL (X := X)).ex
  obtain ⟨r2, h2, g2⟩ := (ix_lpT (X := X)).ex
  refine ⟨fun x y H Q => r1 x y H Q ∨ r2 x y H Q, fun va sl pins s σ H x y v u Q I rx ry h => h.elim (h1 va sl pins s σ H x y v u Q I rx ry) (h2 va sl pins s σ H x y v u Q I rx ry), fun F H v u x y s a b hi Q q => ?_⟩
  rcases hi.1 with h | h
  · exact .inr (g2 F H v u x y s a b ⟨h, hi.2⟩ Q q)
  · exact .inl (g1 F H v u x y s a b ⟨h, hi.2⟩ Q q)
end
end Wf
/-! sorted(xs, key=lambda x: ..), the key ints of the item's places. -/
namespace Wf
open PySem PySem.Spec PySem.Calls PyProof.Rows L2
/-- a body of a key's function: of the item's values it gives the data d, nothing that stood changes -/
def KeyRun (n : Str) (body : Expr) (kk : List Value → PyData → Prop) : Prop := ∀ (prog : Program) (w : World) (A : Around) (E : Value → Shared → Prop) (env : PySem.Env) (s : Shared) (m : Str → Option Value) (t : Addr) (its : List Value) (d : PyData),
  env.scope.kind = .function → env.kindOf n = some .local → s.heap.Ns env.locals m → m n = some (.ref t) → IsTup s.heap t its.toArray → its.length ≤ 1000 → kk its d →
  ∀ Q : Value → Shared → Prop, (∀ v h' tk, (∀ b o, s.heap.get? b = some o → h'.get? b = some o) → Reads h' v d [] → Q v { s with heap := h', toks := tk }) → wpAny (model prog w) A (eval body env) Q E s
section
variable {prog : Program} {w : World} {A : Around} {E : Value → Shared → Prop} {env : PySem.Env} {s : Shared} {m : Str → Option Value} {t : Addr} {its : List Value} {n : Str}
theorem key_at {i j : Nat} {p1 p2 p3 : Pos} {v : Value} {Q : Value → Shared → Prop} (hk : env.scope.kind = .function) (hl : env.kindOf n = some .local) (hn : s.heap.Ns env.locals m) (hm : m n = some (.ref t)) (ht : IsTup s.heap t its.toArray) (hz : its.length ≤ 1000)
    (hi : its[i]? = some v) (hd : (n == ("__debug__" : Str)) = false) (q : Q v { s with toks := s.toks + 1 }) : wpAny (model prog w) A (eval (.Subscript (.Name n p1) (.Constant (.int (i : Int)) j p2) p3) env) Q E s := by
  refine Subscript_ (wpAny_Name (wpAny_loadName_local hk hl hn hm ?_) hd)
  refine wpAny_Constant_int ?_
  have hlt : i < its.length := (List.getElem?_eq_some_iff.mp hi).1
  refine item_tupleL (s := { s with toks := s.toks + 1 }) ht (by omega) (by omega) (j := i) ?_ hi q
  simp only [seqIndex?]
  rw [if_neg (show ¬ ((i : Int) < 0) by omega), if_pos (by rw [decide_eq_true (show (0 : Int) ≤ i by omega), decide_eq_true (show (i : Int) < its.length by omega)]; rfl)]
  simp
def kk1 (i : Nat) (its : List Value) (d : PyData) : Prop := ∃ a t, its[i]? = some (.int a t) ∧ d = .int a
def kk2 (i j : Nat) (its : List Value) (d : PyData) : Prop := ∃ a t b u, its[i]? = some (.int a t) ∧ its[j]? = some (.int b u) ∧ d = .tuple [.int a, .int b]
theorem kr1 {i j : Nat} {p1 p2 p3 : Pos} (hd : (n == ("__debug__" : Str)) = false := by decide +kernel) : KeyRun n (.Subscript (.Name n p1) (.Constant (.int (i : Int)) j p2) p3) (kk1 i) := by
  intro prog w A E env s m t its d hk hl hn hm ht hz ⟨a, t', hi, e⟩ Q q
  subst e
  exact key_at hk hl hn hm ht hz hi hd (q (.int a t') s.heap _ (fun _ _ h => h) (.int a t'))
theorem kr2 {i j k1 k2 k3 : Nat} {p1 p2 p3 p4 p5 p6 p7 : Pos} (hd : (n == ("__debug__" : Str)) = false := by decide +kernel) :
    KeyRun n (.Tuple [.Subscript (.Name n p1) (.Constant (.int (i : Int)) k1 p2) p3, .Subscript (.Name n p4) (.Constant (.int (j : Int)) k2 p5) p6] k3 p7) (kk2 i j) := by
  intro prog w A E env s m t its d hk hl hn hm ht hz ⟨a, t1, b, t2, hi, hj, e⟩ Q q
  subst e
  refine wpAny_Tuple_spliced (spliced_cons ?_)
  refine key_at hk hl hn hm ht hz hi hd ?_
  refine spliced_cons (key_at (s := { s with toks := s.toks + 1 }) hk hl hn hm ht hz hj hd (spliced_nil ?_))
  refine ⟨Nat.le_trans (show 2 ≤ 1000 by decide) (by decide), q _ _ _ (fun b o e => Heap.get?_push_of_some _ e) ?_⟩
  exact .tuple (Heap.get?_push_size _ rfl) rfl rfl (.cons (.int a t1) (.cons (.int b t2) .nil))
end
/-- the lambda's names: its parameter alone, and globals -/
structure LamK (scope : Scope) (n : Str) : Prop where
  kind : scope.kind = .function
  co : scope.isCoroutine = false
  gen : scope.isGenerator = false
  own : scope.names.lookup n = some .local
  nocell : ∀ y ∈ scope.names, y.2 ≠ .cell ∧ y.2 ≠ .free
def lamKB (scope : Scope) (n : Str) : Bool := decide (scope.kind = .function) && !scope.isCoroutine && !scope.isGenerator && decide (scope.names.lookup n = some .local) && scope.names.all fun y => !decide (y.2 = .cell) && !decide (y.2 = .free)
theorem lamK_by {scope : Scope} {n : Str} (h : lamKB scope n = true) : LamK scope n := by
  unfold lamKB at h
  simp only [Bool.and_eq_true, Bool.not_eq_true', decide_eq_true_eq, decide_eq_false_iff_not, List.all_eq_true] at h
  obtain ⟨⟨⟨⟨h1, h2⟩, h3⟩, h4⟩, h5⟩ := h
  exact ⟨h1, h2, h3, h4, h5⟩
section
variable {X : Cx} {Γ : Gm} {P : Program} {w : World} {K : PySem.W.Frag} {mg : Str → Option Value} {base : Heap} {N : List Str} {sc : Scope} {k : Nat} {dd : Bool}
variable {α : Type} {T : Rw α} {e : Expr} {p pos lpos kpos : Pos} {n : Str} {params : Arguments} {body : Expr} {scope : Scope} {te : TE} {c PT : Addr} {key : α → PyData} {kk : List Value → PyData → Prop}
def tSK (X : Cx) (T : Rw α) (key : α → PyData) (te : TE) : TE := fun σ H Q => te σ H fun v H1 => ∃ (F : Hp) (l : Addr) (vs : List V) (zs : List α), [v] = [V.ref l] ∧ Same F (Vw H1) ∧ Rd H1 l (.lst vs) ∧ Paired ((rT T).ok F) vs zs ∧ zs.length ≤ sizeLine ∧ LamX.Tabs (TabF X.K) H1 ∧
  ∀ H2, LamX.ExtN H1 H2 → LamX.Tabs (TabF X.K) H2 → ∀ p ws, H2 p = none → Paired ((rT T).ok F) ws (zs.mergeSort (PySem.W.dataLe false key)) → Q (.ref p) (upd H2 p (.lst ws))
/-- where a lambda is made: the def's code object and its table -/
structure LamAt (X : Cx) (c PT : Addr) : Prop where
  TB : LamX.TabB X.base X.mg c PT
  code : X.env.code = .ref c
  mem : (PT, X.env.qual ++ "<lambda>") ∈ TabF X.K
  uni : ∀ p ∈ TabF X.K, p.1 = PT → p.2 = X.env.qual ++ "<lambda>"
theorem pe_sortKey (hcalm : X.calm = true) (hg : Gl X "sorted") (hm : X.mg "sorted" = none) (he : PE X e te) (LA : LamAt X c PT) (L : LamK scope n) (hdef : defaultsOf params X.env = ([], []))
    (hbind : ∀ (q : Str) (cl : List (Str × Addr)) (pm cv ctv u : Value), bindArgs (PySem.W.kla_fn "<lambda>" q params body scope cl pm cv ctv) ⟨[u], []⟩ = pure [(n, u)]) (KR : KeyRun n body kk)
    (hkk : ∀ F vs x its, T.ok F vs x → Vals vs its → its.length ≤ 1000 ∧ kk its (key x)) (al : ∀ a b, PySem.W.alike (key a) (key b) = true) (srt' : ∀ bs : List α, PySem.W.Sortable (bs.map key)) (dep : ∀ x, (key x).depth ≤ 10)
    (hu : X.A.units + 64 < cLine) (hroom : X.A.depth + 10 < recursionLimit) (hst : starEach [e] X.env = (false, eval e X.env) :: starEach [] X.env := by rfl) :
    PE X (.Call (.Name "sorted" p) [e] [⟨some "key", .Lambda params body scope lpos, kpos⟩] pos) (tSK X T key te) := by
  refine ⟨fun pins s σ H Q I h => ?_⟩
  refine wpAny_Call_Name_kw (ld_blt I hg hm boot_sorted ?_ (by decide +kernel) (by decide +kernel))
  refine PyProof.Rows.callWith_kw (thn ((pa_cons he pa_nil hst).run pos pins s σ H (fun vs0 H1 => ∃ (F : Hp) (l : Addr) (vs : List V) (zs : List α), vs0 = [V.ref l] ∧ Same F (Vw H1) ∧ Rd H1 l (.lst vs) ∧ Paired ((rT T).ok F) vs zs ∧ zs.length ≤ sizeLine ∧ LamX.Tabs (TabF X.K) H1 ∧ ∀ H2, LamX.ExtN H1 H2 → LamX.Tabs (TabF X.K) H2 → ∀ p ws, H2 p = none → Paired ((rT T).ok F) ws (zs.mergeSort (PySem.W.dataLe false key)) → Q (.ref p) (upd H2 p (.lst ws))) I h) fun us s1 ⟨vs0, H1, I1, r1, q1⟩ => ?_) (by rw [hst]; rfl) (by rw [hst]; rfl) (by rfl) (by rfl)
  obtain ⟨F, l, vs, zs, e1, fS, hp, pr, hz, hT, q⟩ := q1
  subst e1
  rw [Vals.ref1 r1]
  show wpAny _ _ (evalAll [(do let v ← eval (.Lambda params body scope lpos) X.env; standAt pos; pure v)]) _ _ _
  refine wpAny_evalAll_cons (wpAny_bind (LamX.lam_make2 I1 LA.TB LA.code LA.mem LA.uni hT hdef (fun y hy z => absurd z (L.nocell y hy).2) fun f c' pm ctv H2 s2 I2 eN T2 hf hfn hfr hco => wpAny_bind (wpAny_standAt (wpAny_pure (wpAny_evalAll_nil ?_)))))
  show wpAny _ _ (call (.builtin "sorted") [.ref l] [(Str.ofString "key", .ref f)]) _ _ _
  have hp2 : Rd H2 l (.lst vs) := by
    rcases hp with z | ⟨o, z⟩
    · exact .inl (eN _ _ z (by intro _ z; cases z))
    · exact .inr ⟨o, eN _ _ z (by intro _ z; cases z)⟩
  have f2 : Same F (Vw H2) := fS.trans (keptN.vw (fun b o hb t => eN b o hb t))
  obtain ⟨its, rv, pl, _⟩ := I2.list (.inl hp2)
  refine PySem.W.sorted_key_data (R := RV (rT T) F) (b := false) (vs := its) (bs := zs) key pl.isList (each_rv rv pr) (PySem.W.AllAlike.of al) (srt' zs) hz (fun x _ => ?_) (PyProof.Rows.ksk_s1 _ _) (fun x => PyProof.Rows.ksk_l1 _ _) (fun x => PyProof.Rows.ksk_t1 _ _) ?_ ?_
  · have := dep x
    omega
  · rintro v x ⟨v', hv, tp, tvs, ev, htp, tok⟩ hx h tk kp
    subst ev
    cases (show v = Value.ref tp from hv)
    have I3 : Inv X pins σ H2 { s2 with heap := h, toks := tk } := I2.kept kp
    obtain ⟨tits, trv, tpl, _⟩ := I3.tuple (a := tp) (.inl (.inl (tup_of (f2 _ _ htp))))
    obtain ⟨hl, hk⟩ := hkk F tvs x tits tok trv
    obtain ⟨⟨oc, ovs, t, hoc, hdc, hvc⟩, _, _⟩ := I2.hok c' _ hco
    refine wpAny_call (PySem.W.kla_callFunE (s := { s2 with heap := h, toks := tk }) ?_ (kp _ _ hf) rfl L.co L.gen rfl ⟨c', oc, ovs, t, rfl, kp _ _ hoc, hdc, hvc⟩ ?_)
    · show X.A.in1.in1.depth < recursionLimit
      have : X.A.in1.in1.depth = X.A.depth := rfl
      omega
    · rw [hbind]
      refine wpAny_pure (wpAny_newFunctionEnv (fun y hy => (L.nocell y hy).1) (fun y hy => ?_) (fun h₁ hns hsb => ⟨I3.nolimit.fresh _ hsb, ?_⟩) L.kind)
      · obtain rfl : y = (n, Value.ref tp) := by simpa using hy
        exact L.own
      · have kp1 : ∀ b o, h.get? b = some o → h₁.get? b = some o := fun b o e => hsb.extBut b o (Nat.ne_of_lt (Heap.lt_size e)) (Heap.get?_push_of_some _ e)
        refine PySem.W.kla_codeExpr ?_
        refine KR X.prog X.w _ _ (newEnv scope h.objs.size mainGlobals (cloFrom X.env.cells scope.names []) _ (some f) (.ref c') none builtinsNs) { s2 with heap := h₁, toks := tk + 1 } _ tp tits (key x) L.kind L.own hns ?_ (tpl.keeps kp1) hl hk _ fun v' h' tk' kp2 rd => ?_
        · simp [List.lookup]
        · exact ⟨h', tk', rfl, fun b o e => kp2 b o (kp1 b o e), rd⟩
  · intro out cc h' tk kp fresh hD hl eo
    obtain ⟨ws, w1, w2⟩ := rv_each eo
    have hw : ws.length ≤ sizeLine := by rw [w1.length, hl]; exact hz
    have nf : H2 (s2.heap.objs.size + 1) = none := I2.hok.fresh (Nat.le_succ _)
    exact ⟨.ref _, upd H2 (s2.heap.objs.size + 1) (.lst ws), I2.laid (t' := tk) kp (Nat.le_succ _) (show ObjOk X.prog X.w _ _ _ (.lst ws) from ⟨hw, out, cc, w1, hD⟩), rfl, q H2 eN T2 _ ws nf w2⟩
end
end Wf
/-! sorted(xs, key=lambda ..) and sorted(d.items()) as rules of the layer. -/
namespace Wf
open PySem L2
section
variable {X : Cx} {Γ : Gm} {P : Program} {w : World} {K : PySem.W.Frag} {mg : Str → Option Value} {base : Heap} {N : List Str} {sc : Scope} {k : Nat} {dd : Bool}
variable {α κ : Type} {R : Rp α} {T : Rw α} {e : Expr} {p pos lpos kpos apos cpos : Pos} {n : Str} {params : Arguments} {body : Expr} {scope : Scope} {c PT : Addr} {key : α → PyData} {kk : List Value → PyData → Prop}
theorem xmo_sortKey (C : Ctx X P w K mg base N sc k dd) (hf : Free mg) (key : α → PyData) (kk : List Value → PyData → Prop) (n : Str) {m : R0 (List α)} (he : XM X Γ e (bL (rT T)) m) (LA : LamAt X c PT) (L : lamKB scope n = true) (KR : KeyRun n body kk)
    (hkk : ∀ F vs x its, T.ok F vs x → Vals vs its → its.length ≤ 1000 ∧ kk its (key x)) (al : ∀ a b, PySem.W.alike (key a) (key b) = true) (srt' : ∀ bs : List α, PySem.W.Sortable (bs.map key)) (dep : ∀ x, (key x).depth ≤ 10)
    (hroom : X.A.depth + 10 < recursionLimit) (hdef : defaultsOf params X.env = ([], []) := by rfl)
    (hbind : ∀ (q : Str) (cl : List (Str × Addr)) (pm cv ctv u : Value), bindArgs (PySem.W.kla_fn "<lambda>" q params body scope cl pm cv ctv) ⟨[u], []⟩ = pure [(n, u)] := by intro _ _ _ _ _ _; rfl)
    (hg : gloB sc "sorted" = true := by decide +kernel) (hst : starEach [e] X.env = (false, eval e X.env) :: starEach [] X.env := by rfl) :
    XMO X Γ (.Call (.Name "sorted" p) [e] [⟨some "key", .Lambda params body scope lpos, kpos⟩] pos) (oL (rT T)) (m.bind fun xs => .ok (xs.mergeSort (PySem.W.dataLe false key))) := by
  have hu := C.hu65
  intro σ F H D g en Q W tk q
  refine (pe_sortKey C.calm (C.gl hg) (by rw [C.mg]; exact hf.at_ (by decide +kernel)) (pe_ e) LA (lamK_by L) hdef hbind KR hkk al srt' dep (by omega) hroom hst).wp (he σ F H D g en _ W tk ?_)
  cases m with
  | bad => exact q
  | ex ε u => exact q
  | ok xs =>
    intro v F1 H1 g1 ⟨hz, l, vs, ev, hp, pr⟩
    refine ⟨F1, l, vs, xs, by rw [ev], g1.fh, hp, pr, hz, g1.tb g.tb, fun H2 eN T2 p ws np pw => ?_⟩
    have kN : keptN H1 H2 := fun b o hb t => eN b o hb t
    have gr : Grow X.K F1 H1 F1 H2 := ⟨.refl _, g1.fh.trans kN.vw, kN, fun b ⟨o, hb, t⟩ => ⟨o, kN b o hb t, t⟩, fun _ h _ => h, fun _ => T2⟩
    have st := (Step.of (Good.nil g.fh g.tb) (g1.trans gr)).trans (xo_fresh (o := .lst ws) gr.fh np)
    exact q _ F1 _ [p] st ⟨by rw [List.length_mergeSort]; exact hz, p, ws, rfl, rfl, upd_same, pw⟩
/-! ### sorted(d.items()) -/
abbrev rSI : Rp (Str × Int) := rT (wc rS (w1 rI))
def tSI (te : TE) : TE := fun σ H Q => te σ H fun v H1 => ∃ (F : Hp) (d : Addr) (vs : List (Key × V)) (xs : List (Str × Int)), v = .ref d ∧ Same F (Vw H1) ∧ Rd H1 d (.dK vs) ∧ Paired (fun (a : Key × V) (b : Str × Int) => a.1 = kS.f b.1 ∧ kS.nice b.1 ∧ rI.ok F a.2 b.2) vs xs ∧ xs.length ≤ sizeLine ∧
  ∀ (H2 F' : Hp) (l : Addr) (ws : List V), (∀ b o, H1 b = some o → H2 b = some o) → (∀ b o, F b = some o → F' b = some o) → (∀ b o, F' b = some o → F b = some o ∨ (H1 b = none ∧ H2 b = some o ∧ ∃ ys, o = .tup ys)) → H1 l = none → H2 l = some (.lst ws) → (∀ ps, H2 l ≠ some (.tup ps)) →
    Paired (rSI.ok F') ws (srt rSI xs) → Q (.ref l) H2
theorem each_of_pairs {as : List Addr} {xs : List (Str × Int)} {G : Value → Str × Int → Prop} (hl : as.length = xs.length) (h : ∀ (j : Nat) (a : Addr) (x : Str × Int), as[j]? = some a → xs[j]? = some x → G (.ref a) x) : PySem.W.EachIs G (as.map Value.ref) xs := by
  induction as generalizing xs with
  | nil => cases xs with
    | nil => exact .nil
    | cons _ _ => simp at hl
  | cons a as ih => cases xs with
    | nil => simp at hl
    | cons x xs => exact .cons (h 0 a x rfl rfl) (ih (by simpa using hl) fun j b y h1 h2 => h (j + 1) b y (by simpa using h1) (by simpa using h2))
/-- e.items() -/
theorem mt_itemsK : MtR X "dict.items" (fun x xs H Q => ∃ (a : Addr) (kvs : List (Key × V)), x = .ref a ∧ xs = [] ∧ Rd H a (.dK kvs) ∧ ∀ p, H p = none → Q (.ref p) (upd H p (L2.DX.itemsO p a))) := by
  intro pins s σ H x xs v us Q I rx rxs h
  obtain ⟨a, kvs, rfl, rfl, ha, q⟩ := h
  cases rx
  cases rxs
  obtain ⟨_, hs0, vs, kv, hdo⟩ := (show ObjOk X.prog X.w H s.heap a (.dK kvs) from ha.ok I.hok)
  obtain ⟨o, es, ep, ho, hx, hdat, _⟩ := hdo
  refine DT.callItems (es := es) (ep := ep) hs0 ⟨o, ho, hx, hdat⟩ ?_
  have hf : H s.heap.objs.size = none := I.hok.fresh (Nat.le_refl _)
  exact ⟨.ref s.heap.objs.size, upd H s.heap.objs.size (L2.DX.itemsO s.heap.objs.size a), I.laid (t' := s.toks) (fun b u e => Heap.get?_push_of_some _ e) (Nat.le_refl _) (L2.DX.itemsO_ok (Heap.get?_push_size _ rfl)), rfl, q _ hf⟩
theorem each_to {β : Type} {G : Value → β → Prop} {G' : V → β → Prop} (h : ∀ v b, G v b → ∃ w, RelV w v ∧ G' w b) : ∀ {out : List Value} {bs : List β}, PySem.W.EachIs G out bs → ∃ ws, Vals ws out ∧ Paired G' ws bs
  | _, _, .nil => ⟨[], .nil, .nil⟩
  | _, _, .cons g t => by
    obtain ⟨w, h1, h2⟩ := h _ _ g
    obtain ⟨ws, h3, h4⟩ := each_to h t
    exact ⟨w :: ws, .cons h1 h3, .cons h2 h4⟩
theorem pairs_len {P : Program} {w : World} {K' : Type} [DecidableEq K'] {knd : KeyKind P w K'} {es : List DictEntry} {kvs : List (K' × Value)} (h : Pairs knd es kvs) : es.length = kvs.length := by
  induction h with
  | nil => rfl
  | cons _ _ _ ih => rw [List.length_cons, List.length_cons, ih]
theorem pairs_at {P : Program} {w : World} {K' : Type} [DecidableEq K'] {knd : KeyKind P w K'} {es : List DictEntry} {kvs : List (K' × Value)} (h : Pairs knd es kvs) : ∀ {j : Nat} {e : DictEntry} {z : K' × Value}, es[j]? = some e → kvs[j]? = some z → knd.is z.1 e.key = true ∧ e.val = z.2 := by
  induction h with
  | nil => intro j e z h; simp at h
  | cons a b _ ih =>
    intro j e z h1 h2
    cases j with
    | zero =>
      simp at h1 h2
      subst h1 h2
      exact ⟨a, b⟩
    | succ j => exact ih (by simpa using h1) (by simpa using h2)
theorem cr_sortedItemsK (hc : X.calm = true) (hu : X.A.units + 64 < cLine) : CallR X (.builtin "sorted") (fun us H Q => ∃ (F : Hp) (r d : Addr) (vs : List (Key × V)) (xs : List (Str × Int)), us = [.ref r] ∧ H r = some (L2.DX.itemsO r d) ∧ Same F (Vw H) ∧ Rd H d (.dK vs) ∧ Paired (fun (a : Key × V) (b : Str × Int) => a.1 = kS.f b.1 ∧ kS.nice b.1 ∧ rI.ok F a.2 b.2) vs xs ∧ xs.length ≤ sizeLine ∧
    ∀ (H2 F' : Hp) (l : Addr) (ws : List V), (∀ b o, H b = some o → H2 b = some o) → (∀ b o, F b = some o → F' b = some o) → (∀ b o, F' b = some o → F b = some o ∨ (H b = none ∧ H2 b = some o ∧ ∃ ys, o = .tup ys)) → H l = none → H2 l = some (.lst ws) → Paired (rSI.ok F') ws (srt rSI xs) → Q (.ref l) H2) := by
  intro pins s σ H us uv Q I rr h
  obtain ⟨F, r, d, vs, xs, rfl, hr, fS, hd, pr, hz, q⟩ := h
  rw [Vals.ref1 rr]
  have view : s.heap.IsItemsView r d := (show ObjOk X.prog X.w H s.heap r (L2.DX.itemsO r d) from I.hok r _ hr).1
  obtain ⟨_, _, kvs, kv, hdo⟩ := (show ObjOk X.prog X.w H s.heap d (.dK vs) from hd.ok I.hok)
  obtain ⟨o, es, ep, ho, hx, hdat, hks, hps, _⟩ := hdo
  have lk : vs.length = kvs.length := Paired.length kv
  have lx : vs.length = xs.length := pr.length
  have le : es.size = kvs.length := by
    have := pairs_len hps
    simpa using this
  have hh : X.A.handled = none := I.ok.hd hc
  refine DT.sortedI (es := es) (ep := ep) hh view ⟨o, ho, hx, hdat⟩ (by omega) fun h' tk as hk hlt hl hG => ?_
  have la : as.length = xs.length := by omega
  -- what stands at the tuples
  have at_ : ∀ (j : Nat) (a : Addr) (x : Str × Int), as[j]? = some a → xs[j]? = some x → ∃ kt it, h'.get? a = some { cls := .type "tuple", data := .seq #[Value.str x.1 kt, Value.int x.2 it] } ∧ niceS x.1 = true := by
    intro j a x h1 h2
    obtain ⟨en, e1, e3⟩ := hG.pairs j a h1
    have hj : j < vs.length := by rw [lx]; exact (List.getElem?_eq_some_iff.mp h2).1
    obtain ⟨y, hy, p1, p2, p3⟩ := pr.get (List.getElem?_eq_getElem hj)
    rw [h2] at hy; cases hy
    obtain ⟨z, hz', z1, z2⟩ := (show Paired _ vs kvs from kv).get (List.getElem?_eq_getElem hj)
    obtain ⟨e2, e4⟩ := pairs_at hps (j := j) (by rw [Array.getElem?_toList]; exact e1) hz'
    have p1 : vs[j].1 = Sum.inr x.1 := p1
    have z1 : vs[j].1 = z.1 := z1
    generalize en.key = key at e2 e3
    generalize z.1 = k at z1 e2
    rw [e4] at e3
    generalize z.2 = u at z2 e3
    have rk : RelV (kV k) key := relV_key (show keyIs k key = true from e2)
    rw [← z1, p1] at rk
    obtain ⟨kt, rfl⟩ : ∃ kt, key = Value.str x.1 kt := rk
    have p3 : vs[j].2 = .int x.2 := p3
    have z2 : RelV vs[j].2 u := z2
    rw [p3] at z2
    obtain ⟨it, rfl⟩ : ∃ it, u = Value.int x.2 it := z2
    exact ⟨kt, it, e3, p2⟩
  have hob : (h'.push { cls := .type "list", data := .seq (as.map Value.ref).toArray }).get? h'.objs.size = some (PyProof.Rows.seqObj "list" (as.map Value.ref).toArray 0) := Heap.get?_push_size _ rfl
  have alt : ∀ a ∈ as, a < h'.objs.size := fun a ha => hG.there ha
  have rds : PySem.W.EachIs (fun v (b : Str × Int) => ∃ ad, Reads (h'.push { cls := .type "list", data := .seq (as.map Value.ref).toArray }) v (Dat.enc rSI b) ad ∧ h'.objs.size ∉ ad) (as.map Value.ref) xs := each_of_pairs la fun j a x h1 h2 => by
    obtain ⟨kt, it, e, _⟩ := at_ j a x h1 h2
    exact ⟨[], .tuple (Heap.get?_push_of_some _ e) rfl rfl (.cons (.str x.1 kt) (.cons (.int x.2 it) .nil)), by simp⟩
  have ebs : PySem.W.EachIs (fun v (b : Str × Int) => ∃ a ∈ as, v = .ref a ∧ ∃ kt it, h'.get? a = some { cls := .type "tuple", data := .seq #[Value.str b.1 kt, Value.int b.2 it] } ∧ niceS b.1 = true) (as.map Value.ref) xs := each_of_pairs la fun j a x h1 h2 => ⟨a, List.mem_of_getElem? h1, rfl, at_ j a x h1 h2⟩
  refine wpAny_mono (PySem.W.list_sort_data (s := { s with heap := h'.push { cls := .type "list", data := .seq (as.map Value.ref).toArray }, toks := tk }) (enc := Dat.enc rSI) hob ebs rds (PySem.W.AllAlike.of fun a b => Ord'.al (R := rSI) a b) (PySem.W.Sortable.tuples fun b => ⟨_, _, rfl⟩) hz (Q := fun _ s' => EP X pins σ Q (.ref h'.objs.size) s') (fun b _ => ?_) fun out ho eo => ?_) (fun _ _ z => z) fun _ _ z => z
  · have h1 : (Dat.enc rSI b).depth ≤ 10 := Nat.le_trans (Dat.depth (R := rSI) b) (by decide)
    show X.A.units + 1 + 1 + (Dat.enc rSI b).depth < cLine
    omega
  · show EP X pins σ Q (.ref h'.objs.size) _
    -- the heap behind
    generalize hf : PyProof.Rows.sortedHeap (h'.push { cls := .type "list", data := .seq (as.map Value.ref).toArray }) h'.objs.size (as.map Value.ref) (List.toArray out) = hF
    obtain ⟨ee, hB⟩ := PyProof.Rows.sortedHeap_at (out := List.toArray out) hob
    rw [hf] at hB
    have kp1 : ∀ b o, h'.get? b = some o → hF.get? b = some o := fun b o e => by
      rw [← hf, PyProof.Rows.sortedHeap_old (Nat.ne_of_lt (Heap.lt_size e)) (Nat.lt_trans (Heap.lt_size e) (Heap.lt_size hob))]
      exact Heap.get?_push_of_some _ e
    have kp : ∀ b o, s.heap.get? b = some o → hF.get? b = some o := fun b o e => kp1 b o (hk b o e)
    have I1 : Inv X pins σ H { s with heap := hF, toks := tk } := I.kept kp
    have nd : as.Nodup := List.Pairwise.imp (fun {a b} (h : a < b) => Nat.ne_of_lt h) hG.rise
    have nA : ∀ a ∈ as, H a = none := fun a ha => I.hok.fresh (Nat.le_of_lt (hG.above a ha))
    have szB : s.heap.objs.size ≤ h'.objs.size := Nat.le_of_lt hlt
    have nB : H h'.objs.size = none := I.hok.fresh szB
    obtain ⟨ws, w1, w2⟩ := each_to (G' := fun (w : V) (b : Str × Int) => ∃ a ∈ as, w = .ref a ∧ (∃ kt it, h'.get? a = some { cls := .type "tuple", data := .seq #[Value.str b.1 kt, Value.int b.2 it] }) ∧ niceS b.1 = true) (fun v b ⟨a, ha, e, kt, it, e2, ni⟩ => ⟨.ref a, by rw [e]; rfl, a, ha, rfl, ⟨kt, it, e2⟩, ni⟩) eo
    have hw : ws.length ≤ sizeLine := by rw [w1.length, ho]; exact hz
    have IB : Inv X pins σ (upd H h'.objs.size (.lst ws)) { s with heap := hF, toks := tk } := I1.take (t' := tk) (fun b ob _ e => e) (I.fpOk szB nB) ⟨hw, out, ee, w1, hB⟩
    have Bn : h'.objs.size ∉ as := fun z => Nat.lt_irrefl _ (alt _ z)
    obtain ⟨H2, I2, g2, t2⟩ := L2.DX.takeT (P := fun a ys => ∃ x : Str × Int, ys = [.str x.1, .int x.2] ∧ niceS x.1 = true ∧ (∃ kt it, h'.get? a = some { cls := .type "tuple", data := .seq #[Value.str x.1 kt, Value.int x.2 it] })) I as (upd H h'.objs.size (.lst ws)) IB nd fun a ha => by
      obtain ⟨j, hj⟩ := List.mem_iff_getElem?.mp ha
      have hjx : j < xs.length := by rw [← la]; exact (List.getElem?_eq_some_iff.mp hj).1
      obtain ⟨kt, it, e, ni⟩ := at_ j a xs[j] hj (List.getElem?_eq_getElem hjx)
      refine ⟨Nat.le_of_lt (hG.above a ha), by rw [upd_ne (fun z => Bn (by rw [← z]; exact ha))]; exact nA a ha, _, ⟨xs[j], rfl, ni, kt, it, e⟩, fun H2 => ⟨Nat.le_trans (show 2 ≤ 1000 by decide) (by decide), [Value.str xs[j].1 kt, Value.int xs[j].2 it], .cons ⟨kt, rfl⟩ (.cons ⟨it, rfl⟩ .nil), _, kp1 _ _ e, rfl, 0, rfl⟩⟩
    have gH : ∀ b o, H b = some o → H2 b = some o := fun b o e => g2 b o (by rw [upd_ne (ne_of_none e nB)]; exact e)
    refine ⟨.ref _, H2, I2, rfl, q H2 (fun b => if b ∈ as then H2 b else F b) h'.objs.size ws gH (fun b o e => ?_) (fun b o e => ?_) nB (g2 _ _ upd_same) ?_⟩
    · rw [if_neg (fun hb => of_vw (fS b o e) (nA b hb))]; exact e
    · by_cases hb : b ∈ as
      · rw [if_pos hb] at e
        obtain ⟨ys, _, ey⟩ := t2 b hb
        rw [ey] at e
        cases e
        exact .inr ⟨nA b hb, ey, ys, rfl⟩
      · rw [if_neg hb] at e; exact .inl e
    · refine Paired.mapP w2 fun w b ⟨a, ha, ew, ⟨kt, it, e1⟩, ni⟩ => ?_
      obtain ⟨ys, ⟨x, e2, _, kt2, it2, e3⟩, ey⟩ := t2 a ha
      rw [e1] at e3
      have e4 : #[Value.str b.1 kt, Value.int b.2 it] = #[Value.str x.1 kt2, Value.int x.2 it2] := by
        have := congrArg Obj.data (Option.some.inj e3)
        injection this
      have e5 : b.1 = x.1 ∧ b.2 = x.2 := by
        have e6 : (b.1 = x.1 ∧ kt = kt2) ∧ b.2 = x.2 ∧ it = it2 := by simpa using e4
        exact ⟨e6.1.1, e6.2.1⟩
      refine ⟨a, ys, ew, (if_pos ha).trans ey, .str x.1, [.int x.2], e2, ⟨by rw [e5.1], ni⟩, .int x.2, rfl, ?_⟩
      show V.int x.2 = V.int b.2
      rw [e5.2]
/-- sorted(d.items()), d one's own -/
theorem xmo_sortItems (C : Ctx X P w K mg base N sc k dd) (hf : Free mg) (i : Nat) {n : Str} {p1 : Pos} {d : List (Str × Int)} (hsl : Γ[i]? = some (.res (oK kS rI) d) := by rfl) (hv : visB sc n = true := by decide +kernel) (hN : N[i]? = some n := by rfl) (hg : gloB sc "sorted" = true := by decide +kernel)
    (hd : (n == ("__debug__" : Str)) = false := by decide +kernel) (hcd : (n == ("__classdict__" : Str)) = false := by decide +kernel)
    (hbase : attributeBase (.Name n p1) "items" X.env (eval (.Name n p1) X.env) = eval (.Name n p1) X.env := by rfl) (hline : (apos.endLine == cpos.line) = true := by rfl)
    (hs : starEach [.Call (.Attribute (.Name n p1) "items" apos) [] [] cpos] X.env = (false, eval (.Call (.Attribute (.Name n p1) "items" apos) [] [] cpos) X.env) :: starEach [] X.env := by rfl) :
    XMO X Γ (.Call (.Name "sorted" p) [.Call (.Attribute (.Name n p1) "items" apos) [] [] cpos] [] pos) (oL rSI) (.ok (srt rSI d)) := by
  have hu := C.hu65
  intro σ F H D g en Q W tk q
  obtain ⟨D1, o, h1, sb, v, h3, hz, pd, vs, ev, hD, hp, pr⟩ := en.get hsl
  subst h3 ev
  refine (pe_callB (cr_sortedItemsK C.calm (by omega)) (C.gl hg) (by rw [C.mg]; exact hf.at_ (by decide +kernel)) boot_sorted (pa_cons (pe_bm0 PySem.F.plainAttrs_dict PySem.F.slot_dict_items PySem.F.type_dict_items mt_itemsK (pe_var (i := i) (by rw [C.N]; exact hN) (C.vis hv) hd hcd) hbase hline) pa_nil hs) (by decide +kernel) (by decide +kernel) hs).wp ?_
  refine ⟨_, h1, .inr (.inr (.inl ⟨rfl, .inl ⟨vs, hp⟩⟩)), pd, vs, rfl, rfl, .inl hp, fun r nr => ?_⟩
  have np : ∀ b o, H b = some o → upd H r (L2.DX.itemsO r pd) b = some o := fun b o e => by rw [upd_ne (ne_of_none e nr)]; exact e
  have g1 : Grow X.K F H F (upd H r (L2.DX.itemsO r pd)) := Grow.made g.fh nr (by intro _ z; cases z)
  refine ⟨F, r, pd, vs, d, rfl, upd_same, g1.fh, .inl (np _ _ hp), pr, hz, fun H2 F' l ws k1 k2 k3 nl hl pw => ?_⟩
  have nH : H l = none := by
    cases z : H l with
    | none => rfl
    | some o => rw [np _ _ z] at nl; cases nl
  have nF' : F' l = none := by
    cases z : F' l with
    | none => rfl
    | some o =>
      rcases k3 _ _ z with z | ⟨_, z2, ys, e⟩
      · exact absurd (g.fh _ _ z) (by unfold Vw; rw [nH]; intro z; cases z)
      · rw [hl, e] at z2; cases z2
  have fv : Same F' (Vw H2) := fun b o e => by
    rcases k3 _ _ e with z | ⟨_, z2, ys, e2⟩
    · have := g1.fh _ _ z
      unfold Vw at this ⊢
      cases q : upd H r (L2.DX.itemsO r pd) b with
      | none => rw [q] at this; cases this
      | some u => rw [q] at this; rw [k1 _ _ q]; exact this
    · subst e2
      exact Vw_of z2 (by intro _ _ z; cases z) (by intro _ z; cases z)
  refine q _ F' H2 [l] ⟨fun b o e => k2 b o e, fv, fun b o e _ _ => k1 b o (np b o e), fun b ⟨o, e, t⟩ => ⟨o, k1 b o (np b o e), t⟩, fun b h1 h2 _ => ?_, by simp, fun b hb => ?_, fun b hb => ?_, fun b hb o e => ?_, fun b hb => ?_, fun t => t.ext fun b o e => k1 b o (np b o e)⟩ ⟨by rw [srt_len]; exact hz, l, ws, rfl, rfl, hl, pw⟩
  · cases z : F' b with
    | none => rfl
    | some o =>
      rcases k3 _ _ z with z | ⟨z1, _⟩
      · rw [h1] at z; cases z
      · obtain ⟨u, e, _⟩ := h2
        rw [np _ _ e] at z1; cases z1
  all_goals (obtain rfl : b = l := by simpa using hb)
  · exact nF'
  · exact ⟨_, hl, by intro _ z; cases z⟩
  · rw [hl] at e; cases e; intro _ z; cases z
  · exact .inr (Th.no nH)
end
end Wf
/-! Views, dict equality, options, walks. -/
namespace Wf
open PySem L2
section
variable {X : Cx} {Γ : Gm} {P : Program} {w : World} {K : PySem.W.Frag} {mg : Str → Option Value} {base : Heap} {N : List Str} {sc : Scope} {k : Nat} {dd : Bool}
variable {α δ γ κ : Type} {R : Rp α} {R1 : Rp α} {R2 : Rp δ} {R3 : Rp γ} {x : α} {y : δ} {a b c e : Expr} {p p1 p2 p3 pos : Pos}

/-! ### reading what is one's own as if it stood still -/
/-- what is one's own is of kinds without tuples of their own -/
def Imt (o : HO) : Prop := (∃ vs, o = .tup vs) ∨ (∃ fs, o = .xd fs) ∨ ∃ w u, o = .frz w u
class OwnK {α : Type} (A : Rs α) : Prop where
  no : ∀ {F H : Hp} {D : List Addr} {v : V} {x : α}, A.ok F H D v x → ∀ p ∈ D, ∀ o, Imt o → H p ≠ some o
instance : OwnK (oL R) := ⟨fun ⟨_, p, vs, _, d, h, _⟩ q hq o t z => by
  subst d
  obtain rfl : q = p := by simpa using hq
  rw [h] at z
  rcases t with ⟨_, rfl⟩ | ⟨_, rfl⟩ | ⟨_, _, rfl⟩ <;> cases z⟩
instance {A : KF κ} : OwnK (oK A R) := ⟨fun ⟨_, p, vs, _, d, h, _⟩ q hq o t z => by
  subst d
  obtain rfl : q = p := by simpa using hq
  rw [h] at z
  rcases t with ⟨_, rfl⟩ | ⟨_, rfl⟩ | ⟨_, _, rfl⟩ <;> cases z⟩
instance {A : KT' κ} : OwnK (oKT A R) := ⟨fun ⟨_, p, vs, _, d, h, _⟩ q hq o t z => by
  subst d
  obtain rfl : q = p := by simpa using hq
  rw [h] at z
  rcases t with ⟨_, rfl⟩ | ⟨_, rfl⟩ | ⟨_, _, rfl⟩ <;> cases z⟩
inductive OwnG : Gm → Prop
  | nil : OwnG []
  | any {Γ : Gm} : OwnG Γ → OwnG (.any :: Γ)
  | is {α : Type} {R : Rp α} {x : α} {Γ : Gm} : OwnG Γ → OwnG (.is R x :: Γ)
  | res {α : Type} {A : Rs α} {x : α} {Γ : Gm} : OwnK A → OwnG Γ → OwnG (.res A x :: Γ)
theorem OwnG.no {F H : Hp} : ∀ {Γ : Gm} {D : List Addr} {σ : St}, OwnG Γ → Env F H D Γ σ → ∀ p ∈ D, ∀ o, Imt o → H p ≠ some o
  | [], _, _, _, ⟨d, _⟩, p, hp, o, t => by subst d; cases hp
  | _ :: _, _, [], _, h, _, _, _, _ => h.elim
  | .any :: Γ, D, o :: σ, .any g, ⟨D1, D2, e, h1, h2⟩, p, hp, u, t => by
    cases (show D1 = [] from h1)
    exact OwnG.no g h2 p (by rw [e] at hp; simpa using hp) u t
  | .is _ _ :: Γ, D, o :: σ, .is g, ⟨D1, D2, e, h1, h2⟩, p, hp, u, t => by
    obtain ⟨d, _⟩ := h1
    cases d
    exact OwnG.no g h2 p (by rw [e] at hp; simpa using hp) u t
  | .res _ _ :: Γ, D, o :: σ, .res k g, ⟨D1, D2, e, h1, h2⟩, p, hp, u, t => by
    obtain ⟨v, _, ok⟩ := h1
    rw [e] at hp
    rcases List.mem_append.mp hp with z | z
    · exact k.no ok p z u t
    · exact OwnG.no g h2 p z u t
/-- what is behind a view, told of the frozen heap of before -/
theorem back_view {F H F' H' : Hp} {D : List Addr} (og : ∀ p ∈ D, ∀ o, Imt o → H p ≠ some o) (g : Good X.K F H D) (a : Grow X.K (ovl F H D) H F' H') :
    ∃ F1, Grow X.K F H F1 H' ∧ (∀ p o, Imt o → F' p = some o → F1 p = some o) ∧ ∀ p o, F1 p = some o → F' p = some o := by
  obtain ⟨s1, s2⟩ := g.ovl
  refine ⟨fun p => if p ∈ D then none else F' p, ⟨fun p o e => ?_, fun p o e => ?_, a.hh, a.hn, fun p h1 h2 => ?_, a.tb⟩, fun p u t e => ?_, fun p o e => ?_⟩
  · have hp : p ∉ D := fun hp => by rw [g.dF p hp] at e; cases e
    rw [if_neg hp]
    exact a.ff _ _ (by rw [ovl_out hp]; exact e)
  · by_cases hp : p ∈ D
    · rw [if_pos hp] at e; cases e
    · rw [if_neg hp] at e; exact a.fh p o e
  · by_cases hp : p ∈ D
    · rw [if_pos hp]
    · rw [if_neg hp]
      exact a.new p (by rw [ovl_out hp]; exact h1) h2
  · have hp : p ∉ D := fun hp => by
      have h1 := a.fh p _ e
      obtain ⟨o, ho, t'⟩ := g.dH p hp
      have hu : H' p = some u ∨ ∃ w, H' p = some (.frz w u) := rd_of h1
      rw [a.hh p o ho t'] at hu
      rcases hu with z | ⟨w, z⟩
      · exact og p hp u t (by rw [ho]; exact z)
      · cases z
        exact og p hp (.frz w u) (.inr (.inr ⟨w, u, rfl⟩)) ho
    exact (if_neg hp).trans e
  · by_cases hp : p ∈ D
    · rw [show (fun p => if p ∈ D then none else F' p) p = none from if_pos hp] at e; cases e
    · rw [show (fun p => if p ∈ D then none else F' p) p = F' p from if_neg hp] at e; exact e
theorem ExV.mono {mg : Str → Option Value} {ε : Err} {c : Value} {d : Option Addr} {F G : Hp} (h : ExV mg ε c d F) (s : ∀ p fs, F p = some (.xd fs) → G p = some (.xd fs)) : ExV mg ε c d G := by
  obtain ⟨h1, h2⟩ := h
  refine ⟨h1, ?_⟩
  revert h2
  cases ε.fs with
  | nil => exact id
  | cons a r => exact fun ⟨p, e, q⟩ => ⟨p, e, s p _ q⟩
theorem xm_view {m : R0 α} [i : Imm R] (og : OwnG Γ) (h : XM X (view Γ) e (fz R) m) : XM X Γ e (fz R) m := by
  intro σ F H D g en Q W tk q
  refine h σ (ovl F H D) H [] (.nil g.ovl.2 g.tb) (g.view en) Q W tk ?_
  cases m with
  | bad => exact q
  | ex ε u =>
    intro c d F' H' g' ev
    obtain ⟨F1, g1, ts, _⟩ := back_view (og.no en) g g'
    exact q c d F1 H' g1 (ev.mono fun p fs => ts p _ (.inr (.inl ⟨fs, rfl⟩)))
  | ok x =>
    intro v F' H' g' r
    obtain ⟨F1, g1, ts, _⟩ := back_view (og.no en) g g'
    exact q v F1 H' g1 (i.all (fun p vs => ts p _ (.inl ⟨vs, rfl⟩)) r)

theorem xmt_view {m : R0 Bool} (og : OwnG Γ) (h : XMT X (view Γ) e m) : XMT X Γ e m := by
  intro σ F H D g en Q W tk q
  refine h σ (ovl F H D) H [] (.nil g.ovl.2 g.tb) (g.view en) Q W tk ?_
  cases m with
  | bad => exact q
  | ex ε u =>
    intro c d F' H' g' ev
    obtain ⟨F1, g1, ts, _⟩ := back_view (og.no en) g g'
    exact q c d F1 H' g1 (ev.mono fun p fs => ts p _ (.inr (.inl ⟨fs, rfl⟩)))
  | ok x =>
    intro F' H' g'
    obtain ⟨F1, g1, ts, _⟩ := back_view (og.no en) g g'
    exact q F1 H' g1
/-- .. a new list of data without lists -/
theorem xmo_view {m : R0 (List α)} [i : Imm R] (og : OwnG Γ) (h : XMO X (view Γ) e (oL R) m) : XMO X Γ e (oL R) m := by
  intro σ F H D g en Q W tk q
  refine h σ (ovl F H D) H [] (.nil g.ovl.2 g.tb) (g.view en) Q W tk ?_
  cases m with
  | bad => exact q
  | ex ε u =>
    intro c d F' H' g' ev
    obtain ⟨F1, g1, ts, _⟩ := back_view (og.no en) g g'
    exact q c d F1 H' g1 (ev.mono fun p fs => ts p _ (.inr (.inl ⟨fs, rfl⟩)))
  | ok x =>
    rintro v F' H' D' a ⟨hz, p, vs, ev, rfl, hp, pr⟩
    obtain ⟨F1, g1, ts, tb⟩ := back_view (og.no en) g a.grow
    have nF : F1 p = none := by
      cases z : F1 p with
      | none => rfl
      | some u =>
        have h1 := tb _ _ z
        rw [a.dF p (by simp)] at h1; cases h1
    refine q v F1 H' [p] ⟨g1.ff, g1.fh, a.keep, a.dom, fun b h1 h2 _ => g1.new b h1 h2, a.nd, fun b hb => ?_, a.dH, a.dT, a.dN, a.tb⟩ ⟨hz, p, vs, ev, rfl, hp, imm_prd (fun p vs => ts p _ (.inl ⟨vs, rfl⟩)) pr⟩
    obtain rfl : b = p := by simpa using hb
    exact nF

/-! ### options of one's own -/
def oO (A : Rs α) : Rs (Option α) where
  ok := fun F H D v x => match x with | none => D = [] ∧ v = .non | some y => A.ok F H D v y
  rd := rO A.rd
  frame := fun {F H D v x F' H'} s k h => by cases x with
    | none => exact h
    | some y => exact A.frame s k h
  read := fun {F H D v x G} k s h => by cases x with
    | none => exact h.2
    | some y => exact A.read k s h
instance {A : Rs α} [o : OwnK A] : OwnK (oO A) := ⟨fun {F H D v x} h p hp => by
  cases x with
  | none => obtain ⟨d, _⟩ := h; subst d; cases hp
  | some y => exact o.no (A := A) h p hp⟩
section
variable {β τ : Type} {J : τ → Post} {Γx : β → Gm} {Kt : Gm → Res β τ → Prop} {bb : β} {sts : List Stmt}
theorem Env.imp {F H : Hp} {s s' : Slot} (h : ∀ D o, s.ok F H D o → s'.ok F H D o) : ∀ {D : List Addr} {Γ : Gm} {σ : St} (i : Nat), Γ[i]? = some s → Env F H D Γ σ → Env F H D (Γ.set i s') σ
  | _, [], _, _, e, _ => by simp at e
  | _, _ :: _, [], _, _, q => q.elim
  | _, t :: Γ, o :: σ, 0, e, ⟨D1, D2, ed, q, r⟩ => by
    obtain rfl : t = s := by simpa using e
    exact ⟨D1, D2, ed, h _ _ q, r⟩
  | _, t :: Γ, o :: σ, i + 1, e, ⟨D1, D2, ed, q, r⟩ => ⟨D1, D2, ed, q, Env.imp h i (by simpa using e) r⟩
/-- the slot of an option: from now on what it holds, where it holds something -/
theorem xg_unopt (i : Nat) {A : Rs α} {o : Option α} {f : α → Res β τ} (h : ∀ x, XG X (Γ.set i (.res A x)) sts (f x) J Γx Kt) (hs : Γ[i]? = some (.res (oO A) o) := by rfl) : XG X Γ sts ((getO o).bnd bb f) J Γx Kt := by
  intro σ F H D g en E W tk hk hm
  cases o with
  | none => exact hm.elim
  | some x => exact h x σ F H D g (Env.imp (s := .res (oO A) (some x)) (s' := .res A x) (fun D o q => q) i hs en) E W tk hk hm
theorem xg_unoptF (i : Nat) {R : Rp α} {o : Option α} {f : α → Res β τ} (h : ∀ x, XG X (Γ.set i (.is R x)) sts (f x) J Γx Kt) (hs : Γ[i]? = some (.is (rO R) o) := by rfl) : XG X Γ sts ((getO o).bnd bb f) J Γx Kt := by
  intro σ F H D g en E W tk hk hm
  cases o with
  | none => exact hm.elim
  | some x => exact h x σ F H D g (Env.imp (s := .is (rO R) (some x)) (s' := .is R x) (fun D o q => q) i hs en) E W tk hk hm
end
theorem xmo_none {A : Rs α} {j pos} : XMO X Γ (.Constant .none j pos) (oO A) (.ok none) := fun σ F H D g e Q W tk q => pe_non.wp (q _ F H [] (Step.refl (Good.nil g.fh g.tb)) ⟨rfl, rfl⟩)
theorem xmo_some {A : Rs α} {m : R0 α} (h : XMO X Γ e A m) : XMO X Γ e (oO A) (m.bind fun x => .ok (some x)) := by
  intro σ F H D g en Q W tk q
  refine h σ F H D g en Q W tk ?_
  cases m with
  | bad => exact q
  | ex ε u => exact q
  | ok x => exact fun v F' H' D' a ok => q v F' H' D' a ok
section
variable {β τ : Type} {J : τ → Post} {Γx : β → Gm} {Kt : Gm → Res β τ → Prop} {bb : β} {rest : List Stmt}
/-- return of what is one's own, by its name, as an option -/
theorem xg_retVO (C : Ctx X P w K mg base N sc k dd) (i : Nat) {n : Str} {pos' : Pos} {A : Rs α} {x : α} (t : τ) (hr : ∃ Γ', Wk (Γ.set i .any) Γ' ∧ (J t).rt (.res (oO A) (some x)) Γ') (hs : Γ[i]? = some (.res A x) := by rfl) (hv : visB sc n = true := by decide +kernel) (hN : N[i]? = some n := by rfl)
    (hd : (n == ("__debug__" : Str)) = false := by decide +kernel) (hcd : (n == ("__classdict__" : Str)) = false := by decide +kernel) : XG X Γ (.Return (some (.Name n pos')) pos :: rest) (.ok t) J Γx Kt := by
  intro σ F H D g en E W tk hk hm
  refine xg_retV (A := oO A) (x := some x) (Γ := Γ.set i (.res (oO A) (some x))) C i t ?_ ?_ hv hN hd hcd σ F H D g (Env.imp (s := .res A x) (s' := .res (oO A) (some x)) (fun D o q => q) i hs en) E W tk hk hm
  · rw [List.set_set]; exact hr
  · have := (List.getElem?_eq_some_iff.mp hs).1
    rw [List.getElem?_set_self this]
end
end
end Wf
/-! Dict equality, lists of several kinds, walks over enumerate, zip, ranges of any size. -/
namespace Wf
open PySem L2
section
variable {X : Cx} {Γ : Gm} {P : Program} {w : World} {K : PySem.W.Frag} {mg : Str → Option Value} {base : Heap} {N : List Str} {sc : Scope} {k : Nat} {dd : Bool}
variable {α δ γ κ : Type} {R : Rp α} {R1 : Rp α} {R2 : Rp δ} {R3 : Rp γ} {x : α} {y : δ} {a b c e : Expr} {p p1 p2 p3 pos : Pos}
variable {tg : Expr}
/-! ### == and != of dicts -/
def dEq [DecidableEq κ] [DecidableEq α] (xs ys : List (κ × α)) : Bool := decide (xs.length = ys.length) && xs.all fun kv => match look ys kv.1 with | some u => decide (kv.2 = u) | none => false
theorem dHits [DecidableEq κ] [DecidableEq α] [d : Dat R] {A : KF κ} {pins : List (Addr × Obj)} {σ : St} {F H : Hp} {s : Shared} (I : Inv X pins σ H s) (f : Same F (Vw H)) {B : Around} (hu : B.in1.units + 64 < cLine) (hd : d.dep ≤ 60)
    {ls : List (Key × V)} {ys : List (κ × α)} {vb : List (Key × Value)} (rb : KV ls vb) (pb : Paired (fun (a : Key × V) (b : κ × α) => a.1 = A.f b.1 ∧ A.nice b.1 ∧ R.ok F a.2 b.2) ls ys) :
    ∀ {ks : List (Key × V)} {xs : List (κ × α)} {va : List (Key × Value)}, Paired (fun (a : Key × V) (b : κ × α) => a.1 = A.f b.1 ∧ A.nice b.1 ∧ R.ok F a.2 b.2) ks xs → KV ks va →
      PySem.W.KeqHits B.in1 s vb va (xs.all fun kv => match look ys kv.1 with | some u => decide (kv.2 = u) | none => false) := by
  intro ks xs va pa
  induction pa generalizing va with
  | nil => intro ra; cases ra; exact .nil
  | @cons kv xv ks xs h t ih =>
    intro ra
    cases ra with
    | @cons _ kw _ va' h' t' =>
      have ih := ih t'
      obtain ⟨key, val⟩ := kw
      have ek : key = A.f xv.1 := h'.1.symm.trans h.1
      subst ek
      rw [List.all_cons]
      have l := prd_look A.inj pb xv.1
      have rv := rb.val (A.f xv.1)
      cases hl : look ys xv.1 with
      | none =>
        rw [hl] at l
        rw [show valV ls (A.f xv.1) = none from l] at rv
        rw [Bool.false_and]
        refine .miss ?_
        cases hq : valueAt vb (A.f xv.1) with
        | none => rfl
        | some z => rw [hq] at rv; exact (show False from rv).elim
      | some z =>
        rw [hl] at l
        obtain ⟨v', e1, r⟩ := l
        rw [e1] at rv
        obtain ⟨y', hy, ry⟩ := rv.some_of
        refine .hit hy ?_ ih
        obtain ⟨d1, c1⟩ := d.rd (K := X.K) f h.2.2
        obtain ⟨d2, c2⟩ := d.rd (K := X.K) f r
        obtain ⟨as, q1⟩ := Dp.reads I _ _ _ d1 h'.2
        obtain ⟨bs, q2⟩ := Dp.reads I _ _ _ d2 ry
        have := PySem.W.keq_at (A := B) q1 q2 (shaped_of c1 (Nat.le_trans (d.depth _) (by omega))) (shaped_of c2 (Nat.le_trans (d.depth _) (by omega))) hu
        rw [Dat.eqv] at this
        exact this
theorem kv_len {A : Type} {xs : List (A × V)} {ys : List (A × Value)} (h : KV xs ys) : xs.length = ys.length := Paired.length (show Paired _ xs ys from h)
theorem op_dEq (C : Ctx X P w K mg base N sc k dd) [DecidableEq κ] [DecidableEq α] [d : Dat R] (hd : d.dep ≤ 60) {A : KF κ} (f : Bool → Bool) (o : CmpOp) (ho : (o = .Eq ∧ ∀ b, f b = b) ∨ (o = .NotEq ∧ ∀ b, f b = !b)) :
    OpR X (compareOp o) (fun x y H Q => ∃ F p1 p2 ks ls xs ys, Same F (Vw H) ∧ x = .ref p1 ∧ y = .ref p2 ∧ F p1 = some (.dK ks) ∧ F p2 = some (.dK ls) ∧ Paired (fun (a : Key × V) (b : κ × α) => a.1 = A.f b.1 ∧ A.nice b.1 ∧ R.ok F a.2 b.2) ks xs ∧ Paired (fun (a : Key × V) (b : κ × α) => a.1 = A.f b.1 ∧ A.nice b.1 ∧ R.ok F a.2 b.2) ls ys ∧ Q (.bl (f (dEq xs ys))) H) := by
  intro pins s σ H x y v u Q I rx ry ⟨F, p1, p2, ks, ls, xs, ys, sm', e1, e2, h1, h2, pa, pb, q⟩
  subst e1 e2
  cases (show v = Value.ref p1 from rx)
  cases (show u = Value.ref p2 from ry)
  obtain ⟨_, n1, va, ra, da⟩ := (show ObjOk X.prog X.w H s.heap p1 (.dK ks) from (rd_of (sm' _ _ h1)).ok I.hok)
  obtain ⟨_, n2, vb, rb, db⟩ := (show ObjOk X.prog X.w H s.heap p2 (.dK ls) from (rd_of (sm' _ _ h2)).ok I.hok)
  have hu65 := C.hu65
  have hits := dHits (B := X.A) I sm' (by show X.A.units + 1 + 64 < cLine; omega) hd rb pb pa ra
  have el : (va.length == vb.length && xs.all fun kv => match look ys kv.1 with | some u => decide (kv.2 = u) | none => false) = dEq xs ys := by
    unfold dEq
    have e1 : (va.length == vb.length) = decide (xs.length = ys.length) := by
      rw [← kv_len ra, ← kv_len rb, pa.length, pb.length]
      by_cases q : xs.length = ys.length
      · rw [decide_eq_true q, q]; simp
      · rw [decide_eq_false q]; simpa using q
    rw [e1]
  rcases ho with ⟨rfl, hf⟩ | ⟨rfl, hf⟩
  · refine PySem.W.keq_eq n1 n2 da db (by omega) (fun _ => hits) ?_
    rw [el]
    exact ⟨.bl _, H, I, rfl, by rw [hf] at q; exact q⟩
  · refine PySem.W.keq_ne n1 n2 da db (by omega) (fun _ => hits) ?_
    rw [el]
    exact ⟨.bl _, H, I, rfl, by rw [hf] at q; exact q⟩
theorem o_eqD (C : Ctx X P w K mg base N sc k dd) [DecidableEq κ] [DecidableEq α] [d : Dat R] (hd : d.dep ≤ 60 := by decide) {A : KF κ} : OpQ X (compareOp .Eq) (fz (rK A R)) (fz (rK A R)) rB always dEq :=
  ⟨_, op_dEq C (R := R) (A := A) hd id .Eq (.inl ⟨rfl, fun _ => rfl⟩), fun F H v u x y s ⟨_, p1, ks, e1, h1, pa⟩ ⟨_, p2, ls, e2, h2, pb⟩ _ Q q => ⟨F, p1, p2, ks, ls, x, y, s, e1, e2, h1, h2, pa, pb, q _ F H (.refl s) rfl⟩⟩
theorem o_neD (C : Ctx X P w K mg base N sc k dd) [DecidableEq κ] [DecidableEq α] [d : Dat R] (hd : d.dep ≤ 60 := by decide) {A : KF κ} : OpQ X (compareOp .NotEq) (fz (rK A R)) (fz (rK A R)) rB always (fun x y => !dEq x y) :=
  ⟨_, op_dEq C (R := R) (A := A) hd (fun b => !b) .NotEq (.inr ⟨rfl, fun _ => rfl⟩), fun F H v u x y s ⟨_, p1, ks, e1, h1, pa⟩ ⟨_, p2, ls, e2, h2, pb⟩ _ Q q => ⟨F, p1, p2, ks, ls, x, y, s, e1, e2, h1, h2, pa, pb, q _ F H (.refl s) rfl⟩⟩
/-- no key twice -/
def Uq (d : List (κ × α)) : Prop := (d.map (·.1)).Nodup
theorem look_of [DecidableEq κ] : ∀ {d : List (κ × α)}, Uq d → ∀ kv ∈ d, look d kv.1 = some kv.2
  | [], _, _, h => by cases h
  | e :: d, u, kv, h => by
    unfold Uq at u
    rw [List.map_cons, List.nodup_cons] at u
    rcases List.mem_cons.mp h with z | z
    · subst z; simp [look]
    · have hne : e.1 ≠ kv.1 := fun q => u.1 (by rw [q]; exact List.mem_map_of_mem z)
      have ih := look_of (d := d) u.2 kv z
      unfold look at ih ⊢
      rw [List.find?_cons_of_neg (by simpa using hne)]
      exact ih
theorem dEq_refl [DecidableEq κ] [DecidableEq α] {d : List (κ × α)} (u : Uq d) : dEq d d = true := by
  unfold dEq
  rw [decide_eq_true rfl, Bool.true_and, List.all_eq_true]
  intro kv h
  rw [look_of u kv h]
  simp
theorem keys_dput [DecidableEq κ] (d : List (κ × α)) (q : κ) (v : α) : (dput d q v).map (·.1) = if (d.any fun kv => decide (kv.1 = q)) = true then d.map (·.1) else d.map (·.1) ++ [q] := by
  unfold dput
  split
  · rw [List.map_map]
    refine List.map_congr_left fun kv _ => ?_
    simp only [Function.comp_apply]
    split <;> rfl
  · simp
theorem uq_dput [DecidableEq κ] {d : List (κ × α)} (u : Uq d) (q : κ) (v : α) : Uq (dput d q v) := by
  unfold Uq at u ⊢
  rw [keys_dput]
  split
  · exact u
  · rename_i h
    rw [List.nodup_append]
    refine ⟨u, by simp, fun a ha b hb e => h ?_⟩
    obtain rfl : b = q := by simpa using hb
    subst e
    obtain ⟨kv, h1, h2⟩ := List.mem_map.mp ha
    exact List.any_eq_true.mpr ⟨kv, h1, by simpa using h2⟩
theorem look_dput [DecidableEq κ] (d : List (κ × α)) (q : κ) (v : α) (r : κ) : look (dput d q v) r = if q = r then some v else look d r := by
  unfold dput
  split
  · rename_i h
    unfold look
    induction d with
    | nil => simp at h
    | cons e d ih =>
      rw [List.map_cons]
      by_cases he : e.1 = q
      · subst he
        rw [if_pos rfl]
        by_cases hr : e.1 = r
        · rw [if_pos hr, List.find?_cons_of_pos (by simpa using hr)]; rfl
        · rw [if_neg hr, List.find?_cons_of_neg (by simpa using hr), List.find?_cons_of_neg (by simpa using hr)]
          by_cases hd : (d.any fun kv => decide (kv.1 = e.1)) = true
          · have := ih hd
            rw [if_neg hr] at this
            exact this
          · have : d.map (fun kv => if kv.1 = e.1 then (kv.1, v) else kv) = d := by
              conv => rhs; rw [← List.map_id d]
              refine List.map_congr_left fun kv hk => ?_
              rw [if_neg (fun z => hd (List.any_eq_true.mpr ⟨kv, hk, by simpa using z⟩))]; rfl
            rw [this]
      · rw [if_neg he]
        have hd : (d.any fun kv => decide (kv.1 = q)) = true := by
          rw [List.any_cons, decide_eq_false he, Bool.false_or] at h
          exact h
        have ih := ih hd
        by_cases hr : e.1 = r
        · have hq : ¬ q = r := fun z => he (hr.trans z.symm)
          rw [if_neg hq, List.find?_cons_of_pos (by simpa using hr), List.find?_cons_of_pos (by simpa using hr)]
        · rw [List.find?_cons_of_neg (by simpa using hr), List.find?_cons_of_neg (by simpa using hr)]
          exact ih
  · rename_i h
    unfold look
    rw [List.find?_append]
    by_cases hq : q = r
    · subst hq
      rw [if_pos rfl]
      have : d.find? (fun kv => decide (kv.1 = q)) = none := by
        rw [List.find?_eq_none]
        intro kv hk z
        exact h (List.any_eq_true.mpr ⟨kv, hk, z⟩)
      rw [this]; simp
    · rw [if_neg hq]
      cases hf : d.find? (fun kv => decide (kv.1 = r)) with
      | some z => rfl
      | none => simp [hq]

/-! ### enumerate, zip -/
def numbered (xs : List α) : List (Int × α) := xs.mapIdx fun i x => ((i : Int), x)
variable {elts : List Expr} {kk : Nat} {tpos : Pos}
theorem xi_enum (C : Ctx X P w K mg base N sc k dd) (hf : Free mg) {m : R0 (List α)} (h : XM X Γ a (fz (rL R)) m) (hg : gloB sc "enumerate" = true := by decide +kernel) (hs : starEach [a] X.env = [(false, eval a X.env)] := by rfl) :
    XI X Γ (.Tuple elts kk tpos) (.Call (.Name "enumerate" p) [a] [] pos) (rT (wc rI (w1 R))) (m.bind fun xs => .ok (numbered xs)) := by
  refine ⟨_, pi_enum (C.gl hg) (by rw [C.mg]; exact hf.at_ (by decide +kernel)) (pa_cons (pe_ a) pa_nil (by rw [hs]; rfl)) hs, fun σ F H D g en R' W tk q => h σ F H D g en _ W tk ?_⟩
  cases m with
  | bad => exact q
  | ex ε u => exact q
  | ok xs =>
    intro v F1 H1 g1 ⟨hz, p, vs, e, hp, pr⟩
    refine ⟨p, vs, by rw [e], .inl (rd_of (g1.fh _ _ hp)), q _ F1 H1 g1 fun i F' H' s1 s2 => ?_⟩
    have hp' : SqL X.K H' p vs := .inl (rd_of (s2 _ _ (s1 _ _ hp)))
    have hl : vs.length = xs.length := pr.length
    refine ⟨fun e => ⟨vs, hp', by rw [e, numbered, List.length_mapIdx]; omega⟩, fun x hx => ?_⟩
    unfold numbered at hx
    rw [List.getElem?_mapIdx] at hx
    cases hxi : xs[i]? with
    | none => rw [hxi] at hx; cases hx
    | some x0 =>
      rw [hxi] at hx
      obtain rfl : ((i : Int), x0) = x := by simpa using hx
      have hi : i < vs.length := by rw [hl]; exact (List.getElem?_eq_some_iff.mp hxi).1
      refine ⟨⟨vs, vs[i], hp', List.getElem?_eq_getElem hi⟩, fun v H'' ⟨T, y, ev, nT, eH, yy⟩ => ?_⟩
      subst ev eH
      obtain ⟨x', e1, r⟩ := pr.get (yy vs hp')
      rw [hxi] at e1; cases e1
      have gl := Grow.laid (K := X.K) (o := HO.tup [V.int (i : Nat), y]) s2 nT (fun _ _ z => by cases z)
      exact ⟨_, gl, T, _, rfl, upd_same, .int i, [y], rfl, rfl, y, rfl, R.mono (s1.trans gl.ff) r⟩
theorem xi_zip (C : Ctx X P w K mg base N sc k dd) (hf : Free mg) {m1 : R0 (List α)} {m2 : R0 (List δ)} (h : XM X Γ a (fz (rL R)) m1) (h2 : XM X Γ b (fz (rL R2)) m2) (hg : gloB sc "zip" = true := by decide +kernel)
    (hs : starEach [a, b] X.env = (false, eval a X.env) :: starEach [b] X.env := by rfl) (hs2 : starEach [b] X.env = (false, eval b X.env) :: starEach [] X.env := by rfl) (hpl : (backTo pos (starEach [b] X.env)).any (·.1) = false := by rfl) :
    XI X Γ (.Tuple elts kk tpos) (.Call (.Name "zip" p) [a, b] [] pos) (rT (wc R (w1 R2))) (m1.bind fun xs => m2.bind fun ys => .ok (xs.zip ys)) := by
  refine ⟨_, pi_zip (C.gl hg) (by rw [C.mg]; exact hf.at_ (by decide +kernel)) (pa_cons (pe_ a) (pa_cons (pe_ b) pa_nil hs2) hs) hs hpl, fun σ F H D g en R' W tk q => h σ F H D g en _ W tk ?_⟩
  cases m1 with
  | bad => exact q
  | ex ε u => exact q
  | ok xs =>
    intro v F1 H1 g1 ⟨hz, p, vs, e, hp, pr⟩
    refine h2 σ F1 H1 D (g.grow g1) (en.grow g g1) _ W tk ?_
    cases m2 with
    | bad => exact q
    | ex ε u => exact fun c d F' H' g' => q c d F' H' (g1.trans g')
    | ok ys =>
      intro v2 F2 H2 g2 ⟨hz2, p2, us, e2, hp2, pr2⟩
      have hpF := g2.ff _ _ hp
      have pr := prd_mono g2.ff pr
      refine ⟨p, p2, vs, us, by rw [e, e2], .inl (rd_of (g2.fh _ _ hpF)), .inl (rd_of (g2.fh _ _ hp2)), q _ F2 H2 (g1.trans g2) fun i F' H' s1 s2 => ?_⟩
      have q1 : SqL X.K H' p vs := .inl (rd_of (s2 _ _ (s1 _ _ hpF)))
      have q2 : SqL X.K H' p2 us := .inl (rd_of (s2 _ _ (s1 _ _ hp2)))
      have l1 : vs.length = xs.length := pr.length
      have l2 : us.length = ys.length := pr2.length
      refine ⟨fun e => ⟨vs, us, q1, q2, by rw [e, List.length_zip]; omega⟩, fun x hx => ?_⟩
      obtain ⟨x1, x2⟩ := x
      rw [List.getElem?_zip_eq_some] at hx
      obtain ⟨e1, e2⟩ := hx
      have i1 : i < vs.length := by rw [l1]; exact (List.getElem?_eq_some_iff.mp e1).1
      have i2 : i < us.length := by rw [l2]; exact (List.getElem?_eq_some_iff.mp e2).1
      refine ⟨⟨vs, us, vs[i], us[i], q1, q2, List.getElem?_eq_getElem i1, List.getElem?_eq_getElem i2⟩, fun v H'' ⟨T, y1, y2, ev, nT, eH, yx, yy⟩ => ?_⟩
      subst ev eH
      obtain ⟨x', f1, r1⟩ := pr.get (yx vs q1)
      obtain ⟨y', f2, r2⟩ := pr2.get (yy us q2)
      rw [e1] at f1; cases f1
      rw [e2] at f2; cases f2
      have gl := Grow.laid (K := X.K) (o := HO.tup [y1, y2]) s2 nT (fun _ _ z => by cases z)
      exact ⟨_, gl, T, _, rfl, upd_same, y1, [y2], rfl, R.mono (s1.trans gl.ff) r1, y2, rfl, R2.mono (s1.trans gl.ff) r2⟩

/-! ### lists of several kinds -/
def rLw {α : Type} (T : Rw α) : Rp α := ⟨fun F v x => ∃ p vs, v = .ref p ∧ F p = some (.lst vs) ∧ T.ok F vs x,
  fun s ⟨p, vs, e, h, q⟩ => ⟨p, vs, e, s _ _ h, T.mono s q⟩⟩
theorem xm_listW {es : List Expr} {T : Rw α} {m : R0 α} (h : XMR X Γ es T m) (hl : es.length ≤ 1000 := by decide) : XM X Γ (.List es pos) (fz (rLw T)) m := by
  intro σ F H D g e Q W tk q
  refine (pe_lst (pa_ es)).wp (h σ F H D g e _ W tk ?_)
  cases m with
  | bad => exact q
  | ex ε u => exact q
  | ok x =>
    intro vs F1 H1 g1 r l
    refine ⟨by rw [l]; exact Nat.le_trans hl (by decide), fun p np => ?_⟩
    have gl := Grow.laid (K := X.K) (o := HO.lst vs) g1.fh np (fun _ _ z => by cases z)
    exact q _ _ _ (g1.trans gl) ⟨p, vs, rfl, upd_same, T.mono gl.ff r⟩
theorem xm_atW {T : Rw α} {R' : Rp δ} {f : α → δ} {m : R0 α} (i : Nat) [t : RwAt T i R' f] {j pos'} (ha : XM X Γ a (fz (rLw T)) m) : XM X Γ (.Subscript a (.Constant (.int (i : Int)) j pos') pos) (fz R') (m.bind fun x => .ok (f x)) := by
  intro σ F H D g e Q W tk q
  refine (pe_ix ix_list (pe_ a) pe_int (fun _ _ => rfl)).wp (ha σ F H D g e _ W tk ?_)
  cases m with
  | bad => exact q
  | ex ε u => exact q
  | ok x =>
    intro v F1 H1 g1 ⟨p, vs, e1, h, r⟩
    obtain ⟨u, e2, r2⟩ := t.at_ r
    exact ⟨p, vs, (i : Int), u, e1, rfl, .inl (rd_of (g1.fh _ _ h)), atI_nat e2, q u F1 H1 g1 r2⟩
theorem prd_some {F : Hp} : ∀ {vs : List V} {xs : List α}, Paired (R.ok F) vs xs → Paired ((rO R).ok F) vs (xs.map some)
  | _, _, .nil => .nil
  | _, _, .cons h t => .cons h (prd_some t)

/-! ### what all ways forget -/
theorem Wk.toAny : ∀ {Γ : Gm} {n : Nat}, Γ.length = n → Wk Γ (List.replicate n .any)
  | [], 0, _ => .nil
  | [], _ + 1, h => by simp at h
  | _ :: _, 0, h => by simp at h
  | _ :: _, _ + 1, h => .any (Wk.toAny (by simpa using h))
theorem cut_take {xs : List α} {n : Nat} : cut xs none (some (n : Int)) = xs.take n := by
  unfold cut
  rw [sIx_some, HT.sIx_none]
  simp only [Nat.sub_zero, List.drop_zero]
  rcases Nat.le_total n xs.length with h | h
  · rw [Nat.min_eq_left h]
  · rw [Nat.min_eq_right h, List.take_length, List.take_of_length_le h]
theorem cut_drop {xs : List α} {n : Nat} : cut xs (some (n : Int)) none = xs.drop n := by
  unfold cut
  rw [sIx_some, HT.sIx_none]
  rcases Nat.le_total n xs.length with h | h
  · rw [Nat.min_eq_left h, List.take_of_length_le (by rw [List.length_drop]; exact Nat.le_refl _)]
  · rw [Nat.min_eq_right h, List.drop_length, List.drop_of_length_le h]; simp
theorem numbered_get {xs : List α} {i : Nat} {x : Int × α} (h : (numbered xs)[i]? = some x) : x.1 = i ∧ xs[i]? = some x.2 := by
  unfold numbered at h
  rw [List.getElem?_mapIdx] at h
  cases q : xs[i]? with
  | none => rw [q] at h; cases h
  | some z => rw [q] at h; obtain rfl : ((i : Int), z) = x := by simpa using h
              exact ⟨rfl, rfl⟩
theorem numbered_len {xs : List α} : (numbered xs).length = xs.length := by simp [numbered]
end
end Wf
/-! Forms that a generator of walks uses. -/
namespace Wf
open PySem L2
section
variable {X : Cx} {Γ : Gm} {P : Program} {w : World} {K : PySem.W.Frag} {mg : Str → Option Value} {base : Heap} {N : List Str} {sc : Scope} {k : Nat} {dd : Bool}
variable {α δ γ κ : Type} {R : Rp α} {R1 : Rp α} {R2 : Rp δ} {R3 : Rp γ} {x : α} {y : δ} {a b c e : Expr} {p p1 p2 p3 pos : Pos}
variable {β τ ρ : Type} {J : τ → Post} {Γx : β → Gm} {Kt : Gm → Res β τ → Prop} {bb : β} {rest : List Stmt} {t : α}
/-- if c: a way that does not fall through -/
theorem xg_if1 {c : Expr} {a : List Stmt} {mc : R0 Bool} {ma mr : Res β τ} (hc : XMT X Γ c mc) (ha : XG X Γ a ma J Γx (fun _ _ => False)) (hr : XG X Γ rest mr J Γx Kt) (hx : Wk Γ (Γx bb)) :
    XG X Γ (.If c a [] pos :: rest) (mc.bnd bb fun t => bif t then ma else mr) J Γx Kt :=
  xg_if (σ' := Unit) (fun _ => Γ) (fun _ => mr) hc (fun σ F H D g en E W tk hk hm => ha σ F H D g en E W tk (fun _ _ h => h.elim) hm) (xg_nil ⟨_, Wk.refl _, (), rfl, Wk.refl _⟩) (fun _ => hr) hx
/-- if c: a else: b, the first does not fall through, the other one is followed by what is behind -/
theorem xg_if2 {c : Expr} {a a' : List Stmt} {mc : R0 Bool} {σ' : Type} {ma mb : Res β τ} (Γ' : σ' → Gm) (q : σ' → Res β τ) (hc : XMT X Γ c mc) (ha : XG X Γ a ma J Γx (fun _ _ => False)) (hb : XG X Γ a' mb J Γx (fun G m => ∃ s, m = q s ∧ Wk G (Γ' s)))
    (hr : ∀ s, XG X (Γ' s) rest (q s) J Γx Kt) (hx : Wk Γ (Γx bb)) : XG X Γ (.If c a a' pos :: rest) (mc.bnd bb fun t => bif t then ma else mb) J Γx Kt :=
  xg_if Γ' q hc (fun σ F H D g en E W tk hk hm => ha σ F H D g en E W tk (fun _ _ h => h.elim) hm) hb hr hx
/-- f(..), nothing of one's own handed in: a frozen answer -/
theorem xm_call' (C : Ctx X P w K mg base N sc k dd) {τ' : Type} {j : Nat} {ps : List Str} {n : Str} {es : List Expr} {ss : τ' → Gm} {m : τ' → R0 α} (G : Fk P w K mg base j n ps (spF K mg ss m (fun x => .is R x))) {mt : R0 τ'} (ha : XMA X Γ (e :: es) ss mt) (hj : j ≤ k := by omega) (hg : gloB sc n = true := by decide +kernel)
    (hdb : (n == ("__debug__" : Str)) = false := by decide +kernel) (he : starEach (e :: es) X.env = (false, eval e X.env) :: starEach es X.env := by rfl) (hpl : (backTo pos (starEach es X.env)).any (·.1) = false := by rfl) : XM X Γ (.Call (.Name n p) (e :: es) [] pos) (fz R) (mt.bind m) :=
  xm_eq (xm_call C (rv := fun x => x) G ha (fun _ => rfl) hj hg hdb he hpl) (by
    cases mt with
    | bad => rfl
    | ex ε u => rfl
    | ok t => show (m t).bind (fun x => .ok x) = m t; cases m t <;> rfl)
theorem xmo_call' (C : Ctx X P w K mg base N sc k dd) {τ' : Type} {A : Rs α} {j : Nat} {ps : List Str} {n : Str} {es : List Expr} {ss : τ' → Gm} {m : τ' → R0 α} (G : Fk P w K mg base j n ps (spF K mg ss m (fun x => .res A x))) {mt : R0 τ'} (ha : XMA X Γ (e :: es) ss mt) (hj : j ≤ k := by omega) (hg : gloB sc n = true := by decide +kernel)
    (hdb : (n == ("__debug__" : Str)) = false := by decide +kernel) (he : starEach (e :: es) X.env = (false, eval e X.env) :: starEach es X.env := by rfl) (hpl : (backTo pos (starEach es X.env)).any (·.1) = false := by rfl) : XMO X Γ (.Call (.Name n p) (e :: es) [] pos) A (mt.bind m) :=
  xmo_eq (xmo_call C (rv := fun x => x) G ha (fun _ => rfl) hj hg hdb he hpl) (by
    cases mt with
    | bad => rfl
    | ex ε u => rfl
    | ok t => show (m t).bind (fun x => .ok x) = m t; cases m t <;> rfl)

/-! ### where all is known to be defined -/
variable {p1' q1' : Bool} {rs : List Expr}
theorem xm_andP {p q : Bool} (h : XM X Γ a (fz rB) (.ok p)) (h' : XM X Γ (.BoolOp .And (b :: rs) pos) (fz rB) (.ok q)) : XM X Γ (.BoolOp .And (a :: b :: rs) pos) (fz rB) (.ok (p && q)) := xm_eq (xm_and h h') (by cases p <;> rfl)
theorem xm_orP {p q : Bool} (h : XM X Γ a (fz rB) (.ok p)) (h' : XM X Γ (.BoolOp .Or (b :: rs) pos) (fz rB) (.ok q)) : XM X Γ (.BoolOp .Or (a :: b :: rs) pos) (fz rB) (.ok (p || q)) := xm_eq (xm_or h h') (by cases p <;> rfl)
theorem xmw_andP {p q : Bool} (h : XMT X Γ a (.ok p)) (h' : XMW X Γ (.BoolOp .And (b :: rs) pos) (.ok q)) : XMW X Γ (.BoolOp .And (a :: b :: rs) pos) (.ok (p && q)) := by
  have := xmw_and h h'
  cases p <;> exact this
theorem xmw_orP {p q : Bool} (h : XMT X Γ a (.ok p)) (h' : XMW X Γ (.BoolOp .Or (b :: rs) pos) (.ok q)) : XMW X Γ (.BoolOp .Or (a :: b :: rs) pos) (.ok (p || q)) := by
  have := xmw_or h h'
  cases p <;> exact this
theorem xm_chainP {o o' : CmpOp} {c : Expr} {B1 : Rq α} {B2 : Rq δ} {B4 : Rq γ} {x : α} {y : δ} {z : γ} {op : α → δ → Bool} {op' : δ → γ → Bool} (h : OpQ X (compareOp o) B1 B2 rB always op) (h' : OpQ X (compareOp o') B2 B4 rB always op')
    (ha : XM X Γ a B1 (.ok x)) (hb : XM X Γ b B2 (.ok y)) (hc : XM X Γ c B4 (.ok z)) (hm : lastMarks [o, o'] [b, c] = false := by with_unfolding_all rfl) : XM X Γ (.Compare a [o, o'] [b, c] pos) (fz rB) (.ok (op x y && op' y z)) :=
  xm_eq (xm_chain h h' ha hb hc hm) (by show (bif op x y then _ else _) = _; cases op x y <;> rfl)
theorem xmt_chainP {o o' : CmpOp} {c : Expr} {B1 : Rq α} {B2 : Rq δ} {B4 : Rq γ} {x : α} {y : δ} {z : γ} {op : α → δ → Bool} {op' : δ → γ → Bool} (h : OpQ X (compareOp o) B1 B2 rB always op) (h' : OpQ X (compareOp o') B2 B4 rB always op')
    (ha : XM X Γ a B1 (.ok x)) (hb : XM X Γ b B2 (.ok y)) (hc : XM X Γ c B4 (.ok z)) (hm : lastMarks [o, o'] [b, c] = false := by with_unfolding_all rfl) : XMT X Γ (.Compare a [o, o'] [b, c] pos) (.ok (op x y && op' y z)) :=
  xmt_eq (xmt_chain h h' ha hb hc hm) (by show (bif op x y then _ else _) = _; cases op x y <;> rfl)
/-- the left one is known to fit -/
theorem xm_binL {o : Operator} {B1 : Rq α} {B2 : Rq δ} {ok : α → δ → Prop} {op : α → δ → γ} {mb : R0 δ} {x0 : α} (h : OpQ X (binaryOp o) B1 B2 R3 ok op) (ha : XM X Γ a B1 (.ok x0)) (hb : XM X Γ b B2 mb) (hk : ∀ y, ok x0 y) : XM X Γ (.BinOp a o b pos) (fz R3) (mb.bind fun y => .ok (op x0 y)) := by
  obtain ⟨r, ho, go⟩ := h.ex
  intro σ F H D g en Q W tk q
  refine (pe_op ho (pe_ a) (pe_ b)).wp (two (P := wpE X) (f := fun x y => .ok (op x y)) ha hb g en tk q fun x y hx _ v u F2 H2 g2 r1 r2 q2 => ?_)
  cases hx
  exact go F2 H2 v u _ y g2.fh r1 r2 (hk y) Q fun z F' H' g3 r3 => q2 z F' H' g3 r3
theorem xm_binC {o : Operator} {B1 : Rq α} {B2 : Rq δ} {ok : α → δ → Prop} {op : α → δ → γ} {x0 : α} {y0 : δ} (h : OpQ X (binaryOp o) B1 B2 R3 ok op) (ha : XM X Γ a B1 (.ok x0)) (hb : XM X Γ b B2 (.ok y0)) (hk : ok x0 y0) : XM X Γ (.BinOp a o b pos) (fz R3) (.ok (op x0 y0)) := by
  obtain ⟨r, ho, go⟩ := h.ex
  intro σ F H D g en Q W tk q
  refine (pe_op ho (pe_ a) (pe_ b)).wp (two (P := wpE X) (f := fun x y => .ok (op x y)) ha hb g en tk q fun x y hx hy v u F2 H2 g2 r1 r2 q2 => ?_)
  cases hx
  cases hy
  exact go F2 H2 v u _ _ g2.fh r1 r2 hk Q fun z F' H' g3 r3 => q2 z F' H' g3 r3
theorem cmul_r {j : Int} (h : -(2 ^ 64) < j ∧ j < 2 ^ 64) (i : Int) : CMul i j := .inr h
theorem cmul_l {i : Int} (h : -(2 ^ 64) < i ∧ i < 2 ^ 64) (j : Int) : CMul i j := .inl h
theorem cmod_r {j : Int} (h : 0 < j) (i : Int) : CMod i j := h
theorem cdiv_r {j : Int} (h : 0 < j ∧ j < 1073741824) (i : Int) : CDiv i j := h
end
section
variable {X : Cx} {Γ : Gm}
variable {α0 α1 α2 α3 α4 α5 α6 τ : Type} {S0 : Rp α0} {S1 : Rp α1} {S2 : Rp α2} {S3 : Rp α3} {S4 : Rp α4} {S5 : Rp α5} {S6 : Rp α6} {T : Rw τ} {a : Expr} {pos pos' : Pos} {j : Nat}
theorem ma0 {m : R0 (α0 × τ)} (ha : XM X Γ a (fz (rT (wc S0 T))) m) : XM X Γ (.Subscript a (.Constant (.int 0) j pos') pos) (fz S0) (m.bind fun x => .ok (x.1)) := xm_at (T := (wc S0 T)) (f := fun x => x.1) 0 ha
theorem mw0 {m : R0 (α0 × τ)} (ha : XM X Γ a (fz (rLw (wc S0 T))) m) : XM X Γ (.Subscript a (.Constant (.int 0) j pos') pos) (fz S0) (m.bind fun x => .ok (x.1)) := xm_atW (T := (wc S0 T)) (f := fun x => x.1) 0 ha
theorem ma1 {m : R0 (α0 × α1 × τ)} (ha : XM X Γ a (fz (rT (wc S0 (wc S1 T)))) m) : XM X Γ (.Subscript a (.Constant (.int 1) j pos') pos) (fz S1) (m.bind fun x => .ok (x.2.1)) := xm_at (T := (wc S0 (wc S1 T))) (f := fun x => x.2.1) 1 ha
theorem mw1 {m : R0 (α0 × α1 × τ)} (ha : XM X Γ a (fz (rLw (wc S0 (wc S1 T)))) m) : XM X Γ (.Subscript a (.Constant (.int 1) j pos') pos) (fz S1) (m.bind fun x => .ok (x.2.1)) := xm_atW (T := (wc S0 (wc S1 T))) (f := fun x => x.2.1) 1 ha
theorem ma1l {m : R0 (α0 × α1)} (ha : XM X Γ a (fz (rT (wc S0 (w1 S1)))) m) : XM X Γ (.Subscript a (.Constant (.int 1) j pos') pos) (fz S1) (m.bind fun x => .ok (x.2)) := xm_at (T := (wc S0 (w1 S1))) (f := fun x => x.2) 1 ha
theorem mw1l {m : R0 (α0 × α1)} (ha : XM X Γ a (fz (rLw (wc S0 (w1 S1)))) m) : XM X Γ (.Subscript a (.Constant (.int 1) j pos') pos) (fz S1) (m.bind fun x => .ok (x.2)) := xm_atW (T := (wc S0 (w1 S1))) (f := fun x => x.2) 1 ha
theorem ma2 {m : R0 (α0 × α1 × α2 × τ)} (ha : XM X Γ a (fz (rT (wc S0 (wc S1 (wc S2 T))))) m) : XM X Γ (.Subscript a (.Constant (.int 2) j pos') pos) (fz S2) (m.bind fun x => .ok (x.2.2.1)) := xm_at (T := (wc S0 (wc S1 (wc S2 T)))) (f := fun x => x.2.2.1) 2 ha
theorem mw2 {m : R0 (α0 × α1 × α2 × τ)} (ha : XM X Γ a (fz (rLw (wc S0 (wc S1 (wc S2 T))))) m) : XM X Γ (.Subscript a (.Constant (.int 2) j pos') pos) (fz S2) (m.bind fun x => .ok (x.2.2.1)) := xm_atW (T := (wc S0 (wc S1 (wc S2 T)))) (f := fun x => x.2.2.1) 2 ha
theorem ma2l {m : R0 (α0 × α1 × α2)} (ha : XM X Γ a (fz (rT (wc S0 (wc S1 (w1 S2))))) m) : XM X Γ (.Subscript a (.Constant (.int 2) j pos') pos) (fz S2) (m.bind fun x => .ok (x.2.2)) := xm_at (T := (wc S0 (wc S1 (w1 S2)))) (f := fun x => x.2.2) 2 ha
theorem mw2l {m : R0 (α0 × α1 × α2)} (ha : XM X Γ a (fz (rLw (wc S0 (wc S1 (w1 S2))))) m) : XM X Γ (.Subscript a (.Constant (.int 2) j pos') pos) (fz S2) (m.bind fun x => .ok (x.2.2)) := xm_atW (T := (wc S0 (wc S1 (w1 S2)))) (f := fun x => x.2.2) 2 ha
theorem ma3 {m : R0 (α0 × α1 × α2 × α3 × τ)} (ha : XM X Γ a (fz (rT (wc S0 (wc S1 (wc S2 (wc S3 T)))))) m) : XM X Γ (.Subscript a (.Constant (.int 3) j pos') pos) (fz S3) (m.bind fun x => .ok (x.2.2.2.1)) := xm_at (T := (wc S0 (wc S1 (wc S2 (wc S3 T))))) (f := fun x => x.2.2.2.1) 3 ha
theorem mw3 {m : R0 (α0 × α1 × α2 × α3 × τ)} (ha : XM X Γ a (fz (rLw (wc S0 (wc S1 (wc S2 (wc S3 T)))))) m) : XM X Γ (.Subscript a (.Constant (.int 3) j pos') pos) (fz S3) (m.bind fun x => .ok (x.2.2.2.1)) := xm_atW (T := (wc S0 (wc S1 (wc S2 (wc S3 T))))) (f := fun x => x.2.2.2.1) 3 ha
theorem ma3l {m : R0 (α0 × α1 × α2 × α3)} (ha : XM X Γ a (fz (rT (wc S0 (wc S1 (wc S2 (w1 S3)))))) m) : XM X Γ (.Subscript a (.Constant (.int 3) j pos') pos) (fz S3) (m.bind fun x => .ok (x.2.2.2)) := xm_at (T := (wc S0 (wc S1 (wc S2 (w1 S3))))) (f := fun x => x.2.2.2) 3 ha
theorem mw3l {m : R0 (α0 × α1 × α2 × α3)} (ha : XM X Γ a (fz (rLw (wc S0 (wc S1 (wc S2 (w1 S3)))))) m) : XM X Γ (.Subscript a (.Constant (.int 3) j pos') pos) (fz S3) (m.bind fun x => .ok (x.2.2.2)) := xm_atW (T := (wc S0 (wc S1 (wc S2 (w1 S3))))) (f := fun x => x.2.2.2) 3 ha
theorem ma4 {m : R0 (α0 × α1 × α2 × α3 × α4 × τ)} (ha : XM X Γ a (fz (rT (wc S0 (wc S1 (wc S2 (wc S3 (wc S4 T))))))) m) : XM X Γ (.Subscript a (.Constant (.int 4) j pos') pos) (fz S4) (m.bind fun x => .ok (x.2.2.2.2.1)) := xm_at (T := (wc S0 (wc S1 (wc S2 (wc S3 (wc S4 T)))))) (f := fun x => x.2.2.2.2.1) 4 ha
theorem ma4l {m : R0 (α0 × α1 × α2 × α3 × α4)} (ha : XM X Γ a (fz (rT (wc S0 (wc S1 (wc S2 (wc S3 (w1 S4))))))) m) : XM X Γ (.Subscript a (.Constant (.int 4) j pos') pos) (fz S4) (m.bind fun x => .ok (x.2.2.2.2)) := xm_at (T := (wc S0 (wc S1 (wc S2 (wc S3 (w1 S4)))))) (f := fun x => x.2.2.2.2) 4 ha
theorem ma5 {m : R0 (α0 × α1 × α2 × α3 × α4 × α5 × τ)} (ha : XM X Γ a (fz (rT (wc S0 (wc S1 (wc S2 (wc S3 (wc S4 (wc S5 T)))))))) m) : XM X Γ (.Subscript a (.Constant (.int 5) j pos') pos) (fz S5) (m.bind fun x => .ok (x.2.2.2.2.2.1)) := xm_at (T := (wc S0 (wc S1 (wc S2 (wc S3 (wc S4 (wc S5 T))))))) (f := fun x => x.2.2.2.2.2.1) 5 ha
theorem ma5l {m : R0 (α0 × α1 × α2 × α3 × α4 × α5)} (ha : XM X Γ a (fz (rT (wc S0 (wc S1 (wc S2 (wc S3 (wc S4 (w1 S5)))))))) m) : XM X Γ (.Subscript a (.Constant (.int 5) j pos') pos) (fz S5) (m.bind fun x => .ok (x.2.2.2.2.2)) := xm_at (T := (wc S0 (wc S1 (wc S2 (wc S3 (wc S4 (w1 S5))))))) (f := fun x => x.2.2.2.2.2) 5 ha
theorem ma6 {m : R0 (α0 × α1 × α2 × α3 × α4 × α5 × α6 × τ)} (ha : XM X Γ a (fz (rT (wc S0 (wc S1 (wc S2 (wc S3 (wc S4 (wc S5 (wc S6 T))))))))) m) : XM X Γ (.Subscript a (.Constant (.int 6) j pos') pos) (fz S6) (m.bind fun x => .ok (x.2.2.2.2.2.2.1)) := xm_at (T := (wc S0 (wc S1 (wc S2 (wc S3 (wc S4 (wc S5 (wc S6 T)))))))) (f := fun x => x.2.2.2.2.2.2.1) 6 ha
theorem ma6l {m : R0 (α0 × α1 × α2 × α3 × α4 × α5 × α6)} (ha : XM X Γ a (fz (rT (wc S0 (wc S1 (wc S2 (wc S3 (wc S4 (wc S5 (w1 S6))))))))) m) : XM X Γ (.Subscript a (.Constant (.int 6) j pos') pos) (fz S6) (m.bind fun x => .ok (x.2.2.2.2.2.2)) := xm_at (T := (wc S0 (wc S1 (wc S2 (wc S3 (wc S4 (wc S5 (w1 S6)))))))) (f := fun x => x.2.2.2.2.2.2) 6 ha
theorem mtake1 {α β : Type} {T : Rw α} {T' : Rw β} {f : α → β} {m : R0 α} {p2 : Pos} [t : RwTake T 1 T' f] (ha : XM X Γ a (fz (rT T)) m) : XM X Γ (.Subscript a (.Slice none (some (.Constant (.int 1) j pos')) none p2) pos) (fz (rT T')) (m.bind fun x => .ok (f x)) := xm_take (T := T) (f := f) 1 ha
theorem mdrop1 {α β : Type} {T : Rw α} {T' : Rw β} {f : α → β} {m : R0 α} {p2 : Pos} [t : RwDrop T 1 T' f] (ha : XM X Γ a (fz (rT T)) m) : XM X Γ (.Subscript a (.Slice (some (.Constant (.int 1) j pos')) none none p2) pos) (fz (rT T')) (m.bind fun x => .ok (f x)) := xm_drop (T := T) (f := f) 1 ha
theorem mtake2 {α β : Type} {T : Rw α} {T' : Rw β} {f : α → β} {m : R0 α} {p2 : Pos} [t : RwTake T 2 T' f] (ha : XM X Γ a (fz (rT T)) m) : XM X Γ (.Subscript a (.Slice none (some (.Constant (.int 2) j pos')) none p2) pos) (fz (rT T')) (m.bind fun x => .ok (f x)) := xm_take (T := T) (f := f) 2 ha
theorem mdrop2 {α β : Type} {T : Rw α} {T' : Rw β} {f : α → β} {m : R0 α} {p2 : Pos} [t : RwDrop T 2 T' f] (ha : XM X Γ a (fz (rT T)) m) : XM X Γ (.Subscript a (.Slice (some (.Constant (.int 2) j pos')) none none p2) pos) (fz (rT T')) (m.bind fun x => .ok (f x)) := xm_drop (T := T) (f := f) 2 ha
theorem mtake3 {α β : Type} {T : Rw α} {T' : Rw β} {f : α → β} {m : R0 α} {p2 : Pos} [t : RwTake T 3 T' f] (ha : XM X Γ a (fz (rT T)) m) : XM X Γ (.Subscript a (.Slice none (some (.Constant (.int 3) j pos')) none p2) pos) (fz (rT T')) (m.bind fun x => .ok (f x)) := xm_take (T := T) (f := f) 3 ha
theorem mdrop3 {α β : Type} {T : Rw α} {T' : Rw β} {f : α → β} {m : R0 α} {p2 : Pos} [t : RwDrop T 3 T' f] (ha : XM X Γ a (fz (rT T)) m) : XM X Γ (.Subscript a (.Slice (some (.Constant (.int 3) j pos')) none none p2) pos) (fz (rT T')) (m.bind fun x => .ok (f x)) := xm_drop (T := T) (f := f) 3 ha
theorem mtake4 {α β : Type} {T : Rw α} {T' : Rw β} {f : α → β} {m : R0 α} {p2 : Pos} [t : RwTake T 4 T' f] (ha : XM X Γ a (fz (rT T)) m) : XM X Γ (.Subscript a (.Slice none (some (.Constant (.int 4) j pos')) none p2) pos) (fz (rT T')) (m.bind fun x => .ok (f x)) := xm_take (T := T) (f := f) 4 ha
theorem mdrop4 {α β : Type} {T : Rw α} {T' : Rw β} {f : α → β} {m : R0 α} {p2 : Pos} [t : RwDrop T 4 T' f] (ha : XM X Γ a (fz (rT T)) m) : XM X Γ (.Subscript a (.Slice (some (.Constant (.int 4) j pos')) none none p2) pos) (fz (rT T')) (m.bind fun x => .ok (f x)) := xm_drop (T := T) (f := f) 4 ha
theorem mtake5 {α β : Type} {T : Rw α} {T' : Rw β} {f : α → β} {m : R0 α} {p2 : Pos} [t : RwTake T 5 T' f] (ha : XM X Γ a (fz (rT T)) m) : XM X Γ (.Subscript a (.Slice none (some (.Constant (.int 5) j pos')) none p2) pos) (fz (rT T')) (m.bind fun x => .ok (f x)) := xm_take (T := T) (f := f) 5 ha
theorem mdrop5 {α β : Type} {T : Rw α} {T' : Rw β} {f : α → β} {m : R0 α} {p2 : Pos} [t : RwDrop T 5 T' f] (ha : XM X Γ a (fz (rT T)) m) : XM X Γ (.Subscript a (.Slice (some (.Constant (.int 5) j pos')) none none p2) pos) (fz (rT T')) (m.bind fun x => .ok (f x)) := xm_drop (T := T) (f := f) 5 ha
end
end Wf
namespace Wf
open PySem L2
instance : Inhabited Str := ⟨Str.empty⟩
def signAt (z : Str) (i : Int) : Str := ⟨#[ix z.cps.toList i]⟩
/-- more rounds than any loop of a law takes -/
def fuel : Nat := 1000000
theorem xmw_eq {X : Cx} {Γ : Gm} {e : Expr} {m m' : R0 Bool} (h : XMW X Γ e m) (q : m = m') : XMW X Γ e m' := q ▸ h
theorem xa_cons {X : Cx} {Γ : Gm} {α τ : Type} {R : Rp α} {a : Expr} {es : List Expr} {ss : τ → Gm} {m : R0 α} {mt : R0 τ} {ss' : α × τ → Gm} {m' : R0 (α × τ)} (h : XM X Γ a (fz R) m) (hr : XMA X Γ es ss mt) (hss : ss' = fun t : α × τ => .is R t.1 :: ss t.2) (hm : (m.bind fun x => mt.bind fun t => .ok (x, t)) = m') (hs : starEach (a :: es) X.env = (false, eval a X.env) :: starEach es X.env := by rfl) :
    XMA X Γ (a :: es) ss' m' := by
  subst hss hm
  exact xma_cons h hr hs
theorem xr_c {X : Cx} {Γ : Gm} {α β : Type} {R : Rp α} {a : Expr} {es : List Expr} {T : Rw β} {m : R0 α} {mt : R0 β} {m' : R0 (α × β)} (h : XM X Γ a (fz R) m) (hr : XMR X Γ es T mt) (hm : (m.bind fun x => mt.bind fun t => .ok (x, t)) = m') (hs : starEach (a :: es) X.env = (false, eval a X.env) :: starEach es X.env := by rfl) : XMR X Γ (a :: es) (wc R T) m' := by
  subst hm; exact xmr_c h hr hs
theorem xl_c {X : Cx} {Γ : Gm} {α : Type} {R : Rp α} {a : Expr} {es : List Expr} {m : R0 α} {mt : R0 (List α)} {m' : R0 (List α)} (h : XM X Γ a (fz R) m) (hr : XML X Γ es R mt) (hm : (m.bind fun x => mt.bind fun t => .ok (x :: t)) = m') (hs : starEach (a :: es) X.env = (false, eval a X.env) :: starEach es X.env := by rfl) : XML X Γ (a :: es) R m' := by
  subst hm; exact xml_cons h hr hs
theorem alw_eq {α γ : Type} (m : R0 α) (op : α → γ) : (m.bind fun x => gd (alw x) (.ok (op x))) = m.bind fun x => (.ok (op x) : R0 γ) := by cases m <;> first | rfl | exact gd_true trivial
theorem alw2_eq {α β γ : Type} (m : R0 α) (n : R0 β) (op : α → β → γ) : (m.bind fun x => n.bind fun y => gd (always x y) (.ok (op x y))) = m.bind fun x => n.bind fun y => (.ok (op x y) : R0 γ) := by cases m <;> cases n <;> first | rfl | exact gd_true trivial
/-- a dict of one pair -/
theorem xmo_dict1 {X : Cx} {Γ : Gm} {P : Program} {w : World} {K : PySem.W.Frag} {mg : Str → Option Value} {base : Heap} {N : List Str} {sc : Scope} {k : Nat} {dd : Bool} {κ α : Type} {A : KF κ} {R : Rp α} {a b : Expr} {pos : Pos} {m1 : R0 κ} {m2 : R0 α}
    (C : Ctx X P w K mg base N sc k dd) (ha : XM X Γ a (fz A.R) m1) (hb : XM X Γ b (fz R) m2) : XMO X Γ (.Dict [some a] [b] pos) (oK A R) (m1.bind fun x => m2.bind fun y => .ok [(x, y)]) := by
  intro σ F H D g en_ Q W tk q
  refine (pe_disp (pps_cons (pe_ a) (pe_ b) pps_nil) rfl rfl (by simp) (by simp)).wp ?_
  intro p np
  have gm : Grow X.K F H F (upd H p (.dK [])) := Grow.made g.fh np
  have s0 : Step X.K F H [] F (upd H p (.dK [])) [p] := xo_fresh (o := .dK []) g.fh np
  have g0 : Good X.K F (upd H p (.dK [])) [p] := s0.good g.tb
  have e0 : Env F (upd H p (.dK [])) [p] [Slot.res (oK A R) ([] : List (κ × α))] [some (.ref p)] := ⟨[p], [], rfl, ⟨.ref p, rfl, Nat.zero_le _, p, [], rfl, rfl, upd_same, .nil⟩, rfl, rfl⟩
  obtain ⟨p', hp', _, fin⟩ := own_at (i := 0) at1K rfl g0 e0
  have : p = p' := by simpa using hp'
  subst this
  refine ha σ F _ D (g.grow gm) (en_.grow g gm) _ W tk ?_
  cases m1 with
  | bad => exact q
  | ex ε u => exact fun c d F' H' g' => q c d F' H' (gm.trans g')
  | ok x =>
    intro v F1 H1 g1 r1
    refine hb σ F1 H1 D ((g.grow gm).grow g1) ((en_.grow g gm).grow (g.grow gm) g1) _ W tk ?_
    cases m2 with
    | bad => exact q
    | ex ε u => exact fun c d F' H' g' => q c d F' H' (gm.trans (g1.trans g'))
    | ok y =>
      intro u F2 H2 g2 r2
      have g12 := g1.trans g2
      have hp2 : H2 p = some (.dK []) := g12.hh _ _ upd_same (by intro _ z; cases z)
      obtain ⟨ev, nv⟩ := A.to r1
      subst ev
      refine ⟨hp2, [(A.f x, u)], rfl, by simp, ?_⟩
      obtain ⟨st, en2⟩ := fin (o := .dK [(A.f x, u)]) (A' := oK A R) (x' := [(x, y)]) g12 (by intro _ z; cases z) ⟨(by decide : 1 ≤ sizeLine), p, _, rfl, rfl, upd_same, .cons ⟨rfl, nv, r2⟩ .nil⟩
      exact q _ _ _ [p] (s0.trans st) ⟨(by decide : 1 ≤ sizeLine), p, _, rfl, rfl, upd_same, .cons ⟨rfl, nv, r2⟩ .nil⟩
theorem isi_eq {m : R0 PyData} {n : String} (h : n ∈ okN) : (m.bind fun x => (Res.ok n : R0 String).bind fun y => gd (COk x y) (Res.ok (isA x y))) = m.bind fun x => (Res.ok (isA x n) : R0 Bool) := by
  cases m with
  | ok x => exact gd_true (p := COk x n) h
  | _ => rfl
theorem isi2_eq {m : R0 PyData} {n k : String} (h : n ∈ okN) (h' : k ∈ okN) : (m.bind fun x => (Res.ok (n, k) : R0 (String × String)).bind fun y => gd (COk2 x y) (Res.ok (isA x y.1 || isA x y.2))) = m.bind fun x => (Res.ok (isA x n || isA x k) : R0 Bool) := by
  cases m with
  | ok x => exact gd_true (p := COk2 x (n, k)) ⟨h, h'⟩
  | _ => rfl
section
variable {X : Cx} {Γ : Gm} {α β : Type} {B1 : Rq α} {B2 : Rq β} {ok : α → β → Prop} {ma : R0 α} {mb : R0 β} {a b : Expr} {pos : Pos}
theorem xm_cmpG {o : CmpOp} {op : α → β → Bool} [∀ x y, Decidable (ok x y)] (h : OpQ X (compareOp o) B1 B2 rB ok op) (ha : XM X Γ a B1 ma) (hb : XM X Γ b B2 mb) (hm : behindInMarks o b = false := by first | exact nomark _ | rfl) : XM X Γ (.Compare a [o] [b] pos) (fz rB) (ma.bind fun x => mb.bind fun y => gd (ok x y) (.ok (op x y))) := by
  obtain ⟨r, ho, go⟩ := h.ex
  intro σ F H D g en Q W tk q
  refine (pe_cmpR ho (pe_ a) (pe_ b) hm).wp (two (P := wpE X) ha hb g en tk q fun x y _ _ v u F2 H2 g2 r1 r2 q2 => ?_)
  by_cases hok : ok x y
  · rw [gd_true hok] at q2
    exact go F2 H2 v u x y g2.fh r1 r2 hok Q fun z F' H' g3 r3 => q2 z F' H' g3 r3
  · rw [gd_bad hok] at q2; exact q2.elim
end
/-- a promise for less -/
theorem Fk.le {P : Program} {w : World} {K : PySem.W.Frag} {mg : Str → Option Value} {base : Heap} {j : Nat} {n : Str} {ps : List Str} {ι ρ : Type} {ss : ι → Gm} {m m' : ι → R0 ρ} {r : ρ → Slot}
    (F : Fk P w K mg base j n ps (spF K mg ss m r)) (h : ∀ i x, m' i = .ok x → m i = .ok x) (hx : ∀ i ε u, m' i ≠ .ex ε u) : Fk P w K mg base j n ps (spF K mg ss m' r) := by
  obtain ⟨f, fd, F1, h1, h2, h3⟩ := F.ex
  refine ⟨f, fd, F1.imp ?_, h1, h2, h3⟩
  rintro vs H Q E ⟨i, F0, D, g, en, q⟩
  refine ⟨i, F0, D, g, en, ?_⟩
  cases e : m' i with
  | ok x => rw [e] at q; rw [h i x e]; exact q
  | ex ε u => exact absurd e (hx i ε u)
  | bad => rw [e] at q; exact q.elim
end Wf
namespace Wf
open PySem L2
/-- .. of a def that makes a lambda -/
theorem fn_L {ι ρ : Type} {ss : ι → Gm} {m : ι → R0 ρ} {r : ρ → Slot} {P : Program} {w : World} {K : PySem.W.Frag} {mg : Str → Option Value} {base : Heap} {x qual : Str} {st : Stmt} {fd : FuncData} {N ps : List Str} {k : Nat} {p : He.Defn}
    (Fn : FnP K x qual st (He.fAd K p) fd) (S : FnScope N ps (defScope st)) (hl : ∀ i, (ss i).length = ps.length)
    (h : ∀ i, ∀ X : Cx, Ctx X P w K mg base N (defScope st) k true → X.env.code = .ref (He.cT K p).1 → X.env.qual = qual ++ ".<locals>." → XG X (ss i ++ List.replicate (N.length - ps.length) Slot.any) (defBody st) (m i) (JF r (fun _ => List.replicate N.length .any)) (fun _ => List.replicate N.length .any) (KR r (fun _ => List.replicate N.length .any))) :
    FnOk P w K mg base (L2.CX P w) (k + 1) (He.fAd K p) fd ps (spF K mg ss m r) := by
  have hlen : ∀ vs H Q E, spF K mg ss m r vs H Q E → vs.length = ps.length := fun vs H Q E ⟨i, F, D, _, e, _⟩ => by
    have := e.len
    rw [List.length_map] at this
    rw [this, hl i]
  obtain ⟨oc, od, dV, kV, doc, pm, an, cdv, ct, osl, rfl, lk, hcd, _, _⟩ := Fn.ex
  obtain ⟨c, rfl⟩ := He.codeIn_ref hcd
  have hc : He.codeOf K p = c := He.codeOf_eq lk rfl
  refine L2.fn_of lk hcd S hlen fun A outer s H vs Q E hr hsp => ?_
  have hvl := hlen _ _ _ _ hsp
  obtain ⟨i, F, D, g, en, kq⟩ := hsp
  have C : Ctx (cxOf (L2.CX P w) P w K mg base N qual (defScope st) (He.fAd K p) (.ref c) A outer s H E) P w K mg base N (defScope st) k true := ⟨rfl, rfl, rfl, rfl, rfl, rfl, rfl, rfl, hr, S.nd, fun _ _ => rfl, passes_of (K := fun e s' => L2.CX P w outer H s E e s') (E₁ := fun e' s'' => L2.CX P w outer H s E e' s'') rfl⟩
  refine ⟨wpB _ (defBody st), pb_ _, ?_⟩
  have e2 : Env F H D (ss i ++ List.replicate (N.length - ps.length) Slot.any) (L2.start N vs) := by
    unfold L2.start
    rw [hvl]
    have := en.app (Env.any (F := F) (H := H) (N.length - ps.length))
    rwa [List.append_nil] at this
  refine h i _ C (by rw [← hc]; rfl) rfl (L2.start N vs) F H D g e2 _ (fun cls d _ H => E cls d H) (takes_of rfl rfl rfl rfl) ?_ ?_
  · rintro Γ' m' ⟨x, rfl, hr', rfl⟩ σ' F' H' D' a e3 mg'
    have mg' : Meets K (JF r (fun _ => List.replicate N.length .any) x) _ F' H' D' := mg'
    have g' := a.good g.tb
    exact mg'.rt (.is rN ()) _ ⟨hr'.symm, rfl⟩ .non σ' F' H' [] D' (.refl g') ⟨rfl, _, rfl, rfl⟩ e3
  · revert kq
    cases m i with
    | bad => exact id
    | ex ε b =>
      intro kq c d σ' F' H' D' a e3 ev
      exact kq c d F' H' [] (a.sub (List.nil_sublist _)) ⟨rfl, rfl⟩ ev
    | ok x =>
      intro kq
      refine ⟨fun _ z => z.elim, fun _ z => z.elim, ?_⟩
      rintro s' G ⟨rfl, rfl⟩ v σ' F' H' D1 D2 a ok e3
      exact kq v F' H' D1 [] (a.sub ((List.Sublist.refl _).append (List.nil_sublist _))) ok ⟨rfl, rfl⟩
/-- the maker's table, where no other def has the same -/
theorem lamAt_of {X : Cx} {P : Program} {w : World} {K : PySem.W.Frag} {mg : Str → Option Value} {base : Heap} {N : List Str} {sc : Scope} {k : Nat} {dd : Bool} {n : Str} (C : Ctx X P w K mg base N sc k dd)
    (TB : LamX.TabB base mg (He.cT K (n, none)).1 (He.cT K (n, none)).2) (hc : X.env.code = .ref (He.cT K (n, none)).1) (hq : X.env.qual = n ++ ".<locals>.") (hm : n ∈ lamDefs) (hu : ∀ m ∈ lamDefs, (He.cT K (m, none)).2 = (He.cT K (n, none)).2 → m = n) (ha : ∀ n : Str, n ∈ lamDefs → n ++ ".<locals>." ++ "<lambda>" = n ++ (".<locals>.<lambda>" : Str)) :
    LamAt X (He.cT K (n, none)).1 (He.cT K (n, none)).2 where
  TB := by rw [C.base, C.mg]; exact TB
  code := hc
  mem := by
    rw [C.K, hq, ha n hm]
    exact List.mem_map.mpr ⟨n, hm, rfl⟩
  uni := fun p hp e => by
    rw [C.K] at hp
    obtain ⟨m, h1, rfl⟩ := List.mem_map.mp hp
    rw [hq, ha n hm, hu m h1 e]
theorem Ctx.deep {X : Cx} {P : Program} {w : World} {K : PySem.W.Frag} {mg : Str → Option Value} {base : Heap} {N : List Str} {sc : Scope} {k : Nat} {dd : Bool} (C : Ctx X P w K mg base N sc k dd) (h : 2 ≤ k) : X.A.depth + 10 < recursionLimit := by
  have := C.room.dp; omega
theorem sp_end {K : PySem.W.Frag} {mg : Str → Option Value} {H : Hp} {a : Addr} {ns : List Int} {E : XK} {m : List Int → R0 Bool} (ht : TbK K H) (hS : SqL K H a (ns.map V.int)) (hm : m ns = .ok true) :
    spF K mg (fun i : List Int × Unit => [.is (rSc K) i.1]) (fun i => m i.1) (fun x : Bool => .is rB x) [.ref a] H (fun v _ => v = .bl true) E := by
  refine ⟨(ns, ()), Vw H, [], .nil (.refl _) ht, ⟨[], [], rfl, ⟨rfl, _, rfl, a, rfl, ?_⟩, rfl, rfl⟩, ?_⟩
  · rcases hS with h | h
    · refine .inl ?_
      rcases h with h | ⟨o, h⟩
      · refine .inl ?_
        unfold Vw; rw [h]; rfl
      · refine .inr ⟨o, ?_⟩
        unfold Vw; rw [h]; rfl
    · exact .inr (.inr h)
  · simp only [hm]
    intro v F' H' D1 D2 st ok _
    obtain ⟨_, v', e, r⟩ := ok
    cases e
    exact r
end Wf
/-! More operators and built-ins. -/
namespace Wf
open PySem PySem.Spec PyProof.Rows L2
section
variable {X : Cx} {Γ : Gm} {P : Program} {w : World} {K : PySem.W.Frag} {mg : Str → Option Value} {base : Heap} {N : List Str} {sc : Scope} {k : Nat} {dd : Bool}
variable {α β γ κ : Type} {R : Rp α} {a b : Expr} {p pos : Pos}
def rInT (K : PySem.W.Frag) : L2.R2 := fun x y H Q => ∃ d ds, Dp K H x d ∧ Dp K H y (.tuple ds) ∧ SeqAt.shaped d = true ∧ SeqAt.shaped (.tuple ds) = true ∧ Q (.bl (ds.any fun z => PyData.eqv z d)) H
def rNotInT (K : PySem.W.Frag) : L2.R2 := fun x y H Q => ∃ d ds, Dp K H x d ∧ Dp K H y (.tuple ds) ∧ SeqAt.shaped d = true ∧ SeqAt.shaped (.tuple ds) = true ∧ Q (.bl (!ds.any fun z => PyData.eqv z d)) H
theorem op_inT (hu : X.A.units + 65 < cLine) : OpR X (compareOp .In) (rInT X.K) := by
  intro pins s σ H x y v u Q I rx ry h
  obtain ⟨d, ds, hd, he, sd, se, q⟩ := h
  obtain ⟨as, r1⟩ := Dp.reads I d x v hd rx
  obtain ⟨bs, r2⟩ := Dp.reads I (.tuple ds) y u he ry
  exact SeqAt.in_tuple_reads r2 r1 (SeqAt.canLay_of_shaped se) (SeqAt.canLay_of_shaped sd) (room_in_shaped sd hu) ⟨.bl _, H, I, rfl, q⟩
theorem op_notInT (hu : X.A.units + 65 < cLine) : OpR X (compareOp .NotIn) (rNotInT X.K) := by
  intro pins s σ H x y v u Q I rx ry h
  obtain ⟨d, ds, hd, he, sd, se, q⟩ := h
  obtain ⟨as, r1⟩ := Dp.reads I d x v hd rx
  obtain ⟨bs, r2⟩ := Dp.reads I (.tuple ds) y u he ry
  exact SeqAt.notIn_tuple_reads r2 r1 (SeqAt.canLay_of_shaped se) (SeqAt.canLay_of_shaped sd) (room_in_shaped sd hu) ⟨.bl _, H, I, rfl, q⟩
theorem o_inV [d : Dat R] [DecidableEq α] (C : Ctx X P w K mg base N sc k dd) (hd : d.dep ≤ 50 := by decide) : OpQ X (compareOp .In) (fz R) (fz (rV R)) rB always (fun x xs => decide (x ∈ xs)) :=
  ⟨_, op_inT C.hu65, fun F H v u x xs s r1 r2 _ Q q => by
    obtain ⟨h1, h2⟩ := d.rd (K := X.K) s r1
    obtain ⟨h3, h4⟩ := Dat.rd (R := rV R) (K := X.K) s r2
    refine ⟨d.enc x, xs.map d.enc, h1, h3, shaped_of h2 (Nat.le_trans (d.depth x) (by omega)), shaped_of h4 (Nat.le_trans (Dat.depth (R := rV R) xs) (by show d.dep + 1 ≤ 64; omega)), q _ F H (.refl s) ?_⟩
    show V.bl _ = V.bl _
    rw [any_eqv]⟩
theorem o_notInV [d : Dat R] [DecidableEq α] (C : Ctx X P w K mg base N sc k dd) (hd : d.dep ≤ 50 := by decide) : OpQ X (compareOp .NotIn) (fz R) (fz (rV R)) rB always (fun x xs => !decide (x ∈ xs)) :=
  ⟨_, op_notInT C.hu65, fun F H v u x xs s r1 r2 _ Q q => by
    obtain ⟨h1, h2⟩ := d.rd (K := X.K) s r1
    obtain ⟨h3, h4⟩ := Dat.rd (R := rV R) (K := X.K) s r2
    refine ⟨d.enc x, xs.map d.enc, h1, h3, shaped_of h2 (Nat.le_trans (d.depth x) (by omega)), shaped_of h4 (Nat.le_trans (Dat.depth (R := rV R) xs) (by show d.dep + 1 ≤ 64; omega)), q _ F H (.refl s) ?_⟩
    show V.bl _ = V.bl _
    rw [any_eqv]⟩
theorem sw_cell (C : Ctx X P w K mg base N sc k dd) {n : Str} {elt : Expr} {gs : List Comprehension} {scope : Scope} {p1 p2 : Pos} {l : Nat} (hy : decide (sc.names.lookup n = some .cell) = true := by decide +kernel) : swapsWith (.ListComp elt gs scope p1) (some (.Name n p2)) l X.env = pure false := by
  have ky : X.env.kindOf n = some .cell := by
    show X.env.scope.names.lookup n = some .cell
    rw [C.sc]; exact of_decide_eq_true hy
  unfold swapsWith
  simp only [ky]
  cases (X.env.blockKind == .function) <;> rfl
/-- x in xs -/
def isIn {α : Type} [DecidableEq α] (x : α) (xs : List α) : Bool := decide (x ∈ xs)
theorem isIn_t {α : Type} [DecidableEq α] {x : α} {xs : List α} : isIn x xs = true ↔ x ∈ xs := by unfold isIn; exact decide_eq_true_iff
theorem isIn_f {α : Type} [DecidableEq α] {x : α} {xs : List α} : isIn x xs = false ↔ ¬ x ∈ xs := by unfold isIn; exact decide_eq_false_iff_not
/-! order of data -/
theorem op_cmpD {o : CmpOp} {g : PyData → PyData → Bool} (hg : ∀ {A : Around} {E : Value → Shared → Prop} {s : Shared} {a b : Value} {da db : PyData} {as bs : List Addr} {Q : Value → Shared → Prop}, Reads s.heap a da as → Reads s.heap b db bs → PySem.W.alike da db = true → da ≠ .none → A.units + min da.depth db.depth < cLine → Q (.bool (g da db)) s → wpAny (model X.prog X.w) A (compareOp o a b) Q E s)
    (hu : X.A.units + 65 < cLine) : OpR X (compareOp o) (fun x y H Q => ∃ d e, Dp X.K H x d ∧ Dp X.K H y e ∧ PySem.W.alike d e = true ∧ d ≠ .none ∧ d.depth ≤ 60 ∧ Q (.bl (g d e)) H) := by
  intro pins s σ H x y v u Q I rx ry h
  obtain ⟨d, e, hd, he, al, nn, dp, q⟩ := h
  obtain ⟨as, r1⟩ := Dp.reads I d x v hd rx
  obtain ⟨bs, r2⟩ := Dp.reads I e y u he ry
  exact hg r1 r2 al nn (by omega) ⟨.bl _, H, I, rfl, q⟩
theorem opq_D [d : Dat R] [o' : Ord' R] {o : CmpOp} {g : PyData → PyData → Bool} (ho : OpR X (compareOp o) (fun x y H Q => ∃ d e, Dp X.K H x d ∧ Dp X.K H y e ∧ PySem.W.alike d e = true ∧ d ≠ .none ∧ d.depth ≤ 60 ∧ Q (.bl (g d e)) H)) (hd : d.dep ≤ 50) : OpQ X (compareOp o) (fz R) (fz R) rB always (fun x y => g (d.enc x) (d.enc y)) :=
  ⟨_, ho, fun F H v u x y s r1 r2 _ Q q => by
    obtain ⟨h1, _⟩ := d.rd (K := X.K) s r1
    obtain ⟨h3, _⟩ := d.rd (K := X.K) s r2
    exact ⟨d.enc x, d.enc y, h1, h3, o'.al x y, o'.nn x, Nat.le_trans (d.depth x) (by omega), q _ F H (.refl s) rfl⟩⟩
theorem o_ltD [d : Dat R] [o' : Ord' R] (C : Ctx X P w K mg base N sc k dd) (hd : d.dep ≤ 50 := by decide) : OpQ X (compareOp .Lt) (fz R) (fz R) rB always (fun x y => dlt (R := R) x y) :=
  opq_D (op_cmpD (g := fun a b => PySem.W.dataLt a b) PySem.W.lt_data C.hu65) hd
theorem o_gtD [d : Dat R] [o' : Ord' R] (C : Ctx X P w K mg base N sc k dd) (hd : d.dep ≤ 50 := by decide) : OpQ X (compareOp .Gt) (fz R) (fz R) rB always (fun x y => dlt (R := R) y x) :=
  opq_D (op_cmpD (g := fun a b => PySem.W.dataLt b a) PySem.W.gt_data C.hu65) hd
theorem o_leD [d : Dat R] [o' : Ord' R] (C : Ctx X P w K mg base N sc k dd) (hd : d.dep ≤ 50 := by decide) : OpQ X (compareOp .LtE) (fz R) (fz R) rB always (fun x y => !dlt (R := R) y x) :=
  opq_D (op_cmpD (g := fun a b => !PySem.W.dataLt b a) PySem.W.le_data C.hu65) hd
theorem o_geD [d : Dat R] [o' : Ord' R] (C : Ctx X P w K mg base N sc k dd) (hd : d.dep ≤ 50 := by decide) : OpQ X (compareOp .GtE) (fz R) (fz R) rB always (fun x y => !dlt (R := R) x y) :=
  opq_D (op_cmpD (g := fun a b => !PySem.W.dataLt a b) PySem.W.ge_data C.hu65) hd
/-! dict(pairs) -/
def dputs [DecidableEq κ] (d : List (κ × α)) (xs : List (κ × α)) : List (κ × α) := xs.foldl (fun d kv => dput d kv.1 kv.2) d
theorem dputs_len [DecidableEq κ] : ∀ (xs d : List (κ × α)), (dputs d xs).length ≤ d.length + xs.length
  | [], d => Nat.le_refl _
  | x :: xs, d => by
    have h := dputs_len xs (dput d x.1 x.2)
    have := dput_len d x.1 x.2
    show (dputs (dput d x.1 x.2) xs).length ≤ _
    simp only [List.length_cons]; omega
theorem pairs_prd {A : KF κ} {F H : Hp} (s : Same F (Vw H)) : ∀ {vs : List V} {xs : List (κ × α)}, Paired ((rT (wc A.R (w1 R))).ok F) vs xs → ∃ (ps : List Addr) (kvs : List (Key × V)), vs = ps.map V.ref ∧ Paired (fun p kv => SqT K H p [kV kv.1, kv.2]) ps kvs ∧ Paired (fun (a : Key × V) (b : κ × α) => a.1 = A.f b.1 ∧ A.nice b.1 ∧ R.ok F a.2 b.2) kvs xs
  | _, _, .nil => ⟨[], [], rfl, .nil, .nil⟩
  | _, _, .cons ⟨p, vs, rfl, hp, v1, r, e0, r1, v2, e3, r2⟩ t => by
    subst e3 e0
    obtain ⟨ps, kvs, rfl, h1, h2⟩ := pairs_prd s t
    obtain ⟨e1, n1⟩ := A.to r1
    subst e1
    exact ⟨p :: ps, (A.f _, v2) :: kvs, rfl, .cons (.inl (rd_of (s _ _ hp))) h1, .cons ⟨rfl, n1, r2⟩ h2⟩
theorem prd_merge [DecidableEq κ] {A : KF κ} {F : Hp} : ∀ {kvs : List (Key × V)} {xs : List (κ × α)} {vs : List (Key × V)} {d : List (κ × α)}, Paired (fun (a : Key × V) (b : κ × α) => a.1 = A.f b.1 ∧ A.nice b.1 ∧ R.ok F a.2 b.2) kvs xs → Paired (fun (a : Key × V) (b : κ × α) => a.1 = A.f b.1 ∧ A.nice b.1 ∧ R.ok F a.2 b.2) vs d →
    Paired (fun (a : Key × V) (b : κ × α) => a.1 = A.f b.1 ∧ A.nice b.1 ∧ R.ok F a.2 b.2) (mergeK vs kvs) (dputs d xs)
  | _, _, _, _, .nil, h => h
  | (a, v) :: kvs, (b, z) :: xs, vs, d, .cons ⟨e, n, r⟩ t, h => by
    have e : a = A.f b := e
    subst e
    show Paired _ (mergeK (putK vs (A.f b) v) kvs) (dputs (dput d b z) xs)
    exact prd_merge t (prd_put A.inj h n r)
theorem n_dictP [DecidableEq κ] (C : Ctx X P w K mg base N sc k dd) {A : KF κ} : N1Q X (.type "dict") (bL (rT (wc A.R (w1 R)))) (oK A R) alw (fun xs => dputs [] xs) :=
  ⟨_, call_dictP C.calm, fun F H v x s ⟨z, p, vs, e, hp, pr⟩ _ Q q => by
    obtain ⟨ps, kvs, rfl, h1, h2⟩ := pairs_prd (K := X.K) s pr
    refine ⟨p, ps, kvs, by rw [e], .inl hp, h1, fun l nl => q _ F _ [l] (xo_fresh s nl) ⟨?_, l, _, rfl, rfl, upd_same, prd_merge h2 .nil⟩⟩
    have := dputs_len x []
    simp at this; omega⟩
theorem rwlen_ok {T : Rw α} {n : Nat} [t : RwLen T n] {F : Hp} {vs : List V} {x : α} (h : T.ok F vs x) : vs.length = n := RwLen.ok h
theorem len_tup {T : Rw α} {n : Nat} [t : RwLen T n] : C1Q X (.builtin "len") (fz (rT T)) rI alw (fun _ => (n : Int)) :=
  ⟨_, call_len, fun F H v x s ⟨p, vs, e, h, q⟩ _ Q k => ⟨v, vs.length, rfl, by rw [e]; exact .inr ⟨vs, .inl (rd_of (s _ _ h)), rfl⟩, k _ F H (.refl s) (by show V.int _ = V.int _; rw [rwlen_ok q])⟩⟩
theorem c_strS : C1Q X (.type "str") (fz rS) rS alw (fun z => z) :=
  ⟨_, SkE.call_str_str, fun F H v x s r _ Q k => ⟨x, by rw [r.1], k _ F H (.refl s) ⟨rfl, r.2⟩⟩⟩
end
end Wf
/-! New lists handed back: from when on they are new. -/
namespace Wf
open PySem L2
section
variable {X : Cx} {Γ : Gm} {P : Program} {w : World} {K : PySem.W.Frag} {mg : Str → Option Value} {base : Heap} {N : List Str} {sc : Scope} {k j : Nat} {dd : Bool}
variable {α β γ κ τ : Type} {R : Rp α} {R0' : Rp β} {x0 : β} {a b e : Expr} {p pos : Pos} {G : Hp} {m : R0 α} {ml : R0 (List α)}
/-- .. and what was frozen at G is so now -/
def rG (G : Hp) (R : Rp α) : Rp α := ⟨fun F v x => Same G F ∧ R.ok F v x, fun s h => ⟨h.1.trans s, R.mono s h.2⟩⟩
/-- a list that was not frozen at G -/
def rLn (G : Hp) (R : Rp α) : Rp (List α) := ⟨fun F v xs => (rL R).ok F v xs ∧ ∃ p, v = .ref p ∧ G p = none, fun s h => ⟨(rL R).mono s h.1, h.2⟩⟩
theorem xm_imp {R' : Rp α} (h : ∀ {F v x}, R.ok F v x → R'.ok F v x) (ha : XM X Γ e (fz R) m) : XM X Γ e (fz R') m := by
  intro σ F H D g en Q W tk q
  refine ha σ F H D g en Q W tk ?_
  cases m with
  | bad => exact q
  | ex ε u => exact q
  | ok x => exact fun v F' H' g' r => q v F' H' g' (h r)
theorem xm_unG (ha : XM X Γ e (fz (rG G R)) m) : XM X Γ e (fz R) m := xm_imp (R := rG G R) (fun {F v x} (h : Same G F ∧ R.ok F v x) => h.2) ha
theorem xm_lnL (ha : XM X Γ e (fz (rLn G R)) ml) : XM X Γ e (fz (rL R)) ml := xm_imp (R := rLn G R) (fun {F v x} (h : (rL R).ok F v x ∧ ∃ p, v = .ref p ∧ G p = none) => h.1) ha
theorem env_is {F H : Hp} {R : Rp β} {x : β} : ∀ {D : List Addr} {Γ : Gm} {σ : St} (i : Nat), Γ[i]? = some (.is R x) → Env F H D Γ σ → ∃ v, R.ok F v x
  | _, [], _, _, e, _ => by simp at e
  | _, _ :: _, [], _, _, q => q.elim
  | _, t :: Γ, o :: σ, 0, e, ⟨D1, D2, ed, q, r⟩ => by
    obtain rfl : t = .is R x := by simpa using e
    obtain ⟨_, v, _, h⟩ := q
    exact ⟨v, h⟩
  | _, t :: Γ, o :: σ, i + 1, e, ⟨D1, D2, ed, q, r⟩ => env_is i (by simpa using e) r
theorem xm_toG (i : Nat) (ha : XM X Γ e (fz R) m) (hs : Γ[i]? = some (.is (rG G R0') x0) := by rfl) : XM X Γ e (fz (rG G R)) m := by
  intro σ F H D g en Q W tk q
  obtain ⟨v0, sG, _⟩ := env_is i hs en
  refine ha σ F H D g en Q W tk ?_
  cases m with
  | bad => exact q
  | ex ε u => exact q
  | ok x => exact fun v F' H' g' r => q v F' H' g' ⟨sG.trans g'.ff, r⟩
theorem xm_newG (i : Nat) (ha : XMO X Γ e (oL R) ml) (hs : Γ[i]? = some (.is (rG G R0') x0) := by rfl) : XM X Γ e (fz (rLn G R)) ml := by
  intro σ F H D g en Q W tk q
  obtain ⟨v0, sG, _⟩ := env_is i hs en
  refine ha σ F H D g en _ W tk ?_
  cases ml with
  | bad => exact q
  | ex ε u => exact q
  | ok x =>
    intro v F' H' D' a ok
    have gs : Same F' (ovl F' H' D') := fun p u z => by
      rw [ovl_out (fun hp => by rw [a.dF p hp] at z; cases z)]; exact z
    have nw : ∃ p, v = .ref p ∧ G p = none := by
      obtain ⟨_, p, vs, e1, d, _⟩ := ok
      refine ⟨p, e1, ?_⟩
      have h1 := a.dF p (by rw [d]; simp)
      cases q : G p with
      | none => rfl
      | some u =>
        have := a.ff _ _ (sG _ _ q)
        rw [h1] at this; cases this
    refine q v (ovl F' H' D') H' ⟨a.ff.trans gs, fun p u z => ?_, a.grow.hh, a.grow.hn, fun p h1 h2 => ?_, a.tb⟩ ⟨(oL R).read (fun p hp => ovl_in hp) gs ok, nw⟩
    · by_cases hp : p ∈ D'
      · rw [ovl_in hp] at z; exact z
      · rw [ovl_out hp] at z; exact a.fh p u z
    · rw [ovl_out fun hp => ?_]
      · exact a.grow.new p h1 h2
      · rcases a.dN p hp with z | z
        · cases z
        · exact z h2
instance datLn [d : Dat R] : Dat (rLn G R) where
  enc := Dat.enc (R := rL R)
  dep := Dat.dep (R := rL R)
  rd := fun s h => Dat.rd (R := rL R) s h.1
  lp := fun h => Dat.lp (R := rL R) h.1
  depth := Dat.depth (R := rL R)
  inj := Dat.inj (R := rL R)
  refl := Dat.refl (R := rL R)
instance ordLn [d : Dat R] [o : Ord' R] : Ord' (rLn G R) := ⟨(inferInstance : Ord' (rL R)).al, (inferInstance : Ord' (rL R)).nn, (inferInstance : Ord' (rL R)).srt⟩
/-- a def that hands back a new list, or None: the list is one's own -/
theorem xmo_callN (C : Ctx X P w K mg base N sc k dd) [Scal R] {ι : Type} {ps : List Str} {n : Str} {es : List Expr} {ss : ι → Gm} {ssG : Hp → ι → Gm} {mm : ι → R0 (Option (List α))}
    (Gd : Fk P w K mg base j n ps (spM K mg (fun i : Hp × ι => ssG i.1 i.2) (fun i => mm i.2) (fun i x => .is (rO (rLn i.1 R)) x) (fun _ _ => []) (fun _ _ => [])))
    (hG : ∀ F H t vs, Same F F → Env F H [] (ss t) vs → Env F H [] (ssG F t) vs) {mt : R0 ι} (ha : XMA X Γ (e :: es) ss mt) (hj : j ≤ k := by omega) (hg : gloB sc n = true := by decide +kernel)
    (hdb : (n == ("__debug__" : Str)) = false := by decide +kernel) (he : starEach (e :: es) X.env = (false, eval e X.env) :: starEach es X.env := by rfl) (hpl : (backTo pos (starEach es X.env)).any (·.1) = false := by rfl) : XMO X Γ (.Call (.Name n p) (e :: es) [] pos) (oO (oL R)) (mt.bind fun t => mm t) := by
  obtain rfl := C.K
  obtain rfl := C.mg
  intro σ F H D g en Q W tk q
  refine call_fk C Gd hj hg tk (ha σ F H D g en _ W tk ?_) hdb he hpl
  cases mt with
  | bad => exact q
  | ex ε u => exact q
  | ok t =>
    intro vs F' H' g' e'
    refine ⟨(F', t), F', [], .nil g'.fh (g'.tb g.tb), hG F' H' t _ (.refl _) e', ?_⟩
    have q : PMO X (oO (oL R)) (mm t) Q W σ F H := q
    dsimp only
    revert q
    cases mm t with
    | bad => exact id
    | ex ε u => exact fun q c d F2 H2 D2 a _ ev => q c d F2 H2 (g'.trans (a.sub (List.nil_sublist _)).grow) ev
    | ok x =>
      intro q v F2 H2 D1 D2 a ok _
      obtain ⟨_, v', ev, ok⟩ := (show Slot.ok F2 H2 D1 (.is (rO (rLn F' R)) x) (some v) from ok)
      cases ev
      have b : Step X.K F H [] F' H' [] := Step.of (Good.nil g.fh g.tb) g'
      have a0 := a.sub (D2 := []) (List.nil_sublist _)
      have back : Step X.K F' H' [] F' H2 [] := ⟨.refl _, a0.ff.trans a0.fh, a0.keep, a0.dom, fun p h _ _ => h, List.nodup_nil, fun _ z => (by cases z), fun _ z => (by cases z), fun _ z => (by cases z), fun _ z => (by cases z), a0.tb⟩
      cases x with
      | none => exact q v F' H2 [] (b.trans back) ⟨rfl, ok⟩
      | some xs =>
        obtain ⟨⟨hz, p, ws, e1, hp, pr⟩, p', e2, np⟩ := ok
        have : p = p' := by rw [e1] at e2; cases e2; rfl
        subst this
        have hv : Vw H2 p = some (.lst ws) := a0.fh _ _ hp
        have hH : H2 p = some (.lst ws) := by
          unfold Vw at hv
          cases z : H2 p with
          | none => rw [z] at hv; cases hv
          | some o => rw [z] at hv; cases o <;> first | exact hv | cases hv
        have nt : noTb (.lst ws) := by intro _ z; cases z
        have nH : ¬ Th H' p := fun z => by
          have := a0.new p np z (by simp)
          rw [hp] at this; cases this
        refine q v F' H2 [p] (b.trans ⟨back.ff, back.fh, back.keep, back.dom, back.new, by simp, fun r hr => ?_, fun r hr => ?_, fun r hr o eo => ?_, fun r hr => ?_, back.tb⟩) ⟨hz, p, ws, e1, rfl, hH, Paired.mapP pr fun _ _ z => Scal.all (R := R) z⟩
        all_goals (obtain rfl : r = p := by simpa using hr)
        · exact np
        · exact ⟨_, hH, nt⟩
        · rw [hH] at eo; cases eo; exact nt
        · exact .inr nH
end
end Wf
/-! How many texts a list has, each counted once: len(set(xs)). -/
namespace Wf
open PySem PySem.Spec PyProof.Rows L2
/-- the texts once each -/
def ded (zs : List Str) : List Str := zs.foldl step_dedup []
theorem ded_snoc (zs : List Str) (z : Str) : ded (zs ++ [z]) = step_dedup (ded zs) z := by unfold ded; rw [List.foldl_append]; rfl
theorem ded_len (zs : List Str) : (ded zs).length ≤ zs.length := by
  have := length_foldl_step_dedup_le zs ([] : List Str)
  simpa [ded] using this
theorem step_mem (l : List Str) (v k : Str) : (step_dedup l v).any (· == k) = (l.any (· == k) || decide (k = v)) := by
  by_cases h : l.any (· == v) = true
  · have e : step_dedup l v = l := if_pos h
    rw [e]
    by_cases q : k = v
    · rw [q, h]; rfl
    · rw [decide_eq_false q, Bool.or_false]
  · have e : step_dedup l v = l ++ [v] := if_neg h
    rw [e, List.any_append]
    congr 1
    by_cases q : k = v
    · rw [q]; simp
    · rw [decide_eq_false q]
      simpa using fun z : v = k => q z.symm
theorem step_len (l : List Str) (v : Str) : (step_dedup l v).length = if l.any (· == v) then l.length else l.length + 1 := by
  show (if l.any (· == v) then l else l ++ [v]).length = _
  split <;> simp
section
variable {pr : Program} {w : World} {A : Around}
/-- at a stands the set of the texts of zs -/
abbrev SetTx (pr : Program) (w : World) (h : Heap) (a : Addr) (zs : List Str) : Prop := h.SetOf (PySem.strKind pr w) a (fun k => (ded zs).any (· == k)) (ded zs).length
theorem SetTx.at {h h' : Heap} {a : Addr} {zs : List Str} (x : SetTx pr w h a zs) (e : ∀ o, h.get? a = some o → h'.get? a = some o) : SetTx pr w h' a zs := by
  obtain ⟨o, es, ep, t, ho, more⟩ := x
  exact ⟨o, es, ep, t, e o ho, more⟩
theorem tx_get {us : List Value} {zs : List Str} (x : StrsAre us zs) {i : Nat} (hi : i < zs.length) : ∃ k, us[i]? = some (.str zs[i] k) := by
  induction x generalizing i with
  | nil => simp at hi
  | cons n t _ ih =>
    cases i with
    | zero => exact ⟨t, rfl⟩
    | succ i =>
      obtain ⟨k, e⟩ := ih (i := i) (by simpa using hi)
      exact ⟨k, by simpa using e⟩
theorem tx_add {h' : Heap} {a : Addr} {zs : List Str} {z : Str} (x : h'.SetOf (PySem.strKind pr w) a (fun k => (ded zs).any (· == k) || decide (k = z)) (if (ded zs).any (· == z) then (ded zs).length else (ded zs).length + 1)) : SetTx pr w h' a (zs ++ [z]) := by
  refine SetOf_congr x (fun k => ?_) ?_
  · rw [ded_snoc, step_mem]
  · rw [ded_snoc, step_len]
/-- the loop by which a set takes the texts of a list, from the i-th on -/
theorem tx_loop {l it a : Addr} {us : Array Value} {zs : List Str} (tx : StrsAre us.toList zs) (hd : A.handled = none) (few : zs.length + 1 < scanBound) (n1 : it ≠ l) (n2 : a ≠ it) (n3 : a ≠ l) {R : Result → Shared → Prop} :
    ∀ (r i : Nat) (s : Shared), i + r = zs.length → s.heap.IsListIter it l i → s.heap.IsList l us → SetTx pr w s.heap a (zs.take i) →
      (∀ h' tk, SetTx pr w h' a zs → (∀ b o, b ≠ a → b ≠ it → s.heap.get? b = some o → h'.get? b = some o) → R (.ok (.ret .none)) { s with heap := h', toks := tk }) →
      codeAny (model pr w) A (.builtin "set.update.loop" ⟨[.ref a, .ref it], []⟩) R s
  | 0, i, s, hr, hit, hl, hs, fin => by
    have hlen : us.size = zs.length := by rw [← tx.len_eq, Array.length_toList]
    refine codeAny_builtin F.entry_set_update_loop ?_
    rw [Around.under_plainId F.plain_set_update_loop]
    refine wpAny_bind (wpAny_pyNext_list_end (by simpa using hd) hit hl (by rw [Array.getElem?_eq_none]; omega) fun h' ex => ?_)
    have hz : zs.take i = zs := List.take_of_length_le (by omega)
    rw [hz] at hs
    exact wpAny_pure (fin h' s.toks (hs.at fun o e => ex a o n2 e) fun b o _ nb e => ex b o nb e)
  | r + 1, i, s, hr, hit, hl, hs, fin => by
    have hi : i < zs.length := by omega
    obtain ⟨k, ek⟩ := tx_get tx hi
    rw [Array.getElem?_toList] at ek
    refine codeAny_builtin F.entry_set_update_loop ?_
    rw [Around.under_plainId F.plain_set_update_loop]
    refine wpAny_bind (wpAny_pyNext_list_item hit hl ek fun h1 hit1 sb1 => ?_)
    have hs1 : SetTx pr w h1 a (zs.take i) := hs.at fun o e => (sb1.2 a n2).trans e
    have hl1 : h1.IsList l us := hl.at fun o e => (sb1.2 l (Ne.symm n1)).trans e
    refine wpAny_bind (wpAny_holding (wpAny_holding (wpAny_bind ((PySem.strKind pr w).pyHash (k := zs[i]) (strKind_is _ _ _ _) ?_))))
    have dl := ded_len (zs.take i)
    have tl : (zs.take i).length ≤ i := by simp; omega
    refine wpAny_setAddHashed_of (knd := PySem.strKind pr w) (strKind_is _ _ _ _) rfl hs1 (by omega) fun h2 sb2 hs2 => ?_
    have hs3 : SetTx pr w h2 a (zs.take (i + 1)) := by
      rw [List.take_succ_eq_append_getElem hi]
      exact tx_add hs2
    refine wpAny_pure ⟨plainId_quiet F.plain_set_update_loop _, tx_loop tx hd few n1 n2 n3 r (i + 1) _ (by omega) (hit1.at fun o e => (sb2.2 it (Ne.symm n2)).trans e) (hl1.at fun o e => (sb2.2 l (Ne.symm n3)).trans e) hs3 fun h' tk hs' kp => ?_⟩
    exact fin h' tk hs' fun b o na ni e => kp b o na ni ((sb2.2 b na).trans ((sb1.2 b ni).trans e))
/-- set(l), l a list of texts -/
theorem call_tx {E : Value → Shared → Prop} {s : Shared} {l : Addr} {us : Array Value} {zs : List Str} {Q : Value → Shared → Prop} (tx : StrsAre us.toList zs) (hd : A.handled = none) (few : zs.length + 1 < scanBound) (hl : s.heap.IsList l us)
    (fin : ∀ h' tk, SetTx pr w h' s.heap.objs.size zs → (∀ b o, s.heap.get? b = some o → h'.get? b = some o) → Q (.ref s.heap.objs.size) { s with heap := h', toks := tk }) : wpAny (model pr w) A (call (.type "set") [.ref l]) Q E s := by
  obtain ⟨top, rest, order⟩ := PySem.F.called_set.mro
  obtain ⟨made, sub, noType, may, okCall⟩ := And.intro PySem.F.called_set.made (And.intro PySem.F.called_set.sub (And.intro PySem.F.called_set.notType (And.intro PySem.F.called_set.canCreate (PySem.F.typeCall_set_1 (.ref l)))))
  refine wpAny_call (codeAny_of_tree (?_ : wpAny _ _ (callAny (.type "set") _) _ _ _))
  refine wpAny_pure (And.intro (Code.quiet_builtin _ (by decide +kernel)) (codeAny_builtin PySem.F.entry_type_call ?_))
  rw [Around.under_plain (weight_type_call_type "set" [.ref l] []) rfl]
  repeat (any_goals (first | assumption | wp_step))
  have grow : ∀ (o : Obj) (b : Addr) (u : Obj), s.heap.get? b = some u → (s.heap.push o).get? b = some u := fun o b u e => Heap.get?_push_of_some _ e
  refine codeAny_mono (code_set_new_1 (.ref l) (E := E) (Q₁ := fun v z => ∃ b : Bool, v = .ref s.heap.objs.size ∧ z = { s with heap := s.heap.push { cls := .type "set", dict := none, data := .set #[] 0 (.fresh 0 0 b) } }) fun b => ⟨b, rfl, rfl⟩) fun out z hz => ?_
  match out, hz with
  | .error _, hz => exact hz
  | .ok .next, hz => exact hz.elim
  | .ok (.brk), hz => exact hz.elim
  | .ok (.cont), hz => exact hz.elim
  | .ok (.ret v), ⟨b, e1, e2⟩ =>
    subst e1 e2
    have at0 : (s.heap.push { cls := .type "set", dict := none, data := .set #[] 0 (.fresh 0 0 b) }).get? s.heap.objs.size = some { cls := .type "set", dict := none, data := .set #[] 0 (.fresh 0 0 b) } := Heap.get?_push_size _ rfl
    have isSet : Shared.TypeIs { s with heap := s.heap.push { cls := .type "set", dict := none, data := .set #[] 0 (.fresh 0 0 b) } } (.ref s.heap.objs.size) "set" := ⟨_, at0, rfl⟩
    have look := PySem.F.called_set.init.lookup
    have bind := PySem.F.called_set.init.bind (.ref s.heap.objs.size)
    repeat (any_goals (first | assumption | wp_step))
    refine codeAny_mono (codeAny_call_builtin (R := wants (fun v z => v = .none ∧ ∃ h' tk, z = { s with heap := h', toks := tk } ∧ SetTx pr w h' s.heap.objs.size zs ∧ ∀ b o, s.heap.get? b = some o → h'.get? b = some o) E) PySem.F.called_set.init.plain PySem.F.entry_set_init (check_set_init_1 isSet ?_)) fun out2 z2 hz2 => ?_
    · obtain ⟨ob, e0, ec, nn, ed⟩ := id hl
      cases ob with
      | mk oc od ov os =>
        cases ec
        cases ed
        have there := grow { cls := .type "set", dict := none, data := .set #[] 0 (.fresh 0 0 b) } l _ e0
        have aList : (s.heap.push { cls := .type "set", dict := none, data := .set #[] 0 (.fresh 0 0 b) }).IsList l us := ⟨_, there, rfl, nn, rfl⟩
        have noSet := PySem.F.sub_list_set
        have noFro := PySem.F.sub_list_frozenset
        have noDict : (Value.type "list" == Value.type "dict") = false := by decide
        unfold Builtin.«set.__init__» noKeywords Builtin.Frozenset.updateFrom
        generalize hIt : pyIter = It
        wp_walk
        subst hIt
        have big : l < s.heap.objs.size := Heap.lt_size e0
        refine wpAny_pyIter_list aList (wpAny_bind (wpAny_runValue ?_))
        have sz : (s.heap.push { cls := .type "set", dict := none, data := .set #[] 0 (.fresh 0 0 b) }).objs.size = s.heap.objs.size + 1 := Heap.size_push ..
        have start : SetTx pr w ((s.heap.push { cls := .type "set", dict := none, data := .set #[] 0 (.fresh 0 0 b) }).push { cls := .type "list_iterator", data := .fields #[.ref l, .int 0 0] }) s.heap.objs.size (zs.take 0) :=
          SetOf_congr ((setObjOf_fresh (knd := PySem.strKind pr w) b).setOf (Heap.get?_push_of_some _ at0) (by unfold scanBound; omega)) (fun _ => rfl) rfl
        refine tx_loop (us := us) tx (by simp [hd]) few (by rw [sz]; exact Nat.ne_of_gt (Nat.lt_succ_of_lt big)) (by rw [sz]; exact Nat.ne_of_lt (Nat.lt_succ_self _)) (Nat.ne_of_gt big) zs.length 0 _ (by omega) ⟨_, Heap.get?_push_size _ rfl, rfl, rfl⟩ (aList.push _) start fun h' tk hs kp => ?_
        refine wpAny_pure (wpAny_pure ⟨rfl, h', tk, rfl, hs, fun c o e => ?_⟩)
        have lt : c < s.heap.objs.size := Heap.lt_size e
        exact kp c o (Nat.ne_of_lt lt) (by rw [sz]; exact Nat.ne_of_lt (Nat.lt_succ_of_lt lt)) (Heap.get?_push_of_some _ (grow _ c o e))
    · match out2, hz2 with
      | .error _, hz2 => exact hz2
      | .ok .next, hz2 => exact hz2.elim
      | .ok (.brk), hz2 => exact hz2.elim
      | .ok (.cont), hz2 => exact hz2.elim
      | .ok (.ret v), ⟨e1, h', tk, e2, hs, kp⟩ =>
        subst e1 e2
        repeat (any_goals (first | assumption | wp_step))
        exact fin h' tk hs kp
end
section
variable {X : Cx} {Γ : Gm} {P : Program} {w : World} {K : PySem.W.Frag} {mg : Str → Option Value} {base : Heap} {N : List Str} {sc : Scope} {k : Nat} {dd : Bool} {a : Expr} {p1 p2 p3 pos : Pos} {m : R0 (List Str)}
def tTx (ta : TE) : TE := fun σ H Q => ta σ H fun x H1 => ∃ l zs, x = .ref l ∧ Rd H1 l (.lst (zs.map V.str)) ∧ zs.length ≤ 1000 ∧ Q (.int (ded zs).length) H1
theorem tx_are : ∀ {zs : List Str} {us : List Value}, Vals (zs.map V.str) us → StrsAre us zs
  | [], _, .nil => .nil
  | z :: zs, _, .cons ⟨t, e⟩ r => by
    subst e
    exact .cons z t (tx_are r)
theorem pe_tx {ta : TE} (calm : X.calm = true) (gl : Gl X "len") (nl : X.mg "len" = none) (gs : Gl X "set") (ns : X.mg "set" = none) (ha : PE X a ta) (na : starEach [a] X.env = (false, eval a X.env) :: starEach [] X.env := by rfl) :
    PE X (.Call (.Name "len" p1) [.Call (.Name "set" p2) [a] [] p3] [] pos) (tTx ta) where
  run pins s σ H Q I h := by
    refine Call_ (ld_blt I gl nl boot_len (callWith_builtin1 (args_cons (Call_ (ld_blt I gs ns boot_set ?_)) rfl) rfl rfl))
    refine callWith_type1 (args_cons (thn (ha.run pins s σ H _ I h) fun v s1 z => args_nil ?_) na) na rfl
    obtain ⟨x, H1, I1, rx, l, zs, e, hl, few, q⟩ := z
    subst e
    cases rx
    obtain ⟨us, vs, pl, _⟩ := I1.list (.inl hl)
    have dl := ded_len zs
    refine call_tx (us := us.toArray) (by simpa using tx_are vs) (I1.ok.hd calm) (by unfold scanBound; omega) pl.isList fun h' tk hs kp => args_nil ?_
    obtain ⟨o, es, ep, t, ho, hex, hdt, _, _, _, hfit, hn⟩ := hs
    have I2 : Inv X pins σ H1 { s1 with heap := h', toks := tk } := I1.kept fun b u e => kp b u e
    exact call_len_set ho hex hdt hfit (by rw [hn]; omega) ⟨.int (ded zs).length, H1, I2.tok _, ⟨_, by rw [hn]⟩, q⟩
def CFew (xs : List Str) : Prop := xs.length ≤ 1000
instance : DecidablePred CFew := fun xs => inferInstanceAs (Decidable (_ ≤ _))
theorem xm_lenSet (C : Ctx X P w K mg base N sc k dd) (hf : Free mg) (ha : XM X Γ a (bL rS) m) (g1 : gloB sc "len" = true := by decide +kernel) (g2 : gloB sc "set" = true := by decide +kernel) (na : starEach [a] X.env = (false, eval a X.env) :: starEach [] X.env := by rfl) :
    XM X Γ (.Call (.Name "len" p1) [.Call (.Name "set" p2) [a] [] p3] [] pos) (fz rI) (m.bind fun xs => gd (CFew xs) (.ok ((ded xs).length : Int))) := by
  intro σ F H D g en Q W tk q
  refine (pe_tx C.calm (C.gl g1) (by rw [C.mg]; exact hf.at_ (by decide +kernel)) (C.gl g2) (by rw [C.mg]; exact hf.at_ (by decide +kernel)) (pe_ a) na).wp (ha σ F H D g en _ W tk ?_)
  cases m with
  | bad => exact q
  | ex ε u => exact q
  | ok xs =>
    replace q : PM X (fz rI) (gd (CFew xs) (.ok ((ded xs).length : Int)) : R0 Int) Q W σ F H := q
    by_cases hk : CFew xs
    · rw [gd_true hk] at q
      intro v F1 H1 g1 ⟨_, p, vs, e, hp, pr⟩
      refine ⟨p, xs, e, by rw [← (prd_strs pr).1]; exact hp, hk, q _ F1 H1 g1 rfl⟩
    · rw [gd_bad hk] at q; exact q.elim
end
end Wf
/-! Loops over a list of one's own that stands still meanwhile. -/
namespace Wf
open PySem L2
/-- one's own list, at p -/
def oLat {α : Type} (R : Rp α) (p : Addr) : Rs (List α) where
  ok := fun F H D v xs => (oL R).ok F H D v xs ∧ v = .ref p
  rd := rL R
  frame := fun s k h => ⟨(oL R).frame s k h.1, h.2⟩
  read := fun k s h => (oL R).read k s h.1
theorem bwLat {α : Type} {R : Rp α} {p : Addr} : Bw (oLat R p) (bL R) := ⟨fun h => bwL.of h.1⟩
instance {α : Type} {R : Rp α} {p : Addr} : OwnK (oLat R p) := ⟨fun h => (inferInstance : OwnK (oL R)).no h.1⟩
section
variable {X : Cx} {Γ : Gm} {PP : Program} {w : World} {K : PySem.W.Frag} {mg : Str → Option Value} {base : Heap} {N : List Str} {sc : Scope} {k : Nat} {dd : Bool}
variable {α δ γ β τ : Type} {R : Rp α} {rest : List Stmt} {pos : Pos} {J : τ → Post} {Γx : β → Gm} {Kt : Gm → Res β τ → Prop} {b : β} {L : List Nat} {h : α → Gm → Gm}
theorem xg_forO (C : Ctx X PP w K mg base N sc k dd) (j : Nat) {n : Str} {pn : Pos} {tg : Expr} {body : List Stmt} {xs : List α} {σ' ρ : Type} (Γl : σ' → Gm) (s0 : σ') {JR : ρ → Post} {inj : ρ → τ} {bm : σ' → α → Res β (Lo σ' ρ)} {q : σ' → Res β τ}
    (hg : XTg X tg R L h) (h0 : Wk Γ (Γl s0)) (hb : ∀ p s x, XG X (h x ((Γl s).set j (.res (oLat R p) xs))) body (bm s x) (JL (fun s => (Γl s).set j (.res (oLat R p) xs)) JR) Γx (KL fun s => (Γl s).set j (.res (oLat R p) xs))) (ho : ∀ r s G, (JR r).rt s G → (J (inj r)).rt s G)
    (hr : ∀ s, XG X (Γl s) rest (q s) J Γx Kt) (hj : ∀ s, (Γl s)[j]? = some (.res (oL R) xs) := by intro _; rfl) (hv : visB sc n = true := by decide +kernel) (hN : N[j]? = some n := by rfl)
    (hd : (n == ("__debug__" : Str)) = false := by decide +kernel) (hcd : (n == ("__classdict__" : Str)) = false := by decide +kernel) (hs : ∀ x, foldedSetIterable (.Name n pn) X.env x = pure x := by intro _; rfl) : XG X Γ (.For tg (.Name n pn) body [] pos :: rest) (forK bm q inj xs s0) J Γx Kt := by
  intro σ F H D g en E W tk hk hm
  obtain ⟨D0, sb0, e0⟩ := h0.env en
  obtain ⟨D1, o, h1, _, v, h3, h4⟩ := e0.get (hj s0)
  subst h3
  obtain ⟨hz, p, vs0, ev, d1, hp0, pr0⟩ := id h4
  have a1' := (Step.refl g).sub sb0
  -- the slot, by its place
  have down : ∀ s F' H' D' σ', Env F' H' D' ((Γl s).set j (.res (oLat R p) xs)) σ' → Env F' H' D' (Γl s) σ' := fun s F' H' D' σ' e => by
    have hl : j < (Γl s).length := (List.getElem?_eq_some_iff.mp (hj s)).1
    have := Env.imp (s := .res (oLat R p) xs) (s' := .res (oL R) xs) (fun D o ⟨v, e, z⟩ => ⟨v, e, z.1⟩) j (by rw [List.getElem?_set_self hl]) e
    rw [List.set_set] at this
    have e2 : (Γl s).set j (.res (oL R) xs) = Γl s := by
      refine List.ext_getElem? fun i => ?_
      by_cases hi : i = j
      · subst hi; rw [List.getElem?_set_self hl, hj s]
      · rw [List.getElem?_set_ne (Ne.symm hi)]
    rw [e2] at this; exact this
  have up : Env F H D0 ((Γl s0).set j (.res (oLat R p) xs)) σ := by
    have aux : ∀ {Γ : Gm} {D : List Addr} {σ : St} (i : Nat), Γ[i]? = some (.res (oL R) xs) → σ[i]? = some (some v) → Env F H D Γ σ → Env F H D (Γ.set i (.res (oLat R p) xs)) σ := by
      intro Γ
      induction Γ with
      | nil => intro D σ i e; simp at e
      | cons t Γ ih =>
        intro D σ i e hσ en
        cases σ with
        | nil => exact en.elim
        | cons o σ =>
          obtain ⟨D1, D2, ed, q, r⟩ := en
          cases i with
          | zero =>
            obtain rfl : t = .res (oL R) xs := by simpa using e
            obtain ⟨v', e1, z⟩ := q
            obtain rfl : o = some v := by simpa using hσ
            cases e1
            exact ⟨D1, D2, ed, ⟨v, rfl, z, ev⟩, r⟩
          | succ i => exact ⟨D1, D2, ed, q, ih i (by simpa using e) (by simpa using hσ) r⟩
    exact aux j (hj s0) h1 e0
  refine (pss_cons (ps_for C.own C.calm (pi_list (pe_var (i := j) (by rw [C.N]; exact hN) (C.vis hv) hd hcd)) (pg_ tg) (pb_ body) hs) (pb_ rest)).wp ⟨v, h1, p, ev, ⟨vs0, .inl (.inl hp0)⟩, ?_⟩
  refine ⟨fun i n σ1 H1' => n = xs.length - i ∧ i ≤ xs.length ∧ ∃ s F' D', Step X.K F H D0 F' H1' D' ∧ Env F' H1' D' ((Γl s).set j (.res (oLat R p) xs)) σ1 ∧ MG X (forK bm q inj (xs.drop i) s) J Γx E W F' H1' D', ⟨xs.length, by simp, Nat.zero_le _, s0, F, D0, .refl (a1'.good g.tb), up, hm.step a1'⟩, ?_⟩
  rintro i n σ1 H' ⟨rfl, hle, s, F', D', a, en', hm1⟩
  have aa := a1'.trans a
  have g' := aa.good g.tb
  have fin : ∀ s' σ3 F3 H3 D3, Step X.K F H D F3 H3 D3 → Env F3 H3 D3 (Γl s') σ3 → MG X (q s') J Γx E W F3 H3 D3 → wpB X rest E σ3 H3 := fun s' σ3 F3 H3 D3 a3 e3 mg =>
      (hr s') σ3 F3 H3 D3 (a3.good g.tb) e3 E W tk (fun Γ2 m2 kt σ2 F2 H2 D2 a2 e2 mg => hk Γ2 m2 kt σ2 F2 H2 D2 (a3.trans a2) e2 mg) mg
  obtain ⟨Dj, oj, k1, _, vj, k3, ⟨k4, k5⟩⟩ := en'.get (show ((Γl s).set j (.res (oLat R p) xs))[j]? = some (.res (oLat R p) xs) from List.getElem?_set_self (List.getElem?_eq_some_iff.mp (hj s)).1)
  obtain ⟨_, p', vs, e', _, hp, pr⟩ := k4
  obtain rfl : p' = p := by rw [k5] at e'; cases e'; rfl
  have hp' : SqL X.K H' p' vs := .inl (.inl hp)
  have hl : vs.length = xs.length := pr.length
  by_cases hlt : i < xs.length
  · obtain ⟨x, hx'⟩ : ∃ x, xs[i]? = some x := ⟨xs[i], List.getElem?_eq_getElem hlt⟩
    have ed : xs.drop i = x :: xs.drop (i + 1) := by
      obtain ⟨h, e⟩ := List.getElem?_eq_some_iff.mp hx'
      rw [List.drop_eq_getElem_cons h, e]
    rw [ed] at hm1
    have hi : i < vs.length := by omega
    refine .inr ⟨⟨vs, vs[i], hp', List.getElem?_eq_getElem hi⟩, fun σ2 H2 => i + 1 ≤ xs.length ∧ ∃ s F' D', Step X.K F H D0 F' H2 D' ∧ Env F' H2 D' ((Γl s).set j (.res (oLat R p') xs)) σ2 ∧ MG X (forK bm q inj (xs.drop (i + 1)) s) J Γx E W F' H2 D', fun σ2 H2 q => ⟨xs.length - (i + 1), by omega, rfl, q⟩, fun v2 H'' ⟨eH, y⟩ => ?_⟩
    subst eH
    obtain ⟨x', e1, r⟩ := pr.get (y vs hp')
    rw [hx'] at e1; cases e1
    refine hg ((Γl s).set j (.res (oLat R p') xs)) v2 x σ1 F' _ D' g' en' r _ fun σ3 D3 s3 e3 _ => ?_
    have st3 := (Step.refl g').sub s3
    have a3 := aa.trans st3
    have hm1 : MG X ((bm s x).bind fun r => match r with
      | .go s' => forK bm q inj (xs.drop (i + 1)) s'
      | .stop s' => q s'
      | .out r => .ok (inj r)) J Γx E W F' _ D' := hm1
    have hm2 := hm1.step st3
    refine hb p' s x σ3 F' _ D3 (a3.good g.tb) e3 { E with nx := _, ct := _, bk := wpB X rest E } W tk ?_ ?_
    · rintro Γ' m' ⟨s', rfl, wk⟩ σ4 F4 H4 D4 a4 e4 mg
      have mg : Meets X.K (JL (fun s => (Γl s).set j (.res (oLat R p') xs)) JR (.go s')) _ F4 H4 D4 := mg
      exact mg.ct Γ' wk σ4 F4 H4 D4 (.refl (a4.good (a3.good g.tb).tb)) e4
    · revert hm2
      cases bm s x with
      | bad => exact id
      | ex ε b => exact id
      | ok r => cases r with
        | go s' =>
          intro hm2
          have hm2 : MG X (forK bm q inj (xs.drop (i + 1)) s') J Γx E W F' _ D3 := hm2
          refine ⟨fun _ z => z.elim, fun Γ' wk σ4 F4 H4 D4 a4 e4 => ?_, fun _ _ z => z.elim⟩
          obtain ⟨D5, s5, e5⟩ := Wk.env wk e4
          have a5 := a4.sub s5
          exact ⟨hlt, s', F4, D5, (a.trans st3).trans a5, e5, hm2.step a5⟩
        | stop s' =>
          intro hm2
          have hm2 : MG X (q s') J Γx E W F' _ D3 := hm2
          refine ⟨fun Γ' wk σ4 F4 H4 D4 a4 e4 => ?_, fun _ z => z.elim, fun _ _ z => z.elim⟩
          obtain ⟨D5, s5, e5⟩ := Wk.env wk e4
          have a5 := a4.sub s5
          exact fin s' σ4 F4 H4 D5 (a3.trans a5) (down s' _ _ _ _ e5) (hm2.step a5)
        | out r =>
          intro hm2
          have hm2 : Meets X.K (J (inj r)) E F' _ D3 := hm2
          exact ⟨fun _ z => z.elim, fun _ z => z.elim, fun s3 G z => hm2.rt s3 G (ho r s3 G z)⟩
  · have e : i = xs.length := by omega
    subst e
    rw [List.drop_length] at hm1
    exact .inl ⟨⟨vs, hp', by omega⟩, fin s σ1 F' H' D' aa (down s _ _ _ _ en') hm1⟩
/-- None or not, of what may be one's own -/
theorem xmt_isNone' {e : Expr} {m : R0 Bool} (h : XMT X Γ e m) : XMT X Γ e m := h
end
end Wf
/-! Lists that are changed in the midst; == of rows; x or y. -/
namespace Wf
open PySem PySem.Spec PyProof.Rows L2
section
variable {X : Cx} {Γ : Gm} {P : Program} {w : World} {K : PySem.W.Frag} {mg : Str → Option Value} {base : Heap} {N : List Str} {sc : Scope} {k : Nat} {dd : Bool}
variable {α β γ κ δ τ : Type} {R : Rp α} {R1 : Rp α} {R2 : Rp δ} {R3 : Rp γ} {a b e e2 : Expr} {pos p1 p2 p3 : Pos} {rest : List Stmt} {J : τ → Post} {Γx : β → Gm} {Kt : Gm → Res β τ → Prop} {bb : β}
mutual
theorem lp_uniq {F : Hp} : ∀ {v : V} {d e : PyData}, Lp F v d → Lp F v e → d = e
  | _, _, _, .non, h => by cases h; rfl
  | _, _, _, .bl _, h => by cases h; rfl
  | _, _, _, .int _, h => by cases h; rfl
  | _, _, _, .str _ _, h => by cases h; rfl
  | _, _, _, .lst h1 h2, h => by
    cases h with
    | lst g1 g2 => rw [h1] at g1; cases g1; rw [lpa_uniq h2 g2]
    | tup g1 g2 => rw [h1] at g1; cases g1
  | _, _, _, .tup h1 h2, h => by
    cases h with
    | lst g1 g2 => rw [h1] at g1; cases g1
    | tup g1 g2 => rw [h1] at g1; cases g1; rw [lpa_uniq h2 g2]
theorem lpa_uniq {F : Hp} : ∀ {vs : List V} {ds es : List PyData}, LpAll F vs ds → LpAll F vs es → ds = es
  | _, _, _, .nil, h => by cases h; rfl
  | _, _, _, .cons h1 h2, h => by
    cases h with
    | cons g1 g2 => rw [lp_uniq h1 g1, lpa_uniq h2 g2]
end
theorem hitsP {K' : Type} [DecidableEq K'] {pg : Program} {A : Around} {s : Shared} {kb : List (K' × Value)} : ∀ {ks : List (K' × Value)} {r : Bool}, PySem.W.KeqHits A s kb ks r → PySem.W.KeqHitsP pg w A s kb ks r
  | _, _, .nil => .nil
  | _, _, .miss h => .miss h
  | _, _, .hit h g t => .hit h g.eqP (hitsP t)
/-- == of two items that read as data -/
theorem item_dat [d : Dat R] [DecidableEq α] {pins : List (Addr × Obj)} {σ : L2.St} {F H : Hp} {s : Shared} (I : Inv X pins σ H s) (f : Same F (Vw H)) {B : Around} (hu : B.units + 64 < cLine) (hd : d.dep ≤ 60) {v u : V} {x y : α} (r1 : R.ok F v x) (r2 : R.ok F u y) {v' u' : Value} (q1 : RelV v v') (q2 : RelV u u') :
    SeqAt.EqP X.prog X.w B s v' u' (decide (x = y)) := by
  obtain ⟨d1, c1⟩ := d.rd (K := X.K) f r1
  obtain ⟨d2, c2⟩ := d.rd (K := X.K) f r2
  obtain ⟨as, g1⟩ := Dp.reads I _ _ _ d1 q1
  obtain ⟨bs, g2⟩ := Dp.reads I _ _ _ d2 q2
  have h1 := shaped_of c1 (Nat.le_trans (d.depth x) (by omega))
  have h2 := shaped_of c2 (Nat.le_trans (d.depth y) (by omega))
  have := SeqAt.eqAt_reads _ _ B s v' u' as bs g1 g2 (SeqAt.canLay_of_shaped h1) (SeqAt.canLay_of_shaped h2) (SeqAt.room_of_shaped h1 hu)
  rw [Dat.eqv] at this
  exact this.eqP
/-- .. that are dicts -/
theorem item_dict [DecidableEq κ] [DecidableEq α] [d : Dat R] {A : KF κ} {pins : List (Addr × Obj)} {σ : L2.St} {F H : Hp} {s : Shared} (I : Inv X pins σ H s) (f : Same F (Vw H)) {B : Around} (hu : B.in1.units + 64 < cLine) (hu2 : B.units < cLine) (hd : d.dep ≤ 60) {v u : V} {x y : List (κ × α)} (r1 : (rK A R).ok F v x) (r2 : (rK A R).ok F u y)
    (ux : dEq x x = true) {v' u' : Value} (q1 : RelV v v') (q2 : RelV u u') : ∃ r, SeqAt.EqP X.prog X.w B s v' u' r ∧ (r = dEq x y) := by
  obtain ⟨_, pa, ks, rfl, ha, pra⟩ := r1
  obtain ⟨_, pb, ls, rfl, hb, prb⟩ := r2
  cases (show v' = Value.ref pa from q1)
  cases (show u' = Value.ref pb from q2)
  obtain ⟨_, n1, va, ra, da⟩ := (show ObjOk X.prog X.w H s.heap pa (.dK ks) from (rd_of (f _ _ ha)).ok I.hok)
  obtain ⟨_, n2, vb, rb, db⟩ := (show ObjOk X.prog X.w H s.heap pb (.dK ls) from (rd_of (f _ _ hb)).ok I.hok)
  have el : (va.length == vb.length && x.all fun kv => match look y kv.1 with | some u => decide (kv.2 = u) | none => false) = dEq x y := by
    unfold dEq
    have e1 : (va.length == vb.length) = decide (x.length = y.length) := by
      rw [← kv_len ra, ← kv_len rb, pra.length, prb.length]
      by_cases q : x.length = y.length
      · rw [decide_eq_true q, q]; simp
      · rw [decide_eq_false q]; simpa using q
    rw [e1] <;> rfl
  by_cases e : pa = pb
  · subst e
    refine ⟨true, (SeqAt.EqAt.same _).eqP, ?_⟩
    have : ks = ls := by rw [ha] at hb; cases hb; rfl
    subst this
    have uni : ∀ {zs : List (Key × V)} {x y : List (κ × α)}, Paired (fun (a : Key × V) (b : κ × α) => a.1 = A.f b.1 ∧ A.nice b.1 ∧ R.ok F a.2 b.2) zs x → Paired (fun (a : Key × V) (b : κ × α) => a.1 = A.f b.1 ∧ A.nice b.1 ∧ R.ok F a.2 b.2) zs y → x = y := by
      intro zs x y h1
      induction h1 generalizing y with
      | nil => intro h2; cases h2; rfl
      | @cons z xv zs xs h t ih =>
        intro h2
        cases h2 with
        | @cons _ yv _ ys h' t' =>
          obtain ⟨k1, v1⟩ := xv
          obtain ⟨k2, v2⟩ := yv
          have ek : k1 = k2 := A.inj (h.1.symm.trans h'.1)
          have ev : v1 = v2 := by
            obtain ⟨d1, c1⟩ := d.rd (K := X.K) f h.2.2
            obtain ⟨d2, c2⟩ := d.rd (K := X.K) f h'.2.2
            have l1 := d.lp h.2.2
            have l2 := d.lp h'.2.2
            exact Dat.enc_inj (lp_uniq l1 l2)
          rw [ek, ev, ih t']
    rw [← uni pra prb]; exact ux.symm
  · refine ⟨_, SeqAt.eqP_refs e fun E Q q => PySem.W.rcP_dicts (knd := mixKind X.prog X.w) n1 n2 da db hu2 (fun _ => hitsP (dHits (B := B) I f hu hd rb prb pra ra)) E Q q, el⟩
/-- [list, dict, list] == another of the kind -/
theorem o_eqW3 [DecidableEq κ] [DecidableEq δ] [DecidableEq α] [DecidableEq γ] [d1 : Dat R1] [d2 : Dat R2] [d3 : Dat R3] (C : Ctx X P w K mg base N sc k dd) {A : KF κ} (h1 : d1.dep ≤ 60 := by decide) (h2 : d2.dep ≤ 60 := by decide) (h3 : d3.dep ≤ 60 := by decide) :
    OpQ X (compareOp .Eq) (fz (rLw (wc R1 (wc (rK A R2) (w1 R3))))) (fz (rLw (wc R1 (wc (rK A R2) (w1 R3))))) rB (fun x _ => dEq x.2.1 x.2.1 = true) (fun x y => decide (x.1 = y.1) && (dEq x.2.1 y.2.1 && decide (x.2.2 = y.2.2))) := by
  refine ⟨fun x y H Q => ∃ (F : Hp) (u1 u2 : α × List (κ × δ) × γ), Same F (Vw H) ∧ (rLw (wc R1 (wc (rK A R2) (w1 R3)))).ok F x u1 ∧ (rLw (wc R1 (wc (rK A R2) (w1 R3)))).ok F y u2 ∧ dEq u1.2.1 u1.2.1 = true ∧ Q (.bl (decide (u1.1 = u2.1) && (dEq u1.2.1 u2.2.1 && decide (u1.2.2 = u2.2.2)))) H, ?_, fun F H v u x y s r1 r2 hk Q q => ⟨F, x, y, s, r1, r2, hk, q _ F H (.refl s) rfl⟩⟩
  intro pins s σ H x y v u Q I rx ry ⟨F, z1, z2, f, k1, k2, hk, q⟩
  obtain ⟨pa, ws, rfl, ha, a1, _, rfl, g1, a2, _, rfl, g2, a3, rfl, g3⟩ := k1
  obtain ⟨pb, us, rfl, hb, b1, _, rfl, e1, b2, _, rfl, e2, b3, rfl, e3⟩ := k2
  cases (show v = Value.ref pa from rx)
  cases (show u = Value.ref pb from ry)
  obtain ⟨ia, va, la, _⟩ := I.list (.inl (rd_of (f _ _ ha)))
  obtain ⟨ib, vb, lb, _⟩ := I.list (.inl (rd_of (f _ _ hb)))
  obtain ⟨x1, x2, x3, rfl, m1, m2, m3⟩ : ∃ x1 x2 x3, ia = [x1, x2, x3] ∧ RelV a1 x1 ∧ RelV a2 x2 ∧ RelV a3 x3 := by
    cases va with
    | cons m1 t => cases t with
      | cons m2 t => cases t with
        | cons m3 t => cases t; exact ⟨_, _, _, rfl, m1, m2, m3⟩
  obtain ⟨y1, y2, y3, rfl, n1, n2, n3⟩ : ∃ y1 y2 y3, ib = [y1, y2, y3] ∧ RelV b1 y1 ∧ RelV b2 y2 ∧ RelV b3 y3 := by
    cases vb with
    | cons m1 t => cases t with
      | cons m2 t => cases t with
        | cons m3 t => cases t; exact ⟨_, _, _, rfl, m1, m2, m3⟩
  have hu := C.hu65
  have i1 := item_dat I f (B := X.A.in1) (by show X.A.units + 1 + 64 < cLine; omega) h1 g1 e1 m1 n1
  obtain ⟨r, i2, er⟩ := item_dict I f (B := X.A.in1) (by have := C.room.units; have := C.room.un; show X.A.units + 1 + 1 + 64 < cLine; omega) (by show X.A.units + 1 < cLine; omega) h2 g2 e2 hk m2 n2
  have i3 := item_dat I f (B := X.A.in1) (by show X.A.units + 1 + 64 < cLine; omega) h3 g3 e3 m3 n3
  subst er
  refine SeqAt.rcP_lists (e := fun j => match j with | 0 => decide (z1.1 = z2.1) | 1 => dEq z1.2.1 z2.2.1 | _ => decide (z1.2.2 = z2.2.2)) la.isList lb.isList rfl (by omega) (fun j q1 q2 => ?_) _ _ ?_
  · match j, q1, q2 with
    | 0, _, _ => exact i1
    | 1, _, _ => exact i2
    | 2, _, _ => exact i3
    | j + 3, q1, _ => exact absurd q1 (by simp)
  · refine ⟨.bl _, H, I, ?_, q⟩
    show Value.bool _ = Value.bool _
    rw [show List.range #[x1, x2, x3].size = [0, 1, 2] from rfl]
    simp
/-! ### changes in the midst -/
def CIns (xs : List α) (i : Int) : Prop := xs.length ≤ 100000 ∧ 0 ≤ i ∧ i ≤ 100000
instance {xs : List α} {i : Int} : Decidable (CIns xs i) := inferInstanceAs (Decidable (_ ∧ _))
theorem xg_insert (C : Ctx X P w K mg base N sc k dd) (i : Nat) {n : Str} {xs : List α} {mi : R0 Int} {m : R0 α} {f : Int → α → Res β τ} (hi : XM X Γ e2 (fz rI) mi) (he : XM X Γ e (fz R) m) (hr : ∀ j x, XG X (Γ.set i (.res (oL R) (xs.take j.toNat ++ [x] ++ xs.drop j.toNat))) rest (f j x) J Γx Kt) (hx : Wk Γ (Γx bb)) (hv : visB sc n = true := by decide +kernel) (hN : N[i]? = some n := by rfl) (hs : Γ[i]? = some (.res (oL R) xs) := by rfl)
    (hd : (n == ("__debug__" : Str)) = false := by decide +kernel) (hcd : (n == ("__classdict__" : Str)) = false := by decide +kernel)
    (hbase : attributeBase (.Name n p1) "insert" X.env (eval (.Name n p1) X.env) = eval (.Name n p1) X.env := by rfl) (hline : (p2.endLine == p3.line) = true := by rfl) (hst : starEach [e2, e] X.env = (false, eval e2 X.env) :: starEach [e] X.env := by rfl) (hst2 : starEach [e] X.env = (false, eval e X.env) :: starEach [] X.env := by rfl)
    (hfew : ((backTo p3 (starEach [e2, e] X.env)).all (fun x => !x.1) && (backToKw p3 (keywordEach [] X.env)).all (fun x => x.1.isSome)
      && decide ([e2, e].length + ([] : List Keyword).length + (if ([] : List Keyword).isEmpty then 0 else 1) < 30)) = true := by rfl)
    (hpl : (backTo p3 (starEach [e] X.env)).any (·.1) = false := by rfl) (hsw : swapsWith (.Call (.Attribute (.Name n p1) "insert" p2) [e2, e] [] p3) none pos.line X.env = pure false := by rfl) :
    XG X Γ (.Expr (.Call (.Attribute (.Name n p1) "insert" p2) [e2, e] [] p3) pos :: rest) (mi.bnd bb fun j => m.bnd bb fun x => gd (CIns xs j) (f j x)) J Γx Kt := by
  intro σ F H D g en E W tk hk hm
  obtain ⟨p, h1, ⟨hz, p', vs, ep, _, hp, pr⟩, fin⟩ := own_at at1L hs g en
  cases ep
  refine (pss_cons (ps_expr (pe_bm PySem.F.plainAttrs_list PySem.F.slot_list_insert PySem.F.type_list_insert mt_insert (pe_var (i := i) (by rw [C.N]; exact hN) (C.vis hv) hd hcd) (pa_cons (pe_ e2) (pa_cons (pe_ e) pa_nil hst2) hst) hbase hfew hline hst hpl) hsw) (pb_ rest)).wp ?_
  refine ⟨_, h1, .inl ⟨rfl, _, .inl (.inl hp)⟩, ?_⟩
  refine hi σ F H D g en _ W tk ?_
  cases mi with
  | bad => exact hm
  | ex ε u => exact xg_ex hx g en hm
  | ok j =>
    intro vj F0 H0 g0 rj
    replace hm : MG X (m.bnd bb fun x => gd (CIns xs j) (f j x)) J Γx E W F H D := hm
    refine he σ F0 H0 D (g.grow g0) (en.grow g g0) _ W tk ?_
    cases m with
    | bad => exact hm
    | ex ε u => exact fun c d F' H' g' => xg_ex hx g en hm c d F' H' (g0.trans g')
    | ok x =>
      intro u F1 H1 g1 r
      replace hm : MG X (gd (CIns xs j) (f j x)) J Γx E W F H D := hm
      have g01 := g0.trans g1
      by_cases hl : CIns xs j
      · rw [gd_true hl] at hm
        have e0 := pr.length
        have c1 : xs.length ≤ 100000 := hl.1
        have c2 : j ≤ 100000 := hl.2.2
        cases (show vj = V.int j from rj)
        refine ⟨p, vs, j, u, rfl, rfl, g01.hh _ _ hp (by intro _ z; cases z), ?_, hl.2.1, ?_, ?_⟩
        · rw [e0]; exact Nat.lt_of_le_of_lt c1 (by decide)
        · have : (2 : Int) ^ 63 = 9223372036854775808 := by decide
          omega
        · have tk1 : ∀ {vs : List V} {xs : List α} (i : Nat), Paired (R.ok F1) vs xs → Paired (R.ok F1) (vs.take i) (xs.take i) ∧ Paired (R.ok F1) (vs.drop i) (xs.drop i) := by
            intro vs xs i h
            induction h generalizing i with
            | nil => rw [List.take_nil, List.take_nil, List.drop_nil, List.drop_nil]; exact ⟨.nil, .nil⟩
            | cons a b ih =>
              cases i with
              | zero => exact ⟨.nil, .cons a b⟩
              | succ i => exact ⟨.cons a (ih i).1, (ih i).2⟩
          have pr1 := prd_mono g01.ff pr
          obtain ⟨t1, t2⟩ := tk1 j.toNat pr1
          have hlen : (xs.take j.toNat ++ [x] ++ xs.drop j.toNat).length ≤ sizeLine := by
            rw [List.length_append, List.length_append, List.length_take, List.length_drop, List.length_singleton]
            have : sizeLine = 16777216 := sizeLine_eq
            omega
          obtain ⟨st, en2⟩ := fin (A' := oL R) (x' := xs.take j.toNat ++ [x] ++ xs.drop j.toNat) g01 (by intro _ z; cases z) ⟨hlen, p, vs.take j.toNat ++ [u] ++ vs.drop j.toNat, rfl, rfl, upd_same, prd_app (prd_app t1 (.cons r .nil)) t2⟩
          exact xg_run (hr j x) g st en2 tk hk hm
      · rw [gd_bad hl] at hm; exact hm.elim
/-- x or y, lists -/
def orL (o : Option (List α)) (m : R0 (List α)) : R0 (List α) := match o with | some (x :: xs) => .ok (x :: xs) | _ => m
theorem xm_orL {ma : R0 (Option (List α))} {mb : R0 (List α)} (ha : XM X Γ a (fz (rO (rL R))) ma) (hb : XM X Γ b (fz (rL R)) mb) : XM X Γ (.BoolOp .Or [a, b] pos) (fz (rL R)) (ma.bind fun o => orL o mb) := by
  intro σ F H D g en Q W tk q
  refine (pe_orT (pe_ a) (pe_one (pe_ b))).wp (ha σ F H D g en _ W tk ?_)
  cases ma with
  | bad => exact q
  | ex ε u => exact q
  | ok o =>
    replace q : PM X (fz (rL R)) (orL o mb) Q W σ F H := q
    intro v F1 H1 g1 r
    have next : PM X (fz (rL R)) mb Q W σ F H → wpE X b σ H1 Q := fun q => by
      refine hb σ F1 H1 D (g.grow g1) (en.grow g g1) _ W tk ?_
      cases mb with
      | bad => exact q
      | ex ε u => exact fun c d F' H' g' => q c d F' H' (g1.trans g')
      | ok y => exact fun v F' H' g' => q v F' H' (g1.trans g')
    cases o with
    | none =>
      cases (show v = V.non from r)
      exact ⟨false, rfl, by rw [if_neg (by decide)]; exact next q⟩
    | some xs =>
      obtain ⟨hz, p, vs, rfl, hp, pr⟩ := (show (rL R).ok F1 v xs from r)
      refine ⟨!vs.isEmpty, .inl ⟨vs, .inl (rd_of (g1.fh _ _ hp)), rfl⟩, ?_⟩
      cases pr with
      | nil => rw [if_neg (by decide)]; exact next q
      | cons a b => rw [if_pos (by rfl)]; exact q _ F1 H1 g1 ⟨hz, p, _, rfl, hp, .cons a b⟩
theorem prd_erase {F : Hp} : ∀ {vs : List V} {xs : List α} (i : Nat), Paired (R.ok F) vs xs → Paired (R.ok F) (vs.eraseIdx i) (xs.eraseIdx i)
  | _, _, _, .nil => .nil
  | _, _, 0, .cons _ b => b
  | _, _, i + 1, .cons a b => .cons a (prd_erase i b)
theorem prd_setIx {F : Hp} {u : V} {x : α} (r : R.ok F u x) : ∀ {vs : List V} {xs : List α} (i : Nat), Paired (R.ok F) vs xs → Paired (R.ok F) (vs.set i u) (xs.set i x)
  | _, _, _, .nil => .nil
  | _, _, 0, .cons _ b => .cons r b
  | _, _, i + 1, .cons a b => .cons a (prd_setIx r i b)
def CIn (xs : List α) (i : Int) : Prop := xs.length ≤ 100000 ∧ 0 ≤ i ∧ i < xs.length
instance {xs : List α} {i : Int} : Decidable (CIn xs i) := inferInstanceAs (Decidable (_ ∧ _))
theorem xg_popI (C : Ctx X P w K mg base N sc k dd) (i : Nat) {n : Str} {xs : List α} {mi : R0 Int} {f : Int → Res β τ} (hi : XM X Γ e (fz rI) mi) (hr : ∀ j, XG X (Γ.set i (.res (oL R) (xs.eraseIdx j.toNat))) rest (f j) J Γx Kt) (hx : Wk Γ (Γx bb)) (hv : visB sc n = true := by decide +kernel) (hN : N[i]? = some n := by rfl) (hs : Γ[i]? = some (.res (oL R) xs) := by rfl)
    (hd : (n == ("__debug__" : Str)) = false := by decide +kernel) (hcd : (n == ("__classdict__" : Str)) = false := by decide +kernel)
    (hbase : attributeBase (.Name n p1) "pop" X.env (eval (.Name n p1) X.env) = eval (.Name n p1) X.env := by rfl) (hline : (p2.endLine == p3.line) = true := by rfl) (hst : starEach [e] X.env = (false, eval e X.env) :: starEach [] X.env := by rfl)
    (hfew : ((backTo p3 (starEach [e] X.env)).all (fun x => !x.1) && (backToKw p3 (keywordEach [] X.env)).all (fun x => x.1.isSome)
      && decide ([e].length + ([] : List Keyword).length + (if ([] : List Keyword).isEmpty then 0 else 1) < 30)) = true := by rfl)
    (hsw : swapsWith (.Call (.Attribute (.Name n p1) "pop" p2) [e] [] p3) none pos.line X.env = pure false := by rfl) :
    XG X Γ (.Expr (.Call (.Attribute (.Name n p1) "pop" p2) [e] [] p3) pos :: rest) (mi.bnd bb fun j => gd (CIn xs j) (f j)) J Γx Kt := by
  intro σ F H D g en E W tk hk hm
  obtain ⟨p, h1, ⟨hz, p', vs, ep, _, hp, pr⟩, fin⟩ := own_at at1L hs g en
  cases ep
  refine (pss_cons (ps_expr (pe_bm PySem.F.plainAttrs_list PySem.F.slot_list_pop PySem.F.type_list_pop mt_popAt (pe_var (i := i) (by rw [C.N]; exact hN) (C.vis hv) hd hcd) (pa_cons (pe_ e) pa_nil hst) hbase hfew hline hst) hsw) (pb_ rest)).wp ?_
  refine ⟨_, h1, .inl ⟨rfl, _, .inl (.inl hp)⟩, ?_⟩
  refine hi σ F H D g en _ W tk ?_
  cases mi with
  | bad => exact hm
  | ex ε u => exact xg_ex hx g en hm
  | ok j =>
    intro vj F1 H1 g1 rj
    replace hm : MG X (gd (CIn xs j) (f j)) J Γx E W F H D := hm
    by_cases hl : CIn xs j
    · rw [gd_true hl] at hm
      have e0 := pr.length
      obtain ⟨c1, c2, c3⟩ := hl
      cases (show vj = V.int j from rj)
      have b63 : (2 : Int) ^ 63 = 9223372036854775808 := by decide
      have jl : j.toNat < vs.length := by omega
      have h3 : seqIndex? j vs.length = some j.toNat := by
        have : ixN vs.length j = some j.toNat := by unfold ixN; rw [if_pos c2, if_pos (by omega)]
        exact seqIndex_of c2 (by omega)
      obtain ⟨st, en2⟩ := fin (A' := oL R) (x' := xs.eraseIdx j.toNat) g1 (by intro _ z; cases z) ⟨Nat.le_trans (List.length_eraseIdx_le ..) hz, p, vs.eraseIdx j.toNat, rfl, rfl, upd_same, prd_erase _ (prd_mono g1.ff pr)⟩
      refine ⟨p, vs, j, j.toNat, vs[j.toNat], rfl, rfl, g1.hh _ _ hp (by intro _ z; cases z), by omega, by omega, h3, List.getElem?_eq_getElem jl, ?_⟩
      exact xg_run (hr j) g st en2 tk hk hm
    · rw [gd_bad hl] at hm; exact hm.elim
theorem xg_lset (C : Ctx X P w K mg base N sc k dd) (i : Nat) {n : Str} {xs : List α} {m : R0 α} {mi : R0 Int} {f : α → Int → Res β τ} (he : XM X Γ e (fz R) m) (hi : XM X Γ e2 (fz rI) mi) (hr : ∀ x j, XG X (Γ.set i (.res (oL R) (xs.set j.toNat x))) rest (f x j) J Γx Kt) (hx : Wk Γ (Γx bb)) (hv : visB sc n = true := by decide +kernel) (hN : N[i]? = some n := by rfl) (hs : Γ[i]? = some (.res (oL R) xs) := by rfl)
    (hd : (n == ("__debug__" : Str)) = false := by decide +kernel) (hcd : (n == ("__classdict__" : Str)) = false := by decide +kernel)
    (ha : ∀ v, assign (.Subscript (.Name n p1) e2 p2) X.env v = (do
      let ov ← holding [v] (eval (.Name n p1) X.env)
      let iv ← holding [v, ov] (eval e2 X.env)
      standAt p2
      holding [v, ov, iv] (setItem ov iv v)
      release [v, ov, iv] []) := by intro _; rfl)
    (hsw : swapsWithSole [.Subscript (.Name n p1) e2 p2] e pos.line X.env = pure false := by rfl) (hw : swappedStores [.Subscript (.Name n p1) e2 p2] e X.env = pure none := by rfl) (h1' : (assignEach [.Subscript (.Name n p1) e2 p2] X.env).map (·.2) = [assign (.Subscript (.Name n p1) e2 p2) X.env] := by rfl) :
    XG X Γ (.Assign [.Subscript (.Name n p1) e2 p2] e pos :: rest) (m.bnd bb fun x => mi.bnd bb fun j => gd (CIn xs j) (f x j)) J Γx Kt := by
  intro σ F H D g en E W tk hk hm
  obtain ⟨p, h1, ⟨hz, p', vs, ep, _, hp, pr⟩, fin⟩ := own_at at1L hs g en
  cases ep
  refine (pss_cons (ps_asg (pe_ e) (pg_sub (pe_var (i := i) (by rw [C.N]; exact hN) (C.vis hv) hd hcd) (pe_ e2) set_list ha) hsw hw h1') (pb_ rest)).wp ?_
  refine he σ F H D g en _ W tk ?_
  cases m with
  | bad => exact hm
  | ex ε u => exact xg_ex hx g en hm
  | ok x =>
    intro u F0 H0 g0 r
    replace hm : MG X (mi.bnd bb fun j => gd (CIn xs j) (f x j)) J Γx E W F H D := hm
    refine ⟨_, h1, hi σ F0 H0 D (g.grow g0) (en.grow g g0) _ W tk ?_⟩
    cases mi with
    | bad => exact hm
    | ex ε u => exact fun c d F' H' g' => xg_ex hx g en hm c d F' H' (g0.trans g')
    | ok j =>
      intro vj F1 H1 g1 rj
      replace hm : MG X (gd (CIn xs j) (f x j)) J Γx E W F H D := hm
      have g01 := g0.trans g1
      by_cases hl : CIn xs j
      · rw [gd_true hl] at hm
        have e0 := pr.length
        obtain ⟨c1, c2, c3⟩ := hl
        cases (show vj = V.int j from rj)
        obtain ⟨st, en2⟩ := fin (A' := oL R) (x' := xs.set j.toNat x) g01 (by intro _ z; cases z) ⟨by rw [List.length_set]; exact hz, p, vs.set j.toNat u, rfl, rfl, upd_same, prd_setIx (R.mono g1.ff r) _ (prd_mono g01.ff pr)⟩
        refine ⟨p, vs, j, j.toNat, rfl, rfl, g01.hh _ _ hp (by intro _ z; cases z), ?_, ?_⟩
        · unfold ixN; rw [if_pos c2, if_pos (by omega)]
        · exact xg_run (hr x j) g st en2 tk hk hm
      · rw [gd_bad hl] at hm; exact hm.elim
end
end Wf
/-! != of rows that are equal. -/
namespace PySem.SeqAt
open AutoSeq1 (wpAny_loadPart')
open MeetsSeq MeetsSeq2 MeetsSeq3 SeqRoads2
section
variable {pg : Program} {w : World}
/-- the list object -/
abbrev lob (us : Array Value) (n : Nat) (d : Option Addr) (sl : Array (Option Value)) : Obj := { cls := .type "list", dict := d, data := .seq us n, slots := sl }
/-- two lists, item by item the same -/
def Twin (pg : Program) (w : World) (A : Around) (s : Shared) (l b : Addr) (us ws : Array Value) (n m : Nat) (d d' : Option Addr) (sl sl' : Array (Option Value)) : Prop :=
  s.heap.get? l = some (lob us n d sl) ∧ s.heap.get? b = some (lob ws m d' sl') ∧ us.size = ws.size ∧ ∀ j (p : j < us.size) (q : j < ws.size), EqP pg w A.in1 s us[j] ws[j] true
theorem twin_loop (l b : Addr) (us ws : Array Value) (n m : Nat) (d d' : Option Addr) (sl sl' : Array (Option Value)) : ∀ r i : Nat, i + r = us.size →
    MeetsIn pg w (Builtin.«list.__eq__.loop» ⟨[.ref l, .ref b, rawInt i, rawInt 3], []⟩) (fun A R s => Twin pg w A s l b us ws n m d d' sl sl' ∧ R (.ok (.ret (.bool false))) s)
  | 0, i, hr => by
    rintro A R ⟨hp, gn, dr, tk, os⟩ ⟨⟨hl, hb, hz, hj⟩, fin⟩
    have n1 : us[((i : Nat) : Int).toNat]? = none := by simp; omega
    have n2 : ws[((i : Nat) : Int).toNat]? = none := by simp; omega
    wp_walk using wpAny_loadPart' hl, wpAny_loadPart' hb
    rw [n1, n2]
    wp_walk using wpAny_loadPart' hl, wpAny_loadPart' hb
    have e : (us.size != ws.size) = false := by simp [hz]
    show R (.ok (.ret (.bool (us.size != ws.size)))) _
    rw [e]; exact fin
  | r + 1, i, hr => by
    rintro A R ⟨hp, gn, dr, tk, os⟩ ⟨⟨hl, hb, hz, hj⟩, fin⟩
    have i1 : i < us.size := by omega
    have i2 : i < ws.size := by omega
    have s1 : us[((i : Nat) : Int).toNat]? = some us[i] := by simp [i1]
    have s2 : ws[((i : Nat) : Int).toNat]? = some ws[i] := by simp [i2]
    wp_walk using wpAny_loadPart' hl, wpAny_loadPart' hb
    rw [s1, s2]
    refine wpAny_bind (hj i i1 i2 _ _ ?_)
    wp_walk
    have up : ((i : Int) + 1) = ((i + 1 : Nat) : Int) := by push_cast; rfl
    rw [up]
    refine ⟨plainId_quiet plain_eq_loop _, codeAny_builtin entry_eq_loop ?_⟩
    rw [Around.under_plainId plain_eq_loop]
    exact twin_loop l b us ws n m d d' sl sl' r (i + 1) (by omega) A R _ ⟨⟨hl, hb, hz, hj⟩, fin⟩
theorem twin_ne (l b : Addr) (us ws : Array Value) (n m : Nat) (d d' : Option Addr) (sl sl' : Array (Option Value)) :
    MeetsIn pg w (Builtin.«list.__ne__» ⟨[.ref l, .ref b], []⟩) (fun A R s => Twin pg w A s l b us ws n m d d' sl sl' ∧ R (.ok (.ret (.bool false))) s) := by
  rintro A R ⟨hp, gn, dr, tk, os⟩ ⟨⟨hl, hb, hz, hj⟩, fin⟩
  have isL := AutoSeq1.sub_list_list
  have same : ¬ (us.size != ws.size) = true := by simp [hz]
  wp_walk using wpAny_loadPart' hl, wpAny_loadPart' hb
  refine ⟨plainId_quiet plain_eq_loop _, codeAny_builtin entry_eq_loop ?_⟩
  rw [Around.under_plainId plain_eq_loop]
  exact twin_loop l b us ws n m d d' sl sl' us.size 0 (by omega) A R _ ⟨⟨hl, hb, hz, hj⟩, fin⟩
/-- l != b, where all items are the same -/
theorem ne_twins {A : Around} {s : Shared} {l b : Addr} {us ws : Array Value} (hl : s.heap.IsList l us) (hb : s.heap.IsList b ws) (hz : us.size = ws.size) (hu : A.units < cLine) (hj : ∀ j (p : j < us.size) (q : j < ws.size), EqP pg w A.in1 s us[j] ws[j] true)
    (E Q : Value → Shared → Prop) (fin : Q (.bool false) s) : wpAny (model pg w) A (richCompare .NotEq (.ref l) (.ref b)) Q E s := by
  obtain ⟨⟨c1, d1, t1, sl1⟩, o1, e1, n1, f1⟩ := id hl
  obtain ⟨⟨c2, d2, t2, sl2⟩, o2, e2, n2, f2⟩ := id hb
  cases e1; cases f1; cases e2; cases f2
  have ty1 : s.TypeIs (.ref l) "list" := ⟨_, o1, rfl⟩
  have ty2 : s.TypeIs (.ref b) "list" := ⟨_, o2, rfl⟩
  refine wpAny_richCompare_same_room (op := .NotEq) ty1 ty2 F.slot_list_ne (call_meetsIn F.slot_list_ne ty1 F.entry_list_ne (F.args_list_ne_2 _ _) (twin_ne l b us ws n1 n2 d1 d2 sl1 sl2) ⟨⟨o1, o2, hz, hj⟩, ?_⟩) hu
  exact ⟨(fun z => nomatch z), fin⟩
end
end PySem.SeqAt
namespace Wf
open PySem PySem.Spec PyProof.Rows L2
section
variable {X : Cx} {Γ : Gm} {P : Program} {w : World} {K : PySem.W.Frag} {mg : Str → Option Value} {base : Heap} {N : List Str} {sc : Scope} {k j : Nat} {dd : Bool}
variable {α β γ κ δ ε : Type} {R1 : Rp α} {R2 : Rp δ} {R3 : Rp γ} {R4 : Rp ε}
def CEq4 [DecidableEq κ] [DecidableEq δ] (x y : α × List (κ × δ) × γ × ε) : Prop := x.1 = y.1 ∧ dEq x.2.1 x.2.1 = true ∧ dEq x.2.1 y.2.1 = true ∧ x.2.2.1 = y.2.2.1 ∧ x.2.2.2 = y.2.2.2
instance [DecidableEq κ] [DecidableEq δ] [DecidableEq α] [DecidableEq γ] [DecidableEq ε] {x y : α × List (κ × δ) × γ × ε} : Decidable (CEq4 x y) := inferInstanceAs (Decidable (_ ∧ _))
theorem o_neW4 [DecidableEq κ] [DecidableEq δ] [DecidableEq α] [DecidableEq γ] [DecidableEq ε] [d1 : Dat R1] [d2 : Dat R2] [d3 : Dat R3] [d4 : Dat R4] (C : Ctx X P w K mg base N sc k dd) {A : KF κ} (h1 : d1.dep ≤ 60 := by decide) (h2 : d2.dep ≤ 60 := by decide) (h3 : d3.dep ≤ 60 := by decide) (h4 : d4.dep ≤ 60 := by decide) :
    OpQ X (compareOp .NotEq) (fz (rLw (wc R1 (wc (rK A R2) (wc R3 (w1 R4)))))) (fz (rLw (wc R1 (wc (rK A R2) (wc R3 (w1 R4)))))) rB CEq4 (fun _ _ => false) := by
  refine ⟨fun x y H Q => ∃ (F : Hp) (u1 u2 : α × List (κ × δ) × γ × ε), Same F (Vw H) ∧ (rLw (wc R1 (wc (rK A R2) (wc R3 (w1 R4))))).ok F x u1 ∧ (rLw (wc R1 (wc (rK A R2) (wc R3 (w1 R4))))).ok F y u2 ∧ CEq4 u1 u2 ∧ Q (.bl false) H, ?_, fun F H v u x y s r1 r2 hk Q q => ⟨F, x, y, s, r1, r2, hk, q _ F H (.refl s) rfl⟩⟩
  intro pins s σ H x y v u Q I rx ry ⟨F, z1, z2, f, k1, k2, ⟨c1, c0, c2, c3, c4⟩, q⟩
  obtain ⟨pa, ws, rfl, ha, a1, _, rfl, g1, a2, _, rfl, g2, a3, _, rfl, g3, a4, rfl, g4⟩ := k1
  obtain ⟨pb, us, rfl, hb, b1, _, rfl, e1, b2, _, rfl, e2, b3, _, rfl, e3, b4, rfl, e4⟩ := k2
  cases (show v = Value.ref pa from rx)
  cases (show u = Value.ref pb from ry)
  obtain ⟨ia, va, la, _⟩ := I.list (.inl (rd_of (f _ _ ha)))
  obtain ⟨ib, vb, lb, _⟩ := I.list (.inl (rd_of (f _ _ hb)))
  have four : ∀ {t1 t2 t3 t4 : V} {is : List Value}, Vals [t1, t2, t3, t4] is → ∃ x1 x2 x3 x4, is = [x1, x2, x3, x4] ∧ RelV t1 x1 ∧ RelV t2 x2 ∧ RelV t3 x3 ∧ RelV t4 x4 := fun h => by
    cases h with
    | cons m1 t => cases t with
      | cons m2 t => cases t with
        | cons m3 t => cases t with
          | cons m4 t => cases t; exact ⟨_, _, _, _, rfl, m1, m2, m3, m4⟩
  obtain ⟨x1, x2, x3, x4, rfl, m1, m2, m3, m4⟩ := four va
  obtain ⟨y1, y2, y3, y4, rfl, n1, n2, n3, n4⟩ := four vb
  have hu := C.hu65
  have i1 := item_dat I f (B := X.A.in1) (by show X.A.units + 1 + 64 < cLine; omega) h1 g1 e1 m1 n1
  obtain ⟨r, i2, er⟩ := item_dict I f (B := X.A.in1) (by have := C.room.units; have := C.room.un; show X.A.units + 1 + 1 + 64 < cLine; omega) (by show X.A.units + 1 < cLine; omega) h2 g2 e2 c0 m2 n2
  have i3 := item_dat I f (B := X.A.in1) (by show X.A.units + 1 + 64 < cLine; omega) h3 g3 e3 m3 n3
  have i4 := item_dat I f (B := X.A.in1) (by show X.A.units + 1 + 64 < cLine; omega) h4 g4 e4 m4 n4
  rw [decide_eq_true c1] at i1
  rw [er, c2] at i2
  rw [decide_eq_true c3] at i3
  rw [decide_eq_true c4] at i4
  refine SeqAt.ne_twins la.isList lb.isList rfl (by omega) (fun j q1 q2 => ?_) _ _ ⟨.bl false, H, I, rfl, q⟩
  match j, q1, q2 with
  | 0, _, _ => exact i1
  | 1, _, _ => exact i2
  | 2, _, _ => exact i3
  | 3, _, _ => exact i4
  | j + 4, q1, _ => exact absurd q1 (by simp)
theorem xmt_cmpG {Γ : Gm} {B1 : Rq α} {B2 : Rq δ} {a b : Expr} {pos : Pos} {ma : R0 α} {mb : R0 δ} {ok : α → δ → Prop} {o : CmpOp} {op : α → δ → Bool} [∀ x y, Decidable (ok x y)] (h : OpQ X (compareOp o) B1 B2 rB ok op) (ha : XM X Γ a B1 ma) (hb : XM X Γ b B2 mb) (hm : behindInMarks o b = false := by first | exact nomark _ | rfl) : XMT X Γ (.Compare a [o] [b] pos) (ma.bind fun x => mb.bind fun y => gd (ok x y) (.ok (op x y))) := by
  obtain ⟨r, ho, go⟩ := h.ex
  intro σ F H D g en Q W tk q
  refine (pt_cmpR ho (pe_ a) (pe_ b) hm).wp (two (P := wpE X) ha hb g en tk q.pm fun x y _ _ v u F2 H2 g2 r1 r2 q2 => ?_)
  by_cases hok : ok x y
  · rw [gd_true hok] at q2
    exact go F2 H2 v u x y g2.fh r1 r2 hok _ fun z F' H' g3 r3 => q2 z F' H' g3 r3
  · rw [gd_bad hok] at q2; exact q2.elim
/-- a call with what was frozen at G told -/
theorem xm_callG {τ ρ : Type} {Rr : Hp → Rp ρ} {G : Hp} {e : Expr} {es : List Expr} {p pos : Pos} {n : Str} {ps : List Str} (C : Ctx X P w K mg base N sc k dd) {ssG : Hp → τ → Gm} {mm : τ → R0 ρ}
    (Gd : Fk P w K mg base j n ps (spM K mg (fun i : Hp × τ => ssG i.1 i.2) (fun i => mm i.2) (fun i x => .is (Rr i.1) x) (fun _ _ => []) (fun _ _ => []))) {mt : R0 τ} (ha : XMA X Γ (e :: es) (ssG G) mt) (hj : j ≤ k := by omega) (hg : gloB sc n = true := by decide +kernel)
    (hdb : (n == ("__debug__" : Str)) = false := by decide +kernel) (he : starEach (e :: es) X.env = (false, eval e X.env) :: starEach es X.env := by rfl) (hpl : (backTo pos (starEach es X.env)).any (·.1) = false := by rfl) : XM X Γ (.Call (.Name n p) (e :: es) [] pos) (fz (Rr G)) (mt.bind mm) := by
  obtain rfl := C.K
  obtain rfl := C.mg
  intro σ F H D g en Q W tk q
  refine call_fk C Gd hj hg tk (ha σ F H D g en _ W tk ?_) hdb he hpl
  cases mt with
  | bad => exact q
  | ex ε u => exact q
  | ok t =>
    intro vs F' H' g' e'
    refine ⟨(G, t), F', [], .nil g'.fh (g'.tb g.tb), e', ?_⟩
    have q : PM X (fz (Rr G)) (mm t) Q W σ F H := q
    dsimp only
    revert q
    cases mm t with
    | bad => exact id
    | ex ε u => exact fun q c d F2 H2 D2 a _ ev => q c d F2 H2 (g'.trans (a.sub (List.nil_sublist _)).grow) ev
    | ok x =>
      intro q v F2 H2 D1 D2 a ok _
      obtain ⟨_, v', ev, ok⟩ := (show Slot.ok F2 H2 D1 (.is (Rr G) x) (some v) from ok)
      cases ev
      exact q v F2 H2 (g'.trans (a.sub (List.nil_sublist _)).grow) ok
end
end Wf
/-! Plain facts of rides that hang on one another: rows of rides, how many there are. -/
namespace Pl
section
variable {π : Type} [DecidableEq π]
abbrev Ride (π : Type) := Int × π × π × Int × Int
def Hg (sp : π → Int) (a b : Ride π) : Prop := a.2.2.1 = b.2.1 ∧ a.2.2.2.2 + sp a.2.2.1 ≤ b.2.2.2.1
instance {sp : π → Int} {a b : Ride π} : Decidable (Hg sp a b) := inferInstanceAs (Decidable (_ ∧ _))
structure Wld (sp : π → Int) (L : List (Ride π)) : Prop where
  lt : ∀ r ∈ L, r.2.2.2.1 < r.2.2.2.2
  sp : ∀ r ∈ L, 0 ≤ sp r.2.2.1
  nd : (L.map (·.1)).Nodup
inductive Way (sp : π → Int) (L : List (Ride π)) (s : π) (t : Int) : List (Ride π) → Ride π → Prop
  | one {r : Ride π} : r ∈ L → r.2.1 = s → t ≤ r.2.2.2.1 → Way sp L s t [r] r
  | step {row : List (Ride π)} {a b : Ride π} : Way sp L s t row a → b ∈ L → Hg sp a b → Way sp L s t (row ++ [b]) b
variable {sp : π → Int} {L : List (Ride π)} {s : π} {t : Int}
theorem Way.last {row : List (Ride π)} {a : Ride π} (h : Way sp L s t row a) : row.getLast? = some a := by
  cases h <;> simp
theorem Way.ne {row : List (Ride π)} {a : Ride π} (h : Way sp L s t row a) : row ≠ [] := by
  cases h <;> simp
theorem Way.mem {row : List (Ride π)} {a : Ride π} (h : Way sp L s t row a) : a ∈ L := by
  cases h <;> assumption
theorem Way.all {row : List (Ride π)} {a : Ride π} (h : Way sp L s t row a) : ∀ r ∈ row, r ∈ L := by
  induction h with
  | one h _ _ => intro r hr; simp at hr; exact hr ▸ h
  | step _ h _ ih => intro r hr; rcases List.mem_append.mp hr with z | z; exact ih r z; simp at z; exact z ▸ h
theorem Way.uniq {row : List (Ride π)} {a b : Ride π} (h : Way sp L s t row a) (h' : Way sp L s t row b) : a = b := by
  have := h.last.symm.trans h'.last
  exact Option.some.inj this
theorem Way.mono {L' : List (Ride π)} (hL : ∀ r ∈ L, r ∈ L') {row : List (Ride π)} {a : Ride π} (h : Way sp L s t row a) : Way sp L' s t row a := by
  induction h with
  | one h e1 e2 => exact .one (hL _ h) e1 e2
  | step _ h g ih => exact .step ih (hL _ h) g
theorem Way.later {t' : Int} (ht : t ≤ t') {row : List (Ride π)} {a : Ride π} (h : Way sp L s t' row a) : Way sp L s t row a := by
  induction h with
  | one h e1 e2 => exact .one h e1 (by omega)
  | step _ h g ih => exact .step ih h g
/-- each ride of a row leaves later than the one ahead -/
theorem hg_lt (w : Wld sp L) {a b : Ride π} (ha : a ∈ L) (h : Hg sp a b) : a.2.2.2.1 < b.2.2.2.1 := by
  have := w.lt a ha
  have := w.sp a ha
  have := h.2
  omega
theorem Way.from_ (w : Wld sp L) {row : List (Ride π)} {a : Ride π} (h : Way sp L s t row a) : t ≤ a.2.2.2.1 := by
  induction h with
  | one _ _ h => exact h
  | step q h g ih => have := hg_lt w q.mem g; omega

/-! ### how many rows -/
def heft (L : List (Ride π)) (r : Ride π) : Nat := 2 ^ (L.countP fun b => decide (r.2.2.2.1 < b.2.2.2.1))
theorem heft_pos (L : List (Ride π)) (r : Ride π) : 1 ≤ heft L r := Nat.one_le_two_pow
def heftS (L : List (Ride π)) (S : List (Ride π)) : Nat := (S.map (heft L)).sum
theorem sum_perm {l l' : List Nat} (h : l.Perm l') : l.sum = l'.sum := h.sum_nat
theorem heft_sorted : ∀ S : List (Ride π), S.Pairwise (fun a b => a.2.2.2.1 ≤ b.2.2.2.1) → heftS S S + 1 ≤ 2 ^ S.length
  | [], _ => by simp [heftS]
  | m :: S, h => by
    rw [List.pairwise_cons] at h
    have ih := heft_sorted S h.2
    have e : ∀ b ∈ S, heft (m :: S) b = heft S b := fun b hb => by
      unfold heft
      rw [List.countP_cons, if_neg]
      · simp
      · have := h.1 b hb
        simp; omega
    have e1 : heft (m :: S) m ≤ 2 ^ S.length := by
      unfold heft
      rw [List.countP_cons, if_neg (by simp)]
      exact Nat.pow_le_pow_right (by decide) (by simpa using List.countP_le_length)
    have e2 : S.map (heft (m :: S)) = S.map (heft S) := List.map_congr_left e
    unfold heftS at *
    rw [List.map_cons, List.sum_cons, e2, List.length_cons, Nat.pow_succ]
    omega
theorem heft_all (S : List (Ride π)) : heftS S S + 1 ≤ 2 ^ S.length := by
  let le : Ride π → Ride π → Bool := fun a b => decide (a.2.2.2.1 ≤ b.2.2.2.1)
  have hp : (S.mergeSort le).Perm S := List.mergeSort_perm S le
  have hs : (S.mergeSort le).Pairwise (fun a b => a.2.2.2.1 ≤ b.2.2.2.1) := by
    have := List.pairwise_mergeSort (le := le) (fun a b c h1 h2 => by simp [le] at *; omega) (fun a b => by simp [le]; omega) S
    exact this.imp (fun h => of_decide_eq_true h)
  have h := heft_sorted _ hs
  have e : ∀ r, heft (S.mergeSort le) r = heft S r := fun r => by unfold heft; rw [hp.countP_eq]
  have e2 : heftS (S.mergeSort le) (S.mergeSort le) = heftS S S := by
    unfold heftS
    rw [List.map_congr_left (fun r _ => e r)]
    exact sum_perm (hp.map _)
  rw [e2, hp.length_eq] at h
  exact h
theorem heftS_filter (p : Ride π → Bool) : ∀ S : List (Ride π), heftS L (S.filter p) ≤ heftS L S
  | [] => Nat.le_refl _
  | x :: S => by
    have ih := heftS_filter p S
    unfold heftS at *
    rw [List.filter_cons]
    split <;> simp only [List.map_cons, List.sum_cons] <;> omega
theorem heftS_le {p q : Ride π → Bool} (h : ∀ x ∈ L, p x = true → q x = true) : ∀ S : List (Ride π), (∀ x ∈ S, x ∈ L) → heftS L (S.filter p) ≤ heftS L (S.filter q)
  | [], _ => Nat.le_refl _
  | x :: S, hS => by
    have ih := heftS_le h S fun y hy => hS y (List.mem_cons_of_mem _ hy)
    have hx := h x (hS x (List.mem_cons_self ..))
    unfold heftS at *
    rw [List.filter_cons, List.filter_cons]
    cases hp : p x with
    | true =>
      rw [hx hp]
      simp only [if_true, List.map_cons, List.sum_cons]; omega
    | false =>
      cases q x <;> simp only [if_true, if_false, Bool.false_eq_true, List.map_cons, List.sum_cons] <;> omega
/-- what hangs on a ride weighs less than it -/
theorem heft_step (w : Wld sp L) {a : Ride π} (ha : a ∈ L) : heftS L (L.filter fun b => decide (Hg sp a b)) + 1 ≤ heft L a := by
  have h1 : heftS L (L.filter fun b => decide (Hg sp a b)) ≤ heftS L (L.filter fun b => decide (a.2.2.2.1 < b.2.2.2.1)) := heftS_le (fun x _ hx => by
    have := hg_lt w ha (of_decide_eq_true hx)
    exact decide_eq_true this) L fun _ h => h
  have h2 := heft_all (L.filter fun b => decide (a.2.2.2.1 < b.2.2.2.1))
  have h3 : heftS L (L.filter fun b => decide (a.2.2.2.1 < b.2.2.2.1)) = heftS (L.filter fun b => decide (a.2.2.2.1 < b.2.2.2.1)) (L.filter fun b => decide (a.2.2.2.1 < b.2.2.2.1)) := by
    unfold heftS
    congr 1
    refine List.map_congr_left fun r hr => ?_
    have hr := (List.mem_filter.mp hr).2
    have hr := of_decide_eq_true hr
    unfold heft
    congr 1
    rw [List.countP_filter]
    refine List.countP_congr fun b _ => ?_
    simp; omega
  have h4 : (L.filter fun b => decide (a.2.2.2.1 < b.2.2.2.1)).length = L.countP fun b => decide (a.2.2.2.1 < b.2.2.2.1) := by rw [List.countP_eq_length_filter]
  unfold heft
  rw [← h4]; omega
end
end Pl
/-! A plain logic of mirrors: a mirror answers, and what it answers is P. -/
namespace Wf
open PySem L2
section
variable {β α γ σ ρ τ : Type}
def Ok (m : Res β α) (P : α → Prop) : Prop := match m with | .ok x => P x | _ => False
theorem Ok.get {m : Res β α} {P : α → Prop} (h : Ok m P) : ∃ x, m = .ok x ∧ P x := by
  cases m with
  | ok x => exact ⟨x, rfl, h⟩
  | ex _ _ => exact h.elim
  | bad => exact h.elim
theorem Ok.mono {m : Res β α} {P Q : α → Prop} (h : Ok m P) (q : ∀ x, P x → Q x) : Ok m Q := by
  cases m with
  | ok x => exact q x h
  | ex _ _ => exact h
  | bad => exact h
theorem Ok.and {m : Res β α} {P Q : α → Prop} (h : Ok m P) (q : Ok m Q) : Ok m fun x => P x ∧ Q x := by
  cases m with
  | ok x => exact ⟨h, q⟩
  | ex _ _ => exact h
  | bad => exact h
theorem ok_ok {x : α} {P : α → Prop} : Ok (Res.ok x : Res β α) P ↔ P x := Iff.rfl
theorem ok_bad {P : α → Prop} : Ok (Res.bad : Res β α) P ↔ False := Iff.rfl
theorem ok_eq {m : Res β α} {x : α} : Ok m (fun y => y = x) ↔ m = .ok x := by
  cases m with
  | ok y => exact ⟨fun h => congrArg _ h, fun h => by injection h⟩
  | ex _ _ => exact ⟨fun h => h.elim, fun h => by cases h⟩
  | bad => exact ⟨fun h => h.elim, fun h => by cases h⟩
theorem ok_of {m : Res β α} {x : α} {P : α → Prop} (h : m = .ok x) (p : P x) : Ok m P := by rw [h]; exact p
theorem ok_bind {m : Res β α} {f : α → Res β γ} {P : γ → Prop} : Ok (m.bind f) P ↔ Ok m fun x => Ok (f x) P := by cases m <;> exact Iff.rfl
theorem ok_bnd {m : Res Unit α} {b : β} {f : α → Res β γ} {P : γ → Prop} : Ok (m.bnd b f) P ↔ Ok m fun x => Ok (f x) P := by cases m <;> exact Iff.rfl
theorem ok_gd {p : Prop} [Decidable p] {r : Res β α} {P : α → Prop} : Ok (gd p r) P ↔ p ∧ Ok r P := by
  by_cases h : p
  · rw [gd_true h]; exact ⟨fun q => ⟨h, q⟩, fun q => q.2⟩
  · rw [gd_bad h]; exact ⟨fun q => q.elim, fun q => absurd q.1 h⟩
theorem ok_cond {b : Bool} {x y : Res β α} {P : α → Prop} : Ok (bif b then x else y) P ↔ (b = true → Ok x P) ∧ (b = false → Ok y P) := by
  cases b <;> simp
def LoP (G : σ → Prop) (S : σ → Prop) (O : ρ → Prop) : Lo σ ρ → Prop
  | .go s => G s
  | .stop s => S s
  | .out r => O r
theorem ok_forK {body : σ → α → Res β (Lo σ ρ)} {k : σ → Res β τ} {inj : ρ → τ} {P : τ → Prop} (I : List α → σ → Prop) : ∀ {xs pre : List α} {s : σ}, I pre s →
    (∀ a x b s, pre ++ xs = a ++ x :: b → I a s → Ok (body s x) (LoP (fun s' => I (a ++ [x]) s') (fun s' => Ok (k s') P) (fun r => P (inj r)))) → (∀ s, I (pre ++ xs) s → Ok (k s) P) → Ok (forK body k inj xs s) P
  | [], pre, s, h0, _, hk => hk s (by rw [List.append_nil]; exact h0)
  | x :: xs, pre, s, h0, hs, hk => by
    unfold forK
    rw [ok_bind]
    refine (hs pre x xs s rfl h0).mono fun r hr => ?_
    cases r with
    | go s' =>
      have e : pre ++ x :: xs = (pre ++ [x]) ++ xs := by simp
      exact ok_forK I (pre := pre ++ [x]) hr (fun a y b s h => hs a y b s (by rw [e]; exact h)) fun s h => hk s (by rw [e]; exact h)
    | stop s' => exact hr
    | out r => exact hr
/-- a loop over all -/
theorem ok_for {body : σ → α → Res β (Lo σ ρ)} {k : σ → Res β τ} {inj : ρ → τ} {P : τ → Prop} (I : List α → σ → Prop) {xs : List α} {s : σ} (h0 : I [] s)
    (hs : ∀ a x b s, xs = a ++ x :: b → I a s → Ok (body s x) (LoP (fun s' => I (a ++ [x]) s') (fun s' => Ok (k s') P) (fun r => P (inj r)))) (hk : ∀ s, I xs s → Ok (k s) P) : Ok (forK body k inj xs s) P :=
  ok_forK I (pre := []) h0 hs hk
theorem ok_whileK {c : σ → R0 Bool} {bx : σ → β} {body : σ → Res β (Lo σ ρ)} {k : σ → Res β τ} {inj : ρ → τ} {P : τ → Prop} (I : σ → Prop) (μ : σ → Nat)
    (hs : ∀ s, I s → Ok (c s) fun t => (t = true → Ok (body s) (LoP (fun s' => I s' ∧ μ s' < μ s) (fun s' => Ok (k s') P) (fun r => P (inj r)))) ∧ (t = false → Ok (k s) P)) : ∀ {n : Nat} {s : σ}, I s → μ s < n → Ok (whileK c bx body k inj n s) P
  | 0, s, _, h => absurd h (Nat.not_lt_zero _)
  | n + 1, s, h0, hn => by
    unfold whileK
    rw [ok_bnd]
    refine (hs s h0).mono fun t ht => ?_
    rw [ok_cond]
    refine ⟨fun e => ?_, ht.2⟩
    rw [ok_bind]
    refine (ht.1 e).mono fun r hr => ?_
    cases r with
    | go s' => exact ok_whileK I μ hs hr.1 (by have := hr.2; omega)
    | stop s' => exact hr
    | out r => exact hr
theorem ok_comp {p : α → R0 Bool} {g : α → R0 γ} (p' : α → Bool) (g' : α → γ) {xs : List α} {P : List γ → Prop} (h1 : ∀ x ∈ xs, Ok (p x) (fun b => b = p' x)) (h2 : ∀ x ∈ xs, p' x = true → Ok (g x) (fun y => y = g' x)) (h : P ((xs.filter p').map g')) : Ok (compR p g xs) P :=
  ok_of (compR_eq (fun x hx => ok_eq.mp (h1 x hx)) fun x hx hp => ok_eq.mp (h2 x hx hp)) h
/-- without knowing the values -/
theorem ok_compQ {p : α → R0 Bool} {g : α → R0 γ} {Q : α → Bool → Prop} {S : α → γ → Prop} : ∀ {xs : List α} {P : List γ → Prop}, (∀ x ∈ xs, Ok (p x) (Q x)) → (∀ x ∈ xs, Q x true → Ok (g x) (S x)) → (∀ ys, (∀ y ∈ ys, ∃ x ∈ xs, Q x true ∧ S x y) → ys.length ≤ xs.length → P ys) → Ok (compR p g xs) P
  | [], P, _, _, h => h [] (by simp) (by simp)
  | x :: xs, P, h1, h2, h => by
    unfold compR
    obtain ⟨b, e, hb⟩ := (h1 x (List.mem_cons_self ..)).get
    rw [e]
    cases b with
    | false =>
      exact ok_compQ (fun y hy => h1 y (List.mem_cons_of_mem _ hy)) (fun y hy => h2 y (List.mem_cons_of_mem _ hy)) fun ys hy hl => h ys (fun y hy' => (hy y hy').imp fun z hz => ⟨List.mem_cons_of_mem _ hz.1, hz.2⟩) (by simp; omega)
    | true =>
      obtain ⟨y, e2, hy⟩ := (h2 x (List.mem_cons_self ..) hb).get
      simp only [e2]
      rw [ok_bind]
      refine ok_compQ (Q := Q) (S := S) (fun y hy => h1 y (List.mem_cons_of_mem _ hy)) (fun y hy => h2 y (List.mem_cons_of_mem _ hy)) fun ys hys hl => ?_
      refine h (y :: ys) (fun z hz => ?_) (by simp; omega)
      rcases List.mem_cons.mp hz with rfl | hz
      · exact ⟨x, List.mem_cons_self .., hb, hy⟩
      · exact (hys z hz).imp fun w hw => ⟨List.mem_cons_of_mem _ hw.1, hw.2⟩
theorem fuel_eq : fuel = 1000000 := rfl
theorem ix_get [Inhabited α] {xs : List α} {i : Int} (h0 : 0 ≤ i) (h1 : i < xs.length) : ix xs i = xs[i.toNat]'(by omega) := by
  obtain ⟨j, rfl⟩ := Int.eq_ofNat_of_zero_le h0
  unfold ix
  have hj : j < xs.length := by omega
  show (atI xs ((j : Nat) : Int)).getD default = xs[j]
  rw [atI_nat (v := xs[j]) (List.getElem?_eq_getElem hj)]
  rfl
theorem ix_last [Inhabited α] {xs : List α} (h : xs ≠ []) : inR xs (- (1 : Int)) ∧ xs.getLast? = some (ix xs (- (1 : Int))) := by
  have hl : 0 < xs.length := List.length_pos_iff.mpr h
  have hr : inR xs (- (1 : Int)) := ⟨by omega, by omega⟩
  refine ⟨hr, ?_⟩
  unfold ix atI ixN
  rw [if_neg (by omega), if_pos (by omega)]
  have e : (-(1 : Int) + (xs.length : Nat)).toNat = xs.length - 1 := by omega
  rw [e, List.getLast?_eq_getElem?]
  have : xs.length - 1 < xs.length := by omega
  rw [List.getElem?_eq_getElem this]
  show some xs[xs.length - 1] = some ((xs[xs.length - 1]?).getD default)
  rw [List.getElem?_eq_getElem this]; rfl
theorem inR_of {xs : List α} {i : Int} (h0 : 0 ≤ i) (h1 : i < xs.length) : inR xs i := ⟨by omega, h1⟩
theorem ix_in {α : Type} [Inhabited α] {xs : List α} {i : Int} (h : inR xs i) {p : α → Prop} (hp : ∀ x ∈ xs, p x) : p (ix xs i) := hp _ (ix_mem h)
theorem mem_upTo {n x : Int} : x ∈ upTo n ↔ 0 ≤ x ∧ x < n := by
  unfold upTo
  simp only [List.mem_map, List.mem_range]
  constructor
  · rintro ⟨i, h, rfl⟩; omega
  · rintro ⟨h1, h2⟩; exact ⟨x.toNat, by omega, by omega⟩
theorem upTo_split {n x : Int} {a b : List Int} (h : upTo n = a ++ x :: b) : x = a.length ∧ (a.length : Int) < n := by
  have : (upTo n)[a.length]? = some x := by rw [h]; simp
  exact upTo_get this
end
end Wf
namespace Wf
open PySem L2
/-! ### _law_draws -/
def draws_b2 (s : Int × (List Int)) : Res Unit (Lo (Int × (List Int)) (List Int)) :=
  Res.bnd (Res.ok ((((List.length s.2 : Nat) : Int) + (1 : Int))) : R0 Int) () fun mark_6 =>
  Res.bnd (Res.bind (Res.bind (Res.bind (Res.bind (gd (CMul mark_6 mark_6) (Res.ok ((mark_6 * mark_6)))) fun v8 => Res.ok ((v8 * (6133 : Int)))) fun v9 => Res.ok (((s.1 * (48271 : Int)) + v9))) fun v10 => Res.ok ((v10 + (17 : Int)))) fun v11 => Res.ok ((v11 % (2147483647 : Int)))) () fun seed_7 =>
  Res.bnd (Res.bind (Res.bind (gd (CMul (seed_7 % (65521 : Int)) (((seed_7 / (65521 : Int)) % (32749 : Int)) + (1 : Int))) (Res.ok (((seed_7 % (65521 : Int)) * (((seed_7 / (65521 : Int)) % (32749 : Int)) + (1 : Int)))))) fun v12 => Res.ok ((v12 % (1000003 : Int)))) fun v13 => Res.ok ((v13 % (1013 : Int)))) () fun x14 => gd (List.length s.2 ≤ 100000) (
  Res.ok (Lo.go (seed_7, (s.2 ++ [x14]))))
def draws_k3 (s : Int × (List Int)) : R0 (List Int) :=
  Res.bnd (Res.ok (s.2) : R0 (List Int)) () fun r15 => Res.ok (r15)
def draws_j1 (many_ : Int) (seed_ : Int) (s : Int × (List Int)) : R0 (List Int) :=
  whileK (fun s16 : Int × (List Int) => (Res.ok (decide (((List.length s16.2 : Nat) : Int) < many_)) : R0 Bool)) (fun _ => ()) (draws_b2) (draws_k3) (fun r => r) fuel (seed_, s.2)
def draws_b4 (s : Int × (List Int)) : Res Unit (Lo (Int × (List Int)) (List Int)) :=
  Res.bnd (Res.ok ((s.1 % (1013 : Int))) : R0 Int) () fun x17 => gd (List.length s.2 ≤ 100000) (
  Res.bnd (Res.ok ((s.1 / (1013 : Int))) : R0 Int) () fun cell_18 =>
  Res.ok (Lo.go (cell_18, (s.2 ++ [x17]))))
def draws_k5 (many_ : Int) (seed_ : Int) (s : Int × (List Int)) : R0 (List Int) :=
  draws_j1 many_ seed_ (s.1, s.2)
def draws_j0 (at_ : Int) (many_ : Int) (s : Int) : R0 (List Int) :=
  Res.bnd (Res.ok ((((s % (999983 : Int)) + ((31 : Int) * at_)) + (5 : Int))) : R0 Int) () fun seed_3 =>
  Res.bnd (Res.ok (([] : (List Int))) : R0 (List Int)) () fun row_4 =>
  Res.bnd (Res.ok (decide (s ≥ ((10 : Int) ^ (18 : Nat)))) : R0 Bool) () fun b5 => bif b5 then (
  whileK (fun s19 : Int × (List Int) => (Res.ok ((decide (s19.1 > (0 : Int)) && decide (((List.length s19.2 : Nat) : Int) < many_))) : R0 Bool)) (fun _ => ()) (draws_b4) (draws_k5 many_ seed_3) (fun r => r) fuel (s, row_4)) else (
  draws_j1 many_ seed_3 (s, row_4))
def draws_j6 (at_ : Int) (many_ : Int) (s : Int) : R0 (List Int) :=
  draws_j0 at_ many_ (s)
def m_draws (script_ : (List Int)) (at_ : Int) (many_ : Int) : R0 (List Int) :=
  Res.bnd (Res.ok ((((7 : Int) * at_) + (1 : Int))) : R0 Int) () fun cell_1 =>
  Res.bnd (Res.ok (decide (at_ < ((List.length script_ : Nat) : Int))) : R0 Bool) () fun b2 => bif b2 then (
  Res.bnd (gd (inR script_ at_) (Res.ok ((ix script_ at_)))) () fun cell_20 =>
  draws_j0 at_ many_ (cell_20)) else (
  Res.bnd (Res.ok (decide (((List.length script_ : Nat) : Int) > (0 : Int))) : R0 Bool) () fun b21 => bif b21 then (
  Res.bnd (Res.bind (Res.bind (Res.bind (Res.bind (gd (CMod at_ ((List.length script_ : Nat) : Int)) (Res.ok ((at_ % ((List.length script_ : Nat) : Int))))) fun v23 => gd (inR script_ v23) (Res.ok ((ix script_ v23)))) fun v24 => Res.ok ((v24 % (999983 : Int)))) fun v26 => Res.bind (Res.bind (gd (CMul at_ at_) (Res.ok ((at_ * at_)))) fun v25 => Res.ok ((v25 * (97 : Int)))) fun v27 => Res.ok ((v26 + v27))) fun v28 => Res.ok ((v28 + (1 : Int)))) () fun cell_22 =>
  draws_j6 at_ many_ (cell_22)) else (
  draws_j6 at_ many_ (cell_1)))
/-! ### _law_names -/
def names_b0 (d_ : (List Int)) (letters_ : Str) (s : (List Str)) (x : Int) : Res Unit (Lo ((List Str)) (List Str)) :=
  Res.bnd (Res.bind (Res.bind (Res.bind (Res.bind (Res.bind (Res.bind (gd (inR d_ (0 : Int)) (Res.ok ((ix d_ (0 : Int))))) fun v5 => Res.ok ((v5 % (6 : Int)))) fun v6 => gd (inR ((1 : Int) :: ((3 : Int) :: ((5 : Int) :: ((7 : Int) :: ((9 : Int) :: ((11 : Int) :: [])))))) v6) (Res.ok ((ix ((1 : Int) :: ((3 : Int) :: ((5 : Int) :: ((7 : Int) :: ((9 : Int) :: ((11 : Int) :: [])))))) v6)))) fun v7 => gd (CMul x v7) (Res.ok ((x * v7)))) fun v8 => Res.bind (gd (inR d_ (1 : Int)) (Res.ok ((ix d_ (1 : Int))))) fun v9 => Res.ok ((v8 + v9))) fun v10 => Res.ok ((v10 % (26 : Int)))) fun v11 => gd (inR (Array.toList (Str.cps letters_)) v11) (Res.ok ((signAt letters_ v11)))) () fun own_4 =>
  Res.bnd (Res.bind (Res.bind (Res.bind (Res.bind (gd (inR d_ ((4 : Int) + x)) (Res.ok ((ix d_ ((4 : Int) + x))))) fun v13 => Res.ok ((v13 % (12 : Int)))) fun n14 => gd (CR62 n14) (Res.ok (upTo n14))) fun v22 => gd (List.length v22 ≤ sizeLine) (compR (fun y15 : Int => (Res.ok true : R0 Bool)) (fun y15 : Int => (Res.bind (gd (CStr letters_ ("0123456789" : Str)) (Res.ok (letters_ ++ ("0123456789" : Str)))) fun v20 => Res.bind (Res.bind (Res.bind (gd (inR d_ (2 : Int)) (Res.ok ((ix d_ (2 : Int))))) fun v17 => Res.bind (Res.bind (gd (inR d_ (3 : Int)) (Res.ok ((ix d_ (3 : Int))))) fun v16 => gd (CMul y15 v16) (Res.ok ((y15 * v16)))) fun v18 => Res.ok ((v17 + v18))) fun v19 => Res.ok ((v19 % (36 : Int)))) fun v21 => gd (inR (Array.toList (Str.cps v20)) v21) (Res.ok ((signAt v20 v21))))) v22)) fun v23 => gd ((List.map (fun z => Str.length z) v23).sum ≤ 100000) (Res.ok ((glue v23)))) () fun rest_12 =>
  Res.bnd (Res.bind (Res.bind (gd (CStr own_4 rest_12) (Res.ok (own_4 ++ rest_12))) fun v25 => Res.bind (Res.bind (gd (CStr rest_12 own_4) (Res.ok (rest_12 ++ own_4))) fun v24 => Res.ok ((v24 :: [])) : R0 (List Str)) fun v26 => Res.ok ((v25 :: v26)) : R0 (List Str)) fun v29 => Res.bind (Res.bind (Res.bind (gd (inR d_ (0 : Int)) (Res.ok ((ix d_ (0 : Int))))) fun v27 => Res.ok ((v27 / (6 : Int)))) fun v28 => Res.ok ((v28 % (2 : Int)))) fun v30 => gd (inR v29 v30) (Res.ok ((ix v29 v30)))) () fun x31 => gd (List.length s ≤ 100000) (
  Res.ok (Lo.go ((s ++ [x31]))))
def names_k1 (s : (List Str)) : R0 (List Str) :=
  Res.bnd (Res.ok (s) : R0 (List Str)) () fun r32 => Res.ok (r32)
def m_names (d_ : (List Int)) (many_ : Int) : R0 (List Str) :=
  Res.bnd (Res.ok (("abcdefghijklmnopqrstuvwxyz" : Str)) : R0 Str) () fun letters_1 =>
  Res.bnd (Res.ok (([] : (List Str))) : R0 (List Str)) () fun names_here_2 =>
  Res.bnd (Res.bind (Res.ok (many_) : R0 Int) fun n3 => gd (CR62 n3) (Res.ok (upTo n3))) () fun xs33 => forK (names_b0 d_ letters_1) (names_k1) (fun r => r) xs33 (names_here_2)
/-! ### _law_hang -/
def m_hang (ride_ : (Int × Str × Str × Int × Int)) (after_ : (Int × Str × Str × Int × Int)) (spans_ : (List (Str × Int))) : R0 Bool :=
  Res.bnd (bif decide (ride_.2.2.1 = after_.2.1) then (Res.bind (Res.bind (gd (has spans_ ride_.2.2.1 = true) (Res.ok ((Option.getD (look spans_ ride_.2.2.1) default)))) fun v2 => Res.ok ((ride_.2.2.2.2 + v2))) fun v3 => Res.ok (decide (after_.2.2.2.1 ≥ v3))) else Res.ok false) () fun r1 => Res.ok (r1)
/-! ### _law_world -/
def world_b0 (script_ : (List Int)) (at_ : Int) (d_ : (List Int)) (names_here_ : (List Str)) (s : (List (Str × Int))) (x : Int) : Res Unit (Lo ((List (Str × Int))) ((List Str) × (List (Str × Int)) × (List (Int × Str × Str × Int × Int)) × Int)) :=
  Res.bnd (Res.bind (Res.bind (Res.bind (m_draws script_ (at_ + (1 : Int)) (8 : Int)) fun v19 => gd (inR v19 x) (Res.ok ((ix v19 x)))) fun v22 => Res.bind (Res.bind (Res.bind (gd (inR d_ (19 : Int)) (Res.ok ((ix d_ (19 : Int))))) fun v20 => Res.ok ((v20 % (3 : Int)))) fun v21 => gd (inR ((3 : Int) :: ((4 : Int) :: ((5 : Int) :: []))) v21) (Res.ok ((ix ((3 : Int) :: ((4 : Int) :: ((5 : Int) :: []))) v21)))) fun v23 => gd (CMod v22 v23) (Res.ok ((v22 % v23)))) fun v24 => gd (inR ((0 : Int) :: ((1 : Int) :: ((2 : Int) :: ((5 : Int) :: (((10 : Int) ^ (9 : Nat)) :: []))))) v24) (Res.ok ((ix ((0 : Int) :: ((1 : Int) :: ((2 : Int) :: ((5 : Int) :: (((10 : Int) ^ (9 : Nat)) :: []))))) v24)))) () fun x25 => Res.bnd (gd (inR names_here_ x) (Res.ok ((ix names_here_ x)))) () fun q26 => gd (List.length s ≤ 100000) (
  Res.ok (Lo.go ((dput s q26 x25))))
def world_b2 (script_ : (List Int)) (at_ : Int) (names_here_ : (List Str)) (base_ : Int) (s : (List (Int × Str × Str × Int × Int)) × Int) (x : Int) : Res Unit (Lo ((List (Int × Str × Str × Int × Int)) × Int) ((List Str) × (List (Str × Int)) × (List (Int × Str × Str × Int × Int)) × Int)) :=
  Res.bnd (m_draws script_ ((at_ + (3 : Int)) + x) (6 : Int)) () fun e_32 =>
  Res.bnd (Res.bind (gd (inR e_32 (0 : Int)) (Res.ok ((ix e_32 (0 : Int))))) fun v34 => gd (CMod v34 ((List.length names_here_ : Nat) : Int)) (Res.ok ((v34 % ((List.length names_here_ : Nat) : Int))))) () fun start_33 =>
  Res.bnd (Res.bind (Res.bind (Res.bind (gd (inR e_32 (1 : Int)) (Res.ok ((ix e_32 (1 : Int))))) fun v36 => gd (CMod v36 (((List.length names_here_ : Nat) : Int) - (1 : Int))) (Res.ok ((v36 % (((List.length names_here_ : Nat) : Int) - (1 : Int)))))) fun v37 => Res.ok (((start_33 + (1 : Int)) + v37))) fun v38 => gd (CMod v38 ((List.length names_here_ : Nat) : Int)) (Res.ok ((v38 % ((List.length names_here_ : Nat) : Int))))) () fun goal_35 =>
  Res.bnd (Res.bind (Res.bind (gd (inR e_32 (2 : Int)) (Res.ok ((ix e_32 (2 : Int))))) fun v40 => Res.ok ((v40 % (24 : Int)))) fun v41 => Res.ok ((base_ + v41))) () fun leaves_39 =>
  Res.bnd (Res.bind (Res.bind (gd (inR names_here_ start_33) (Res.ok ((ix names_here_ start_33)))) fun v47 => Res.bind (Res.bind (gd (inR names_here_ goal_35) (Res.ok ((ix names_here_ goal_35)))) fun v45 => Res.bind (Res.bind (Res.bind (Res.bind (gd (inR e_32 (3 : Int)) (Res.ok ((ix e_32 (3 : Int))))) fun v42 => Res.ok ((v42 % (6 : Int)))) fun v43 => Res.ok (((leaves_39 + (1 : Int)) + v43))) fun v44 => Res.ok ((leaves_39, v44)) : R0 (Int × Int)) fun v46 => Res.ok ((v45, v46)) : R0 (Str × Int × Int)) fun v48 => Res.ok ((v47, v48)) : R0 (Str × Str × Int × Int)) fun v49 => Res.ok ((s.2, v49)) : R0 (Int × Str × Str × Int × Int)) () fun x50 => gd (List.length s.1 ≤ 100000) (
  Res.bnd (Res.bind (Res.bind (gd (inR e_32 (4 : Int)) (Res.ok ((ix e_32 (4 : Int))))) fun v51 => Res.ok ((v51 % (3 : Int)))) fun v52 => Res.ok (((1 : Int) + v52))) () fun z53 =>
  Res.ok (Lo.go ((s.1 ++ [x50]), (s.2 + z53))))
def world_j4 (names_here_ : (List Str)) (base_ : Int) (spans_ : (List (Str × Int))) (s : (List (Int × Str × Str × Int × Int))) : R0 ((List Str) × (List (Str × Int)) × (List (Int × Str × Str × Int × Int)) × Int) :=
  Res.bnd (Res.ok ((names_here_, (spans_, (s, base_)))) : R0 ((List Str) × (List (Str × Int)) × (List (Int × Str × Str × Int × Int)) × Int)) () fun r58 => Res.ok (r58)
def world_k3 (d_ : (List Int)) (names_here_ : (List Str)) (base_ : Int) (spans_ : (List (Str × Int))) (s : (List (Int × Str × Str × Int × Int)) × Int) : R0 ((List Str) × (List (Str × Int)) × (List (Int × Str × Str × Int × Int)) × Int) :=
  Res.bnd (Res.bind (Res.bind (gd (inR d_ (15 : Int)) (Res.ok ((ix d_ (15 : Int))))) fun v55 => Res.ok ((v55 % (2 : Int)))) fun v56 => Res.ok (decide (v56 = (1 : Int)))) () fun b57 => bif b57 then (
  Res.bnd (Res.ok ((List.reverse s.1)) : R0 (List (Int × Str × Str × Int × Int))) () fun rides_59 =>
  world_j4 names_here_ base_ spans_ (rides_59)) else (
  world_j4 names_here_ base_ spans_ (s.1))
def world_k1 (script_ : (List Int)) (at_ : Int) (most_ : Int) (d_ : (List Int)) (names_here_ : (List Str)) (base_ : Int) (rides_ : (List (Int × Str × Str × Int × Int))) (s : (List (Str × Int))) : R0 ((List Str) × (List (Str × Int)) × (List (Int × Str × Str × Int × Int)) × Int) :=
  Res.bnd (Res.bind (gd (inR d_ (19 : Int)) (Res.ok ((ix d_ (19 : Int))))) fun v28 => Res.ok ((v28 % (3 : Int)))) () fun number_27 =>
  Res.bnd (Res.bind (Res.bind (Res.bind (m_draws script_ (at_ + (2 : Int)) (1 : Int)) fun v29 => gd (inR v29 (0 : Int)) (Res.ok ((ix v29 (0 : Int))))) fun v30 => gd (CMod v30 (most_ + (1 : Int))) (Res.ok ((v30 % (most_ + (1 : Int)))))) fun n31 => gd (CR62 n31) (Res.ok (upTo n31))) () fun xs60 => forK (world_b2 script_ at_ names_here_ base_) (world_k3 d_ names_here_ base_ s) (fun r => r) xs60 (rides_, number_27)
def m_world (script_ : (List Int)) (at_ : Int) (most_ : Int) : R0 ((List Str) × (List (Str × Int)) × (List (Int × Str × Str × Int × Int)) × Int) :=
  Res.bnd (m_draws script_ at_ (20 : Int)) () fun d_1 =>
  Res.bnd (Res.bind (Res.bind (Res.bind (Res.bind (Res.bind (gd (inR d_1 (16 : Int)) (Res.ok ((ix d_1 (16 : Int))))) fun v3 => Res.ok ((v3 % (4 : Int)))) fun v4 => Res.ok (((2 : Int) + v4))) fun v5 => Res.ok ((v5, ())) : R0 (Int × Unit)) fun v6 => Res.ok ((d_1, v6)) : R0 ((List Int) × Int × Unit)) fun v7 => m_names v7.1 v7.2.1) () fun names_here_2 =>
  Res.bnd (Res.bind (Res.bind (Res.bind (Res.bind (Res.bind (gd (inR d_1 (17 : Int)) (Res.ok ((ix d_1 (17 : Int))))) fun v9 => Res.ok ((((10 : Int) ^ (20 : Nat)) + v9))) fun v10 => Res.ok ((v10 :: (((0 : Int) - ((10 : Int) ^ (40 : Nat))) :: []))) : R0 (List Int)) fun v11 => Res.ok (((0 : Int) :: v11)) : R0 (List Int)) fun v12 => Res.ok (((0 : Int) :: v12)) : R0 (List Int)) fun v14 => Res.bind (Res.bind (gd (inR d_1 (18 : Int)) (Res.ok ((ix d_1 (18 : Int))))) fun v13 => Res.ok ((v13 % (4 : Int)))) fun v15 => gd (inR v14 v15) (Res.ok ((ix v14 v15)))) () fun base_8 =>
  Res.bnd (Res.ok (([] : (List (Str × Int)))) : R0 (List (Str × Int))) () fun spans_16 =>
  Res.bnd (Res.ok (([] : (List (Int × Str × Str × Int × Int)))) : R0 (List (Int × Str × Str × Int × Int))) () fun rides_17 =>
  Res.bnd (Res.bind (Res.ok (((List.length names_here_2 : Nat) : Int)) : R0 Int) fun n18 => gd (CR62 n18) (Res.ok (upTo n18))) () fun xs61 => forK (world_b0 script_ at_ d_1 names_here_2) (world_k1 script_ at_ most_ d_1 names_here_2 base_8 rides_17) (fun r => r) xs61 (spans_16)
/-! ### _law_ways -/
def ways_j4 (s : (List (List (Int × Str × Str × Int × Int)))) : Res Unit (Lo ((List (List (Int × Str × Str × Int × Int)))) (List (List (Int × Str × Str × Int × Int)))) :=
  Res.ok (Lo.go (s))
def ways_b2 (spans_ : (List (Str × Int))) (at_ : Int) (s : (List (List (Int × Str × Str × Int × Int)))) (x : (Int × Str × Str × Int × Int)) : Res Unit (Lo ((List (List (Int × Str × Str × Int × Int)))) (List (List (Int × Str × Str × Int × Int)))) :=
  Res.bnd (Res.bind (Res.bind (Res.bind (gd (inR s at_) (Res.ok ((ix s at_)))) fun v4 => gd (inR v4 (- (1 : Int))) (Res.ok ((ix v4 (- (1 : Int)))))) fun v5 => Res.ok ((v5, (x, (spans_, ())))) : R0 ((Int × Str × Str × Int × Int) × (Int × Str × Str × Int × Int) × (List (Str × Int)) × Unit)) fun v6 => m_hang v6.1 v6.2.1 v6.2.2.1) () fun b7 => bif b7 then (
  Res.bnd (Res.bind (gd (inR s at_) (Res.ok ((ix s at_)))) fun v8 => gd (CCat v8 (x :: [])) (Res.ok ((v8 ++ (x :: []))))) () fun x9 => gd (List.length s ≤ 100000) (
  ways_j4 ((s ++ [x9])))) else (
  ways_j4 (s))
def ways_k3 (at_ : Int) (s : (List (List (Int × Str × Str × Int × Int)))) : Res Unit (Lo ((List (List (Int × Str × Str × Int × Int))) × Int) (List (List (Int × Str × Str × Int × Int)))) :=
  Res.bnd (Res.ok ((1 : Int)) : R0 Int) () fun z10 =>
  Res.ok (Lo.go (s, (at_ + z10)))
def ways_b0 (rides_ : (List (Int × Str × Str × Int × Int))) (spans_ : (List (Str × Int))) (s : (List (List (Int × Str × Str × Int × Int))) × Int) : Res Unit (Lo ((List (List (Int × Str × Str × Int × Int))) × Int) (List (List (Int × Str × Str × Int × Int)))) :=
  Res.bnd (Res.ok rides_ : R0 (List (Int × Str × Str × Int × Int))) () fun xs11 => forK (ways_b2 spans_ s.2) (ways_k3 s.2) (fun r => Lo.out (r)) xs11 (s.1)
def ways_j5 (s : (List (List (Int × Str × Str × Int × Int)))) : R0 (List (List (Int × Str × Str × Int × Int))) :=
  Res.bnd (Res.ok (s) : R0 (List (List (Int × Str × Str × Int × Int)))) () fun r18 => Res.ok (r18)
def ways_k1 (start_ : Str) (goal_ : Str) (s : (List (List (Int × Str × Str × Int × Int))) × Int) : R0 (List (List (Int × Str × Str × Int × Int))) :=
  Res.bnd (gd (List.length s.1 ≤ sizeLine) (compR (fun y13 : (List (Int × Str × Str × Int × Int)) => (Res.bind (Res.bind (gd (inR y13 (- (1 : Int))) (Res.ok ((ix y13 (- (1 : Int)))))) fun v15 => Res.ok (v15.2.2.1)) fun v16 => Res.ok (decide (v16 = goal_)))) (fun y13 : (List (Int × Str × Str × Int × Int)) => (Res.ok (y13) : R0 (List (Int × Str × Str × Int × Int)))) s.1)) () fun found_12 =>
  Res.bnd (Res.ok (decide (start_ = goal_)) : R0 Bool) () fun b17 => bif b17 then (
  Res.bnd (Res.ok (([] : (List (Int × Str × Str × Int × Int)))) : R0 (List (Int × Str × Str × Int × Int))) () fun x19 => gd (List.length found_12 ≤ 100000) (
  ways_j5 ((found_12 ++ [x19])))) else (
  ways_j5 (found_12))
def m_ways (rides_ : (List (Int × Str × Str × Int × Int))) (spans_ : (List (Str × Int))) (start_ : Str) (goal_ : Str) (since_ : Int) : R0 (List (List (Int × Str × Str × Int × Int))) :=
  Res.bnd (gd (List.length rides_ ≤ sizeLine) (compR (fun y2 : (Int × Str × Str × Int × Int) => (Res.ok ((decide (y2.2.1 = start_) && decide (y2.2.2.2.1 ≥ since_))) : R0 Bool)) (fun y2 : (Int × Str × Str × Int × Int) => (Res.ok ((y2 :: [])) : R0 (List (Int × Str × Str × Int × Int)))) rides_)) () fun rows_1 =>
  Res.bnd (Res.ok ((0 : Int)) : R0 Int) () fun at_3 =>
  whileK (fun s20 : (List (List (Int × Str × Str × Int × Int))) × Int => (Res.ok (decide (s20.2 < ((List.length s20.1 : Nat) : Int))) : R0 Bool)) (fun _ => ()) (ways_b0 rides_ spans_) (ways_k1 start_ goal_) (fun r => r) fuel (rows_1, at_3)
/-! ### _law_trip -/
def m_trip (script_ : (List Int)) (at_ : Int) (most_ : Int) : R0 ((List Str) × (List (Str × Int)) × (List (Int × Str × Str × Int × Int)) × Str × Str × Int) :=
  Res.bnd (m_world script_ at_ most_) () fun u1 =>
  Res.bnd (m_draws script_ (at_ + (13 : Int)) (8 : Int)) () fun d_2 =>
  Res.bnd (Res.bind (Res.bind (gd (inR d_2 (0 : Int)) (Res.ok ((ix d_2 (0 : Int))))) fun v4 => gd (CMod v4 ((List.length u1.1 : Nat) : Int)) (Res.ok ((v4 % ((List.length u1.1 : Nat) : Int))))) fun v5 => gd (inR u1.1 v5) (Res.ok ((ix u1.1 v5)))) () fun start_3 =>
  Res.bnd (Res.bind (Res.bind (gd (inR d_2 (1 : Int)) (Res.ok ((ix d_2 (1 : Int))))) fun v7 => gd (CMod v7 ((List.length u1.1 : Nat) : Int)) (Res.ok ((v7 % ((List.length u1.1 : Nat) : Int))))) fun v8 => gd (inR u1.1 v8) (Res.ok ((ix u1.1 v8)))) () fun goal_6 =>
  Res.bnd (Res.bind (Res.bind (Res.bind (Res.bind (Res.bind (gd (inR d_2 (2 : Int)) (Res.ok ((ix d_2 (2 : Int))))) fun v10 => Res.ok ((v10 % (12 : Int)))) fun v14 => Res.bind (Res.bind (Res.bind (Res.bind (gd (inR d_2 (2 : Int)) (Res.ok ((ix d_2 (2 : Int))))) fun v11 => Res.ok ((v11 % (30 : Int)))) fun v12 => Res.ok ((v12 :: [])) : R0 (List Int)) fun v13 => Res.ok ((((0 : Int) - (50 : Int)) :: v13)) : R0 (List Int)) fun v15 => Res.ok ((v14 :: v15)) : R0 (List Int)) fun v16 => Res.ok (((0 : Int) :: v16)) : R0 (List Int)) fun v18 => Res.bind (Res.bind (gd (inR d_2 (3 : Int)) (Res.ok ((ix d_2 (3 : Int))))) fun v17 => Res.ok ((v17 % (4 : Int)))) fun v19 => gd (inR v18 v19) (Res.ok ((ix v18 v19)))) fun v20 => Res.ok ((u1.2.2.2 + v20))) () fun since_9 =>
  Res.bnd (Res.ok ((u1.1, (u1.2.1, (u1.2.2.1, (start_3, (goal_6, since_9)))))) : R0 ((List Str) × (List (Str × Int)) × (List (Int × Str × Str × Int × Int)) × Str × Str × Int)) () fun r21 => Res.ok (r21)
/-! ### _law_same -/
def same_b0 (r : PyData → PyData → R0 Bool) (found_ : PyData) (due_ : PyData) (s : Unit) (x : Int) : Res Unit (Lo (Unit) Bool) :=
  Res.bnd (Res.bind (Res.bind (Res.bind (gd (CIxP found_ x) (Res.ok ((ix (kids found_) x)))) fun v10 => Res.bind (Res.bind (gd (CIxP due_ x) (Res.ok ((ix (kids due_) x)))) fun v9 => Res.ok ((v9, ())) : R0 (PyData × Unit)) fun v11 => Res.ok ((v10, v11)) : R0 (PyData × PyData × Unit)) fun v12 => r v12.1 v12.2.1) fun v13 => Res.ok ((! v13))) () fun b14 => bif b14 then (
  Res.bnd (Res.ok (false) : R0 Bool) () fun r15 => Res.ok (Lo.out (r15))) else (
  Res.ok (Lo.go ()))
def same_k1 (r : PyData → PyData → R0 Bool) (s : Unit) : R0 Bool :=
  Res.bnd (Res.ok (true) : R0 Bool) () fun r16 => Res.ok (r16)
def m_same (r : PyData → PyData → R0 Bool) (found_ : PyData) (due_ : PyData) : R0 Bool :=
  Res.bnd (Res.ok ((isA due_ "tuple" || isA due_ "list")) : R0 Bool) () fun b1 => bif b1 then (
  Res.bnd (Res.ok (((!decide ((isA due_ "tuple") = (isA found_ "tuple"))) || (!decide ((isA due_ "list") = (isA found_ "list"))))) : R0 Bool) () fun b2 => bif b2 then (
  Res.bnd (Res.ok (false) : R0 Bool) () fun r3 => Res.ok (r3)) else (
  Res.bnd (Res.bind (gd (isSeq found_) (Res.ok (((List.length (kids found_) : Nat) : Int)))) fun v4 => Res.bind (gd (isSeq due_) (Res.ok (((List.length (kids due_) : Nat) : Int)))) fun v5 => Res.ok ((!decide (v4 = v5)))) () fun b6 => bif b6 then (
  Res.bnd (Res.ok (false) : R0 Bool) () fun r7 => Res.ok (r7)) else (
  Res.bnd (Res.bind (gd (isSeq due_) (Res.ok (((List.length (kids due_) : Nat) : Int)))) fun n8 => Res.ok (upTo n8)) () fun xs17 => forK (same_b0 r found_ due_) (same_k1 r) (fun r => r) xs17 ()))) else (
  Res.bnd (Res.ok ((tyN due_ == "NoneType")) : R0 Bool) () fun b18 => bif b18 then (
  Res.bnd (Res.ok ((tyN found_ == "NoneType")) : R0 Bool) () fun r19 => Res.ok (r19)) else (
  Res.bnd (Res.ok (((isA due_ "bool") || (isA found_ "bool"))) : R0 Bool) () fun b20 => bif b20 then (
  Res.bnd (bif (isA due_ "bool") then (bif (isA found_ "bool") then (gd (CDep found_ due_) (Res.ok (PyData.eqv found_ due_))) else Res.ok false) else Res.ok false) () fun r21 => Res.ok (r21)) else (
  Res.bnd (Res.ok ((isA due_ "int")) : R0 Bool) () fun b22 => bif b22 then (
  Res.bnd (bif (isA found_ "int") then (gd (CDep found_ due_) (Res.ok (PyData.eqv found_ due_))) else Res.ok false) () fun r23 => Res.ok (r23)) else (
  Res.bnd (bif (isA found_ "str") then (gd (CDep found_ due_) (Res.ok (PyData.eqv found_ due_))) else Res.ok false) () fun r24 => Res.ok (r24)))))
/-! ### by_leaving -/
def keyL (r : Int × Str × Str × Int × Int) : PyData := .tuple [.int r.2.2.2.1, .int r.1]
def m_by_leaving (rides_ : List (Int × Str × Str × Int × Int)) : R0 (List (Int × Str × Str × Int × Int)) := .ok (rides_.mergeSort (PySem.W.dataLe false keyL))
/-! ### soonest -/
def soonest_j2 (s : (List (Str × Int))) : Res Unit (Lo ((List (Str × Int))) (List (Str × Int))) :=
  Res.ok (Lo.go (s))
def soonest_j3 (s : (List (Str × Int))) : Res Unit (Lo ((List (Str × Int))) (List (Str × Int))) :=
  soonest_j2 (s)
def soonest_b0 (spans_ : (List (Str × Int))) (s : (List (Str × Int))) (x : (Int × Str × Str × Int × Int)) : Res Unit (Lo ((List (Str × Int))) (List (Str × Int))) :=
  Res.bnd (bif (has s x.2.1) then (Res.bind (gd (has s x.2.1 = true) (Res.ok ((Option.getD (look s x.2.1) default)))) fun v2 => Res.ok (decide (v2 ≤ x.2.2.2.1))) else Res.ok false) () fun b3 => bif b3 then (
  Res.bnd (Res.bind (gd (has spans_ x.2.2.1 = true) (Res.ok ((Option.getD (look spans_ x.2.2.1) default)))) fun v5 => Res.ok ((x.2.2.2.2 + v5))) () fun ready_4 =>
  Res.bnd (bif (!has s x.2.2.1) then Res.ok true else (Res.bind (gd (has s x.2.2.1 = true) (Res.ok ((Option.getD (look s x.2.2.1) default)))) fun v6 => Res.ok (decide (ready_4 < v6)))) () fun b7 => bif b7 then (
  Res.bnd (Res.ok (ready_4) : R0 Int) () fun x8 => Res.bnd (Res.ok (x.2.2.1) : R0 Str) () fun q9 => gd (List.length s ≤ 100000) (
  soonest_j3 ((dput s q9 x8)))) else (
  soonest_j3 (s))) else (
  soonest_j2 (s))
def soonest_k1 (s : (List (Str × Int))) : R0 (List (Str × Int)) :=
  Res.bnd (Res.ok ((srt rSI s)) : R0 (List (Str × Int))) () fun r10 => Res.ok (r10)
def m_soonest (rides_ : (List (Int × Str × Str × Int × Int))) (spans_ : (List (Str × Int))) (start_ : Str) (since_ : Int) : R0 (List (Str × Int)) :=
  Res.bnd (Res.ok ([(start_, since_)]) : R0 (List (Str × Int))) () fun found_1 =>
  Res.bnd (m_by_leaving rides_) () fun xs11 => forK (soonest_b0 spans_) (soonest_k1) (fun r => r) xs11 (found_1)
def m_sameF (f d : PyData) : R0 Bool := gd (d.depth < 6) (.ok (sm f d))
end Wf
/-! Draws, names, a world: what they are. -/
namespace Wf
open PySem L2
/-! ### draws -/
def small (xs : List Int) : Prop := ∀ x ∈ xs, 0 ≤ x ∧ x < 1013
theorem small_add {xs : List Int} (h : small xs) {x : Int} (h' : 0 ≤ x ∧ x < 1013) : small (xs ++ [x]) := fun y hy => by
  rcases List.mem_append.mp hy with q | q
  · exact h y q
  · obtain rfl : y = x := by simpa using q
    exact h'
theorem mod1013 (c : Int) : 0 ≤ c % 1013 ∧ c % 1013 < 1013 := ⟨Int.emod_nonneg _ (by decide), Int.emod_lt_of_pos _ (by decide)⟩
structure Dr (m : Int) (d : List Int) : Prop where
  len : (d.length : Int) = m
  sm : small d
theorem Dr.at_ {m : Int} {d : List Int} (h : Dr m d) {i : Int} (h0 : 0 ≤ i) (h1 : i < m) : inR d i ∧ 0 ≤ ix d i ∧ ix d i < 1013 := by
  have hr : inR d i := inR_of h0 (by rw [h.len]; exact h1)
  exact ⟨hr, h.sm _ (ix_mem hr)⟩
theorem cmul_of {i j : Int} (h1 : -(2 ^ 64) < i) (h2 : i < 2 ^ 64) : CMul i j := .inl ⟨h1, h2⟩
theorem p64 : (2 : Int) ^ 64 = 18446744073709551616 := by decide
theorem draws_j1_ok {many : Int} (h1 : many ≤ 1000) {seed c : Int} {row : List Int} (hl : (row.length : Int) ≤ many) (hs : small row) : Ok (draws_j1 many seed (c, row)) (Dr many) := by
  unfold draws_j1
  refine ok_whileK (fun s : Int × List Int => (s.2.length : Int) ≤ many ∧ small s.2) (fun s => many.toNat - s.2.length) (fun s hI => ?_) ⟨hl, hs⟩ (by rw [fuel_eq]; omega)
  rw [ok_ok]
  refine ⟨fun ht => ?_, fun hf => ?_⟩
  · have ht := of_decide_eq_true ht
    have hb : (s.2.length : Int) + 1 ≤ 1000 := by omega
    unfold draws_b2
    simp only [ok_bind, ok_bnd, ok_ok, ok_gd, ok_cond]
    refine ⟨cmul_of (by have := p64; omega) (by have := p64; omega), cmul_of (by have := p64; omega) (by have := p64; omega), by omega, ⟨?_, small_add hI.2 (mod1013 _)⟩, ?_⟩
    · simp only [List.length_append, List.length_singleton]; omega
    · simp only [List.length_append, List.length_singleton]; omega
  · have hf := of_decide_eq_false hf
    unfold draws_k3
    simp only [ok_bind, ok_bnd, ok_ok, ok_gd, ok_cond]
    exact ⟨by have := hI.1; omega, hI.2⟩
theorem draws_j0_ok {a many : Int} (h0 : 0 ≤ many) (h1 : many ≤ 1000) (c : Int) : Ok (draws_j0 a many c) (Dr many) := by
  unfold draws_j0
  simp only [ok_bind, ok_bnd, ok_ok, ok_gd, ok_cond]
  refine ⟨fun _ => ?_, fun _ => draws_j1_ok h1 (by simpa using h0) fun x h => by cases h⟩
  refine ok_whileK (fun s : Int × List Int => (s.2.length : Int) ≤ many ∧ small s.2) (fun s => many.toNat - s.2.length) (fun s hI => ?_) ⟨by simpa using h0, fun x h => by cases h⟩ (by rw [fuel_eq]; simp; omega)
  rw [ok_ok]
  refine ⟨fun ht => ?_, fun hf => ?_⟩
  · simp only [Bool.and_eq_true, decide_eq_true_eq] at ht
    unfold draws_b4
    simp only [ok_bind, ok_bnd, ok_ok, ok_gd, ok_cond]
    refine ⟨by omega, ⟨?_, small_add hI.2 (mod1013 _)⟩, ?_⟩
    · simp only [List.length_append, List.length_singleton]; omega
    · simp only [List.length_append, List.length_singleton]; omega
  · unfold draws_k5
    exact draws_j1_ok h1 hI.1 hI.2
theorem draws_ok (s : List Int) {a m : Int} (h1 : 0 ≤ a) (h2 : a ≤ 100000) (h3 : 0 ≤ m) (h4 : m ≤ 1000) : Ok (m_draws s a m) (Dr m) := by
  unfold m_draws
  simp only [ok_bind, ok_bnd, ok_ok, ok_gd, ok_cond]
  refine ⟨fun hb => ⟨inR_of h1 (of_decide_eq_true hb), draws_j0_ok h3 h4 _⟩, fun hb => ⟨fun hb2 => ?_, fun _ => ?_⟩⟩
  · have hb2 := of_decide_eq_true hb2
    refine ⟨hb2, inR_of (Int.emod_nonneg _ (by omega)) (Int.emod_lt_of_pos _ hb2), cmul_of (by have := p64; omega) (by have := p64; omega), ?_⟩
    exact draws_j0_ok h3 h4 _
  · exact draws_j0_ok h3 h4 _

/-! ### names -/
def hd? (z : Str) : Option Nat := z.cps.toList.head?
def la? (z : Str) : Option Nat := z.cps.toList.getLast?
theorem letters_at : ∀ i : Int, 0 ≤ i → i < 26 → inR (Array.toList (Str.cps ("abcdefghijklmnopqrstuvwxyz" : Str))) i ∧ (signAt ("abcdefghijklmnopqrstuvwxyz" : Str) i).cps.toList = [97 + i.toNat] := by
  have : ∀ i : Nat, i < 26 → inR (Array.toList (Str.cps ("abcdefghijklmnopqrstuvwxyz" : Str))) i ∧ (signAt ("abcdefghijklmnopqrstuvwxyz" : Str) (i : Int)).cps.toList = [97 + i] := by decide +kernel
  intro i h0 h1
  have := this i.toNat (by omega)
  rw [show ((i.toNat : Nat) : Int) = i by omega] at this
  exact this
theorem letters36_at : ∀ i : Int, 0 ≤ i → i < 36 → inR (Array.toList (Str.cps (("abcdefghijklmnopqrstuvwxyz" : Str) ++ ("0123456789" : Str)))) i ∧ (signAt (("abcdefghijklmnopqrstuvwxyz" : Str) ++ ("0123456789" : Str)) i).cps.toList.all (fun c => decide (c < 128)) = true := by
  have : ∀ i : Nat, i < 36 → inR (Array.toList (Str.cps (("abcdefghijklmnopqrstuvwxyz" : Str) ++ ("0123456789" : Str)))) i ∧ (signAt (("abcdefghijklmnopqrstuvwxyz" : Str) ++ ("0123456789" : Str)) (i : Int)).cps.toList.all (fun c => decide (c < 128)) = true := by decide +kernel
  intro i h0 h1
  have := this i.toNat (by omega)
  rw [show ((i.toNat : Nat) : Int) = i by omega] at this
  exact this
/-- a text of use: few signs, each below 128 -/
structure Plain (n : Nat) (z : Str) : Prop where
  len : z.length ≤ n
  asc : ∀ c ∈ z.cps.toList, c < 128
theorem Plain.nice {n : Nat} {z : Str} (h : Plain n z) (hn : n ≤ 100000) : niceS z = true := by
  unfold niceS PyData.strOk
  rw [Bool.and_eq_true]
  refine ⟨decide_eq_true (Nat.le_trans h.len hn), ?_⟩
  rw [Array.all_eq_true']
  intro c hc
  have := h.asc c (by simpa using hc)
  simp; omega
theorem app_cps (a b : Str) : (a ++ b).cps.toList = a.cps.toList ++ b.cps.toList := by
  show (a.cps ++ b.cps).toList = _
  simp
theorem app_len (a b : Str) : (a ++ b).length = a.length + b.length := by
  show (a.cps ++ b.cps).size = _
  simp [Str.length]
theorem Plain.app {n m : Nat} {a b : Str} (h : Plain n a) (g : Plain m b) : Plain (n + m) (a ++ b) := ⟨by rw [app_len]; have := h.len; have := g.len; omega, fun c hc => by
  rw [app_cps] at hc
  exact (List.mem_append.mp hc).elim (h.asc c) (g.asc c)⟩
end Wf
namespace Wf
open PySem L2
theorem plain_empty (n : Nat) : Plain n Str.empty := ⟨by show 0 ≤ n; omega, fun c hc => by simp [Str.empty] at hc⟩
theorem glue_plain : ∀ ys : List Str, (∀ y ∈ ys, Plain 1 y) → Plain ys.length (glue ys)
  | [], _ => plain_empty _
  | [x], h => h x (by simp)
  | x :: y :: ys, h => by
    have ih := glue_plain (y :: ys) fun z hz => h z (List.mem_cons_of_mem _ hz)
    have hx := h x (by simp)
    have := (hx.app (plain_empty 0)).app ih
    refine ⟨?_, this.asc⟩
    have l := this.len
    show (glue (x :: y :: ys)).length ≤ _
    refine Nat.le_trans l ?_
    simp; omega
structure NmAt (d : List Int) (i : Int) (z : Str) : Prop where
  pl : Plain 12 z
  h0 : ix d 0 / 6 % 2 = 0 → hd? z = some (97 + ((i * ix [1, 3, 5, 7, 9, 11] (ix d 0 % 6) + ix d 1) % 26).toNat)
  h1 : ix d 0 / 6 % 2 = 1 → la? z = some (97 + ((i * ix [1, 3, 5, 7, 9, 11] (ix d 0 % 6) + ix d 1) % 26).toNat)
theorem step6 (v : Int) (h : inR [(1 : Int), 3, 5, 7, 9, 11] v) : ix [(1 : Int), 3, 5, 7, 9, 11] v ∈ [(1 : Int), 3, 5, 7, 9, 11] := ix_mem h
theorem code_ne {i j st c : Int} (h0 : 0 ≤ i) (hij : i < j) (h1 : j < 26) (hs : st ∈ [(1 : Int), 3, 5, 7, 9, 11]) : 97 + ((i * st + c) % 26).toNat ≠ 97 + ((j * st + c) % 26).toNat := by
  simp only [List.mem_cons, List.not_mem_nil, or_false] at hs
  rcases hs with rfl | rfl | rfl | rfl | rfl | rfl <;> omega
structure Nm (many : Int) (ns : List Str) : Prop where
  len : (ns.length : Int) = many
  nd : ns.Nodup
  pl : ∀ z ∈ ns, Plain 12 z
theorem mod6 (v : Int) : inR [(1 : Int), 3, 5, 7, 9, 11] (v % 6) := ⟨by omega, show _ < (6 : Int) by omega⟩
theorem names_b0_ok {d : List Int} {m : Int} (hd : Dr m d) {x : Int} (hm : 20 ≤ m) (h0 : 0 ≤ x) (h1 : x < 16) (s : List Str) (hs : s.length ≤ 1000) :
    Ok (names_b0 d "abcdefghijklmnopqrstuvwxyz" s x) (fun r => ∃ z, r = .go (s ++ [z]) ∧ NmAt d x z) := by
  have d0 := hd.at_ (i := 0) (by omega) (by omega)
  have d1 := hd.at_ (i := 1) (by omega) (by omega)
  have d2 := hd.at_ (i := 2) (by omega) (by omega)
  have d3 := hd.at_ (i := 3) (by omega) (by omega)
  have d4 := hd.at_ (i := 4 + x) (by omega) (by omega)
  unfold names_b0
  simp only [ok_bind, ok_bnd, ok_ok, ok_gd, ok_cond]
  refine ⟨d0.1, mod6 _, cmul_of (by have := p64; omega) (by have := p64; omega), d1.1, (letters_at _ (by omega) (by omega)).1, d4.1, ?_⟩
  refine ⟨⟨by have : (2 : Int) ^ 62 = 4611686018427387904 := by decide
              omega, by have : (2 : Int) ^ 62 = 4611686018427387904 := by decide
                        omega⟩, ?_, ?_⟩
  · rw [upTo_len]; have := sizeLine_eq; omega
  refine ok_compQ (Q := fun _ _ => True) (S := fun _ y => Plain 1 y) (fun _ _ => trivial) (fun y hy _ => ?_) (fun ys hys hl => ?_)
  · simp only [ok_bind, ok_bnd, ok_ok, ok_gd, ok_cond]
    have hy := mem_upTo.mp hy
    refine ⟨by decide +kernel, d2.1, d3.1, cmul_of (by have := p64; omega) (by have := p64; omega), (letters36_at _ (by omega) (by omega)).1, ?_⟩
    have := (letters36_at ((ix d 2 + y * ix d 3) % 36) (by omega) (by omega)).2
    exact ⟨Nat.le_refl _, fun c hc => by
      have := List.all_eq_true.mp this c hc
      simpa using this⟩
  · have hl2 : ys.length ≤ 11 := by rw [upTo_len] at hl; omega
    have g := glue_plain ys fun y hy => (hys y hy).elim fun _ h => h.2.2
    have lo := (letters_at ((x * ix [1, 3, 5, 7, 9, 11] (ix d 0 % 6) + ix d 1) % 26) (by omega) (by omega)).2
    have pl : Plain 1 (signAt ("abcdefghijklmnopqrstuvwxyz" : Str) ((x * ix [1, 3, 5, 7, 9, 11] (ix d 0 % 6) + ix d 1) % 26)) := ⟨Nat.le_refl _, fun c hc => by
      rw [lo] at hc
      obtain rfl : c = _ := by simpa using hc
      omega⟩
    have sum1 : (ys.map fun z => z.length).sum ≤ 11 := by
      have : ∀ ys : List Str, (∀ y ∈ ys, Plain 1 y) → (ys.map fun z => z.length).sum ≤ ys.length := by
        intro ys
        induction ys with
        | nil => intro _; simp
        | cons y ys ih =>
          intro h
          have := ih fun z hz => h z (List.mem_cons_of_mem _ hz)
          have := (h y (by simp)).len
          simp only [List.map_cons, List.sum_cons, List.length_cons]; omega
      exact Nat.le_trans (this ys fun y hy => (hys y hy).elim fun _ h => h.2.2) hl2
    generalize hw : signAt ("abcdefghijklmnopqrstuvwxyz" : Str) ((x * ix [1, 3, 5, 7, 9, 11] (ix d 0 % 6) + ix d 1) % 26) = w at *
    have gl := g.len
    have wl := pl.len
    refine ⟨by omega, by unfold CStr; omega, by unfold CStr; omega, d0.1, ⟨by omega, show _ < (2 : Int) by omega⟩, by omega, _, rfl, ?_⟩
    rcases (by omega : ix d 0 / 6 % 2 = 0 ∨ ix d 0 / 6 % 2 = 1) with e | e
    · rw [e]
      show NmAt d x (w ++ glue ys)
      have p := pl.app g
      refine ⟨⟨by have := p.len; omega, p.asc⟩, fun _ => ?_, fun h => by omega⟩
      unfold hd?
      rw [app_cps, lo]; rfl
    · rw [e]
      show NmAt d x (glue ys ++ w)
      have p := g.app pl
      refine ⟨⟨by have := p.len; omega, p.asc⟩, fun h => by omega, fun _ => ?_⟩
      unfold la?
      rw [app_cps, lo]; simp
theorem names_ok {d : List Int} {m : Int} (hd : Dr m d) (hm : 20 ≤ m) {many : Int} (h0 : 0 ≤ many) (h1 : many ≤ 12) : Ok (m_names d many) (Nm many) := by
  unfold m_names
  simp only [ok_bind, ok_bnd, ok_ok, ok_gd, ok_cond]
  have p62 : (2 : Int) ^ 62 = 4611686018427387904 := by decide
  refine ⟨⟨by omega, by omega⟩, ok_for (fun pre s => s.length = pre.length ∧ ∀ (i : Nat) (h : i < s.length), NmAt d i s[i]) ⟨rfl, fun i h => by simp at h⟩ (fun a x b s e hI => ?_) fun s hI => ?_⟩
  · obtain ⟨hx, hx2⟩ := upTo_split e
    refine (names_b0_ok hd hm (by omega) (by omega) s (by omega)).mono ?_
    rintro _ ⟨z, rfl, hz⟩
    refine ⟨by simp [hI.1], fun i h => ?_⟩
    rw [List.getElem_append]
    split
    · exact hI.2 i _
    · have : i = a.length := by simp at h; omega
      subst this
      simp only [List.getElem_singleton]
      rw [← hx]; exact hz
  · unfold names_k1
    simp only [ok_bind, ok_bnd, ok_ok, ok_gd, ok_cond]
    rw [upTo_len] at hI
    refine ⟨by omega, ?_, fun z hz => ?_⟩
    · unfold List.Nodup
      rw [List.pairwise_iff_getElem]
      intro i j hi hj hij e
      have a := hI.2 i hi
      have b := hI.2 j hj
      have s6 := step6 _ (mod6 (ix d 0))
      have ne := code_ne (i := i) (j := j) (c := ix d 1) (by omega) (by omega) (by omega) s6
      rw [e] at a
      rcases (by omega : ix d 0 / 6 % 2 = 0 ∨ ix d 0 / 6 % 2 = 1) with q | q
      · exact ne (Option.some.inj ((a.h0 q).symm.trans (b.h0 q)))
      · exact ne (Option.some.inj ((a.h1 q).symm.trans (b.h1 q)))
    · obtain ⟨i, hi, rfl⟩ := List.getElem_of_mem hz
      exact (hI.2 i hi).pl
end Wf
namespace Wf
open PySem L2
abbrev Rde := Int × Str × Str × Int × Int
abbrev Spn := List (Str × Int)
structure RdOk (ns : List Str) (r : Rde) : Prop where
  src : r.2.1 ∈ ns
  dst : r.2.2.1 ∈ ns
  ne : r.2.1 ≠ r.2.2.1
  lt : r.2.2.2.1 < r.2.2.2.2
structure Wd (most : Int) (ns : List Str) (sp : Spn) (rs : List Rde) : Prop where
  n2 : 2 ≤ ns.length
  n5 : ns.length ≤ 5
  nd : ns.Nodup
  pl : ∀ z ∈ ns, Plain 12 z
  sv : ∀ p ∈ ns, ∃ v, look sp p = some v ∧ 0 ≤ v
  uq : Uq sp
  sl : sp.length ≤ 5
  rl : (rs.length : Int) ≤ most
  rd : ∀ r ∈ rs, RdOk ns r
  rn : (rs.map (·.1)).Nodup
  n0 : ∀ r ∈ rs, 0 ≤ r.1 ∧ r.1 ≤ 2 + 3 * most
theorem nodup_ix {ns : List Str} (h : ns.Nodup) {i j : Int} (h0 : 0 ≤ i) (h1 : i < ns.length) (g0 : 0 ≤ j) (g1 : j < ns.length) (ne : i ≠ j) : ix ns i ≠ ix ns j := by
  rw [ix_get h0 h1, ix_get g0 g1]
  intro e
  have hp := List.pairwise_iff_getElem.mp h
  rcases (by omega : i.toNat < j.toNat ∨ j.toNat < i.toNat) with q | q
  · exact hp _ _ _ _ q e
  · exact hp _ _ _ _ q e.symm
theorem mod_ne {n a b : Int} (h2 : 2 ≤ n) (h5 : n ≤ 5) (h0 : 0 ≤ a) (h1 : a < n) : a ≠ (a + 1 + b % (n - 1)) % n := by
  rcases (by omega : n = 2 ∨ n = 3 ∨ n = 4 ∨ n = 5) with rfl | rfl | rfl | rfl <;> omega
theorem nodup_rev {α : Type} {l : List α} (h : l.Nodup) : l.reverse.Nodup := List.pairwise_reverse.mpr (List.Pairwise.imp (fun h => Ne.symm h) h)
theorem p62 : (2 : Int) ^ 62 = 4611686018427387904 := by decide
theorem cr62 {n : Int} (h0 : 0 ≤ n) (h1 : n ≤ 1000000) : CR62 n := ⟨by have := p62; omega, by have := p62; omega⟩
theorem world_b0_ok (ns : List Int) {at_ : Int} (a0 : 0 ≤ at_) (a1 : at_ ≤ 10000) {d : List Int} (hd : Dr 20 d) {nm : List Str} (n5 : nm.length ≤ 5) {x : Int} (x0 : 0 ≤ x) (x1 : x < nm.length) (s : Spn) (hs : s.length ≤ 1000) :
    Ok (world_b0 ns at_ d nm s x) (fun r => ∃ v, 0 ≤ v ∧ r = .go (dput s (ix nm x) v)) := by
  have d19 := hd.at_ (i := 19) (by omega) (by omega)
  unfold world_b0
  simp only [ok_bind, ok_bnd, ok_ok, ok_gd, ok_cond]
  refine (draws_ok ns (a := at_ + 1) (m := 8) (by omega) (by omega) (by decide) (by decide)).mono fun e he => ?_
  have ex := he.at_ (i := x) (by omega) (by omega)
  have i3 : inR [(3 : Int), 4, 5] (ix d 19 % 3) := ⟨by omega, show _ < (3 : Int) by omega⟩
  have q3 : 3 ≤ ix [(3 : Int), 4, 5] (ix d 19 % 3) ∧ ix [(3 : Int), 4, 5] (ix d 19 % 3) ≤ 5 := ix_in (p := fun z => 3 ≤ z ∧ z ≤ 5) i3 fun y hy => by
    simp only [List.mem_cons, List.not_mem_nil, or_false] at hy
    rcases hy with rfl | rfl | rfl <;> omega
  have qm : 0 ≤ ix e x % ix [(3 : Int), 4, 5] (ix d 19 % 3) ∧ ix e x % ix [(3 : Int), 4, 5] (ix d 19 % 3) < 5 := ⟨Int.emod_nonneg _ (by omega), Int.lt_of_lt_of_le (Int.emod_lt_of_pos _ (by omega)) q3.2⟩
  have i5 : inR [(0 : Int), 1, 2, 5, 10 ^ 9] (ix e x % ix [(3 : Int), 4, 5] (ix d 19 % 3)) := ⟨by omega, show _ < (5 : Int) by omega⟩
  refine ⟨ex.1, d19.1, i3, by unfold CMod; omega, i5, inR_of x0 x1, by omega, _, ?_, rfl⟩
  refine ix_in (p := fun z => 0 ≤ z) i5 fun y hy => ?_
  simp only [List.mem_cons, List.not_mem_nil, or_false] at hy
  rcases hy with rfl | rfl | rfl | rfl | rfl <;> decide
theorem world_b2_ok (ns : List Int) {at_ : Int} (a0 : 0 ≤ at_) (a1 : at_ ≤ 10000) {nm : List Str} (n2 : 2 ≤ nm.length) (n5 : nm.length ≤ 5) (nd : nm.Nodup) (b : Int) {x : Int} (x0 : 0 ≤ x) (x1 : x ≤ 1000) (s : List Rde × Int) (hs : s.1.length ≤ 1000) :
    Ok (world_b2 ns at_ nm b s x) (fun r => ∃ y n, RdOk nm y ∧ y.1 = s.2 ∧ s.2 < n ∧ n ≤ s.2 + 3 ∧ r = .go (s.1 ++ [y], n)) := by
  unfold world_b2
  simp only [ok_bind, ok_bnd, ok_ok, ok_gd, ok_cond]
  refine (draws_ok ns (a := at_ + 3 + x) (m := 6) (by omega) (by omega) (by decide) (by decide)).mono fun e he => ?_
  have e0 := he.at_ (i := 0) (by omega) (by omega)
  have e1 := he.at_ (i := 1) (by omega) (by omega)
  have e2 := he.at_ (i := 2) (by omega) (by omega)
  have e3 := he.at_ (i := 3) (by omega) (by omega)
  have e4 := he.at_ (i := 4) (by omega) (by omega)
  have l0 : (0 : Int) < nm.length := by omega
  have m0 : 0 ≤ ix e 0 % nm.length ∧ ix e 0 % nm.length < nm.length := ⟨Int.emod_nonneg _ (by omega), Int.emod_lt_of_pos _ l0⟩
  have m1 : ∀ z : Int, 0 ≤ z % nm.length ∧ z % nm.length < nm.length := fun z => ⟨Int.emod_nonneg _ (by omega), Int.emod_lt_of_pos _ l0⟩
  refine ⟨e0.1, l0, e1.1, by unfold CMod; omega, l0, e2.1, inR_of m0.1 m0.2, inR_of (m1 _).1 (m1 _).2, e3.1, by omega, e4.1, _, _, ⟨?_, ?_, ?_, ?_⟩, rfl, ?_, ?_, rfl⟩
  · exact ix_mem (inR_of m0.1 m0.2)
  · exact ix_mem (inR_of (m1 _).1 (m1 _).2)
  · exact nodup_ix nd m0.1 m0.2 (m1 _).1 (m1 _).2 (mod_ne (by omega) (by omega) m0.1 m0.2)
  · simp only; omega
  · omega
  · omega
theorem world_ok (ns : List Int) {at_ most : Int} (a0 : 0 ≤ at_) (a1 : at_ ≤ 1000) (m0 : 0 ≤ most) (m1 : most ≤ 100) : Ok (m_world ns at_ most) (fun x => Wd most x.1 x.2.1 x.2.2.1) := by
  unfold m_world
  simp only [ok_bind, ok_bnd, ok_ok, ok_gd, ok_cond]
  refine (draws_ok ns (a := at_) (m := 20) (by omega) (by omega) (by decide) (by decide)).mono fun d hd => ?_
  have d15 := hd.at_ (i := 15) (by omega) (by omega)
  have d16 := hd.at_ (i := 16) (by omega) (by omega)
  have d17 := hd.at_ (i := 17) (by omega) (by omega)
  have d18 := hd.at_ (i := 18) (by omega) (by omega)
  have d19 := hd.at_ (i := 19) (by omega) (by omega)
  refine ⟨d16.1, (names_ok hd (by decide) (by omega) (by omega)).mono fun nm hn => ⟨d17.1, d18.1, ⟨by omega, show _ < (4 : Int) by omega⟩, cr62 (by omega) (by have := hn.len; omega), ?_⟩⟩
  have hl := hn.len
  have n2 : 2 ≤ nm.length := by omega
  have n5 : nm.length ≤ 5 := by omega
  refine ok_for (fun pre s => s.length ≤ pre.length ∧ Uq s ∧ ∀ (i : Nat), i < pre.length → ∃ v, look s (ix nm (i : Int)) = some v ∧ 0 ≤ v) ⟨by simp, List.nodup_nil, fun i h => by simp at h⟩ (fun a x b s e hI => ?_) fun s hI => ?_
  · obtain ⟨hx, hx2⟩ := upTo_split e
    refine (world_b0_ok ns a0 (by omega) hd n5 (by omega) (by omega) s (by omega)).mono ?_
    rintro _ ⟨v, hv, rfl⟩
    have dl := dput_len s (ix nm x) v
    refine ⟨by have := hI.1; simp; omega, uq_dput hI.2.1 _ _, fun i hi => ?_⟩
    rw [look_dput]
    split
    · exact ⟨v, rfl, hv⟩
    · rename_i ne
      refine hI.2.2 i ?_
      have : (i : Int) ≠ x := fun e => ne (by rw [e])
      simp at hi; omega
  · unfold world_k1
    simp only [ok_bind, ok_bnd, ok_ok, ok_gd, ok_cond]
    refine ⟨d19.1, (draws_ok ns (a := at_ + 2) (m := 1) (by omega) (by omega) (by decide) (by decide)).mono fun c hc => ?_⟩
    have c0 := hc.at_ (i := 0) (by omega) (by omega)
    have c1 : 0 ≤ ix c 0 % (most + 1) ∧ ix c 0 % (most + 1) < most + 1 := ⟨Int.emod_nonneg _ (by omega), Int.emod_lt_of_pos _ (by omega)⟩
    refine ⟨c0.1, by unfold CMod; omega, cr62 (by omega) (by omega), ?_⟩
    rw [upTo_len] at hI
    refine ok_for (fun pre (s : List Rde × Int) => s.1.length = pre.length ∧ (∀ r ∈ s.1, RdOk nm r ∧ 0 ≤ r.1 ∧ r.1 < s.2) ∧ (s.1.map (·.1)).Nodup ∧ 0 ≤ s.2 ∧ s.2 ≤ 2 + 3 * (pre.length : Int)) ⟨rfl, by simp, by simp, by simp only; omega, by simp only [List.length_nil]; omega⟩ (fun a x b s e hI2 => ?_) fun s hI2 => ?_
    · obtain ⟨hx, hx2⟩ := upTo_split e
      obtain ⟨i1, i2, i3, i4, i5⟩ := hI2
      refine (world_b2_ok ns a0 (by omega) n2 n5 hn.nd _ (by omega) (by omega) s (by omega)).mono ?_
      rintro _ ⟨y, n, hy, ey, q1, q2, rfl⟩
      refine ⟨by simp [i1], fun r hr => ?_, ?_, by simp only; omega, by simp only [List.length_append, List.length_singleton]; omega⟩
      · rcases List.mem_append.mp hr with h | h
        · have := i2 r h
          exact ⟨this.1, this.2.1, by simp only; omega⟩
        · obtain rfl : r = y := by simpa using h
          exact ⟨hy, by omega, by simp only; omega⟩
      · rw [List.map_append, List.nodup_append]
        refine ⟨i3, by simp, fun a ha b hb e => ?_⟩
        obtain ⟨r, hr, rfl⟩ := List.mem_map.mp ha
        have := (i2 r hr).2.2
        have : b = y.1 := by simpa using hb
        omega
    · obtain ⟨i1, i2, i3, i4, i5⟩ := hI2
      rw [upTo_len] at i1 i5
      have nmem : ∀ p ∈ nm, ∃ i : Nat, i < nm.length ∧ ix nm (i : Int) = p := fun p hp => by
        obtain ⟨i, hi, rfl⟩ := List.getElem_of_mem hp
        exact ⟨i, hi, by rw [ix_get (by omega) (by omega)]; rfl⟩
      have fin : ∀ (sp : Spn) (rs : List Rde), sp.length ≤ 5 → Uq sp → (∀ (i : Nat), i < nm.length → ∃ v, look sp (ix nm (i : Int)) = some v ∧ 0 ≤ v) → (rs.length : Int) ≤ most → (∀ r ∈ rs, RdOk nm r ∧ 0 ≤ r.1 ∧ r.1 ≤ 2 + 3 * most) → (rs.map (·.1)).Nodup → Wd most nm sp rs := fun sp rs h1 h2 h3 h4 h5 h6 =>
        ⟨n2, n5, hn.nd, hn.pl, fun p hp => by obtain ⟨i, hi, rfl⟩ := nmem p hp; exact h3 i hi, h2, h1, h4, fun r hr => (h5 r hr).1, h6, fun r hr => (h5 r hr).2⟩
      rename_i sp
      have hI3 : ∀ (i : Nat), i < nm.length → ∃ v, look sp (ix nm (i : Int)) = some v ∧ 0 ≤ v := fun i hi => hI.2.2 i (by omega)
      unfold world_k3 world_j4
      simp only [ok_bind, ok_bnd, ok_ok, ok_gd, ok_cond]
      refine ⟨d15.1, fun _ => ?_, fun _ => ?_⟩
      · refine fin sp _ (by omega) hI.2.1 hI3 (by rw [List.length_reverse]; omega) (fun r hr => ?_) (by rw [List.map_reverse]; exact nodup_rev i3)
        have := i2 r (List.mem_reverse.mp hr)
        exact ⟨this.1, this.2.1, by omega⟩
      · exact fin sp _ (by omega) hI.2.1 hI3 (by omega) (fun r hr => ⟨(i2 r hr).1, (i2 r hr).2.1, by have := (i2 r hr).2.2; omega⟩) i3
structure Tr (most : Int) (ns : List Str) (sp : Spn) (rs : List Rde) (start goal : Str) : Prop where
  w : Wd most ns sp rs
  st : start ∈ ns
  gl : goal ∈ ns
theorem trip_ok (ns : List Int) {at_ most : Int} (a0 : 0 ≤ at_) (a1 : at_ ≤ 900) (m0 : 0 ≤ most) (m1 : most ≤ 100) : Ok (m_trip ns at_ most) (fun x => Tr most x.1 x.2.1 x.2.2.1 x.2.2.2.1 x.2.2.2.2.1) := by
  unfold m_trip
  simp only [ok_bind, ok_bnd, ok_ok, ok_gd, ok_cond]
  refine (world_ok ns a0 (by omega) m0 m1).mono fun u hu => (draws_ok ns (a := at_ + 13) (m := 8) (by omega) (by omega) (by decide) (by decide)).mono fun d hd => ?_
  have d0 := hd.at_ (i := 0) (by omega) (by omega)
  have d1 := hd.at_ (i := 1) (by omega) (by omega)
  have d2 := hd.at_ (i := 2) (by omega) (by omega)
  have d3 := hd.at_ (i := 3) (by omega) (by omega)
  have n2 := hu.n2
  have l0 : (0 : Int) < u.1.length := by omega
  have m1 : ∀ z : Int, inR u.1 (z % u.1.length) := fun z => inR_of (Int.emod_nonneg _ (by omega)) (Int.emod_lt_of_pos _ l0)
  exact ⟨d0.1, l0, m1 _, d1.1, l0, m1 _, d2.1, d2.1, d3.1, ⟨by omega, show _ < (4 : Int) by omega⟩, hu, ix_mem (m1 _), ix_mem (m1 _)⟩
end Wf
namespace Wf
open PySem L2
/-! ### rides that hang; all rows -/
def spf (sp : Spn) : Str → Int := fun p => (look sp p).getD default
theorem has_of {κ α : Type} [DecidableEq κ] {d : List (κ × α)} {k : κ} {v : α} (h : look d k = some v) : has d k = true := by unfold has; rw [h]; rfl
/-- rides and spans of use -/
structure Rs' (sp : Spn) (rs : List Rde) : Prop where
  w : Pl.Wld (spf sp) rs
  h : ∀ r ∈ rs, has sp r.2.2.1 = true
theorem Wd.rs {most : Int} {ns : List Str} {sp : Spn} {rs : List Rde} (w : Wd most ns sp rs) : Rs' sp rs where
  w := ⟨fun r hr => (w.rd r hr).lt, fun r hr => by
    obtain ⟨v, e, h⟩ := w.sv _ (w.rd r hr).dst
    unfold spf; rw [e]; exact h, w.rn⟩
  h := fun r hr => by
    obtain ⟨v, e, h⟩ := w.sv _ (w.rd r hr).dst
    exact has_of e
theorem Rs'.sub {sp : Spn} {rs rs' : List Rde} (h : Rs' sp rs) (s : rs'.Sublist rs) : Rs' sp rs' :=
  ⟨⟨fun r hr => h.w.lt r (s.mem hr), fun r hr => h.w.sp r (s.mem hr), h.w.nd.sublist (s.map _)⟩, fun r hr => h.h r (s.mem hr)⟩
theorem Rs'.perm {sp : Spn} {rs rs' : List Rde} (h : Rs' sp rs) (s : rs'.Perm rs) : Rs' sp rs' :=
  ⟨⟨fun r hr => h.w.lt r (s.mem_iff.mp hr), fun r hr => h.w.sp r (s.mem_iff.mp hr), (s.map _).nodup_iff.mpr h.w.nd⟩, fun r hr => h.h r (s.mem_iff.mp hr)⟩
theorem hang_ok {a b : Rde} {sp : Spn} (h : has sp a.2.2.1 = true) : Ok (m_hang a b sp) (fun t => t = decide (Pl.Hg (spf sp) a b)) := by
  unfold m_hang
  simp only [ok_bind, ok_bnd, ok_ok, ok_gd, ok_cond]
  unfold Pl.Hg
  refine ⟨fun e => ⟨h, ?_⟩, fun e => ?_⟩
  · have e := of_decide_eq_true e
    show decide (_ ≥ _) = _
    simp only [e, true_and, spf, ge_iff_le]
  · have e := of_decide_eq_false e
    simp [e]
abbrev Row := List Rde
def hw (rs : List Rde) (row : Row) : Nat := match row.getLast? with | some a => Pl.heft rs a | none => 0
theorem hw_way {sp : Str → Int} {rs : List Rde} {s : Str} {t : Int} {row : Row} {a : Rde} (h : Pl.Way sp rs s t row a) : hw rs row = Pl.heft rs a := by
  unfold hw; rw [h.last]
def kidsR (sp : Spn) (row : Row) (a : Rde) (xs : List Rde) : List Row := (xs.filter fun b => decide (Pl.Hg (spf sp) a b)).map fun b => row ++ [b]
theorem ix_app {α : Type} [Inhabited α] {xs ys : List α} {i : Int} (h0 : 0 ≤ i) (h1 : i < xs.length) : ix (xs ++ ys) i = ix xs i := by
  rw [ix_get h0 h1, ix_get h0 (by rw [List.length_append]; omega), List.getElem_append_left]
/-- the rows so far, with what hangs on the row at its turn -/
theorem ways_for {sp : Spn} {rs : List Rde} {rows : List Row} {at_ : Int} {a : Rde} (h0 : 0 ≤ at_) (h1 : at_ < rows.length) (ha : (ix rows at_).getLast? = some a) (hsp : has sp a.2.2.1 = true)
    (hl : rows.length + rs.length ≤ 100000) (hr : (ix rows at_).length ≤ 99999) {P : Lo (List Row × Int) (List Row) → Prop} (hP : P (.go (rows ++ kidsR sp (ix rows at_) a rs, at_ + 1))) :
    Ok (ways_b0 rs sp (rows, at_)) P := by
  have hne : ix rows at_ ≠ [] := fun e => by rw [e] at ha; cases ha
  obtain ⟨l1, l2⟩ := ix_last hne
  have la : ix (ix rows at_) (- (1 : Int)) = a := Option.some.inj (l2.symm.trans ha)
  unfold ways_b0
  simp only [ok_bind, ok_bnd, ok_ok, ok_gd, ok_cond]
  refine ok_for (fun pre s => s = rows ++ kidsR sp (ix rows at_) a pre) (by simp [kidsR]) (fun p x b s e hI => ?_) fun s hI => ?_
  · subst hI
    have kl : (kidsR sp (ix rows at_) a p).length ≤ p.length := by unfold kidsR; rw [List.length_map]; exact List.length_filter_le _ _
    have pl : p.length + 1 ≤ rs.length := by rw [e]; simp
    unfold ways_b2
    simp only [ok_bind, ok_bnd, ok_ok, ok_gd, ok_cond]
    rw [ix_app h0 h1, la]
    have i1 : inR (rows ++ kidsR sp (ix rows at_) a p) at_ := inR_of h0 (by rw [List.length_append]; omega)
    refine ⟨i1, l1, (hang_ok hsp).mono fun t ht => ⟨fun e1 => ?_, fun e1 => ?_⟩⟩
    · refine ⟨i1, by unfold CCat; simp; omega, by rw [List.length_append]; omega, ?_⟩
      unfold ways_j4
      show _ = _
      rw [e1] at ht
      unfold kidsR
      rw [List.filter_append, List.map_append, List.append_assoc]
      simp [← ht]
    · unfold ways_j4
      show _ = _
      rw [e1] at ht
      unfold kidsR
      rw [List.filter_append, List.map_append]
      simp [← ht]
  · subst hI
    unfold ways_k3
    simp only [ok_bind, ok_bnd, ok_ok, ok_gd, ok_cond]
    exact hP
structure WI (sp : Spn) (rs : List Rde) (s : Str) (t : Int) (rows : List Row) (at_ : Int) : Prop where
  a0 : 0 ≤ at_
  a1 : at_ ≤ rows.length
  wy : ∀ row ∈ rows, ∃ a, Pl.Way (spf sp) rs s t row a
  st : ∀ r ∈ rs, r.2.1 = s → t ≤ r.2.2.2.1 → [r] ∈ rows
  kd : ∀ (i : Nat) (row : Row), (i : Int) < at_ → rows[i]? = some row → ∀ a, Pl.Way (spf sp) rs s t row a → ∀ b ∈ rs, Pl.Hg (spf sp) a b → row ++ [b] ∈ rows
  po : at_.toNat + ((rows.drop at_.toNat).map (hw rs)).sum ≤ 2 ^ rs.length
theorem WI.len {sp : Spn} {rs : List Rde} {s : Str} {t : Int} {rows : List Row} {at_ : Int} (h : WI sp rs s t rows at_) : rows.length ≤ 2 ^ rs.length := by
  have h1 : ∀ l : List Row, (∀ row ∈ l, row ∈ rows) → l.length ≤ (l.map (hw rs)).sum := by
    intro l
    induction l with
    | nil => intro _; simp
    | cons x l ih =>
      intro hl
      have := ih fun y hy => hl y (List.mem_cons_of_mem _ hy)
      obtain ⟨a, ha⟩ := h.wy x (hl x (by simp))
      have e := hw_way ha
      have := Pl.heft_pos rs a
      simp only [List.length_cons, List.map_cons, List.sum_cons]; omega
  have h2 := h1 (rows.drop at_.toNat) fun y hy => List.mem_of_mem_drop hy
  have h3 := h.po
  have h4 := h.a1
  rw [List.length_drop] at h2
  omega
theorem way_len {sp : Str → Int} {rs : List Rde} (w : Pl.Wld sp rs) {s : Str} {t : Int} {row : Row} {a : Rde} (h : Pl.Way sp rs s t row a) : row.length + (rs.countP fun b => decide (a.2.2.2.1 < b.2.2.2.1)) ≤ rs.length := by
  induction h with
  | @one r hr _ _ =>
    have : (rs.countP fun b => decide (r.2.2.2.1 < b.2.2.2.1)) < rs.length := by
      rw [List.countP_eq_length_filter]
      refine Nat.lt_of_le_of_ne (List.length_filter_le _ _) fun e => ?_
      have := List.length_filter_eq_length_iff.mp e r hr
      simp at this
    simp only [List.length_singleton]; omega
  | @step row a b q hb g ih =>
    have lt := Pl.hg_lt w q.mem g
    have : (rs.countP fun c => decide (b.2.2.2.1 < c.2.2.2.1)) < rs.countP fun c => decide (a.2.2.2.1 < c.2.2.2.1) := by
      rw [List.countP_eq_length_filter, List.countP_eq_length_filter]
      have e : (rs.filter fun c => decide (b.2.2.2.1 < c.2.2.2.1)) = (rs.filter fun c => decide (a.2.2.2.1 < c.2.2.2.1)).filter fun c => decide (b.2.2.2.1 < c.2.2.2.1) := by
        rw [List.filter_filter]
        refine List.filter_congr fun c _ => ?_
        simp; omega
      rw [e]
      refine Nat.lt_of_le_of_ne (List.length_filter_le _ _) fun e => ?_
      have := List.length_filter_eq_length_iff.mp e b (List.mem_filter.mpr ⟨hb, by simpa using lt⟩)
      simp at this
    simp only [List.length_append, List.length_singleton]; omega
theorem WI.step {sp : Spn} {rs : List Rde} (hs : Rs' sp rs) {s : Str} {t : Int} {rows : List Row} {at_ : Int} (h : WI sp rs s t rows at_) (h1 : at_ < rows.length) {a : Rde} (ha : Pl.Way (spf sp) rs s t (ix rows at_) a) : WI sp rs s t (rows ++ kidsR sp (ix rows at_) a rs) (at_ + 1) := by
  have h0 := h.a0
  have gx : rows[at_.toNat]? = some (ix rows at_) := by rw [ix_get h0 h1]; exact List.getElem?_eq_getElem _
  refine ⟨by omega, by rw [List.length_append]; omega, fun row hr => ?_, fun r hr e1 e2 => List.mem_append_left _ (h.st r hr e1 e2), fun i row hi hrow b hb c hc hg => ?_, ?_⟩
  · rcases List.mem_append.mp hr with z | z
    · exact h.wy row z
    · unfold kidsR at z
      obtain ⟨b, hb, rfl⟩ := List.mem_map.mp z
      obtain ⟨h2, h3⟩ := List.mem_filter.mp hb
      exact ⟨b, ha.step h2 (of_decide_eq_true h3)⟩
  · by_cases q : (i : Int) < at_
    · rw [List.getElem?_append_left (by omega)] at hrow
      exact List.mem_append_left _ (h.kd i row q hrow b hb c hc hg)
    · have e : i = at_.toNat := by omega
      subst e
      rw [List.getElem?_append_left (by omega), gx] at hrow
      cases hrow
      cases ha.uniq hb
      refine List.mem_append_right _ ?_
      unfold kidsR
      exact List.mem_map.mpr ⟨c, List.mem_filter.mpr ⟨hc, decide_eq_true hg⟩, rfl⟩
  · have po := h.po
    have e1 : rows.drop at_.toNat = ix rows at_ :: rows.drop (at_.toNat + 1) := by
      rw [ix_get h0 h1]; exact List.drop_eq_getElem_cons _
    rw [e1, List.map_cons, List.sum_cons, hw_way ha] at po
    have e2 : (at_ + 1).toNat = at_.toNat + 1 := by omega
    rw [e2, List.drop_append_of_le_length (by omega), List.map_append, List.sum_append]
    have e3 : (kidsR sp (ix rows at_) a rs).map (hw rs) = (rs.filter fun b => decide (Pl.Hg (spf sp) a b)).map (Pl.heft rs) := by
      unfold kidsR
      rw [List.map_map]
      refine List.map_congr_left fun b _ => ?_
      simp [hw]
    have e4 := Pl.heft_step hs.w ha.mem
    unfold Pl.heftS at e4
    rw [e3]; omega
theorem WI.done {sp : Spn} {rs : List Rde} {s : Str} {t : Int} {rows : List Row} {at_ : Int} (h : WI sp rs s t rows at_) (h1 : ¬ at_ < rows.length) {row : Row} : row ∈ rows ↔ ∃ a, Pl.Way (spf sp) rs s t row a := by
  refine ⟨h.wy row, fun ⟨a, ha⟩ => ?_⟩
  induction ha with
  | one h2 h3 h4 => exact h.st _ h2 h3 h4
  | step q hb hg ih =>
    obtain ⟨i, hi⟩ := List.getElem?_of_mem (ih ⟨_, q⟩)
    have := (List.getElem?_eq_some_iff.mp hi).1
    exact h.kd i _ (by omega) hi _ q _ hb hg
/-- what the way through all rows gives -/
structure Wys (sp : Spn) (rs : List Rde) (s g : Str) (t : Int) (found : List Row) : Prop where
  mem : ∀ row, row ∈ found ↔ (row = [] ∧ s = g) ∨ ∃ a, Pl.Way (spf sp) rs s t row a ∧ a.2.2.1 = g
  len : found.length ≤ 40000
theorem ways_ok {sp : Spn} {rs : List Rde} (hs : Rs' sp rs) (hl : rs.length ≤ 15) (s g : Str) (t : Int) : Ok (m_ways rs sp s g t) (Wys sp rs s g t) := by
  have z1 := sizeLine_eq
  have p15 : 2 ^ rs.length ≤ 32768 := Nat.le_trans (Nat.pow_le_pow_right (by decide) hl) (by decide)
  unfold m_ways
  simp only [ok_bind, ok_bnd, ok_ok, ok_gd, ok_cond]
  refine ⟨by omega, ok_comp (fun y : Rde => decide (y.2.1 = s) && decide (y.2.2.2.1 ≥ t)) (fun y : Rde => [y]) (fun _ _ => rfl) (fun _ _ _ => rfl) ?_⟩
  refine ok_whileK (fun z : List Row × Int => WI sp rs s t z.1 z.2) (fun z => 40000 - z.2.toNat) (fun z hI => ?_) ?_ (by rw [fuel_eq]; omega)
  · rw [ok_ok]
    obtain ⟨rows, at_⟩ := z
    have hI : WI sp rs s t rows at_ := hI
    have ll := hI.len
    refine ⟨fun ht => ?_, fun hf => ?_⟩
    · have ht : at_ < rows.length := of_decide_eq_true ht
      have hm : ix rows at_ ∈ rows := ix_mem (inR_of hI.a0 ht)
      obtain ⟨a, ha⟩ := hI.wy _ hm
      have wl := way_len hs.w ha
      refine ways_for hI.a0 ht ha.last (hs.h a ha.mem) (by omega) (by omega) ⟨hI.step hs ht ha, ?_⟩
      have := hI.a0
      simp only; omega
    · have hf : ¬ at_ < rows.length := of_decide_eq_false hf
      unfold ways_k1
      simp only [ok_bind, ok_bnd, ok_ok, ok_gd, ok_cond]
      refine ⟨by omega, ok_comp (fun row : Row => decide ((ix row (- (1 : Int))).2.2.1 = g)) (fun row => row) (fun row hr => ?_) (fun _ _ _ => rfl) ?_⟩
      · simp only [ok_bind, ok_bnd, ok_ok, ok_gd, ok_cond]
        obtain ⟨a, ha⟩ := hI.wy row hr
        exact ⟨(ix_last ha.ne).1, trivial⟩
      · rw [List.map_id']
        have fl := List.length_filter_le (fun row : Row => decide ((ix row (- (1 : Int))).2.2.1 = g)) rows
        have mm : ∀ row, row ∈ rows.filter (fun row : Row => decide ((ix row (- (1 : Int))).2.2.1 = g)) ↔ ∃ a, Pl.Way (spf sp) rs s t row a ∧ a.2.2.1 = g := fun row => by
          rw [List.mem_filter, hI.done hf]
          constructor
          · rintro ⟨⟨a, ha⟩, e⟩
            have := Option.some.inj ((ix_last ha.ne).2.symm.trans ha.last)
            rw [this] at e
            exact ⟨a, ha, of_decide_eq_true e⟩
          · rintro ⟨a, ha, e⟩
            have := Option.some.inj ((ix_last ha.ne).2.symm.trans ha.last)
            exact ⟨⟨a, ha⟩, by rw [this]; exact decide_eq_true e⟩
        unfold ways_j5
        simp only [ok_bind, ok_bnd, ok_ok, ok_gd, ok_cond]
        refine ⟨fun e => ?_, fun e => ?_⟩
        · have e := of_decide_eq_true e
          refine ⟨by omega, fun row => ?_, by rw [List.length_append]; simp only [List.length_singleton]; omega⟩
          rw [List.mem_append, mm, List.mem_singleton]
          constructor
          · rintro (h | h); exact .inr h; exact .inl ⟨h, e⟩
          · rintro (h | h); exact .inr h.1; exact .inl h
        · have e := of_decide_eq_false e
          refine ⟨fun row => ?_, by omega⟩
          rw [mm]
          constructor
          · exact fun h => .inr h
          · rintro (h | h); exact absurd h.2 e; exact h
  · refine ⟨Int.le_refl _, by simp only; omega, fun row hr => ?_, fun r hr e1 e2 => ?_, fun i _ hi => by simp only at hi; omega, ?_⟩
    · obtain ⟨y, hy, rfl⟩ := List.mem_map.mp hr
      obtain ⟨h2, h3⟩ := List.mem_filter.mp hy
      simp only [Bool.and_eq_true, decide_eq_true_eq] at h3
      exact ⟨y, .one h2 h3.1 h3.2⟩
    · refine List.mem_map.mpr ⟨r, List.mem_filter.mpr ⟨hr, ?_⟩, rfl⟩
      simp only [Bool.and_eq_true, decide_eq_true_eq]
      exact ⟨e1, e2⟩
    · have h1 := Pl.heft_all rs
      have h2 := Pl.heftS_filter (L := rs) (fun y : Rde => decide (y.2.1 = s) && decide (y.2.2.2.1 ≥ t)) rs
      have e3 : ((rs.filter fun y : Rde => decide (y.2.1 = s) && decide (y.2.2.2.1 ≥ t)).map fun y => [y]).map (hw rs) = (rs.filter fun y : Rde => decide (y.2.1 = s) && decide (y.2.2.2.1 ≥ t)).map (Pl.heft rs) := by
        rw [List.map_map]
        refine List.map_congr_left fun b _ => ?_
        simp [hw]
      show 0 + (List.map (hw rs) (List.drop 0 _)).sum ≤ _
      rw [List.drop_zero, e3]
      unfold Pl.heftS at h1 h2
      omega
end Wf
/-! Order of data; the least of a list; sorting. -/
namespace Wf
open PySem L2
section
variable {α β : Type} {R : Rp α} [d : Dat R]
theorem dlt_irr (x : α) : dlt (R := R) x x = false := PyProof.Rows.lex_irrefl _
theorem dlt_tr {x y z : α} (h : dlt (R := R) x y = true) (g : dlt (R := R) y z = true) : dlt (R := R) x z = true := PyProof.Rows.lex_trans _ _ _ h g
theorem dlt_asy {x y : α} (h : dlt (R := R) x y = true) : dlt (R := R) y x = false := by
  cases q : dlt (R := R) y x with
  | false => rfl
  | true => have := dlt_tr h q; rw [dlt_irr] at this; cases this
theorem toks_inj {x y : PyData} (h : PySem.W.alike x y = true) (e : PySem.W.keyToks x = PySem.W.keyToks y) : PyData.eqv x y = true := by
  cases q : PyData.eqv x y with
  | true => rfl
  | false =>
    have h1 := (PySem.W.toks_eqv x y h).2 q [] [.inl 0]
    rw [e, PySem.W.lex_pre, PyProof.Rows.lex_irrefl] at h1
    simp [PyProof.Rows.lexLt] at h1
theorem dlt_tot [o : Ord' R] {x y : α} (h : dlt (R := R) x y = false) (g : dlt (R := R) y x = false) : x = y :=
  d.inj x y (toks_inj (o.al x y) (PyProof.Rows.lex_total _ _ h g))
theorem dlt_neg {x y z : α} (h : dlt (R := R) y x = false) (g : dlt (R := R) z y = false) : dlt (R := R) z x = false := by
  cases q : dlt (R := R) z x with
  | false => rfl
  | true =>
    rcases PyProof.Rows.lex_negTrans _ (PySem.W.keyToks (d.enc y)) _ q with e | e
    · exact absurd (show dlt (R := R) z y = true from e) (by rw [g]; simp)
    · exact absurd (show dlt (R := R) y x = true from e) (by rw [h]; simp)
theorem dle_eq (x y : α) : dle R x y = !dlt (R := R) y x := rfl
theorem srt_perm (xs : List α) : (srt R xs).Perm xs := List.mergeSort_perm _ _
theorem srt_pw (xs : List α) : (srt R xs).Pairwise fun a b => dlt (R := R) b a = false := by
  have := List.pairwise_mergeSort (le := dle R) (fun a b c h1 h2 => by
    rw [dle_eq] at *
    rw [dlt_neg (by simpa using h1) (by simpa using h2)]; rfl) (fun a b => by
    rw [dle_eq, dle_eq]
    cases q : dlt (R := R) b a with
    | false => rfl
    | true => rw [dlt_asy q]; rfl) xs
  exact this.imp fun h => by
    rw [dle_eq] at h
    simpa using h
theorem srt_uniq [o : Ord' R] {xs ys : List α} (p : ys.Perm xs) (s : ys.Pairwise fun a b => dlt (R := R) b a = false) : srt R xs = ys :=
  List.Perm.eq_of_pairwise (le := fun a b => dlt (R := R) b a = false) (fun a b _ _ h g => dlt_tot g h) (srt_pw xs) s ((srt_perm xs).trans p.symm)
/-- m is the least of xs -/
structure Least (R : Rp α) [d : Dat R] (m : α) (xs : List α) : Prop where
  mem : m ∈ xs
  le : ∀ y ∈ xs, dlt (R := R) y m = false
theorem Least.uniq [o : Ord' R] {m n : α} {xs : List α} (h : Least R m xs) (g : Least R n xs) : m = n := dlt_tot (g.le m h.mem) (h.le n g.mem)
theorem minF_spec : ∀ (xs : List α) (x : α), Least R (minF R x xs) (x :: xs)
  | [], x => ⟨by simp [minF], fun y hy => by simp at hy; subst hy; exact dlt_irr _⟩
  | y :: xs, x => by
    have e : minF R x (y :: xs) = minF R (if dlt (R := R) y x = true then y else x) xs := rfl
    rw [e]
    split
    · rename_i h
      have ih := minF_spec xs y
      refine ⟨List.mem_cons_of_mem _ ih.mem, fun z hz => ?_⟩
      rcases List.mem_cons.mp hz with rfl | hz
      · exact dlt_neg (ih.le y (by simp)) (dlt_asy h)
      · exact ih.le z hz
    · rename_i h
      have ih := minF_spec xs x
      refine ⟨?_, fun z hz => ?_⟩
      · rcases List.mem_cons.mp ih.mem with q | q
        · rw [q]; simp
        · exact List.mem_cons_of_mem _ (List.mem_cons_of_mem _ q)
      · rcases List.mem_cons.mp hz with rfl | hz
        · exact ih.le z (by simp)
        · rcases List.mem_cons.mp hz with rfl | hz
          · exact dlt_neg (ih.le x (by simp)) (by simpa using h)
          · exact ih.le z (List.mem_cons_of_mem _ hz)
theorem minL_spec [Inhabited α] {xs : List α} (h : xs ≠ []) : Least R (minL R xs) xs := by
  cases xs with
  | nil => exact absurd rfl h
  | cons x xs => exact minF_spec xs x
theorem minL_uniq [Inhabited α] [o : Ord' R] {xs : List α} {m : α} (h : Least R m xs) : minL R xs = m := by
  have hne : xs ≠ [] := fun e => by have := h.mem; rw [e] at this; cases this
  exact (minL_spec hne).uniq h
end
theorem dlt_int (x y : Int) : dlt (R := rI) x y = decide (x < y) := PySem.W.dataLt_int x y
theorem dlt_SI {a b : Str × Int} (h : dlt (R := rS) a.1 b.1 = false) (ne : a.1 ≠ b.1) : dlt (R := rSI) a b = false := by
  show PySem.W.dataLt (.tuple [.str a.1, .int a.2]) (.tuple [.str b.1, .int b.2]) = false
  rw [PySem.W.dataLt_pair (by simp [PySem.W.alike]) (by simp [PySem.W.alike]), if_neg (by simpa [PyData.eqv] using ne)]
  exact h
/-! ### by_leaving -/
theorem by_leaving_le (rs : List Rde) : Ok (m_by_leaving rs) (fun T => T.Perm rs ∧ T.Pairwise fun a b => a.2.2.2.1 ≤ b.2.2.2.1) := by
  unfold m_by_leaving
  rw [ok_ok]
  refine ⟨List.mergeSort_perm _ _, ?_⟩
  have e : PySem.W.dataLe false keyL = fun p q : Rde => decide (p.2.2.2.1 < q.2.2.2.1 ∨ (p.2.2.2.1 = q.2.2.2.1 ∧ p.1 ≤ q.1)) := PySem.W.dataLe_ii (fun r : Rde => r.2.2.2.1) (fun r : Rde => r.1)
  rw [e]
  have := List.pairwise_mergeSort (le := fun p q : Rde => decide (p.2.2.2.1 < q.2.2.2.1 ∨ (p.2.2.2.1 = q.2.2.2.1 ∧ p.1 ≤ q.1))) (fun a b c h1 h2 => by simp only [decide_eq_true_eq] at *; omega) (fun a b => by simp only [Bool.or_eq_true, decide_eq_true_eq]; omega) rs
  exact this.imp fun h => by simp only [decide_eq_true_eq] at h; omega
/-! ### soonest -/
structure Soon (sp : Spn) (rs : List Rde) (s : Str) (t : Int) (d : Spn) : Prop where
  uq : Uq d
  st : look d s = some t
  snd : ∀ p v, look d p = some v → (p = s ∧ v = t) ∨ ∃ row a, Pl.Way (spf sp) rs s t row a ∧ a.2.2.1 = p ∧ v = a.2.2.2.2 + spf sp p
  cert : ∀ r ∈ rs, ∀ u, look d r.2.1 = some u → u ≤ r.2.2.2.1 → ∃ v, look d r.2.2.1 = some v ∧ v ≤ r.2.2.2.2 + spf sp r.2.2.1
  len : d.length ≤ rs.length + 1
structure SoonP (sp : Spn) (rs : List Rde) (s : Str) (t : Int) (pre : List Rde) (d : Spn) : Prop where
  uq : Uq d
  st : look d s = some t
  snd : ∀ p v, look d p = some v → (p = s ∧ v = t) ∨ ∃ row a, Pl.Way (spf sp) rs s t row a ∧ a.2.2.1 = p ∧ v = a.2.2.2.2 + spf sp p
  cert : ∀ r ∈ pre, ∀ u, look d r.2.1 = some u → u ≤ r.2.2.2.1 → ∃ v, look d r.2.2.1 = some v ∧ v ≤ r.2.2.2.2 + spf sp r.2.2.1
  len : d.length ≤ pre.length + 1
theorem spf_of {sp : Spn} {p : Str} {v : Int} (h : look sp p = some v) : spf sp p = v := by unfold spf; rw [h]; rfl
theorem SoonP.skip {sp : Spn} {rs : List Rde} {s : Str} {t : Int} {pre : List Rde} {d : Spn} (h : SoonP sp rs s t pre d) {q : Rde} (c : ∀ u, look d q.2.1 = some u → u ≤ q.2.2.2.1 → ∃ v, look d q.2.2.1 = some v ∧ v ≤ q.2.2.2.2 + spf sp q.2.2.1) : SoonP sp rs s t (pre ++ [q]) d :=
  ⟨h.uq, h.st, h.snd, fun r hr => by
    rcases List.mem_append.mp hr with z | z
    · exact h.cert r z
    · have : r = q := by simpa using z
      subst this; exact c, by have := h.len; simp; omega⟩
theorem SoonP.put {sp : Spn} {rs : List Rde} (hs : Rs' sp rs) {s : Str} {t : Int} {pre : List Rde} {d : Spn} (h : SoonP sp rs s t pre d) {q : Rde} (hq : q ∈ rs) (hp : ∀ r ∈ pre, r.2.2.2.1 ≤ q.2.2.2.1) {u : Int} (h1 : look d q.2.1 = some u) (h2 : u ≤ q.2.2.2.1)
    (h3 : ∀ v, look d q.2.2.1 = some v → q.2.2.2.2 + spf sp q.2.2.1 < v) : SoonP sp rs s t (pre ++ [q]) (dput d q.2.2.1 (q.2.2.2.2 + spf sp q.2.2.1)) := by
  have lt := hs.w.lt q hq
  have sp0 := hs.w.sp q hq
  have way : ∃ row, Pl.Way (spf sp) rs s t row q := by
    rcases h.snd _ _ h1 with ⟨e1, e2⟩ | ⟨row, a, ha, e1, e2⟩
    · exact ⟨[q], .one hq e1 (by omega)⟩
    · exact ⟨row ++ [q], .step ha hq ⟨e1, by rw [e1]; omega⟩⟩
  obtain ⟨row, way⟩ := way
  have fr := way.from_ hs.w
  refine ⟨uq_dput h.uq _ _, ?_, fun p v hv => ?_, fun r hr => ?_, ?_⟩
  · rw [look_dput]
    split
    · rename_i e
      have := h3 t (by rw [e]; exact h.st)
      omega
    · exact h.st
  · rw [look_dput] at hv
    split at hv
    · rename_i e
      cases hv
      exact .inr ⟨row, q, way, e, by rw [e]⟩
    · exact h.snd p v hv
  · intro w hw hle
    rw [look_dput] at hw
    by_cases e : q.2.2.1 = r.2.1
    · rw [if_pos e] at hw
      cases hw
      exfalso
      rcases List.mem_append.mp hr with z | z
      · have := hp r z; omega
      · have : r = q := by simpa using z
        subst this; omega
    · rw [if_neg e] at hw
      rw [look_dput]
      rcases List.mem_append.mp hr with z | z
      · obtain ⟨v, hv, hvl⟩ := h.cert r z w hw hle
        by_cases e2 : q.2.2.1 = r.2.2.1
        · rw [if_pos e2]
          refine ⟨_, rfl, ?_⟩
          have := h3 v (by rw [e2]; exact hv)
          omega
        · rw [if_neg e2]; exact ⟨v, hv, hvl⟩
      · have : r = q := by simpa using z
        subst this
        rw [if_pos rfl]
        exact ⟨_, rfl, Int.le_refl _⟩
  · have := dput_len d q.2.2.1 (q.2.2.2.2 + spf sp q.2.2.1)
    have := h.len
    simp; omega
theorem has_iff {κ α : Type} [DecidableEq κ] {d : List (κ × α)} {k : κ} : has d k = true ↔ ∃ v, look d k = some v := by
  unfold has; exact Option.isSome_iff_exists
theorem soonest_loop {sp : Spn} {rs T : List Rde} (hs : Rs' sp rs) (hT : T.Perm rs) (hp : T.Pairwise fun a b => a.2.2.2.1 ≤ b.2.2.2.1) (s : Str) (t : Int) (hl : rs.length ≤ 1000) :
    Ok (forK (soonest_b0 sp) soonest_k1 (fun r => r) T [(s, t)]) (fun o => ∃ d, Soon sp rs s t d ∧ o = srt rSI d) := by
  refine ok_for (fun pre d => SoonP sp rs s t pre d) ?_ (fun p q b d e h => ?_) fun d h => ?_
  · refine ⟨by simp [Uq], by simp [look], fun p v hv => ?_, fun r hr => (by cases hr), by simp⟩
    simp only [look, List.find?_cons] at hv
    by_cases e : s = p
    · subst e
      simp at hv
      exact .inl ⟨rfl, hv.symm⟩
    · simp [e] at hv
  · have hq : q ∈ rs := hT.mem_iff.mp (by rw [e]; simp)
    have hpre : ∀ r ∈ p, r.2.2.2.1 ≤ q.2.2.2.1 := fun r hr => by
      rw [e, List.pairwise_append] at hp
      exact hp.2.2 r hr q (by simp)
    have pl : p.length ≤ rs.length := by rw [← hT.length_eq, e]; simp
    have hsp := hs.h q hq
    obtain ⟨z, hz⟩ := has_iff.mp hsp
    have ez := spf_of hz
    have hlen := h.len
    unfold soonest_b0
    simp only [ok_bind, ok_bnd, ok_ok, ok_gd, ok_cond]
    have tail : ∀ b7 : Bool, b7 = (match look d q.2.2.1 with | none => true | some v => decide (q.2.2.2.2 + spf sp q.2.2.1 < v)) → ∀ u, look d q.2.1 = some u → u ≤ q.2.2.2.1 →
        (b7 = true → d.length ≤ 100000 ∧ Ok (soonest_j3 (dput d q.2.2.1 (q.2.2.2.2 + spf sp q.2.2.1))) (LoP (fun s' => SoonP sp rs s t (p ++ [q]) s') (fun s' => Ok (soonest_k1 s') fun o => ∃ d, Soon sp rs s t d ∧ o = srt rSI d) fun r => ∃ d, Soon sp rs s t d ∧ r = srt rSI d)) ∧ (b7 = false → Ok (soonest_j3 d) (LoP (fun s' => SoonP sp rs s t (p ++ [q]) s') (fun s' => Ok (soonest_k1 s') fun o => ∃ d, Soon sp rs s t d ∧ o = srt rSI d) fun r => ∃ d, Soon sp rs s t d ∧ r = srt rSI d)) := fun b7 eb u hu hul => by
      refine ⟨fun eq => ⟨by omega, ?_⟩, fun eq => ?_⟩
      · unfold soonest_j3 soonest_j2
        show SoonP _ _ _ _ _ _
        refine h.put hs hq hpre hu hul fun v hv => ?_
        rw [eb, hv] at eq
        exact of_decide_eq_true eq
      · unfold soonest_j3 soonest_j2
        show SoonP _ _ _ _ _ _
        refine h.skip fun w hw hwl => ?_
        cases hv : look d q.2.2.1 with
        | none => rw [eb, hv] at eq; cases eq
        | some v =>
          rw [eb, hv] at eq
          have := of_decide_eq_false eq
          exact ⟨v, rfl, by omega⟩
    cases hu : look d q.2.1 with
    | none =>
      have : has d q.2.1 = false := by unfold has; rw [hu]; rfl
      rw [this]
      refine ⟨(fun e => nomatch e), fun _ => ⟨(fun e => nomatch e), fun _ => ?_⟩⟩
      unfold soonest_j2
      show SoonP _ _ _ _ _ _
      exact h.skip fun u h1 => by rw [hu] at h1; cases h1
    | some u =>
      rw [has_of hu]
      simp only [Option.getD_some]
      refine ⟨fun _ => ⟨trivial, fun e => ⟨hsp, ?_⟩, fun e => ?_⟩, (fun e => nomatch e)⟩
      · have hul := of_decide_eq_true e
        show _ ∧ _
        have ez' : (look sp q.2.2.1).getD default = spf sp q.2.2.1 := rfl
        rw [ez']
        cases hv : look d q.2.2.1 with
        | none =>
          have : has d q.2.2.1 = false := by unfold has; rw [hv]; rfl
          rw [this]
          exact ⟨fun _ => ⟨fun _ => (tail true (by rw [hv]) u hu hul).1 rfl, (fun e => nomatch e)⟩, (fun e => nomatch e)⟩
        | some v =>
          rw [has_of hv]
          refine ⟨(fun e => nomatch e), fun _ => ⟨rfl, ?_⟩⟩
          simp only [Option.getD_some]
          exact tail _ (by rw [hv]) u hu hul
      · have hul := of_decide_eq_false e
        unfold soonest_j2
        show SoonP _ _ _ _ _ _
        exact h.skip fun w hw hwl => by rw [hu] at hw; cases hw; omega
  · unfold soonest_k1
    simp only [ok_bind, ok_bnd, ok_ok, ok_gd, ok_cond]
    refine ⟨d, ⟨h.uq, h.st, h.snd, fun r hr => h.cert r (hT.mem_iff.mpr hr), by rw [← hT.length_eq]; exact h.len⟩, rfl⟩
theorem soonest_ok {sp : Spn} {rs : List Rde} (hs : Rs' sp rs) (hl : rs.length ≤ 1000) (s : Str) (t : Int) : Ok (m_soonest rs sp s t) (fun o => ∃ d, Soon sp rs s t d ∧ o = srt rSI d) := by
  unfold m_soonest
  simp only [ok_bind, ok_bnd, ok_ok, ok_gd, ok_cond]
  exact (by_leaving_le rs).mono fun T hT => soonest_loop hs hT.1 hT.2 s t hl
theorem Soon.way {sp : Spn} {rs : List Rde} {s : Str} {t : Int} {d : Spn} (h : Soon sp rs s t d) {row : Row} {a : Rde} (w : Pl.Way (spf sp) rs s t row a) : ∃ v, look d a.2.2.1 = some v ∧ v ≤ a.2.2.2.2 + spf sp a.2.2.1 := by
  induction w with
  | one h1 h2 h3 => exact h.cert _ h1 t (by rw [h2]; exact h.st) h3
  | step q hb hg ih =>
    obtain ⟨v, hv, hl⟩ := ih
    have := hg.2
    exact h.cert _ hb v (by rw [← hg.1]; exact hv) (by omega)
theorem Soon.same {sp : Spn} {rs rs' : List Rde} {s : Str} {t : Int} {d d' : Spn} (h : Soon sp rs s t d) (h' : Soon sp rs' s t d') (hr : ∀ r, r ∈ rs ↔ r ∈ rs') (p : Str) : look d p = look d' p := by
  have key : ∀ {rs rs' : List Rde} {d d' : Spn}, Soon sp rs s t d → Soon sp rs' s t d' → (∀ r, r ∈ rs → r ∈ rs') → ∀ v, look d p = some v → ∃ v', look d' p = some v' ∧ (p ≠ s → v' ≤ v) := by
    intro rs rs' d d' h h' hr v hv
    rcases h.snd p v hv with ⟨e1, e2⟩ | ⟨row, a, w, e1, e2⟩
    · exact ⟨t, by rw [e1]; exact h'.st, fun z => absurd e1 z⟩
    · obtain ⟨v', hv', hl⟩ := h'.way (w.mono hr)
      rw [e1] at hv' hl
      exact ⟨v', hv', fun _ => by omega⟩
  by_cases e : p = s
  · rw [e, h.st, h'.st]
  · cases hv : look d p with
    | none =>
      cases hv' : look d' p with
      | none => rfl
      | some v' =>
        obtain ⟨v, h1, _⟩ := key h' h (fun r => (hr r).mpr) v' hv'
        rw [hv] at h1; cases h1
    | some v =>
      obtain ⟨v', h1, h2⟩ := key h h' (fun r => (hr r).mp) v hv
      obtain ⟨v2, h3, h4⟩ := key h' h (fun r => (hr r).mpr) v' h1
      rw [hv] at h3
      cases h3
      rw [h1]
      have := h2 e
      have := h4 e
      exact congrArg some (by omega)
end Wf
/-! What _law_same answers, one level after the other. -/
namespace Wf
open PySem L2
theorem depth_kid {d : PyData} {i : Int} (h : inR (kids d) i) : (ix (kids d) i).depth < d.depth := by
  have m := ix_mem h
  have all : ∀ (ds : List PyData) (z : PyData), z ∈ ds → z.depth ≤ PyData.depthAll ds := by
    intro ds
    induction ds with
    | nil => intro z hz; cases hz
    | cons y ys ih =>
      intro z hz
      simp only [PyData.depthAll]
      rcases List.mem_cons.mp hz with e | e
      · subst e; exact Nat.le_max_left _ _
      · exact Nat.le_trans (ih z e) (Nat.le_max_right _ _)
  cases d with
  | list xs => exact Nat.lt_of_le_of_lt (all xs _ m) (by simp [PyData.depth])
  | tuple xs => exact Nat.lt_of_le_of_lt (all xs _ m) (by simp [PyData.depth])
  | _ => cases m
def smS : PyData → PyData → Bool
  | f, .none => (tyN f == "NoneType")
  | .bool a, .bool b => a == b
  | .int a, .int b => a == b
  | .str a, .str b => a == b
  | _, _ => false
theorem sm_scal {f d : PyData} (h : ¬isSeq d) : sm f d = smS f d := by
  cases d with
  | list xs => exact absurd (.inr (show isN "list" "list" = true by decide +kernel)) h
  | tuple xs => exact absurd (.inl (show isN "tuple" "tuple" = true by decide +kernel)) h
  | none => cases f <;> simp [sm, smS, tyN]
  | bool b => cases f <;> simp [sm, smS]
  | int b => cases f <;> simp [sm, smS]
  | str b => cases f <;> simp [sm, smS]
  | dict b => cases f <;> simp [sm, smS]
theorem isA_bool (d : PyData) : isA d "bool" = true ↔ ∃ b, d = .bool b := by
  cases d with
  | bool b => exact ⟨fun _ => ⟨b, rfl⟩, fun _ => show isN "bool" "bool" = true by decide +kernel⟩
  | none => exact ⟨fun h => absurd h (show ¬ isN "NoneType" "bool" = true by decide +kernel), fun ⟨b, e⟩ => nomatch e⟩
  | int _ => exact ⟨fun h => absurd h (show ¬ isN "int" "bool" = true by decide +kernel), fun ⟨b, e⟩ => nomatch e⟩
  | str _ => exact ⟨fun h => absurd h (show ¬ isN "str" "bool" = true by decide +kernel), fun ⟨b, e⟩ => nomatch e⟩
  | list _ => exact ⟨fun h => absurd h (show ¬ isN "list" "bool" = true by decide +kernel), fun ⟨b, e⟩ => nomatch e⟩
  | tuple _ => exact ⟨fun h => absurd h (show ¬ isN "tuple" "bool" = true by decide +kernel), fun ⟨b, e⟩ => nomatch e⟩
  | dict _ => exact ⟨fun h => absurd h (show ¬ isN "dict" "bool" = true by decide +kernel), fun ⟨b, e⟩ => nomatch e⟩
theorem isA_int (d : PyData) : isA d "int" = true ↔ (∃ b, d = .int b) ∨ ∃ b, d = .bool b := by
  cases d with
  | int b => exact ⟨fun _ => .inl ⟨b, rfl⟩, fun _ => show isN "int" "int" = true by decide +kernel⟩
  | bool b => exact ⟨fun _ => .inr ⟨b, rfl⟩, fun _ => show isN "bool" "int" = true by decide +kernel⟩
  | none => exact ⟨fun h => absurd h (show ¬ isN "NoneType" "int" = true by decide +kernel), fun h => by rcases h with ⟨b, e⟩ | ⟨b, e⟩ <;> cases e⟩
  | str _ => exact ⟨fun h => absurd h (show ¬ isN "str" "int" = true by decide +kernel), fun h => by rcases h with ⟨b, e⟩ | ⟨b, e⟩ <;> cases e⟩
  | list _ => exact ⟨fun h => absurd h (show ¬ isN "list" "int" = true by decide +kernel), fun h => by rcases h with ⟨b, e⟩ | ⟨b, e⟩ <;> cases e⟩
  | tuple _ => exact ⟨fun h => absurd h (show ¬ isN "tuple" "int" = true by decide +kernel), fun h => by rcases h with ⟨b, e⟩ | ⟨b, e⟩ <;> cases e⟩
  | dict _ => exact ⟨fun h => absurd h (show ¬ isN "dict" "int" = true by decide +kernel), fun h => by rcases h with ⟨b, e⟩ | ⟨b, e⟩ <;> cases e⟩
theorem isA_str (d : PyData) : isA d "str" = true ↔ ∃ b, d = .str b := by
  cases d with
  | str b => exact ⟨fun _ => ⟨b, rfl⟩, fun _ => show isN "str" "str" = true by decide +kernel⟩
  | none => exact ⟨fun h => absurd h (show ¬ isN "NoneType" "str" = true by decide +kernel), fun ⟨b, e⟩ => nomatch e⟩
  | int _ => exact ⟨fun h => absurd h (show ¬ isN "int" "str" = true by decide +kernel), fun ⟨b, e⟩ => nomatch e⟩
  | bool _ => exact ⟨fun h => absurd h (show ¬ isN "bool" "str" = true by decide +kernel), fun ⟨b, e⟩ => nomatch e⟩
  | list _ => exact ⟨fun h => absurd h (show ¬ isN "list" "str" = true by decide +kernel), fun ⟨b, e⟩ => nomatch e⟩
  | tuple _ => exact ⟨fun h => absurd h (show ¬ isN "tuple" "str" = true by decide +kernel), fun ⟨b, e⟩ => nomatch e⟩
  | dict _ => exact ⟨fun h => absurd h (show ¬ isN "dict" "str" = true by decide +kernel), fun ⟨b, e⟩ => nomatch e⟩
theorem isA_none (d : PyData) : (tyN d == "NoneType") = true ↔ d = .none := by
  cases d with
  | none => exact ⟨fun _ => rfl, fun _ => by decide +kernel⟩
  | int _ => exact ⟨fun h => absurd h (show ¬ ("int" == "NoneType") = true by decide +kernel), fun e => nomatch e⟩
  | bool _ => exact ⟨fun h => absurd h (show ¬ ("bool" == "NoneType") = true by decide +kernel), fun e => nomatch e⟩
  | str _ => exact ⟨fun h => absurd h (show ¬ ("str" == "NoneType") = true by decide +kernel), fun e => nomatch e⟩
  | list _ => exact ⟨fun h => absurd h (show ¬ ("list" == "NoneType") = true by decide +kernel), fun e => nomatch e⟩
  | tuple _ => exact ⟨fun h => absurd h (show ¬ ("tuple" == "NoneType") = true by decide +kernel), fun e => nomatch e⟩
  | dict _ => exact ⟨fun h => absurd h (show ¬ ("dict" == "NoneType") = true by decide +kernel), fun e => nomatch e⟩
theorem isA_tup (d : PyData) : isA d "tuple" = true ↔ ∃ b, d = .tuple b := ⟨seqT, fun ⟨b, e⟩ => by subst e; exact show isN "tuple" "tuple" = true by decide +kernel⟩
theorem isA_lst (d : PyData) : isA d "list" = true ↔ ∃ b, d = .list b := ⟨seqL, fun ⟨b, e⟩ => by subst e; exact show isN "list" "list" = true by decide +kernel⟩
theorem not_lt {b : List PyData} : isA (.tuple b) "list" = false := show isN "tuple" "list" = false by decide +kernel
theorem not_tl {b : List PyData} : isA (.list b) "tuple" = false := show isN "list" "tuple" = false by decide +kernel
theorem bfalse {b : Bool} (h : ¬ b = true) : b = false := by cases b <;> simp_all
/-- of one kind: the items decide -/
theorem sm_kids {f d : PyData} (hs : isSeq d) (h1 : isA d "tuple" = isA f "tuple") (h2 : isA d "list" = isA f "list") : sm f d = smA (kids f) (kids d) ∧ (isA d "tuple" = true → isA f "tuple" = true) ∧ isSeq f := by
  rcases hs with h | h
  · obtain ⟨b, rfl⟩ := seqT h
    rw [h] at h1
    obtain ⟨b', rfl⟩ := seqT h1.symm
    exact ⟨by simp [sm, kids], fun _ => h1.symm, .inl h1.symm⟩
  · obtain ⟨b, rfl⟩ := seqL h
    rw [h] at h2
    obtain ⟨b', rfl⟩ := seqL h2.symm
    exact ⟨by simp [sm, kids], fun z => absurd z (by rw [not_tl]; decide), .inr h2.symm⟩
theorem sm_kind {f d : PyData} (hs : isSeq d) (h : (!decide (isA d "tuple" = isA f "tuple") || !decide (isA d "list" = isA f "list")) = true) : sm f d = false := by
  rcases hs with q | q
  · obtain ⟨b, rfl⟩ := seqT q
    cases f with
    | tuple b' => simp [isA, tyN] at h
    | _ => simp [sm]
  · obtain ⟨b, rfl⟩ := seqL q
    cases f with
    | list b' => simp [isA, tyN] at h
    | _ => simp [sm]

/-- answers of depth below n -/
def rLev (n : Nat) (f d : PyData) : R0 Bool := gd (d.depth < n) (.ok (sm f d))
theorem same_b0_ok {n : Nat} {f d : PyData} (sf : isSeq f) (sq : isSeq d) (hlen : (kids f).length = (kids d).length) (hd : d.depth < n + 1) {i : Int} (h0 : 0 ≤ i) (h1 : i < (kids d).length) :
    Ok (same_b0 (rLev n) f d () i) (fun r => r = if sm (ix (kids f) i) (ix (kids d) i) = true then .go () else .out false) := by
  have rd : inR (kids d) i := inR_of h0 h1
  have rf : inR (kids f) i := inR_of h0 (by rw [hlen]; exact h1)
  unfold same_b0 rLev
  simp only [ok_bind, ok_bnd, ok_ok, ok_gd, ok_cond]
  have := depth_kid rd
  refine ⟨⟨sf, rf⟩, ⟨sq, rd⟩, by omega, fun e => ?_, fun e => ?_⟩
  · rw [if_neg (by simpa using e)]
  · rw [if_pos (by simpa using e)]
theorem same_ok {n : Nat} (hn : n ≤ 60) {f d : PyData} (hd : d.depth < n + 1) : m_same (rLev n) f d = .ok (sm f d) := by
  refine ok_eq.mp ?_
  unfold m_same
  simp only [ok_bind, ok_bnd, ok_ok, ok_gd, ok_cond]
  refine ⟨fun hs => ?_, fun hs => ?_⟩
  · have sq : isSeq d := (Bool.or_eq_true_iff.mp hs).elim .inl .inr
    refine ⟨fun h => (sm_kind sq h).symm, fun h => ?_⟩
    simp only [Bool.or_eq_false_iff, Bool.not_eq_false', decide_eq_true_eq] at h
    obtain ⟨e, ht, sf⟩ := sm_kids sq h.1 h.2
    refine ⟨sf, sq, fun hl => ?_, fun hl => ⟨sq, ?_⟩⟩
    · rw [e]
      refine (bfalse fun z => ?_).symm
      have := smA_len z
      simp at hl
      omega
    · have hlen : (kids f).length = (kids d).length := by simp at hl; omega
      have al := smA_iff hlen
      rw [e]
      refine ok_for (fun pre _ => ∀ j : Nat, j < pre.length → sm (ix (kids f) j) (ix (kids d) j) = true) (fun j h => by simp at h) (fun a x b _ e hI => ?_) fun _ hI => ?_
      · obtain ⟨hx, hx2⟩ := upTo_split e
        refine (same_b0_ok sf sq hlen hd (by omega) (by omega)).mono ?_
        rintro _ rfl
        split
        · rename_i hq
          show ∀ j : Nat, _
          intro j hj
          rcases Nat.lt_or_ge j a.length with h | h
          · exact hI j h
          · have : j = a.length := by simp at hj; omega
            subst this
            rw [← hx]; exact hq
        · rename_i hq
          show false = _
          refine (bfalse fun z => hq ?_).symm
          rw [hx]
          exact al.mp z _ (by omega)
      · unfold same_k1
        simp only [ok_bind, ok_bnd, ok_ok, ok_gd, ok_cond]
        refine (al.mpr fun j hj => hI j ?_).symm
        rw [upTo_len]; omega
  · have sq : ¬isSeq d := fun z => by
      simp only [Bool.or_eq_false_iff] at hs
      rcases z with z | z
      · rw [hs.1] at z; cases z
      · rw [hs.2] at z; cases z
    have e := sm_scal (f := f) sq
    have hs2 := hs
    rw [Bool.or_eq_false_iff] at hs2
    have dep0 : d.depth ≤ 64 := by omega
    refine ⟨fun h => ?_, fun h0 => ⟨fun h => ⟨fun h1 => ⟨fun h2 => ?_, fun h2 => ?_⟩, fun h1 => ?_⟩, fun h => ⟨fun h1 => ⟨fun h2 => ?_, fun h2 => ?_⟩, fun h1 => ⟨fun h2 => ?_, fun h2 => ?_⟩⟩⟩⟩
    · rw [(isA_none d).mp h] at e ⊢
      exact e.symm
    · obtain ⟨b1, rfl⟩ := (isA_bool d).mp h1
      obtain ⟨b2, rfl⟩ := (isA_bool f).mp h2
      exact ⟨⟨by simp [PyData.depth], by simp [PyData.depth]⟩, by simp [sm, PyData.eqv]⟩
    · obtain ⟨b1, rfl⟩ := (isA_bool d).mp h1
      rw [e]
      cases f with
      | bool b2 => exact absurd ((isA_bool _).mpr ⟨b2, rfl⟩) (by rw [h2]; decide)
      | _ => rfl
    · rw [h1, Bool.false_or] at h
      obtain ⟨b2, rfl⟩ := (isA_bool f).mp h
      rw [e]
      cases d with
      | bool b2 => exact absurd ((isA_bool _).mpr ⟨b2, rfl⟩) (by rw [h1]; decide)
      | none => exact absurd h0 (by decide +kernel)
      | _ => rfl
    · obtain ⟨n1, n2⟩ := Bool.or_eq_false_iff.mp h
      have hd : ∃ b, d = .int b := ((isA_int d).mp h1).elim id fun z => absurd ((isA_bool d).mpr z) (by rw [n1]; decide)
      have hf' : ∃ b, f = .int b := ((isA_int f).mp h2).elim id fun z => absurd ((isA_bool f).mpr z) (by rw [n2]; decide)
      obtain ⟨b1, rfl⟩ := hd
      obtain ⟨b2, rfl⟩ := hf'
      exact ⟨⟨by simp [PyData.depth], by simp [PyData.depth]⟩, by simp [sm, PyData.eqv]⟩
    · obtain ⟨n1, n2⟩ := Bool.or_eq_false_iff.mp h
      obtain ⟨b1, rfl⟩ : ∃ b, d = .int b := ((isA_int d).mp h1).elim id fun z => absurd ((isA_bool d).mpr z) (by rw [n1]; decide)
      rw [e]
      cases f with
      | int b2 => exact absurd ((isA_int _).mpr (.inl ⟨b2, rfl⟩)) (by rw [h2]; decide)
      | _ => rfl
    · obtain ⟨n1, n2⟩ := Bool.or_eq_false_iff.mp h
      obtain ⟨b2, rfl⟩ := (isA_str f).mp h2
      refine ⟨⟨by simp [PyData.depth], dep0⟩, ?_⟩
      rw [e]
      cases d with
      | str b1 => simp [PyData.eqv, smS]
      | list xs => exact absurd (.inr (show isN "list" "list" = true by decide +kernel)) sq
      | tuple xs => exact absurd (.inl (show isN "tuple" "tuple" = true by decide +kernel)) sq
      | bool b => exact absurd ((isA_bool _).mpr ⟨b, rfl⟩) (by rw [n1]; decide)
      | none => exact absurd h0 (by decide +kernel)
      | _ => simp [PyData.eqv, smS]
    · obtain ⟨n1, n2⟩ := Bool.or_eq_false_iff.mp h
      rw [e]
      cases d with
      | str b1 => cases f with
        | str b2 => exact absurd ((isA_str _).mpr ⟨b2, rfl⟩) (by rw [h2]; decide)
        | _ => rfl
      | none => exact absurd h0 (by decide +kernel)
      | bool b => exact absurd ((isA_bool _).mpr ⟨b, rfl⟩) (by rw [n1]; decide)
      | int b => exact absurd ((isA_int _).mpr (.inl ⟨b, rfl⟩)) (by rw [h1]; decide)
      | _ => rfl
/-- a promise of less -/
theorem spF_imp {K : PySem.W.Frag} {mg : Str → Option Value} {ι ρ : Type} {ss : ι → Gm} {m m' : ι → R0 ρ} {r : ρ → Slot} (h : ∀ i, m' i ≠ .bad → m i = m' i) : ∀ vs H Q E, spF K mg ss m' r vs H Q E → spF K mg ss m r vs H Q E := fun vs H Q E ⟨i, F, D, g, e, q⟩ => by
  refine ⟨i, F, D, g, e, ?_⟩
  have : m i = m' i := h i fun z => by rw [z] at q; exact q
  rw [this]; exact q
theorem Fk.imp {P : Program} {w : World} {K : PySem.W.Frag} {mg : Str → Option Value} {base : Heap} {j : Nat} {n : Str} {ps : List Str} {sp sp' : Sp} (G : Fk P w K mg base j n ps sp) (h : ∀ vs H Q E, sp' vs H Q E → sp vs H Q E) : Fk P w K mg base j n ps sp' := by
  obtain ⟨f, fd, F, a, b, c⟩ := G.ex
  exact ⟨f, fd, F.imp h, a, b, c⟩
theorem lev_imp {n : Nat} (hn : n ≤ 60) : ∀ i : PyData × PyData × Unit, rLev (n + 1) i.1 i.2.1 ≠ .bad → m_same (rLev n) i.1 i.2.1 = rLev (n + 1) i.1 i.2.1 := fun i h => by
  unfold rLev at h ⊢
  by_cases hd : i.2.1.depth < n + 1
  · rw [gd_true hd]; exact same_ok hn hd
  · rw [gd_bad hd] at h; exact absurd rfl h
theorem sameF_ok {α : Type} {R : Rp α} [d : Dat R] [s : Sm R] [DecidableEq α] (x y : α) (h : d.dep < 6 := by decide) : m_sameF (d.enc x) (d.enc y) = .ok (decide (x = y)) := by
  unfold m_sameF
  rw [gd_true (Nat.lt_of_le_of_lt (d.depth y) h), sm_dec]
end Wf
namespace Wf
open PySem L2
/-! ### hangs -/
def m_hangs (ride_ : (Int × Str × Str × Int × Int)) (after_ : (Int × Str × Str × Int × Int)) (spans_ : (List (Str × Int))) : R0 Bool :=
  Res.bnd (bif decide (ride_.2.2.1 = after_.2.1) then (Res.bind (Res.bind (gd (has spans_ ride_.2.2.1 = true) (Res.ok ((Option.getD (look spans_ ride_.2.2.1) default)))) fun v2 => Res.ok ((ride_.2.2.2.2 + v2))) fun v3 => Res.ok (decide (v3 ≤ after_.2.2.2.1))) else Res.ok false) () fun r1 => Res.ok (r1)
/-! ### no_way -/
def m_no_way (rides_ : (List (Int × Str × Str × Int × Int))) (spans_ : (List (Str × Int))) (start_ : Str) (goal_ : Str) (since_ : Int) : R0 (Option (List (Str × Int))) :=
  Res.bnd (m_soonest rides_ spans_ start_ since_) () fun paper_1 =>
  Res.bnd (Res.bind (gd (List.length paper_1 ≤ sizeLine) (compR (fun y2 : (Str × Int) => (Res.ok true : R0 Bool)) (fun y2 : (Str × Int) => (Res.ok (y2.1) : R0 Str)) paper_1)) fun v3 => Res.ok ((isIn goal_ v3))) () fun b4 => bif b4 then (
  Res.bnd (Res.ok (none) : R0 (Option (List (Str × Int)))) () fun r5 => Res.ok (r5)) else (
  Res.bnd (Res.ok (some paper_1) : R0 (Option (List (Str × Int)))) () fun r6 => Res.ok (r6))
/-! ### bars -/
def bars_b0 (s : (List (Str × Int))) (x : (Str × Int)) : Res Unit (Lo ((List (Str × Int))) Bool) :=
  Res.bnd (Res.ok ((has s x.1)) : R0 Bool) () fun b2 => bif b2 then (
  Res.bnd (Res.ok (false) : R0 Bool) () fun r3 => Res.ok (Lo.out (r3))) else (
  Res.bnd (Res.ok (x.2) : R0 Int) () fun x4 => Res.bnd (Res.ok (x.1) : R0 Str) () fun q5 => gd (List.length s ≤ 100000) (
  Res.ok (Lo.go ((dput s q5 x4)))))
def bars_j4 (s : Unit) : Res Unit (Lo (Unit) Bool) :=
  Res.ok (Lo.go ())
def bars_b2 (spans_ : (List (Str × Int))) (known_ : (List (Str × Int))) (s : Unit) (x : (Int × Str × Str × Int × Int)) : Res Unit (Lo (Unit) Bool) :=
  Res.bnd (bif (has known_ x.2.1) then (Res.bind (gd (has known_ x.2.1 = true) (Res.ok ((Option.getD (look known_ x.2.1) default)))) fun v9 => Res.ok (decide (v9 ≤ x.2.2.2.1))) else Res.ok false) () fun b10 => bif b10 then (
  Res.bnd (bif (!has known_ x.2.2.1) then Res.ok true else (Res.bind (gd (has known_ x.2.2.1 = true) (Res.ok ((Option.getD (look known_ x.2.2.1) default)))) fun v12 => Res.bind (Res.bind (gd (has spans_ x.2.2.1 = true) (Res.ok ((Option.getD (look spans_ x.2.2.1) default)))) fun v11 => Res.ok ((x.2.2.2.2 + v11))) fun v13 => Res.ok (decide (v12 > v13)))) () fun b14 => bif b14 then (
  Res.bnd (Res.ok (false) : R0 Bool) () fun r15 => Res.ok (Lo.out (r15))) else (
  bars_j4 ())) else (
  bars_j4 ())
def bars_k3 (s : Unit) : R0 Bool :=
  Res.bnd (Res.ok (true) : R0 Bool) () fun r16 => Res.ok (r16)
def bars_k1 (rides_ : (List (Int × Str × Str × Int × Int))) (spans_ : (List (Str × Int))) (start_ : Str) (goal_ : Str) (since_ : Int) (s : (List (Str × Int))) : R0 Bool :=
  Res.bnd (bif (has s goal_) then Res.ok true else (bif (!has s start_) then Res.ok true else (Res.bind (gd (has s start_ = true) (Res.ok ((Option.getD (look s start_) default)))) fun v6 => Res.ok (decide (v6 > since_))))) () fun b7 => bif b7 then (
  Res.bnd (Res.ok (false) : R0 Bool) () fun r8 => Res.ok (r8)) else (
  Res.bnd (Res.ok rides_ : R0 (List (Int × Str × Str × Int × Int))) () fun xs17 => forK (bars_b2 spans_ s) (bars_k3) (fun r => r) xs17 ())
def m_bars (rides_ : (List (Int × Str × Str × Int × Int))) (spans_ : (List (Str × Int))) (start_ : Str) (goal_ : Str) (since_ : Int) (paper_ : (List (Str × Int))) : R0 Bool :=
  Res.bnd (Res.ok (([] : (List (Str × Int)))) : R0 (List (Str × Int))) () fun known_1 =>
  Res.bnd (Res.ok paper_ : R0 (List (Str × Int))) () fun xs18 => forK (bars_b0) (bars_k1 rides_ spans_ start_ goal_ since_) (fun r => r) xs18 (known_1)
/-! ### costs -/
def costs_j1 (ride_ : (Int × Str × Str × Int × Int)) (lost_ : Int) (many_ : Int) (numbers_ : (List Int)) (s : Int) : R0 (Int × Int × Int × (List Int)) :=
  Res.bnd (Res.bind (Res.bind (Res.bind (gd (CCat numbers_ (ride_.1 :: [])) (Res.ok ((numbers_ ++ (ride_.1 :: []))))) fun v5 => Res.ok (((many_ + (1 : Int)), v5)) : R0 (Int × (List Int))) fun v6 => Res.ok ((s, v6)) : R0 (Int × Int × (List Int))) fun v7 => Res.ok ((lost_, v7)) : R0 (Int × Int × Int × (List Int))) () fun r4 => Res.ok (r4)
def costs_j0 (ride_ : (Int × Str × Str × Int × Int)) (kept_ : (List Int)) (fresh_ : Int) (many_ : Int) (numbers_ : (List Int)) (s : Int) : R0 (Int × Int × Int × (List Int)) :=
  Res.bnd (Res.ok ((!isIn ride_.1 kept_)) : R0 Bool) () fun b3 => bif b3 then (
  Res.bnd (Res.ok ((1 : Int)) : R0 Int) () fun z8 =>
  costs_j1 ride_ s many_ numbers_ ((fresh_ + z8))) else (
  costs_j1 ride_ s many_ numbers_ (fresh_))
def m_costs (path_ : (Int × Int × Int × (List Int))) (ride_ : (Int × Str × Str × Int × Int)) (kept_ : (List Int)) (shared_ : (List Int)) : R0 (Int × Int × Int × (List Int)) :=
  Res.bnd (Res.ok (path_) : R0 (Int × Int × Int × (List Int))) () fun u1 =>
  Res.bnd (Res.ok ((isIn ride_.1 shared_)) : R0 Bool) () fun b2 => bif b2 then (
  Res.bnd (Res.ok ((1 : Int)) : R0 Int) () fun z9 =>
  costs_j0 ride_ kept_ u1.2.1 u1.2.2.1 u1.2.2.2 ((u1.1 - z9))) else (
  costs_j0 ride_ kept_ u1.2.1 u1.2.2.1 u1.2.2.2 (u1.1))
/-! ### least_change -/
def least_j6 (s : (List (Int × Int × Int × (List Int)))) : Res Unit (Lo ((List (Int × Int × Int × (List Int)))) (Option (List Int))) :=
  Res.ok (Lo.go (s))
def least_b4 (spans_ : (List (Str × Int))) (kept_ : (List Int)) (shared_ : (List Int)) (best_ : (List (Int × (Int × Int × Int × (List Int))))) (ride_ : (Int × Str × Str × Int × Int)) (s : (List (Int × Int × Int × (List Int)))) (x : (Int × Str × Str × Int × Int)) : Res Unit (Lo ((List (Int × Int × Int × (List Int)))) (Option (List Int))) :=
  Res.bnd (bif (has best_ x.1) then (m_hangs x ride_ spans_) else Res.ok false) () fun b7 => bif b7 then (
  Res.bnd (Res.bind (Res.bind (gd (has best_ x.1 = true) (Res.ok ((Option.getD (look best_ x.1) default)))) fun v8 => Res.ok ((v8, (ride_, (kept_, (shared_, ()))))) : R0 ((Int × Int × Int × (List Int)) × (Int × Str × Str × Int × Int) × (List Int) × (List Int) × Unit)) fun v9 => m_costs v9.1 v9.2.1 v9.2.2.1 v9.2.2.2.1) () fun x10 => gd (List.length s ≤ 100000) (
  least_j6 ((s ++ [x10])))) else (
  least_j6 (s))
def least_j7 (s : (List (Int × (Int × Int × Int × (List Int)))) × (List (Int × Int × Int × Int × (List Int)))) : Res Unit (Lo ((List (Int × (Int × Int × Int × (List Int)))) × (List (Int × Int × Int × Int × (List Int)))) (Option (List Int))) :=
  Res.ok (Lo.go (s.1, s.2))
def least_j8 (best_ : (List (Int × (Int × Int × Int × (List Int))))) (s : (List (Int × Int × Int × Int × (List Int)))) : Res Unit (Lo ((List (Int × (Int × Int × Int × (List Int)))) × (List (Int × Int × Int × Int × (List Int)))) (Option (List Int))) :=
  least_j7 (best_, s)
def least_k5 (goal_ : Str) (best_ : (List (Int × (Int × Int × Int × (List Int))))) (ends_ : (List (Int × Int × Int × Int × (List Int)))) (ride_ : (Int × Str × Str × Int × Int)) (s : (List (Int × Int × Int × (List Int)))) : Res Unit (Lo ((List (Int × (Int × Int × Int × (List Int)))) × (List (Int × Int × Int × Int × (List Int)))) (Option (List Int))) :=
  Res.bnd (Res.ok ((!List.isEmpty s)) : R0 Bool) () fun b11 => bif b11 then (
  Res.bnd (gd (CNe s) (Res.ok ((minL (rT (wc rI (wc rI (wc rI (w1 (rL rI)))))) s)))) () fun x12 => Res.bnd (Res.ok (ride_.1) : R0 Int) () fun q13 => gd (List.length best_ ≤ 100000) (
  Res.bnd (gd (has (dput best_ q13 x12) ride_.1 = true) (Res.ok ((Option.getD (look (dput best_ q13 x12) ride_.1) default)))) () fun u14 =>
  Res.bnd (Res.ok (decide (ride_.2.2.1 = goal_)) : R0 Bool) () fun b15 => bif b15 then (
  Res.bnd (Res.ok ((u14.1, (u14.2.1, (ride_.2.2.2.2, (u14.2.2.1, u14.2.2.2))))) : R0 (Int × Int × Int × Int × (List Int))) () fun x16 => gd (List.length ends_ ≤ 100000) (
  least_j8 (dput best_ q13 x12) ((ends_ ++ [x16])))) else (
  least_j8 (dput best_ q13 x12) (ends_)))) else (
  least_j7 (best_, ends_))
def least_j3 (spans_ : (List (Str × Int))) (goal_ : Str) (kept_ : (List Int)) (shared_ : (List Int)) (best_ : (List (Int × (Int × Int × Int × (List Int))))) (ends_ : (List (Int × Int × Int × Int × (List Int)))) (row_ : (List (Int × Str × Str × Int × Int))) (ride_ : (Int × Str × Str × Int × Int)) (s : (List (Int × Int × Int × (List Int)))) : Res Unit (Lo ((List (Int × (Int × Int × Int × (List Int)))) × (List (Int × Int × Int × Int × (List Int)))) (Option (List Int))) :=
  Res.bnd (Res.ok row_ : R0 (List (Int × Str × Str × Int × Int))) () fun xs17 => forK (least_b4 spans_ kept_ shared_ best_ ride_) (least_k5 goal_ best_ ends_ ride_) (fun r => Lo.out (r)) xs17 (s)
def least_b1 (spans_ : (List (Str × Int))) (start_ : Str) (goal_ : Str) (since_ : Int) (kept_ : (List Int)) (shared_ : (List Int)) (row_ : (List (Int × Str × Str × Int × Int))) (s : (List (Int × (Int × Int × Int × (List Int)))) × (List (Int × Int × Int × Int × (List Int)))) (x : (Int × Str × Str × Int × Int)) : Res Unit (Lo ((List (Int × (Int × Int × Int × (List Int)))) × (List (Int × Int × Int × Int × (List Int)))) (Option (List Int))) :=
  Res.bnd (Res.ok (([] : (List (Int × Int × Int × (List Int))))) : R0 (List (Int × Int × Int × (List Int)))) () fun ways_5 =>
  Res.bnd (Res.ok ((decide (x.2.1 = start_) && decide (since_ ≤ x.2.2.2.1))) : R0 Bool) () fun b6 => bif b6 then (
  Res.bnd (m_costs ((0 : Int), ((0 : Int), ((0 : Int), ([] : (List Int))))) x kept_ shared_) () fun x18 => gd (List.length ways_5 ≤ 100000) (
  least_j3 spans_ goal_ kept_ shared_ s.1 s.2 row_ x ((ways_5 ++ [x18])))) else (
  least_j3 spans_ goal_ kept_ shared_ s.1 s.2 row_ x (ways_5))
def least_k2 (s : (List (Int × (Int × Int × Int × (List Int)))) × (List (Int × Int × Int × Int × (List Int)))) : R0 (Option (List Int)) :=
  Res.bnd (Res.ok (decide (s.2 = ([] : (List (Int × Int × Int × Int × (List Int)))))) : R0 Bool) () fun b19 => bif b19 then (
  Res.bnd (Res.ok (none) : R0 (Option (List Int))) () fun r20 => Res.ok (r20)) else (
  Res.bnd (Res.bind (Res.bind (gd (CNe s.2) (Res.ok ((minL (rT (wc rI (wc rI (wc rI (wc rI (w1 (rL rI))))))) s.2)))) fun v22 => Res.ok (v22.2.2.2.2)) fun v23 => Res.ok (some v23)) () fun r21 => Res.ok (r21))
def least_j0 (rides_ : (List (Int × Str × Str × Int × Int))) (spans_ : (List (Str × Int))) (start_ : Str) (goal_ : Str) (since_ : Int) (kept_ : (List Int)) (shared_ : (List Int)) (best_ : (List (Int × (Int × Int × Int × (List Int))))) (s : (List (Int × Int × Int × Int × (List Int)))) : R0 (Option (List Int)) :=
  Res.bnd (m_by_leaving rides_) () fun row_4 =>
  Res.bnd (Res.ok row_4 : R0 (List (Int × Str × Str × Int × Int))) () fun xs24 => forK (least_b1 spans_ start_ goal_ since_ kept_ shared_ row_4) (least_k2) (fun r => r) xs24 (best_, s)
def m_least (rides_ : (List (Int × Str × Str × Int × Int))) (spans_ : (List (Str × Int))) (start_ : Str) (goal_ : Str) (since_ : Int) (kept_ : (List Int)) (shared_ : (List Int)) : R0 (Option (List Int)) :=
  Res.bnd (Res.ok (([] : (List (Int × (Int × Int × Int × (List Int)))))) : R0 (List (Int × (Int × Int × Int × (List Int))))) () fun best_1 =>
  Res.bnd (Res.ok (([] : (List (Int × Int × Int × Int × (List Int))))) : R0 (List (Int × Int × Int × Int × (List Int)))) () fun ends_2 =>
  Res.bnd (Res.ok (decide (start_ = goal_)) : R0 Bool) () fun b3 => bif b3 then (
  Res.bnd (Res.ok (((0 : Int), ((0 : Int), (since_, ((0 : Int), ([] : (List Int))))))) : R0 (Int × Int × Int × Int × (List Int))) () fun x25 => gd (List.length ends_2 ≤ 100000) (
  least_j0 rides_ spans_ start_ goal_ since_ kept_ shared_ best_1 ((ends_2 ++ [x25])))) else (
  least_j0 rides_ spans_ start_ goal_ since_ kept_ shared_ best_1 (ends_2))
end Wf
/-! Papers: no_way, bars. -/
namespace Wf
open PySem L2
theorem mem_look {κ α : Type} [DecidableEq κ] {d : List (κ × α)} (u : Uq d) {k : κ} {v : α} : (k, v) ∈ d ↔ look d k = some v := by
  constructor
  · exact fun h => look_of u (k, v) h
  · intro h
    unfold look at h
    obtain ⟨kv, h1, h2⟩ := Option.map_eq_some_iff.mp h
    have h3 := List.find?_some h1
    have h3 : kv.1 = k := of_decide_eq_true h3
    have := List.mem_of_find?_eq_some h1
    rw [← h3, ← h2]; exact this
theorem has_key {κ α : Type} [DecidableEq κ] {d : List (κ × α)} {k : κ} : has d k = true ↔ k ∈ d.map (·.1) := by
  rw [has_iff]
  unfold look
  constructor
  · rintro ⟨v, h⟩
    obtain ⟨kv, h1, h2⟩ := Option.map_eq_some_iff.mp h
    have h3 := List.find?_some h1
    have h3 : kv.1 = k := of_decide_eq_true h3
    exact List.mem_map.mpr ⟨kv, List.mem_of_find?_eq_some h1, h3⟩
  · intro h
    obtain ⟨kv, h1, h2⟩ := List.mem_map.mp h
    cases q : d.find? fun kv => decide (kv.1 = k) with
    | none =>
      have := List.find?_eq_none.mp q kv h1
      simp [h2] at this
    | some z => exact ⟨z.2, rfl⟩
theorem has_f {κ α : Type} [DecidableEq κ] {d : List (κ × α)} {k : κ} : has d k = false ↔ look d k = none := by
  unfold has; cases look d k <;> simp
theorem look_perm {κ α : Type} [DecidableEq κ] {d e : List (κ × α)} (p : d.Perm e) (u : Uq d) (k : κ) : look d k = look e k := by
  have u' : Uq e := (p.map (fun z : κ × α => z.1)).nodup_iff.mp u
  cases h : look d k with
  | some v => exact ((mem_look u').mp (p.mem_iff.mp ((mem_look u).mpr h))).symm
  | none =>
    cases h' : look e k with
    | none => rfl
    | some v =>
      have := (mem_look u).mp (p.mem_iff.mpr ((mem_look u').mpr h'))
      rw [h] at this; cases this
theorem nodup_of_map {α β : Type} (f : α → β) {l : List α} (h : (l.map f).Nodup) : l.Nodup := by
  unfold List.Nodup at *
  rw [List.pairwise_map] at h
  exact h.imp fun h e => h (congrArg f e)
/-- what a paper must show -/
structure Cert (sp : Spn) (rs : List Rde) (s g : Str) (t : Int) (f : Str → Option Int) : Prop where
  g : f g = none
  s : ∃ u, f s = some u ∧ u ≤ t
  c : ∀ r ∈ rs, ∀ u, f r.2.1 = some u → u ≤ r.2.2.2.1 → ∃ v, f r.2.2.1 = some v ∧ v ≤ r.2.2.2.2 + spf sp r.2.2.1
theorem Cert.way {sp : Spn} {rs : List Rde} {s g : Str} {t : Int} {f : Str → Option Int} (h : Cert sp rs s g t f) {row : Row} {a : Rde} (w : Pl.Way (spf sp) rs s t row a) : ∃ v, f a.2.2.1 = some v ∧ v ≤ a.2.2.2.2 + spf sp a.2.2.1 := by
  induction w with
  | one h1 h2 h3 =>
    obtain ⟨u, hu, hl⟩ := h.s
    exact h.c _ h1 u (by rw [h2]; exact hu) (by omega)
  | step q hb hg ih =>
    obtain ⟨v, hv, hl⟩ := ih
    have := hg.2
    exact h.c _ hb v (by rw [← hg.1]; exact hv) (by omega)
theorem Cert.none {sp : Spn} {rs : List Rde} {s g : Str} {t : Int} {f : Str → Option Int} (h : Cert sp rs s g t f) {found : List Row} (w : Wys sp rs s g t found) : found = [] := by
  refine List.eq_nil_iff_forall_not_mem.mpr fun row hr => ?_
  rcases (w.mem row).mp hr with ⟨_, e⟩ | ⟨a, ha, e⟩
  · obtain ⟨u, hu, _⟩ := h.s
    rw [e, h.g] at hu; cases hu
  · obtain ⟨v, hv, _⟩ := h.way ha
    rw [e, h.g] at hv; cases hv
theorem Soon.cert' {sp : Spn} {rs : List Rde} {s g : Str} {t : Int} {d : Spn} (h : Soon sp rs s t d) (hg : look d g = none) : Cert sp rs s g t (look d) :=
  ⟨hg, ⟨t, h.st, Int.le_refl _⟩, h.cert⟩
theorem Soon.some_way {sp : Spn} {rs : List Rde} {s g : Str} {t : Int} {d : Spn} (h : Soon sp rs s t d) {found : List Row} (w : Wys sp rs s g t found) {v : Int} (hg : look d g = some v) : found ≠ [] := by
  intro e
  rcases h.snd g v hg with ⟨z, _⟩ | ⟨row, a, ha, z, _⟩
  · have := (w.mem []).mpr (.inl ⟨rfl, z.symm⟩)
    rw [e] at this; cases this
  · have := (w.mem row).mpr (.inr ⟨a, ha, z⟩)
    rw [e] at this; cases this
theorem no_way_ok {sp : Spn} {rs : List Rde} (hs : Rs' sp rs) (hl : rs.length ≤ 1000) (s g : Str) (t : Int) : Ok (m_no_way rs sp s g t) (fun o => ∃ d, Soon sp rs s t d ∧ o = if (look d g).isSome = true then none else some (srt rSI d)) := by
  have z1 := sizeLine_eq
  unfold m_no_way
  simp only [ok_bind, ok_bnd, ok_ok, ok_gd, ok_cond]
  refine (soonest_ok hs hl s t).mono ?_
  rintro o ⟨d, sd, rfl⟩
  have len : (srt rSI d).length = d.length := (srt_perm d).length_eq
  have dl := sd.len
  refine ⟨by omega, ok_comp (fun _ => true) (fun y : Str × Int => y.1) (fun _ _ => rfl) (fun _ _ _ => rfl) ?_⟩
  have e : isIn g ((srt rSI d).filter (fun _ => true) |>.map (fun y : Str × Int => y.1)) = (look d g).isSome := by
    rw [Bool.eq_iff_iff, isIn_t, List.filter_eq_self.mpr (fun _ _ => rfl)]
    show _ ↔ has d g = true
    rw [has_key]
    exact ((srt_perm (R := rSI) d).map _).mem_iff
  rw [e]
  refine ⟨fun h => ⟨d, sd, by rw [if_pos h]⟩, fun h => ⟨d, sd, ?_⟩⟩
  rw [if_neg (by rw [h]; decide)]
/-- bars answers so -/
def barsP (sp : Spn) (rs : List Rde) (s g : Str) (t : Int) (paper : Spn) : Prop := Uq paper ∧ Cert sp rs s g t (look paper)
theorem dput_new {κ α : Type} [DecidableEq κ] {d : List (κ × α)} {k : κ} {v : α} (h : has d k = false) : dput d k v = d ++ [(k, v)] := by
  unfold dput
  rw [if_neg]
  intro q
  obtain ⟨kv, h1, h2⟩ := List.any_eq_true.mp q
  have : has d k = true := has_key.mpr (List.mem_map.mpr ⟨kv, h1, of_decide_eq_true h2⟩)
  rw [h] at this; cases this
theorem bars_ok {sp : Spn} {rs : List Rde} (hs : ∀ r ∈ rs, has sp r.2.2.1 = true) (s g : Str) (t : Int) (paper : Spn) (hl : paper.length ≤ 100000) : Ok (m_bars rs sp s g t paper) (fun b => b = true ↔ barsP sp rs s g t paper) := by
  unfold m_bars
  simp only [ok_bind, ok_bnd, ok_ok, ok_gd, ok_cond]
  refine ok_for (fun pre d => d = pre ∧ Uq pre) ⟨rfl, List.nodup_nil⟩ (fun a x b d e hI => ?_) fun d hI => ?_
  · obtain ⟨rfl, hu⟩ := hI
    have al : d.length ≤ paper.length := by rw [e]; simp
    unfold bars_b0
    simp only [ok_bind, ok_bnd, ok_ok, ok_gd, ok_cond]
    refine ⟨fun h => ?_, fun h => ⟨by omega, dput_new h, ?_⟩⟩
    · refine ⟨fun z => (nomatch z), fun ⟨z, _⟩ => ?_⟩
      exfalso
      rw [e] at z
      unfold Uq at z
      rw [List.map_append, List.nodup_append] at z
      exact z.2.2 x.1 (has_key.mp h) x.1 (by simp) rfl
    · unfold Uq
      rw [List.map_append, List.nodup_append]
      refine ⟨hu, by simp, fun k hk k' hk' e2 => ?_⟩
      have : k' = x.1 := by simpa using hk'
      rw [e2, this] at hk
      have := has_key.mpr hk
      rw [h] at this; cases this
  · obtain ⟨rfl, hu⟩ := hI
    unfold bars_k1
    simp only [ok_bind, ok_bnd, ok_ok, ok_gd, ok_cond]
    have no : ∀ {P : Prop}, (¬ Cert sp rs s g t (look d)) → (false = true ↔ barsP sp rs s g t d) := fun h => ⟨fun z => (nomatch z), fun z => absurd z.2 h⟩
    have main : look d g = none → ∀ u, look d s = some u → u ≤ t → Ok (forK (bars_b2 sp d) bars_k3 (fun r => r) rs ()) (fun b => b = true ↔ barsP sp rs s g t d) := fun hg u hu2 hul => by
      refine ok_for (fun pre _ => ∀ r ∈ pre, ∀ u, look d r.2.1 = some u → u ≤ r.2.2.2.1 → ∃ v, look d r.2.2.1 = some v ∧ v ≤ r.2.2.2.2 + spf sp r.2.2.1) (fun r hr => by cases hr) (fun a q b _ e hI => ?_) fun _ hI => ?_
      · have hq : q ∈ rs := by rw [e]; simp
        have hsp := hs q hq
        have add : (∀ u, look d q.2.1 = some u → u ≤ q.2.2.2.1 → ∃ v, look d q.2.2.1 = some v ∧ v ≤ q.2.2.2.2 + spf sp q.2.2.1) → ∀ r ∈ a ++ [q], ∀ u, look d r.2.1 = some u → u ≤ r.2.2.2.1 → ∃ v, look d r.2.2.1 = some v ∧ v ≤ r.2.2.2.2 + spf sp r.2.2.1 := fun h r hr => by
          rcases List.mem_append.mp hr with z | z
          · exact hI r z
          · have : r = q := by simpa using z
            subst this; exact h
        unfold bars_b2
        simp only [ok_bind, ok_bnd, ok_ok, ok_gd, ok_cond]
        cases hw : look d q.2.1 with
        | none =>
          rw [has_f.mpr hw]
          refine ⟨fun e => (nomatch e), fun _ => ⟨fun e => (nomatch e), fun _ => ?_⟩⟩
          unfold bars_j4
          exact add fun u h1 => by rw [hw] at h1; cases h1
        | some w =>
          rw [has_of hw]
          simp only [Option.getD_some]
          refine ⟨fun _ => ⟨trivial, fun e => ?_, fun e => ?_⟩, fun e => (nomatch e)⟩
          · have e := of_decide_eq_true e
            cases hv : look d q.2.2.1 with
            | none =>
              rw [has_f.mpr hv]
              refine ⟨fun _ => ⟨fun _ => ?_, fun e => (nomatch e)⟩, fun e => (nomatch e)⟩
              refine ⟨fun z => (nomatch z), fun z => ?_⟩
              obtain ⟨v, h1, _⟩ := z.2.c q hq w hw e
              rw [hv] at h1; cases h1
            | some v =>
              rw [has_of hv]
              simp only [Option.getD_some]
              refine ⟨fun e => (nomatch e), fun _ => ⟨trivial, hsp, fun e2 => ?_, fun e2 => ?_⟩⟩
              · have e2 := of_decide_eq_true e2
                refine ⟨fun z => (nomatch z), fun z => ?_⟩
                obtain ⟨v', h1, h2⟩ := z.2.c q hq w hw e
                rw [hv] at h1; cases h1
                have : spf sp q.2.2.1 = (look sp q.2.2.1).getD default := rfl
                omega
              · have e2 := of_decide_eq_false e2
                unfold bars_j4
                have : spf sp q.2.2.1 = (look sp q.2.2.1).getD default := rfl
                exact add fun u h1 _ => ⟨v, hv, by omega⟩
          · have e := of_decide_eq_false e
            unfold bars_j4
            exact add fun u h1 h2 => by rw [hw] at h1; cases h1; omega
      · unfold bars_k3
        simp only [ok_bind, ok_bnd, ok_ok, ok_gd, ok_cond]
        exact ⟨fun _ => ⟨hu, hg, ⟨u, hu2, hul⟩, hI⟩, fun _ => trivial⟩
    cases hg : look d g with
    | some v =>
      rw [has_of hg]
      refine ⟨fun _ => ⟨fun _ => no (P := True) (fun z => by have := z.g; rw [hg] at this; cases this), fun e => (nomatch e)⟩, fun e => (nomatch e)⟩
    | none =>
      rw [has_f.mpr hg]
      refine ⟨fun e => (nomatch e), fun _ => ?_⟩
      cases hst : look d s with
      | none =>
        rw [has_f.mpr hst]
        refine ⟨fun _ => ⟨fun _ => no (P := True) (fun z => by obtain ⟨u, h1, _⟩ := z.s; rw [hst] at h1; cases h1), fun e => (nomatch e)⟩, fun e => (nomatch e)⟩
      | some u =>
        rw [has_of hst]
        simp only [Option.getD_some]
        refine ⟨fun e => (nomatch e), fun _ => ⟨trivial, fun e => ?_, fun e => ?_⟩⟩
        · have e := of_decide_eq_true e
          exact no (P := True) fun z => by obtain ⟨u', h1, h2⟩ := z.s; rw [hst] at h1; cases h1; omega
        · have e := of_decide_eq_false e
          exact main hg u hst (by omega)
end Wf
/-! The least change. -/
namespace Wf
open PySem L2
abbrev Cost := Int × Int × Int × List Int
abbrev EndC := Int × Int × Int × Int × List Int
abbrev rCost : Rp Cost := rT (wc rI (wc rI (wc rI (w1 (rL rI)))))
abbrev rEnd : Rp EndC := rT (wc rI (wc rI (wc rI (wc rI (w1 (rL rI))))))
/-! ### order of costs -/
def llt : List (Int) → List Int → Int → Bool := fun _ _ _ => true
theorem lex_int (a b : Int) (xs ys : List PyData) : PyProof.Rows.lexLt PyProof.Rows.itemOrd (PySem.W.keyToksAll (.int a :: xs)) (PySem.W.keyToksAll (.int b :: ys)) = if a = b then PyProof.Rows.lexLt PyProof.Rows.itemOrd (PySem.W.keyToksAll xs) (PySem.W.keyToksAll ys) else decide (a < b) := by
  rw [PySem.W.dataLt_cons (by simp [PySem.W.alike]), PySem.W.dataLt_int]
  simp [PyData.eqv]
theorem lex_last (xs ys : List Int) : PyProof.Rows.lexLt PyProof.Rows.itemOrd (PySem.W.keyToksAll [.list (xs.map .int)]) (PySem.W.keyToksAll [.list (ys.map .int)]) = decide (xs < ys) := by
  have al : PySem.W.alike (.list (xs.map .int)) (.list (ys.map .int)) = true := (inferInstance : Ord' (rL rI)).al xs ys
  rw [PySem.W.dataLt_cons al]
  have e : PyData.eqv (.list (xs.map .int)) (.list (ys.map .int)) = decide (xs = ys) := Dat.eqv (R := rL rI) xs ys
  have e2 : PySem.W.dataLt (.list (xs.map .int)) (.list (ys.map .int)) = decide (xs < ys) := PySem.W.dataLt_ints xs ys
  rw [e, e2, PyProof.Rows.lex_irrefl]
  by_cases h : xs = ys
  · subst h
    simp [List.lt_irrefl]
  · simp [h]
theorem cost_lt (p q : Cost) : dlt (R := rCost) p q = if p.1 = q.1 then (if p.2.1 = q.2.1 then (if p.2.2.1 = q.2.2.1 then decide (p.2.2.2 < q.2.2.2) else decide (p.2.2.1 < q.2.2.1)) else decide (p.2.1 < q.2.1)) else decide (p.1 < q.1) := by
  show PySem.W.dataLt (.tuple [.int p.1, .int p.2.1, .int p.2.2.1, .list (p.2.2.2.map .int)]) (.tuple [.int q.1, .int q.2.1, .int q.2.2.1, .list (q.2.2.2.map .int)]) = _
  rw [PySem.W.dataLt_tuple, lex_int, lex_int, lex_int, lex_last]
theorem end_lt (p q : EndC) : dlt (R := rEnd) p q = if p.1 = q.1 then (if p.2.1 = q.2.1 then (if p.2.2.1 = q.2.2.1 then (if p.2.2.2.1 = q.2.2.2.1 then decide (p.2.2.2.2 < q.2.2.2.2) else decide (p.2.2.2.1 < q.2.2.2.1)) else decide (p.2.2.1 < q.2.2.1)) else decide (p.2.1 < q.2.1)) else decide (p.1 < q.1) := by
  show PySem.W.dataLt (.tuple [.int p.1, .int p.2.1, .int p.2.2.1, .int p.2.2.2.1, .list (p.2.2.2.2.map .int)]) (.tuple [.int q.1, .int q.2.1, .int q.2.2.1, .int q.2.2.2.1, .list (q.2.2.2.2.map .int)]) = _
  rw [PySem.W.dataLt_tuple, lex_int, lex_int, lex_int, lex_int, lex_last]
theorem app_lt (a : Int) : ∀ xs ys : List Int, xs.length = ys.length → xs < ys → xs ++ [a] < ys ++ [a]
  | [], [], _, h => absurd h (List.lt_irrefl _)
  | x :: xs, y :: ys, hl, h => by
    rw [List.cons_lt_cons_iff] at h
    rw [List.cons_append, List.cons_append, List.cons_lt_cons_iff]
    rcases h with h | ⟨h, g⟩
    · exact .inl h
    · exact .inr ⟨h, app_lt a xs ys (by simpa using hl) g⟩
/-! ### costs -/
def cst (kept shared : List Int) (p : Cost) (r : Rde) : Cost := (if isIn r.1 shared = true then p.1 - 1 else p.1, if isIn r.1 kept = true then p.2.1 else p.2.1 + 1, p.2.2.1 + 1, p.2.2.2 ++ [r.1])
def c0 : Cost := (0, 0, 0, [])
def cost (kept shared : List Int) (row : Row) : Cost := row.foldl (cst kept shared) c0
variable {kept shared : List Int}
theorem costs_ok (p : Cost) (r : Rde) (h : p.2.2.2.length ≤ 1000) : m_costs p r kept shared = .ok (cst kept shared p r) := by
  refine ok_eq.mp ?_
  unfold m_costs costs_j0 costs_j1 cst
  simp only [ok_bind, ok_bnd, ok_ok, ok_gd, ok_cond]
  have hc : CCat p.2.2.2 [r.1] := by unfold CCat; simp; omega
  refine ⟨fun h1 => ⟨fun h2 => ⟨hc, ?_⟩, fun h2 => ⟨hc, ?_⟩⟩, fun h1 => ⟨fun h2 => ⟨hc, ?_⟩, fun h2 => ⟨hc, ?_⟩⟩⟩ <;> simp at h2 <;> simp [h1, h2]
theorem cost_app (row : Row) (b : Rde) : cost kept shared (row ++ [b]) = cst kept shared (cost kept shared row) b := by unfold cost; rw [List.foldl_append]; rfl
theorem foldl_len : ∀ (row : Row) (p : Cost), (p.2.2.2.length : Int) = p.2.2.1 → ((row.foldl (cst kept shared) p).2.2.2.length : Int) = (row.foldl (cst kept shared) p).2.2.1 ∧ (row.foldl (cst kept shared) p).2.2.2 = p.2.2.2 ++ row.map (·.1)
  | [], p, h => ⟨h, by simp⟩
  | b :: row, p, h => by
    rw [List.foldl_cons]
    obtain ⟨h1, h2⟩ := foldl_len row (cst kept shared p b) (by simp [cst]; omega)
    exact ⟨h1, by rw [h2]; simp [cst]⟩
theorem cost_many (row : Row) : ((cost kept shared row).2.2.2.length : Int) = (cost kept shared row).2.2.1 := (foldl_len row c0 rfl).1
theorem cost_nums (row : Row) : (cost kept shared row).2.2.2 = row.map (·.1) := (foldl_len row c0 rfl).2
theorem cost_cnt (row : Row) : (cost kept shared row).2.2.1 = row.length := by rw [← cost_many, cost_nums]; simp
/-- what is less stays so with a ride more -/
theorem cst_mono {p q : Cost} {r : Rde} (hp : (p.2.2.2.length : Int) = p.2.2.1) (hq : (q.2.2.2.length : Int) = q.2.2.1) (h : dlt (R := rCost) q p = false) : dlt (R := rCost) (cst kept shared q r) (cst kept shared p r) = false := by
  cases g : dlt (R := rCost) p q with
  | false => cases dlt_tot (R := rCost) g h; exact dlt_irr _
  | true =>
    refine dlt_asy ?_
    rw [cost_lt] at g ⊢
    have e1 : (cst kept shared p r).1 = (cst kept shared q r).1 ↔ p.1 = q.1 := by unfold cst; simp only; split <;> omega
    have e2 : (cst kept shared p r).1 < (cst kept shared q r).1 ↔ p.1 < q.1 := by unfold cst; simp only; split <;> omega
    have e3 : (cst kept shared p r).2.1 = (cst kept shared q r).2.1 ↔ p.2.1 = q.2.1 := by unfold cst; simp only; split <;> omega
    have e4 : (cst kept shared p r).2.1 < (cst kept shared q r).2.1 ↔ p.2.1 < q.2.1 := by unfold cst; simp only; split <;> omega
    have e5 : (cst kept shared p r).2.2.1 = (cst kept shared q r).2.2.1 ↔ p.2.2.1 = q.2.2.1 := by unfold cst; simp only; omega
    have e6 : (cst kept shared p r).2.2.1 < (cst kept shared q r).2.2.1 ↔ p.2.2.1 < q.2.2.1 := by unfold cst; simp only; omega
    simp only [e1, e2, e3, e4, e5, e6]
    split
    · rename_i h1
      rw [if_pos h1] at g
      split
      · rename_i h2
        rw [if_pos h2] at g
        split
        · rename_i h3
          rw [if_pos h3] at g
          exact decide_eq_true (app_lt _ _ _ (by omega) (of_decide_eq_true g))
        · rename_i h3
          rw [if_neg h3] at g; exact g
      · rename_i h2
        rw [if_neg h2] at g; exact g
    · rename_i h1
      rw [if_neg h1] at g; exact g
/-- the end of a row: what counts of it -/
def endOf (kept shared : List Int) (row : Row) (c : Int) : EndC := ((cost kept shared row).1, (cost kept shared row).2.1, c, (cost kept shared row).2.2.1, (cost kept shared row).2.2.2)
def endC (p : Cost) (c : Int) : EndC := (p.1, p.2.1, c, p.2.2.1, p.2.2.2)
theorem end_mono {p q : Cost} {c : Int} (h : dlt (R := rCost) q p = false) : dlt (R := rEnd) (endC q c) (endC p c) = false := by
  rw [cost_lt] at h
  rw [end_lt]
  unfold endC
  simp only [if_true]
  exact h
theorem hangs_ok {a b : Rde} {sp : Spn} (h : has sp a.2.2.1 = true) : Ok (m_hangs a b sp) (fun t => t = decide (Pl.Hg (spf sp) a b)) := by
  unfold m_hangs
  simp only [ok_bind, ok_bnd, ok_ok, ok_gd, ok_cond]
  unfold Pl.Hg
  refine ⟨fun e => ⟨h, ?_⟩, fun e => ?_⟩
  · have e := of_decide_eq_true e
    simp only [e, true_and, spf]
  · have e := of_decide_eq_false e
    simp [e]
/-- all that may end -/
def Ends (kept shared : List Int) (sp : Spn) (rs : List Rde) (s g : Str) (t : Int) (e : EndC) : Prop := (e = (0, 0, t, 0, []) ∧ s = g) ∨ ∃ row a, Pl.Way (spf sp) rs s t row a ∧ a.2.2.1 = g ∧ e = endOf kept shared row a.2.2.2.2
structure LI (kept shared : List Int) (sp : Spn) (rs : List Rde) (s g : Str) (t : Int) (pre : List Rde) (best : List (Int × Cost)) (ends : List EndC) : Prop where
  bs : ∀ r ∈ pre, ∀ c, look best r.1 = some c → (∃ row, Pl.Way (spf sp) rs s t row r ∧ cost kept shared row = c) ∧ ∀ row, Pl.Way (spf sp) rs s t row r → dlt (R := rCost) (cost kept shared row) c = false
  bn : ∀ r ∈ pre, look best r.1 = none → ∀ row, ¬ Pl.Way (spf sp) rs s t row r
  bo : ∀ r ∈ rs, r ∉ pre → look best r.1 = none
  es : ∀ e ∈ ends, Ends kept shared sp rs s g t e
  ec : ∀ r ∈ pre, r.2.2.1 = g → ∀ row, Pl.Way (spf sp) rs s t row r → ∃ e ∈ ends, dlt (R := rEnd) (endOf kept shared row r.2.2.2.2) e = false
  e0 : s = g → (0, 0, t, 0, []) ∈ ends
  bb : ∀ k c, look best k = some c → c.2.2.2.length ≤ rs.length
  bl : best.length ≤ pre.length
  el : ends.length ≤ pre.length + 1
theorem num_inj {sp : Spn} {rs : List Rde} (hs : Rs' sp rs) {a b : Rde} (ha : a ∈ rs) (hb : b ∈ rs) (e : a.1 = b.1) : a = b := by
  have h := hs.w.nd
  unfold List.Nodup at h
  rw [List.pairwise_map] at h
  obtain ⟨i, hi, rfl⟩ := List.getElem_of_mem ha
  obtain ⟨j, hj, rfl⟩ := List.getElem_of_mem hb
  have hp := List.pairwise_iff_getElem.mp h
  rcases Nat.lt_trichotomy i j with q | q | q
  · exact absurd e (hp _ _ _ _ q)
  · subst q; rfl
  · exact absurd e.symm (hp _ _ _ _ q)
/-- what the inner loop gathers -/
def gath (kept shared : List Int) (sp : Spn) (best : List (Int × Cost)) (q : Rde) (xs : List Rde) : List Cost := xs.filterMap fun o => match look best o.1 with | some c => if Pl.Hg (spf sp) o q then some (cst kept shared c q) else none | none => none
theorem inner_ok {sp : Spn} {rs T : List Rde} (hs : Rs' sp rs) (hT : ∀ r ∈ T, r ∈ rs) (hl : T.length ≤ 1000) {best : List (Int × Cost)} (hb : ∀ k c, look best k = some c → c.2.2.2.length ≤ 1000) (q : Rde) (w0 : List Cost) (h0 : w0.length ≤ 1)
    {k : List Cost → Res Unit (Lo (List (Int × Cost) × List EndC) (Option (List Int)))} {P : Lo (List (Int × Cost) × List EndC) (Option (List Int)) → Prop} (hk : Ok (k (w0 ++ gath kept shared sp best q T)) P) :
    Ok (forK (least_b4 sp kept shared best q) k (fun r => Lo.out r) T w0) P := by
  refine ok_for (fun pre w => w = w0 ++ gath kept shared sp best q pre) (by simp [gath]) (fun a x b w e hI => ?_) fun w hI => by subst hI; exact hk
  subst hI
  have hx : x ∈ rs := hT x (by rw [e]; simp)
  have al : a.length ≤ T.length := by rw [e]; simp
  have gl : (gath kept shared sp best q a).length ≤ a.length := List.length_filterMap_le _ _
  have ga : gath kept shared sp best q (a ++ [x]) = gath kept shared sp best q a ++ (match look best x.1 with | some c => if Pl.Hg (spf sp) x q then some (cst kept shared c q) else none | none => none).toList := by
    unfold gath
    rw [List.filterMap_append]
    congr 1
  unfold least_b4
  simp only [ok_bind, ok_bnd, ok_ok, ok_gd, ok_cond]
  cases hc : look best x.1 with
  | none =>
    rw [has_f.mpr hc]
    refine ⟨fun e => (nomatch e), fun _ => ⟨fun e => (nomatch e), fun _ => ?_⟩⟩
    unfold least_j6
    show _ = _
    rw [ga, hc]; simp
  | some c =>
    rw [has_of hc]
    simp only [Option.getD_some]
    refine ⟨fun _ => (hangs_ok (hs.h x hx)).mono fun t ht => ⟨fun e1 => ⟨trivial, ?_⟩, fun e1 => ?_⟩, fun e => (nomatch e)⟩
    · rw [costs_ok _ _ (hb _ _ hc)]
      rw [ok_ok]
      refine ⟨by rw [List.length_append]; omega, ?_⟩
      unfold least_j6
      show _ = _
      rw [e1] at ht
      rw [ga, hc]
      simp [of_decide_eq_true ht.symm]
    · unfold least_j6
      show _ = _
      rw [e1] at ht
      rw [ga, hc]
      simp [of_decide_eq_false ht.symm]
theorem LI.step {sp : Spn} {rs : List Rde} (hs : Rs' sp rs) {s g : Str} {t : Int} {pre post : List Rde} {q : Rde} {best : List (Int × Cost)} {ends : List EndC} (h : LI kept shared sp rs s g t pre best ends) (hT : (pre ++ q :: post).Perm rs)
    (hp : (pre ++ q :: post).Pairwise fun a b => a.2.2.2.1 ≤ b.2.2.2.1) (w : List Cost) (hw : w = (if q.2.1 = s ∧ t ≤ q.2.2.2.1 then [cst kept shared c0 q] else []) ++ gath kept shared sp best q (pre ++ q :: post)) :
    (w = [] → LI kept shared sp rs s g t (pre ++ [q]) best ends) ∧ (∀ c, Least rCost c w → (q.2.2.1 = g → LI kept shared sp rs s g t (pre ++ [q]) (dput best q.1 c) (ends ++ [endC c q.2.2.2.2])) ∧ (q.2.2.1 ≠ g → LI kept shared sp rs s g t (pre ++ [q]) (dput best q.1 c) ends)) := by
  have hq : q ∈ rs := hT.mem_iff.mp (by simp)
  have nd : (pre ++ q :: post).Nodup := hT.nodup_iff.mpr (nodup_of_map _ hs.w.nd)
  have qn : q ∉ pre := fun z => by
    rw [List.nodup_append] at nd
    exact nd.2.2 q z q (by simp) rfl
  have prs : ∀ r ∈ pre, r ∈ rs := fun r hr => hT.mem_iff.mp (List.mem_append_left _ hr)
  have bq : look best q.1 = none := h.bo q hq qn
  -- ways' costs lie in w
  have mem : ∀ c, c ∈ w ↔ (q.2.1 = s ∧ t ≤ q.2.2.2.1 ∧ c = cst kept shared c0 q) ∨ ∃ o ∈ pre, ∃ c', look best o.1 = some c' ∧ Pl.Hg (spf sp) o q ∧ c = cst kept shared c' q := fun c => by
    rw [hw, List.mem_append]
    unfold gath
    rw [List.mem_filterMap]
    constructor
    · rintro (z | ⟨o, ho, e⟩)
      · split at z
        · rename_i h1
          simp at z; exact .inl ⟨h1.1, h1.2, z⟩
        · cases z
      · right
        split at e
        · rename_i c' hc'
          split at e
          · rename_i hg
            cases e
            have ors : o ∈ rs := hT.mem_iff.mp ho
            have op : o ∈ pre := by
              apply Classical.byContradiction
              intro z
              have := h.bo o ors z
              rw [hc'] at this; cases this
            exact ⟨o, op, c', hc', hg, rfl⟩
          · cases e
        · cases e
    · rintro (⟨h1, h2, rfl⟩ | ⟨o, ho, c', hc', hg, rfl⟩)
      · left; rw [if_pos ⟨h1, h2⟩]; simp
      · right
        refine ⟨o, List.mem_append_left _ ho, ?_⟩
        rw [hc']
        simp [hg]
  have snd : ∀ c ∈ w, ∃ row, Pl.Way (spf sp) rs s t row q ∧ cost kept shared row = c := fun c hc => by
    rcases (mem c).mp hc with ⟨h1, h2, rfl⟩ | ⟨o, ho, c', hc', hg, rfl⟩
    · exact ⟨[q], .one hq h1 h2, rfl⟩
    · obtain ⟨⟨row, hr, rfl⟩, _⟩ := h.bs o ho c' hc'
      exact ⟨row ++ [q], .step hr hq hg, cost_app row q⟩
  have cmp : ∀ row, Pl.Way (spf sp) rs s t row q → ∃ c ∈ w, dlt (R := rCost) (cost kept shared row) c = false := fun row hr => by
    cases hr with
    | one h1 h2 h3 => exact ⟨_, (mem _).mpr (.inl ⟨h2, h3, rfl⟩), dlt_irr _⟩
    | @step row' a _ hr' hb hg =>
      have lt := Pl.hg_lt hs.w hr'.mem hg
      have ap : a ∈ pre := by
        have : a ∈ pre ++ q :: post := hT.mem_iff.mpr hr'.mem
        rcases List.mem_append.mp this with z | z
        · exact z
        · exfalso
          rcases List.mem_cons.mp z with z | z
          · subst z; omega
          · rw [List.pairwise_append] at hp
            have := (List.pairwise_cons.mp hp.2.1).1 a z
            omega
      cases hc : look best a.1 with
      | none => exact absurd hr' (h.bn a ap hc row')
      | some c =>
        obtain ⟨⟨row2, hr2, e2⟩, hmin⟩ := h.bs a ap c hc
        refine ⟨_, (mem _).mpr (.inr ⟨a, ap, c, hc, hg, rfl⟩), ?_⟩
        rw [cost_app]
        exact cst_mono (by rw [← e2]; exact cost_many row2) (cost_many row') (hmin row' hr')
  refine ⟨fun e => ?_, fun c hc => ?_⟩
  · have no : ∀ row, ¬ Pl.Way (spf sp) rs s t row q := fun row hr => by
      obtain ⟨c, hc, _⟩ := cmp row hr
      rw [e] at hc; cases hc
    refine ⟨fun r hr c hc => ?_, fun r hr hn => ?_, fun r hr hn => h.bo r hr fun z => hn (List.mem_append_left _ z), h.es, fun r hr hg row hwy => ?_, h.e0, h.bb, by have := h.bl; simp; omega, by have := h.el; simp; omega⟩
    · rcases List.mem_append.mp hr with z | z
      · exact h.bs r z c hc
      · have : r = q := by simpa using z
        subst this; rw [bq] at hc; cases hc
    · rcases List.mem_append.mp hr with z | z
      · exact h.bn r z hn
      · have : r = q := by simpa using z
        subst this; exact no
    · rcases List.mem_append.mp hr with z | z
      · exact h.ec r z hg row hwy
      · have : r = q := by simpa using z
        subst this; exact absurd hwy (no row)
  · obtain ⟨rowc, hrc, erc⟩ := snd c hc.mem
    have min : ∀ row, Pl.Way (spf sp) rs s t row q → dlt (R := rCost) (cost kept shared row) c = false := fun row hr => by
      obtain ⟨c1, h1, h2⟩ := cmp row hr
      exact dlt_neg (hc.le c1 h1) h2
    have lk : ∀ r ∈ rs, look (dput best q.1 c) r.1 = if r = q then some c else look best r.1 := fun r hr => by
      rw [look_dput]
      by_cases e : r = q
      · subst e; simp
      · rw [if_neg e, if_neg]
        exact fun z => e (num_inj hs hr hq z.symm)
    have ne : ∀ r ∈ pre, r ≠ q := fun r hr e => qn (e ▸ hr)
    have dl := dput_len best q.1 c
    have core : ∀ ends', (∀ e ∈ ends', Ends kept shared sp rs s g t e) → (∀ r ∈ pre ++ [q], r.2.2.1 = g → ∀ row, Pl.Way (spf sp) rs s t row r → ∃ e ∈ ends', dlt (R := rEnd) (endOf kept shared row r.2.2.2.2) e = false) → (s = g → (0, 0, t, 0, []) ∈ ends') → ends'.length ≤ ends.length + 1 → LI kept shared sp rs s g t (pre ++ [q]) (dput best q.1 c) ends' := fun ends' h1 h2 h3 h4 => by
      refine ⟨fun r hr c1 hc1 => ?_, fun r hr hn => ?_, fun r hr hn => ?_, h1, h2, h3, fun k c1 hc1 => ?_, by have := h.bl; simp; omega, by have := h.el; simp; omega⟩
      · rcases List.mem_append.mp hr with z | z
        · rw [lk r (prs r z), if_neg (ne r z)] at hc1
          exact h.bs r z c1 hc1
        · have : r = q := by simpa using z
          subst this
          rw [lk r hq, if_pos rfl] at hc1
          cases hc1
          exact ⟨⟨rowc, hrc, erc⟩, min⟩
      · rcases List.mem_append.mp hr with z | z
        · rw [lk r (prs r z), if_neg (ne r z)] at hn
          exact h.bn r z hn
        · have : r = q := by simpa using z
          subst this
          rw [lk r hq, if_pos rfl] at hn; cases hn
      · have rq : r ≠ q := fun e => hn (by subst e; simp)
        rw [lk r hr, if_neg rq]
        exact h.bo r hr fun z => hn (List.mem_append_left _ z)
      · rw [look_dput] at hc1
        split at hc1
        · cases hc1
          rw [← erc, cost_nums, List.length_map]
          have := way_len hs.w hrc
          omega
        · exact h.bb k c1 hc1
    refine ⟨fun eg => core _ (fun e he => ?_) (fun r hr hg row hwy => ?_) (fun e => List.mem_append_left _ (h.e0 e)) (by simp), fun ng => core _ h.es (fun r hr hg row hwy => ?_) h.e0 (by omega)⟩
    · rcases List.mem_append.mp he with z | z
      · exact h.es e z
      · have : e = endC c q.2.2.2.2 := by simpa using z
        subst this
        refine .inr ⟨rowc, q, hrc, eg, ?_⟩
        unfold endOf endC; rw [erc]
    · rcases List.mem_append.mp hr with z | z
      · obtain ⟨e, he, h2⟩ := h.ec r z hg row hwy
        exact ⟨e, List.mem_append_left _ he, h2⟩
      · have : r = q := by simpa using z
        subst this
        exact ⟨_, List.mem_append_right _ (by simp), end_mono (min row hwy)⟩
    · rcases List.mem_append.mp hr with z | z
      · exact h.ec r z hg row hwy
      · have : r = q := by simpa using z
        subst this; exact absurd hg ng
/-- the least change: what it is -/
structure LeastCh (kept shared : List Int) (sp : Spn) (rs : List Rde) (s g : Str) (t : Int) (o : Option (List Int)) : Prop where
  no : o = none → ∀ e, ¬ Ends kept shared sp rs s g t e
  so : ∀ ns, o = some ns → ∃ e, Ends kept shared sp rs s g t e ∧ (∀ e', Ends kept shared sp rs s g t e' → dlt (R := rEnd) e' e = false) ∧ ns = e.2.2.2.2
theorem LeastCh.uniq {sp : Spn} {rs rs' : List Rde} {s g : Str} {t : Int} {o o' : Option (List Int)} (h : LeastCh kept shared sp rs s g t o) {k2 s2 : List Int} (h' : LeastCh k2 s2 sp rs' s g t o') (e : ∀ e, Ends kept shared sp rs s g t e ↔ Ends k2 s2 sp rs' s g t e) : o = o' := by
  cases o with
  | none =>
    cases o' with
    | none => rfl
    | some n' =>
      obtain ⟨x, hx, _⟩ := h'.so n' rfl
      exact absurd ((e x).mpr hx) (h.no rfl x)
  | some n =>
    obtain ⟨x, hx, hm, en⟩ := h.so n rfl
    cases o' with
    | none => exact absurd ((e x).mp hx) (h'.no rfl x)
    | some n' =>
      obtain ⟨y, hy, hm', en'⟩ := h'.so n' rfl
      have : x = y := dlt_tot (R := rEnd) (hm' x ((e x).mp hx)) (hm y ((e y).mpr hy))
      rw [en, en', this]
theorem least_loop {sp : Spn} {rs T : List Rde} (hs : Rs' sp rs) (hT : T.Perm rs) (hp : T.Pairwise fun a b => a.2.2.2.1 ≤ b.2.2.2.1) (s g : Str) (t : Int) (hl : rs.length ≤ 900) {ends : List EndC} (h0 : LI kept shared sp rs s g t [] [] ends) :
    Ok (forK (least_b1 sp s g t kept shared T) least_k2 (fun r => r) T ([], ends)) (LeastCh kept shared sp rs s g t) := by
  have tl := hT.length_eq
  refine ok_for (fun pre (z : List (Int × Cost) × List EndC) => LI kept shared sp rs s g t pre z.1 z.2) h0 (fun pre q post z e h => ?_) fun z h => ?_
  · obtain ⟨best, ends⟩ := z
    have h : LI kept shared sp rs s g t pre best ends := h
    have pl : pre.length + 1 ≤ T.length := by rw [e]; simp
    have bl := h.bl
    have el := h.el
    have hb : ∀ k c, look best k = some c → c.2.2.2.length ≤ 1000 := fun k c hc => Nat.le_trans (h.bb k c hc) (by omega)
    have stp := h.step hs (e ▸ hT) (e ▸ hp) _ rfl
    have tail : ∀ w, w = (if q.2.1 = s ∧ t ≤ q.2.2.2.1 then [cst kept shared c0 q] else []) ++ gath kept shared sp best q T → Ok (least_k5 g best ends q w) (LoP (fun z => LI kept shared sp rs s g t (pre ++ [q]) z.1 z.2) (fun z => Ok (least_k2 z) (LeastCh kept shared sp rs s g t)) (fun r => LeastCh kept shared sp rs s g t r)) := fun w hw => by
      rw [e] at hw
      rw [← hw] at stp
      unfold least_k5
      simp only [ok_bind, ok_bnd, ok_ok, ok_gd, ok_cond]
      refine ⟨fun e1 => ?_, fun e1 => ?_⟩
      · have ne : w ≠ [] := fun z => by rw [z] at e1; simp at e1
        have ls := minL_spec (R := rCost) ne
        obtain ⟨a1, a2⟩ := stp.2 _ ls
        have lk : look (dput best q.1 (minL rCost w)) q.1 = some (minL rCost w) := by rw [look_dput, if_pos rfl]
        refine ⟨ne, by omega, has_of lk, ?_⟩
        show ((decide (q.2.2.1 = g) = true → _) ∧ (decide (q.2.2.1 = g) = false → _))
        rw [show look (dput best q.1 (minL (rT (wc rI (wc rI (wc rI (w1 (rL rI)))))) w)) q.1 = some (minL rCost w) from lk]
        simp only [Option.getD_some]
        refine ⟨fun e2 => ⟨by omega, ?_⟩, fun e2 => ?_⟩
        · unfold least_j8 least_j7
          exact a1 (of_decide_eq_true e2)
        · unfold least_j8 least_j7
          exact a2 (of_decide_eq_false e2)
      · have ne : w = [] := by simpa using e1
        unfold least_j7
        exact stp.1 ne
    unfold least_b1
    simp only [ok_bind, ok_bnd, ok_ok, ok_gd, ok_cond]
    have hT2 : ∀ r ∈ T, r ∈ rs := fun r hr => hT.mem_iff.mp hr
    refine ⟨fun e1 => ?_, fun e1 => ?_⟩
    · simp only [Bool.and_eq_true, decide_eq_true_eq] at e1
      rw [costs_ok _ _ (by simp)]
      rw [ok_ok]
      refine ⟨by simp, ?_⟩
      unfold least_j3
      simp only [ok_bind, ok_bnd, ok_ok, ok_gd, ok_cond]
      refine inner_ok hs hT2 (by omega) hb q _ (by simp) (tail _ ?_)
      rw [if_pos e1]; rfl
    · have e1 : ¬ (q.2.1 = s ∧ t ≤ q.2.2.2.1) := fun z => by simp [z.1, z.2] at e1
      unfold least_j3
      simp only [ok_bind, ok_bnd, ok_ok, ok_gd, ok_cond]
      refine inner_ok hs hT2 (by omega) hb q _ (by simp) (tail _ ?_)
      rw [if_neg e1]
  · unfold least_k2
    simp only [ok_bind, ok_bnd, ok_ok, ok_gd, ok_cond]
    have hall : ∀ r, r ∈ T ↔ r ∈ rs := fun r => hT.mem_iff
    have cov : ∀ e, Ends kept shared sp rs s g t e → ∃ e' ∈ z.2, dlt (R := rEnd) e e' = false := fun e he => by
      rcases he with ⟨rfl, hg⟩ | ⟨row, a, ha, hg, rfl⟩
      · exact ⟨_, h.e0 hg, dlt_irr _⟩
      · exact h.ec a ((hall a).mpr ha.mem) hg row ha
    refine ⟨fun e1 => ⟨fun _ e he => ?_, fun ns q => by cases q⟩, fun e1 => ?_⟩
    · obtain ⟨e', h1, _⟩ := cov e he
      rw [of_decide_eq_true e1] at h1; cases h1
    · have ne : z.2 ≠ [] := of_decide_eq_false e1
      have ls := minL_spec (R := rEnd) ne
      refine ⟨ne, fun q => (by cases q), fun ns q => ?_⟩
      cases q
      refine ⟨_, h.es _ ls.mem, fun e he => ?_, rfl⟩
      obtain ⟨e', h1, h2⟩ := cov e he
      exact dlt_neg (ls.le e' h1) h2
theorem least_ok {sp : Spn} {rs : List Rde} (hs : Rs' sp rs) (hl : rs.length ≤ 900) (s g : Str) (t : Int) (kept shared : List Int) : Ok (m_least rs sp s g t kept shared) (LeastCh kept shared sp rs s g t) := by
  unfold m_least
  simp only [ok_bind, ok_bnd, ok_ok, ok_gd, ok_cond]
  have base : ∀ ends : List EndC, (∀ e ∈ ends, Ends kept shared sp rs s g t e) → (s = g → (0, 0, t, 0, []) ∈ ends) → ends.length ≤ 1 → Ok (least_j0 rs sp s g t kept shared [] ends) (LeastCh kept shared sp rs s g t) := fun ends h1 h2 h3 => by
    unfold least_j0
    simp only [ok_bind, ok_bnd, ok_ok, ok_gd, ok_cond]
    exact (by_leaving_le rs).mono fun T hT => least_loop hs hT.1 hT.2 s g t hl ⟨fun r hr => (by cases hr), fun r hr => (by cases hr), fun r _ _ => rfl, h1, fun r hr => (by cases hr), h2, fun k c hc => (by simp [look] at hc), by simp, by simpa using h3⟩
  refine ⟨fun e => ⟨by simp, base _ (fun x hx => ?_) (fun _ => by simp) (by simp)⟩, fun e => base _ (fun x hx => by cases hx) (fun q => absurd q (of_decide_eq_false e)) (by simp)⟩
  have : x = (0, 0, t, 0, []) := by simpa using hx
  exact .inl ⟨this, of_decide_eq_true e⟩
end Wf
/-! Ends by rows. -/
namespace Wf
open PySem L2
theorem end_le {x y : EndC} (h : dlt (R := rEnd) x y = false) : y.1 ≤ x.1 ∧ (y.1 = x.1 → y.2.1 ≤ x.2.1) ∧ (y.1 = x.1 → y.2.1 = x.2.1 → y.2.2.1 ≤ x.2.2.1) := by
  rw [end_lt] at h
  split at h
  · rename_i h1
    refine ⟨by omega, fun _ => ?_, fun _ => ?_⟩
    · split at h
      · omega
      · have := of_decide_eq_false h; omega
    · intro e2
      rw [if_pos e2.symm] at h
      split at h
      · omega
      · have := of_decide_eq_false h; omega
  · rename_i h1
    have := of_decide_eq_false h
    exact ⟨by omega, fun e => absurd e.symm h1, fun e => absurd e.symm h1⟩
structure RowEnd (kept shared : List Int) (row : Row) (e : EndC) : Prop where
  lo : e.1 = -((row.map (·.1)).countP (fun x => isIn x shared) : Int)
  fr : e.2.1 = ((row.map (·.1)).countP (fun x => !isIn x kept) : Int)
  ns : e.2.2.2.2 = row.map (·.1)
theorem foldl_cost {kept shared : List Int} : ∀ (row : Row) (p : Cost), (row.foldl (cst kept shared) p).1 = p.1 - ((row.map (·.1)).countP (fun x => isIn x shared) : Int) ∧ (row.foldl (cst kept shared) p).2.1 = p.2.1 + ((row.map (·.1)).countP (fun x => !isIn x kept) : Int)
  | [], p => by simp
  | b :: row, p => by
    obtain ⟨h1, h2⟩ := foldl_cost row (cst kept shared p b)
    rw [List.foldl_cons, h1, h2, List.map_cons, List.countP_cons, List.countP_cons]
    unfold cst
    constructor
    · simp only; split <;> simp_all <;> omega
    · simp only
      cases isIn b.1 kept <;> simp <;> omega
theorem rowEnd {kept shared : List Int} (row : Row) (c : Int) : RowEnd kept shared row (endOf kept shared row c) := by
  obtain ⟨h1, h2⟩ := foldl_cost (kept := kept) (shared := shared) row c0
  refine ⟨?_, ?_, cost_nums row⟩
  · show (cost kept shared row).1 = _
    unfold cost; rw [h1]; show (0 : Int) - _ = _; omega
  · show (cost kept shared row).2.1 = _
    unfold cost; rw [h2]; show (0 : Int) + _ = _; omega
variable {kept shared : List Int} {sp : Spn} {rs : List Rde} {s g : Str} {t : Int} {found : List Row}
theorem ends_row (w : Wys sp rs s g t found) {e : EndC} (h : Ends kept shared sp rs s g t e) : ∃ row ∈ found, RowEnd kept shared row e := by
  rcases h with ⟨rfl, e⟩ | ⟨row, a, ha, e, rfl⟩
  · exact ⟨[], (w.mem _).mpr (.inl ⟨rfl, e⟩), by simp, by simp, rfl⟩
  · exact ⟨row, (w.mem _).mpr (.inr ⟨a, ha, e⟩), rowEnd row _⟩
theorem row_ends (w : Wys sp rs s g t found) {row : Row} (h : row ∈ found) : ∃ e, Ends kept shared sp rs s g t e ∧ RowEnd kept shared row e := by
  rcases (w.mem row).mp h with ⟨rfl, e⟩ | ⟨a, ha, e⟩
  · exact ⟨(0, 0, t, 0, []), .inl ⟨rfl, e⟩, by simp, by simp, rfl⟩
  · exact ⟨_, .inr ⟨row, a, ha, e, rfl⟩, rowEnd row _⟩
theorem LeastCh.row (w : Wys sp rs s g t found) {ns : List Int} (h : LeastCh kept shared sp rs s g t (some ns)) : ∃ e, (∃ row ∈ found, RowEnd kept shared row e) ∧ (∀ row ∈ found, ∃ e', RowEnd kept shared row e' ∧ dlt (R := rEnd) e' e = false) ∧ ns = e.2.2.2.2 := by
  obtain ⟨e, h1, h2, h3⟩ := h.so ns rfl
  exact ⟨e, ends_row w h1, fun row hr => (row_ends w hr).imp fun e' z => ⟨z.2, h2 e' z.1⟩, h3⟩
theorem LeastCh.isn (w : Wys sp rs s g t found) {o : Option (List Int)} (h : LeastCh kept shared sp rs s g t o) : o = none ↔ found = [] := by
  constructor
  · intro e
    refine List.eq_nil_iff_forall_not_mem.mpr fun row hr => ?_
    obtain ⟨e', h1, _⟩ := row_ends (kept := kept) (shared := shared) w hr
    exact h.no e e' h1
  · intro e
    cases o with
    | none => rfl
    | some ns =>
      obtain ⟨e', ⟨row, hr, _⟩, _⟩ := h.row w
      rw [e] at hr; cases hr
theorem ends_mono {rs' : List Rde} (h : ∀ r ∈ rs, r ∈ rs') {e : EndC} (q : Ends kept shared sp rs s g t e) : Ends kept shared sp rs' s g t e := by
  rcases q with z | ⟨row, a, ha, z⟩
  · exact .inl z
  · exact .inr ⟨row, a, ha.mono h, z⟩
end Wf
namespace Wf
open PySem L2
/-! ### _law_bars -/
def lbars_j4 (s : Unit) : Res Unit (Lo (Unit) Bool) :=
  Res.ok (Lo.go ())
def lbars_b2 (spans_ : (List (Str × Int))) (paper_ : (List (Str × Int))) (place_ : Str) (moment_ : Int) (s : Unit) (x : (Int × Str × Str × Int × Int)) : Res Unit (Lo (Unit) Bool) :=
  Res.bnd (Res.ok ((decide (x.2.1 = place_) && decide (moment_ ≤ x.2.2.2.1))) : R0 Bool) () fun b9 => bif b9 then (
  Res.bnd (gd (List.length paper_ ≤ sizeLine) (compR (fun y11 : (Str × Int) => (Res.ok (decide (y11.1 = x.2.2.1)) : R0 Bool)) (fun y11 : (Str × Int) => (Res.ok (y11.2) : R0 Int)) paper_)) () fun due_10 =>
  Res.bnd (bif (! (!List.isEmpty due_10)) then Res.ok true else (Res.bind (gd (inR due_10 (0 : Int)) (Res.ok ((ix due_10 (0 : Int))))) fun v13 => Res.bind (Res.bind (gd (has spans_ x.2.2.1 = true) (Res.ok ((Option.getD (look spans_ x.2.2.1) default)))) fun v12 => Res.ok ((x.2.2.2.2 + v12))) fun v14 => Res.ok (decide (v13 > v14)))) () fun b15 => bif b15 then (
  Res.bnd (Res.ok (false) : R0 Bool) () fun r16 => Res.ok (Lo.out (r16))) else (
  lbars_j4 ())) else (
  lbars_j4 ())
def lbars_k3 (s : Unit) : Res Unit (Lo (Unit) Bool) :=
  Res.ok (Lo.go ())
def lbars_b0 (rides_ : (List (Int × Str × Str × Int × Int))) (spans_ : (List (Str × Int))) (start_ : Str) (since_ : Int) (paper_ : (List (Str × Int))) (s : Unit) (x : (Str × Int)) : Res Unit (Lo (Unit) Bool) :=
  Res.bnd (Res.ok ((decide (x.1 = start_) && decide (x.2 > since_))) : R0 Bool) () fun b7 => bif b7 then (
  Res.bnd (Res.ok (false) : R0 Bool) () fun r8 => Res.ok (Lo.out (r8))) else (
  Res.bnd (Res.ok rides_ : R0 (List (Int × Str × Str × Int × Int))) () fun xs17 => forK (lbars_b2 spans_ paper_ x.1 x.2) (lbars_k3) (fun r => Lo.out (r)) xs17 ())
def lbars_k1 (s : Unit) : R0 Bool :=
  Res.bnd (Res.ok (true) : R0 Bool) () fun r18 => Res.ok (r18)
def m_lbars (rides_ : (List (Int × Str × Str × Int × Int))) (spans_ : (List (Str × Int))) (start_ : Str) (goal_ : Str) (since_ : Int) (paper_ : (List (Str × Int))) : R0 Bool :=
  Res.bnd (gd (List.length paper_ ≤ sizeLine) (compR (fun y2 : (Str × Int) => (Res.ok true : R0 Bool)) (fun y2 : (Str × Int) => (Res.ok (y2.1) : R0 Str)) paper_)) () fun sites_1 =>
  Res.bnd (Res.bind (Res.bind (gd (CFew sites_1) (Res.ok (((List.length (ded sites_1) : Nat) : Int)))) fun v3 => Res.ok ((!decide (v3 = ((List.length sites_1 : Nat) : Int))))) fun v4 => bif v4 then Res.ok true else (Res.ok (((isIn goal_ sites_1) || (!isIn start_ sites_1))) : R0 Bool)) () fun b5 => bif b5 then (
  Res.bnd (Res.ok (false) : R0 Bool) () fun r6 => Res.ok (r6)) else (
  Res.bnd (Res.ok paper_ : R0 (List (Str × Int))) () fun xs19 => forK (lbars_b0 rides_ spans_ start_ since_ paper_) (lbars_k1) (fun r => r) xs19 ())
end Wf
/-! the four-row `!=` as a test and as a value. -/
namespace Wf
open PySem PySem.Spec PyProof.Rows L2
section
variable {X : Cx} {Γ : Gm} {P : Program} {w : World} {K : PySem.W.Frag} {mg : Str → Option Value} {base : Heap} {N : List Str} {sc : Scope} {k j : Nat} {dd : Bool}
variable {α β γ κ δ ε : Type} {R1 : Rp α} {R2 : Rp δ} {R3 : Rp γ} {R4 : Rp ε}
theorem xmt_neW4 [i1 : DecidableEq κ] [i2 : DecidableEq δ] [i3 : DecidableEq α] [i4 : DecidableEq γ] [i5 : DecidableEq ε] [d1 : Dat R1] [d2 : Dat R2] [d3 : Dat R3] [d4 : Dat R4] (C : Ctx X P w K mg base N sc k dd) {A : KF κ} {a b : Expr} {pos : Pos} {ma mb : R0 (α × List (κ × δ) × γ × ε)}
    (ha : XM X Γ a (fz (rLw (wc R1 (wc (rK A R2) (wc R3 (w1 R4)))))) ma) (hb : XM X Γ b (fz (rLw (wc R1 (wc (rK A R2) (wc R3 (w1 R4)))))) mb)
    (h1 : d1.dep ≤ 60 := by decide) (h2 : d2.dep ≤ 60 := by decide) (h3 : d3.dep ≤ 60 := by decide) (h4 : d4.dep ≤ 60 := by decide) (hm : behindInMarks CmpOp.NotEq b = false := by first | exact nomark _ | rfl) :
    XMT X Γ (.Compare a [.NotEq] [b] pos) (ma.bind fun x => mb.bind fun y => gd (CEq4 x y) (.ok false)) :=
  @xmt_cmpG X _ _ Γ _ _ a b pos ma mb CEq4 .NotEq (fun _ _ => false) (fun x y => @instDecidableCEq4OfDecidableEq α γ κ δ ε i1 i2 i3 i4 i5 x y) (o_neW4 C h1 h2 h3 h4) ha hb hm
end
end Wf
/-! The law's own look at a paper. -/
namespace Wf
open PySem L2
theorem fold_ded_le : ∀ (l acc : List Str), (l.foldl PyProof.Rows.step_dedup acc).length ≤ acc.length + l.length
  | [], acc => Nat.le_refl _
  | x :: l, acc => by
    rw [List.foldl_cons]
    have := fold_ded_le l (PyProof.Rows.step_dedup acc x)
    have e := step_len acc x
    rw [List.length_cons]
    split at e <;> omega
theorem fold_ded : ∀ (l acc : List Str), (l.foldl PyProof.Rows.step_dedup acc).length = acc.length + l.length ↔ l.Nodup ∧ ∀ x ∈ l, x ∉ acc
  | [], acc => by simp
  | x :: l, acc => by
    rw [List.foldl_cons, List.nodup_cons]
    have e := step_len acc x
    by_cases h : acc.any (· == x) = true
    · have hx : x ∈ acc := by
        obtain ⟨y, hy, q⟩ := List.any_eq_true.mp h
        have : y = x := by simpa using q
        rw [← this]; exact hy
      have e2 : PyProof.Rows.step_dedup acc x = acc := if_pos h
      rw [e2]
      have := fold_ded_le l acc
      constructor
      · intro q; simp only [List.length_cons] at q; omega
      · intro q; exact absurd hx (q.2 x (by simp))
    · have hx : x ∉ acc := fun z => h (List.any_eq_true.mpr ⟨x, z, by simp⟩)
      have e2 : PyProof.Rows.step_dedup acc x = acc ++ [x] := if_neg h
      rw [e2, show acc.length + (x :: l).length = (acc ++ [x]).length + l.length by simp; omega, fold_ded l (acc ++ [x])]
      constructor
      · rintro ⟨h1, h2⟩
        refine ⟨⟨fun z => h2 x z (by simp), h1⟩, fun y hy => ?_⟩
        rcases List.mem_cons.mp hy with rfl | hy
        · exact hx
        · exact fun z => h2 y hy (List.mem_append_left _ z)
      · rintro ⟨⟨h1, h2⟩, h3⟩
        refine ⟨h2, fun y hy z => ?_⟩
        rcases List.mem_append.mp z with z | z
        · exact h3 y (List.mem_cons_of_mem _ hy) z
        · have : y = x := by simpa using z
          exact h1 (this ▸ hy)
theorem ded_nodup (l : List Str) : (ded l).length = l.length ↔ l.Nodup := by
  have := fold_ded l []
  simpa [ded] using this
theorem due_look {paper : Spn} (k : Str) : ((paper.filter fun y : Str × Int => decide (y.1 = k)).map fun y => y.2).head? = look paper k := by
  unfold look
  rw [List.head?_map, List.head?_filter]
theorem ix_head {xs : List Int} {v : Int} (h : xs.head? = some v) : inR xs 0 ∧ ix xs 0 = v := by
  cases xs with
  | nil => cases h
  | cons x xs =>
    cases h
    refine ⟨inR_of (by omega) (by simp only [List.length_cons]; omega), ?_⟩
    rw [ix_get (by omega) (by simp only [List.length_cons]; omega)]; rfl
theorem lbars_ok {sp : Spn} {rs : List Rde} (hs : ∀ r ∈ rs, has sp r.2.2.1 = true) (s g : Str) (t : Int) (paper : Spn) (hl : paper.length ≤ 1000) : Ok (m_lbars rs sp s g t paper) (fun b => b = true ↔ barsP sp rs s g t paper) := by
  have z1 := sizeLine_eq
  unfold m_lbars
  simp only [ok_bind, ok_bnd, ok_ok, ok_gd, ok_cond]
  refine ⟨by omega, ok_comp (fun _ => true) (fun y : Str × Int => y.1) (fun _ _ => rfl) (fun _ _ _ => rfl) ?_⟩
  rw [List.filter_eq_self.mpr (fun _ _ => rfl)]
  have cf : CFew (paper.map fun y : Str × Int => y.1) := by unfold CFew; rw [List.length_map]; exact hl
  have keys : ∀ k, isIn k (paper.map fun y : Str × Int => y.1) = has paper k := fun k => by
    rw [Bool.eq_iff_iff, isIn_t, has_key]
  rw [keys, keys]
  have no : ∀ {P : Prop}, (barsP sp rs s g t paper → False) → (false = true ↔ barsP sp rs s g t paper) := fun h => ⟨fun z => (nomatch z), fun z => (h z).elim⟩
  have main : Uq paper → look paper g = none → (∃ u, look paper s = some u) → Ok (forK (lbars_b0 rs sp s t paper) lbars_k1 (fun r => r) paper ()) (fun b => b = true ↔ barsP sp rs s g t paper) := fun hu hg hst => by
    refine ok_for (fun pre _ => ∀ x ∈ pre, (x.1 = s → x.2 ≤ t) ∧ ∀ r ∈ rs, x.1 = r.2.1 → x.2 ≤ r.2.2.2.1 → ∃ v, look paper r.2.2.1 = some v ∧ v ≤ r.2.2.2.2 + spf sp r.2.2.1) (fun x hx => by cases hx) (fun a x b _ e hI => ?_) fun _ hI => ?_
    · have hx : look paper x.1 = some x.2 := (mem_look hu).mp (by rw [e]; simp)
      unfold lbars_b0
      simp only [ok_bind, ok_bnd, ok_ok, ok_gd, ok_cond]
      refine ⟨fun e1 => no (P := True) fun z => ?_, fun e1 => ?_⟩
      · simp only [Bool.and_eq_true, decide_eq_true_eq] at e1
        obtain ⟨u, h1, h2⟩ := z.2.s
        rw [e1.1, h1] at hx
        cases hx; omega
      · refine ok_for (fun pre _ => ∀ r ∈ pre, x.1 = r.2.1 → x.2 ≤ r.2.2.2.1 → ∃ v, look paper r.2.2.1 = some v ∧ v ≤ r.2.2.2.2 + spf sp r.2.2.1) (fun r hr => by cases hr) (fun a2 q b2 _ e2 hI2 => ?_) fun _ hI2 => ?_
        · have hq : q ∈ rs := by rw [e2]; simp
          have add : (x.1 = q.2.1 → x.2 ≤ q.2.2.2.1 → ∃ v, look paper q.2.2.1 = some v ∧ v ≤ q.2.2.2.2 + spf sp q.2.2.1) → ∀ r ∈ a2 ++ [q], x.1 = r.2.1 → x.2 ≤ r.2.2.2.1 → ∃ v, look paper r.2.2.1 = some v ∧ v ≤ r.2.2.2.2 + spf sp r.2.2.1 := fun h r hr => by
            rcases List.mem_append.mp hr with z | z
            · exact hI2 r z
            · have : r = q := by simpa using z
              subst this; exact h
          unfold lbars_b2
          simp only [ok_bind, ok_bnd, ok_ok, ok_gd, ok_cond]
          refine ⟨fun e3 => ?_, fun e3 => ?_⟩
          · simp only [Bool.and_eq_true, decide_eq_true_eq] at e3
            refine ⟨by omega, ok_comp (fun y : Str × Int => decide (y.1 = q.2.2.1)) (fun y => y.2) (fun _ _ => rfl) (fun _ _ _ => rfl) ?_⟩
            have hh := due_look (paper := paper) q.2.2.1
            generalize ((paper.filter fun y : Str × Int => decide (y.1 = q.2.2.1)).map fun y => y.2) = due at hh
            cases due with
            | nil =>
              have hn : look paper q.2.2.1 = none := hh.symm
              refine ⟨fun _ => ⟨fun _ => no (P := True) fun z => ?_, fun z => (nomatch z)⟩, fun z => by simp at z⟩
              obtain ⟨v, h1, _⟩ := z.2.c q hq x.2 (by rw [e3.1]; exact hx) e3.2
              rw [hn] at h1; cases h1
            | cons v dd =>
              have hv : look paper q.2.2.1 = some v := hh.symm
              obtain ⟨i1, i2⟩ := ix_head (xs := v :: dd) rfl
              have es : (look sp q.2.2.1).getD default = spf sp q.2.2.1 := rfl
              rw [i2, es]
              refine ⟨fun z => by simp at z, fun _ => ⟨i1, hs q hq, fun e4 => no (P := True) fun z => ?_, fun e4 => ?_⟩⟩
              · have e4 := of_decide_eq_true e4
                obtain ⟨v', h1, h2⟩ := z.2.c q hq x.2 (by rw [e3.1]; exact hx) e3.2
                rw [hv] at h1; cases h1; omega
              · have e4 := of_decide_eq_false e4
                unfold lbars_j4
                exact add fun _ _ => ⟨v, hv, by omega⟩
          · unfold lbars_j4
            refine add fun h1 h2 => ?_
            simp [h1, h2] at e3
        · unfold lbars_k3
          refine fun y hy => ?_
          rcases List.mem_append.mp hy with z | z
          · exact hI y z
          · have : y = x := by simpa using z
            subst this
            exact ⟨fun e5 => by simp [e5] at e1; omega, hI2⟩
    · unfold lbars_k1
      simp only [ok_bind, ok_bnd, ok_ok, ok_gd, ok_cond]
      obtain ⟨u, hu2⟩ := hst
      refine ⟨fun _ => ⟨hu, hg, ⟨u, hu2, (hI (s, u) ((mem_look hu).mpr hu2)).1 rfl⟩, fun r hr v hv hvl => ?_⟩, fun _ => trivial⟩
      exact (hI (r.2.1, v) ((mem_look hu).mpr hv)).2 r hr rfl hvl
  refine ⟨cf, fun e1 => ⟨fun _ => no (P := True) fun z => ?_, fun z => (nomatch z)⟩, fun e1 => ⟨fun e2 => no (P := True) fun z => ?_, fun e2 => ?_⟩⟩
  · have := (ded_nodup (paper.map fun y : Str × Int => y.1)).mpr z.1
    simp [this] at e1
  · rcases Bool.or_eq_true_iff.mp e2 with h | h
    · obtain ⟨v, hv⟩ := has_iff.mp h
      rw [z.2.g] at hv; cases hv
    · obtain ⟨u, hu, _⟩ := z.2.s
      rw [has_of hu] at h; cases h
  · have hu : Uq paper := (ded_nodup _).mp (by
      have : ((ded (paper.map fun y : Str × Int => y.1)).length : Int) = ((paper.map fun y : Str × Int => y.1).length : Int) := by simpa using e1
      omega)
    obtain ⟨h1, h2⟩ := Bool.or_eq_false_iff.mp e2
    refine main hu (has_f.mp h1) (has_iff.mp ?_)
    simpa using h2
theorem paper_bars' {sp : Spn} {rs : List Rde} {s g : Str} {t : Int} {d : Spn} (sd : Soon sp rs s t d) (hg : look d g = none) : barsP sp rs s g t (srt rSI d) := by
  have p := srt_perm (R := rSI) d
  have u : Uq (srt rSI d) := (p.map (fun z : Str × Int => z.1)).nodup_iff.mpr sd.uq
  refine ⟨u, ?_⟩
  have e : look (srt rSI d) = look d := funext fun k => look_perm p u k
  rw [e]; exact sd.cert' hg
end Wf
/-! A dict that is locked while it is gone through by its keys; d.get(k, x). -/
namespace Wf
open PySem PySem.Spec PyProof.Rows L2
/-- no deed of raising: where one was, nothing is said -/
def noEx {β α : Type} : Res β α → Res β α
  | .ok x => .ok x
  | _ => .bad
theorem noEx_ok {β α : Type} {m : Res β α} {x : α} (h : m = .ok x) : noEx m = .ok x := by rw [h]; rfl
/-- a locked dict -/
def rKl {κ α : Type} (A : KF κ) (R : Rp α) : Rp (List (κ × α)) := ⟨fun F v xs => xs.length ≤ sizeLine ∧ ∃ p vs o, v = .ref p ∧ F p = some (.frz o (.dK vs)) ∧ Paired (fun (a : Key × V) (b : κ × α) => a.1 = A.f b.1 ∧ A.nice b.1 ∧ R.ok F a.2 b.2) vs xs,
  fun s ⟨z, p, vs, o, e, h, q⟩ => ⟨z, p, vs, o, e, s _ _ h, kv_mono s q⟩⟩
theorem vw_lk {x : Option HO} {o : Obj} {u : HO} (h : vw x = some (.frz o u)) : x = some (.frz o u) := by
  cases x with
  | none => cases h
  | some w =>
    cases w with
    | tbl _ => cases h
    | _ => exact h
theorem bfKl {κ α : Type} {A : KF κ} {R : Rp α} : Bf (rKl A R) (bK A R) := ⟨fun s ⟨z, p, vs, o, e, h, q⟩ => ⟨z, p, vs, e, .inr ⟨o, vw_lk (s _ _ h)⟩, q⟩⟩
section
variable {X : Cx} {Γ : Gm} {P : Program} {w : World} {K : PySem.W.Frag} {mg : Str → Option Value} {base : Heap} {N : List Str} {sc : Scope} {k j : Nat} {dd : Bool}
variable {α κ : Type} {R : Rp α} {tg iter a b c e : Expr}
theorem xi_keys {A : KF κ} {mx : R0 (List (κ × α))} (hh : XM X Γ iter (fz (rKl A R)) mx) : XI X Γ tg iter A.R (mx.bind fun d => .ok (d.map fun z => z.1)) := by
  refine ⟨_, pi_keys (pe_ iter), fun σ F H D g en R' W tk q => hh σ F H D g en _ W tk ?_⟩
  cases mx with
  | bad => exact q
  | ex ε u => exact q
  | ok xs =>
    intro v F1 H1 g1 ⟨hz, p, vs, o, e, hp, pr⟩
    refine ⟨p, o, e, .inl ⟨vs, vw_lk (g1.fh _ _ hp), q _ F1 H1 g1 fun i F' H' s1 s2 => ?_⟩⟩
    have hp' : H' p = some (.frz o (.dK vs)) := vw_lk (s2 _ _ (s1 _ _ hp))
    have hl : vs.length = xs.length := pr.length
    refine ⟨fun e => ⟨hp', by rw [e, List.length_map]; omega⟩, fun x hx => ?_⟩
    rw [List.getElem?_map] at hx
    cases hxi : xs[i]? with
    | none => rw [hxi] at hx; cases hx
    | some y =>
      rw [hxi] at hx
      cases hx
      have hi : i < vs.length := by rw [hl]; exact (List.getElem?_eq_some_iff.mp hxi).1
      refine ⟨⟨hp', hi⟩, fun v H'' ⟨e, k, v', e1, e2⟩ => ?_⟩
      subst e e2
      obtain ⟨y', e3, r1, r2, r3⟩ := pr.get e1
      rw [hxi] at e3; cases e3
      refine ⟨F', .refl s2, ?_⟩
      rw [show k = A.f y.1 from r1]
      exact A.of r2
/-- the names as they stand, one dict of them locked -/
theorem env_lk {A : KF κ} {d : List (κ × α)} {F H G H1 : Hp} {p : Addr} {o : Obj} {vs : List (Key × V)} (s : Same F G) (hp : H p = some (.dK vs)) (hG : G p = some (.frz o (.dK vs))) : ∀ {D : List Addr} {Γ : Gm} {σ : L2.St} (i : Nat), D.Nodup → (∀ q ∈ D, q ≠ p → G q = vw (H q)) → Env F H D Γ σ → Γ[i]? = some (.res (oK A R) d) → σ[i]? = some (some (V.ref p)) → Env G H1 [] ((view Γ).set i (.is (rKl A R) d)) σ
  | _, [], _, _, _, _, _, e, _ => by simp at e
  | _, _ :: _, [], _, _, _, h, _, _ => h.elim
  | D, s0 :: Γ, ov :: σ, 0, nd, k, ⟨D1, D2, e, h, q⟩, he, hs => by
    obtain rfl : s0 = .res (oK A R) d := by simpa using he
    obtain rfl : ov = some (V.ref p) := by simpa using hs
    obtain ⟨v, e', z, p', us, e2, d1, h1, pr⟩ := h
    cases e'
    cases e2
    rw [hp] at h1
    cases h1
    subst d1
    rw [e] at nd
    have np : p ∉ D2 := (List.nodup_cons.mp nd).1
    refine ⟨[], [], rfl, ⟨rfl, _, rfl, z, p, vs, o, rfl, hG, kv_mono s pr⟩, ?_⟩
    have := Env.view s (fun q hq => k q (by rw [e]; exact List.mem_append_right _ hq) (fun z => np (z ▸ hq))) q
    exact this.mono (.refl _) fun _ hq => by cases hq
  | D, s0 :: Γ, ov :: σ, i + 1, nd, k, ⟨D1, D2, e, h, q⟩, he, hs => by
    have he' : Γ[i]? = some (.res (oK A R) d) := by simpa using he
    have hs' : σ[i]? = some (some (V.ref p)) := by simpa using hs
    rw [e, List.nodup_append] at nd
    have pD : p ∈ D2 := by
      obtain ⟨D3, o3, h1, h2, v3, e3, z, p', us, e2, d1, h3, _⟩ := q.get he'
      rw [hs'] at h1
      cases h1
      cases e3
      cases e2
      exact h2.subset (by rw [d1]; simp)
    have k1 : ∀ q ∈ D1, G q = vw (H q) := fun q hq => k q (by rw [e]; exact List.mem_append_left _ hq) fun z => nd.2.2 q hq p pD z
    refine ⟨[], [], rfl, ?_, env_lk s hp hG i nd.2.1 (fun q hq => k q (by rw [e]; exact List.mem_append_right _ hq)) q he' hs'⟩
    cases s0 with
    | any => rfl
    | is R x => obtain ⟨d, v, e', q'⟩ := h; exact ⟨rfl, v, e', R.mono s q'⟩
    | res A x => obtain ⟨v, e', q'⟩ := h; exact ⟨rfl, v, e', A.read k1 s q'⟩
/-- a new list of data made while one's own dict is locked -/
theorem xmo_lockV {A : KF κ} {d : List (κ × α)} {β : Type} {R' : Rp β} {m : R0 (List β)} [i' : Imm R'] (i : Nat) (og : OwnG Γ) (h : XMO X ((view Γ).set i (.is (rKl A R) d)) e (oL R') m) (hs : Γ[i]? = some (.res (oK A R) d) := by rfl) : XMO X Γ e (oL R') (noEx m) := by
  intro σ F H D g en Q W tk q
  obtain ⟨D1, o1, h1, h2, v, e3, z, p, vs, e2, d1, hp, pr⟩ := en.get hs
  subst e3 e2 d1
  have pD : p ∈ D := h2.subset (by simp)
  have Fp : F p = none := g.dF p pD
  refine (pe_lock (pe_ e)).wp ⟨p, .dK vs, hp, trivial, fun od => ?_⟩
  have nt : noTb (.frz od (.dK vs)) := by intro _ z; cases z
  have nt0 : noTb (.dK vs) := by intro _ z; cases z
  have g1 : Good X.K F (upd H p (.frz od (.dK vs))) D := by
    refine ⟨fun q o eq => ?_, g.nd, g.dF, fun q hq => (g.dH q hq).upd nt, fun q hq o eq => ?_, tb_upd hp nt0 (fun _ z => by cases z) g.tb⟩
    · have : q ≠ p := fun z => by rw [z, Fp] at eq; cases eq
      have := g.fh q o eq
      unfold Vw at this ⊢
      rwa [upd_ne ‹q ≠ p›]
    · by_cases z : q = p
      · subst z; rw [upd_same] at eq; cases eq; exact nt
      · rw [upd_ne z] at eq; exact g.dT q hq o eq
  obtain ⟨s1, s2⟩ := g1.ovl
  have ovp : ovl F (upd H p (.frz od (.dK vs))) D p = some (.frz od (.dK vs)) := by rw [ovl_in pD, upd_same]; rfl
  refine h σ (ovl F (upd H p (.frz od (.dK vs))) D) (upd H p (.frz od (.dK vs))) [] (.nil s2 g1.tb) (env_lk s1 hp ovp i g.nd (fun q hq ne => by rw [ovl_in hq, upd_ne ne]) en hs h1) _ W tk ?_
  cases m with
  | bad => exact q
  | ex ε u => exact q.elim
  | ok x =>
    rintro v F2 H2 D' a ⟨hz, p', us, ev, rfl, hp', pr'⟩
    have H2p : H2 p = some (.frz od (.dK vs)) := a.keep p _ upd_same nt (by simp)
    refine ⟨H2p, ?_⟩
    have pp : p' ≠ p := fun z => by rw [z, H2p] at hp'; cases hp'
    have dF2 := a.dF p' (by simp)
    have keepq : ∀ q o, H q = some o → noTb o → q ≠ p → H2 q = some o := fun q o h3 h4 ne => a.keep q o (by rw [upd_ne ne]; exact h3) h4 (by simp)
    have keep3 : ∀ q o, H q = some o → noTb o → upd H2 p (.dK vs) q = some o := fun q o h3 h4 => by
      by_cases ne : q = p
      · subst ne; rw [upd_same]; rw [hp] at h3; exact h3
      · rw [upd_ne ne]; exact keepq q o h3 h4 ne
    have p'n : ¬ Th H p' := by
      rcases a.dN p' (by simp) with z | z
      · cases z
      · exact fun t => z (t.upd nt)
    refine q v (fun q => if q ∈ D then none else F2 q) _ [p'] ⟨fun q o eq => ?_, fun q o eq => ?_, fun q o h3 h4 _ => keep3 q o h3 h4, fun q ⟨o, h3, h4⟩ => ⟨o, keep3 q o h3 h4, h4⟩, fun q h3 h4 _ => ?_, a.nd, fun q hq => ?_, fun q hq => ?_, fun q hq o eq => ?_, fun q hq => ?_, fun t => ?_⟩ ⟨hz, p', us, ev, rfl, by rw [upd_ne pp]; exact hp', imm_prd (fun q us eq => ?_) pr'⟩
    · have hq : q ∉ D := fun hq => by rw [g.dF q hq] at eq; cases eq
      rw [if_neg hq]
      exact a.ff _ _ (by rw [ovl_out hq]; exact eq)
    · by_cases hq : q ∈ D
      · rw [if_pos hq] at eq; cases eq
      · rw [if_neg hq] at eq
        have : q ≠ p := fun z => hq (z ▸ pD)
        have h5 := a.fh q o eq
        unfold Vw at h5 ⊢
        rwa [upd_ne this]
    · by_cases hq : q ∈ D
      · rw [if_pos hq]
      · rw [if_neg hq]
        exact a.new q (by rw [ovl_out hq]; exact h3) (h4.upd nt) (by simp)
    · obtain rfl : q = p' := by simpa using hq
      by_cases hq : q ∈ D
      · rw [if_pos hq]
      · rw [if_neg hq]; exact dF2
    · obtain rfl : q = p' := by simpa using hq
      exact (a.dH q (by simp)).upd nt0
    · obtain rfl : q = p' := by simpa using hq
      rw [upd_ne pp] at eq
      exact a.dT q (by simp) o eq
    · obtain rfl : q = p' := by simpa using hq
      exact .inr p'n
    · exact tb_upd H2p nt (fun _ z => by cases z) (a.tb (tb_upd hp nt0 (fun _ z => by cases z) t))
    · have hq : q ∉ D := fun hq => by
        by_cases ne : q = p
        · subst ne
          have := a.ff _ _ ovp
          rw [this] at eq; cases eq
        · obtain ⟨o, ho, t'⟩ := g.dH q hq
          have h6 : ovl F (upd H p (.frz od (.dK vs))) D q = vw (some o) := by rw [ovl_in hq, upd_ne ne, ho]
          have h7 : vw (some o) = some o := by
            cases o with
            | tbl ps => exact absurd rfl (t' ps)
            | _ => rfl
          rw [h7] at h6
          have := a.ff _ _ h6
          rw [this] at eq
          cases eq
          exact og.no en q hq _ (.inl ⟨us, rfl⟩) ho
      exact (if_neg hq).trans eq
/-- d.get(k, x) -/
theorem xm_dgetX [DecidableEq κ] (C : Ctx X P w K mg base N sc k dd) {A : KF κ} {m : R0 (List (κ × α))} {mq : R0 κ} {mx : R0 α} {apos cpos : Pos} (ha : XM X Γ a (bK A R) m) (hb : XM X Γ b (fz A.R) mq) (hc : XM X Γ c (fz R) mx) (hm : M2 X a "get" apos b c cpos := by exact ⟨rfl, rfl, rfl, rfl⟩) : XM X Γ (.Call (.Attribute a "get" apos) [b, c] [] cpos) (fz R) (m.bind fun d => mq.bind fun q => mx.bind fun x => .ok ((look d q).getD x)) := by
  intro σ F H D g en Q W tk hq
  have hu := C.hu65
  refine (pe_dget2 (by omega) (pe_ a) (pe_ b) (pe_ c) hm).wp (ha σ F H D g en _ W tk ?_)
  cases m with
  | bad => exact hq
  | ex ε u => exact hq
  | ok d =>
    intro v F1 H1 g1 ⟨z, p, vs, ev, hp, pr⟩
    refine ⟨p, ev, .inl ⟨vs, hp⟩, ?_⟩
    refine two (C := fz R) (P := wpE X) (f := fun q x => .ok ((look d q).getD x)) (Q0 := Q) hb hc (g.grow g1) (en.grow g g1) tk ?_ fun q x _ _ v2 u2 F2 H2 g2 r2 r3 q2 => ?_
    · have hq : PM X (fz R) (mq.bind fun q => mx.bind fun x => .ok ((look d q).getD x)) Q W σ F H := hq
      revert hq
      cases (mq.bind fun q => mx.bind fun x => (.ok ((look d q).getD x) : R0 α)) with
      | bad => exact id
      | ex ε u => exact fun h c d F' H' g' => h c d F' H' (g1.trans g')
      | ok z => exact fun h v F' H' g' => h v F' H' (g1.trans g')
    · have g3 := g1.trans g2
      have pr2 := kv_mono g2.ff pr
      have l := prd_look A.inj pr2 q
      obtain ⟨eu, nu⟩ := A.to r2
      have hp2 : Rd H2 p (.dK vs) := Rd.grow (by intro _ z; cases z) g2 hp
      cases hl : look d q with
      | none =>
        rw [hl] at l q2
        exact ⟨none, .inl ⟨vs, A.f q, hp2, eu, l.symm⟩, q2 u2 F2 H2 (.refl g2.fh) r3⟩
      | some z' =>
        rw [hl] at l q2
        obtain ⟨v', e1, r⟩ := l
        exact ⟨some v', .inl ⟨vs, A.f q, hp2, eu, e1.symm⟩, q2 v' F2 H2 (.refl g2.fh) r⟩
end
/-- the sort by one whole number of a row -/
def keyL3 (r : Int × Str × Str × Int × Int) : PyData := .int r.2.2.2.1
theorem keyL3_kk {F : Hp} {vs : List V} {x : Int × Str × Str × Int × Int} {its : List Value} (h : (wc rI (wc rS (wc rS (wc rI (w1 rI))))).ok F vs x) (v : Vals vs its) : its.length ≤ 1000 ∧ kk1 3 its (keyL3 x) := by
  obtain ⟨v0, _, rfl, r0, v1, _, rfl, r1, v2, _, rfl, r2, v3, _, rfl, r3, v4, rfl, r4⟩ := h
  cases r0; cases r3; cases r4
  obtain ⟨r1, _⟩ := r1
  obtain ⟨r2, _⟩ := r2
  subst r1 r2
  cases v with
  | cons a0 v => cases v with
    | cons a1 v => cases v with
      | cons a2 v => cases v with
        | cons a3 v => cases v with
          | cons a4 v =>
            cases v
            obtain ⟨t3, rfl⟩ := a3
            exact ⟨by simp, _, _, rfl, rfl⟩
theorem keyL3_al (a b : Int × Str × Str × Int × Int) : PySem.W.alike (keyL3 a) (keyL3 b) = true := by simp [keyL3, PySem.W.alike]
theorem keyL3_dep (x : Int × Str × Str × Int × Int) : (keyL3 x).depth ≤ 10 := by simp [keyL3, PyData.depth]
end Wf
/-! .. and dicts gone through. -/
namespace Wf
open PySem L2
/-! ### _law_plan -/
def plan_j4 (s : (List (Int × (Int × Int × Int × (List Int)))) × (List (Int × Int × Int × Int × (List Int)))) : Res Unit (Lo ((List (Int × (Int × Int × Int × (List Int)))) × (List (Int × Int × Int × Int × (List Int)))) (Option (List Int))) :=
  Res.ok (Lo.go (s.1, s.2))
def plan_j5 (best_ : (List (Int × (Int × Int × Int × (List Int))))) (s : (List (Int × Int × Int × Int × (List Int)))) : Res Unit (Lo ((List (Int × (Int × Int × Int × (List Int)))) × (List (Int × Int × Int × Int × (List Int)))) (Option (List Int))) :=
  plan_j4 (best_, s)
def plan_j3 (goal_ : Str) (kept_ : (List Int)) (shared_ : (List Int)) (best_ : (List (Int × (Int × Int × Int × (List Int))))) (found_ : (List (Int × Int × Int × Int × (List Int)))) (ride_ : (Int × Str × Str × Int × Int)) (s : (List (Int × Int × Int × (List Int)))) : Res Unit (Lo ((List (Int × (Int × Int × Int × (List Int)))) × (List (Int × Int × Int × Int × (List Int)))) (Option (List Int))) :=
  Res.bnd (Res.ok ((!List.isEmpty s)) : R0 Bool) () fun b8 => bif b8 then (
  Res.bnd (gd (CNe s) (Res.ok ((minL (rT (wc rI (wc rI (wc rI (w1 (rL rI)))))) s)))) () fun u9 =>
  Res.bnd (Res.ok ((u9.1 - (b2n (isIn ride_.1 shared_)))) : R0 Int) () fun lost_10 =>
  Res.bnd (Res.ok ((u9.2.1 + (b2n (!isIn ride_.1 kept_)))) : R0 Int) () fun fresh_11 =>
  Res.bnd (Res.bind (Res.bind (Res.bind (gd (CCat u9.2.2.2 (ride_.1 :: [])) (Res.ok ((u9.2.2.2 ++ (ride_.1 :: []))))) fun v12 => Res.ok (((u9.2.2.1 + (1 : Int)), v12)) : R0 (Int × (List Int))) fun v13 => Res.ok ((fresh_11, v13)) : R0 (Int × Int × (List Int))) fun v14 => Res.ok ((lost_10, v14)) : R0 (Int × Int × Int × (List Int))) () fun x15 => Res.bnd (Res.ok (ride_.1) : R0 Int) () fun q16 => gd (List.length best_ ≤ 100000) (
  Res.bnd (Res.ok (decide (ride_.2.2.1 = goal_)) : R0 Bool) () fun b17 => bif b17 then (
  Res.bnd (Res.bind (Res.bind (Res.bind (Res.bind (gd (CCat u9.2.2.2 (ride_.1 :: [])) (Res.ok ((u9.2.2.2 ++ (ride_.1 :: []))))) fun v18 => Res.ok (((u9.2.2.1 + (1 : Int)), v18)) : R0 (Int × (List Int))) fun v19 => Res.ok ((ride_.2.2.2.2, v19)) : R0 (Int × Int × (List Int))) fun v20 => Res.ok ((fresh_11, v20)) : R0 (Int × Int × Int × (List Int))) fun v21 => Res.ok ((lost_10, v21)) : R0 (Int × Int × Int × Int × (List Int))) () fun x22 => gd (List.length found_ ≤ 100000) (
  plan_j5 (dput best_ q16 x15) ((found_ ++ [x22])))) else (
  plan_j5 (dput best_ q16 x15) (found_)))) else (
  plan_j4 (best_, found_))
def plan_b1 (spans_ : (List (Str × Int))) (start_ : Str) (goal_ : Str) (since_ : Int) (kept_ : (List Int)) (shared_ : (List Int)) (row_ : (List (Int × Str × Str × Int × Int))) (s : (List (Int × (Int × Int × Int × (List Int)))) × (List (Int × Int × Int × Int × (List Int)))) (x : (Int × Str × Str × Int × Int)) : Res Unit (Lo ((List (Int × (Int × Int × Int × (List Int)))) × (List (Int × Int × Int × Int × (List Int)))) (Option (List Int))) :=
  Res.bnd (gd (List.length row_ ≤ sizeLine) (compR (fun y6 : (Int × Str × Str × Int × Int) => (bif (has s.1 y6.1) then (m_hang y6 x spans_) else Res.ok false)) (fun y6 : (Int × Str × Str × Int × Int) => (gd (has s.1 y6.1 = true) (Res.ok ((Option.getD (look s.1 y6.1) default))))) row_)) () fun some_5 =>
  Res.bnd (Res.ok ((decide (x.2.1 = start_) && decide (x.2.2.2.1 ≥ since_))) : R0 Bool) () fun b7 => bif b7 then (
  Res.bnd (Res.ok (((0 : Int), ((0 : Int), ((0 : Int), ([] : (List Int)))))) : R0 (Int × Int × Int × (List Int))) () fun x23 => gd (List.length some_5 ≤ 100000) (
  plan_j3 goal_ kept_ shared_ s.1 s.2 x ((some_5 ++ [x23])))) else (
  plan_j3 goal_ kept_ shared_ s.1 s.2 x (some_5))
def plan_k2 (s : (List (Int × (Int × Int × Int × (List Int)))) × (List (Int × Int × Int × Int × (List Int)))) : R0 (Option (List Int)) :=
  Res.bnd (Res.ok ((! (!List.isEmpty s.2))) : R0 Bool) () fun b24 => bif b24 then (
  Res.bnd (Res.ok (none) : R0 (Option (List Int))) () fun r25 => Res.ok (r25)) else (
  Res.bnd (Res.bind (Res.bind (gd (CNe s.2) (Res.ok ((minL (rT (wc rI (wc rI (wc rI (wc rI (w1 (rL rI))))))) s.2)))) fun v27 => Res.ok (v27.2.2.2.2)) fun v28 => Res.ok (some v28)) () fun r26 => Res.ok (r26))
def plan_j0 (rides_ : (List (Int × Str × Str × Int × Int))) (spans_ : (List (Str × Int))) (start_ : Str) (goal_ : Str) (since_ : Int) (kept_ : (List Int)) (shared_ : (List Int)) (best_ : (List (Int × (Int × Int × Int × (List Int))))) (s : (List (Int × Int × Int × Int × (List Int)))) : R0 (Option (List Int)) :=
  Res.bnd (Res.ok ((List.mergeSort rides_ (PySem.W.dataLe false keyL3))) : R0 (List (Int × Str × Str × Int × Int))) () fun row_4 =>
  Res.bnd (Res.ok row_4 : R0 (List (Int × Str × Str × Int × Int))) () fun xs29 => forK (plan_b1 spans_ start_ goal_ since_ kept_ shared_ row_4) (plan_k2) (fun r => r) xs29 (best_, s)
def m_plan (rides_ : (List (Int × Str × Str × Int × Int))) (spans_ : (List (Str × Int))) (start_ : Str) (goal_ : Str) (since_ : Int) (kept_ : (List Int)) (shared_ : (List Int)) : R0 (Option (List Int)) :=
  Res.bnd (Res.ok (([] : (List (Int × (Int × Int × Int × (List Int)))))) : R0 (List (Int × (Int × Int × Int × (List Int))))) () fun best_1 =>
  Res.bnd (Res.ok (([] : (List (Int × Int × Int × Int × (List Int))))) : R0 (List (Int × Int × Int × Int × (List Int)))) () fun found_2 =>
  Res.bnd (Res.ok (decide (start_ = goal_)) : R0 Bool) () fun b3 => bif b3 then (
  Res.bnd (Res.ok (((0 : Int), ((0 : Int), (since_, ((0 : Int), ([] : (List Int))))))) : R0 (Int × Int × Int × Int × (List Int))) () fun x30 => gd (List.length found_2 ≤ 100000) (
  plan_j0 rides_ spans_ start_ goal_ since_ kept_ shared_ best_1 ((found_2 ++ [x30])))) else (
  plan_j0 rides_ spans_ start_ goal_ since_ kept_ shared_ best_1 (found_2))
/-! ### _law_ladder -/
def ladder_b2 (script_ : (List Int)) (names_here_ : (List Str)) (base_ : Int) (k_ : Int) (s : (List (Int × Str × Str × Int × Int))) (x : Int) : Res Unit (Lo ((List (Int × Str × Str × Int × Int))) ((List Str) × (List (Str × Int)) × (List (Int × Str × Str × Int × Int)) × Str × Str × Int)) :=
  Res.bnd (m_draws script_ ((1 : Int) + k_) (8 : Int)) () fun e_25 =>
  Res.bnd (Res.bind (Res.bind (gd (inR e_25 ((4 : Int) * x)) (Res.ok ((ix e_25 ((4 : Int) * x))))) fun v27 => Res.ok ((v27 % (3 : Int)))) fun v28 => Res.ok (((base_ + ((10 : Int) * k_)) + v28))) () fun leaves_26 =>
  Res.bnd (Res.bind (Res.bind (gd (inR names_here_ (k_ % (3 : Int))) (Res.ok ((ix names_here_ (k_ % (3 : Int)))))) fun v34 => Res.bind (Res.bind (gd (inR names_here_ ((k_ + (1 : Int)) % (3 : Int))) (Res.ok ((ix names_here_ ((k_ + (1 : Int)) % (3 : Int)))))) fun v32 => Res.bind (Res.bind (Res.bind (Res.bind (gd (inR e_25 (((4 : Int) * x) + (1 : Int))) (Res.ok ((ix e_25 (((4 : Int) * x) + (1 : Int)))))) fun v29 => Res.ok ((v29 % (6 : Int)))) fun v30 => Res.ok (((leaves_26 + (1 : Int)) + v30))) fun v31 => Res.ok ((leaves_26, v31)) : R0 (Int × Int)) fun v33 => Res.ok ((v32, v33)) : R0 (Str × Int × Int)) fun v35 => Res.ok ((v34, v35)) : R0 (Str × Str × Int × Int)) fun v36 => Res.ok (((((2 : Int) * k_) + x), v36)) : R0 (Int × Str × Str × Int × Int)) () fun x37 => gd (List.length s ≤ 100000) (
  Res.ok (Lo.go ((s ++ [x37]))))
def ladder_k3 (s : (List (Int × Str × Str × Int × Int))) : Res Unit (Lo ((List (Int × Str × Str × Int × Int))) ((List Str) × (List (Str × Int)) × (List (Int × Str × Str × Int × Int)) × Str × Str × Int)) :=
  Res.ok (Lo.go (s))
def ladder_b0 (script_ : (List Int)) (names_here_ : (List Str)) (base_ : Int) (s : (List (Int × Str × Str × Int × Int))) (x : Int) : Res Unit (Lo ((List (Int × Str × Str × Int × Int))) ((List Str) × (List (Str × Int)) × (List (Int × Str × Str × Int × Int)) × Str × Str × Int)) :=
  Res.bnd (Res.bind (Res.ok ((2 : Int)) : R0 Int) fun n24 => gd (CR62 n24) (Res.ok (upTo n24))) () fun xs38 => forK (ladder_b2 script_ names_here_ base_ x) (ladder_k3) (fun r => Lo.out (r)) xs38 (s)
def ladder_j5 (d_ : (List Int)) (names_here_ : (List Str)) (base_ : Int) (spans_ : (List (Str × Int))) (many_ : Int) (s : (List (Int × Str × Str × Int × Int))) : R0 ((List Str) × (List (Str × Int)) × (List (Int × Str × Str × Int × Int)) × Str × Str × Int) :=
  Res.bnd (Res.bind (Res.bind (Res.bind (Res.bind (gd (inR names_here_ (0 : Int)) (Res.ok ((ix names_here_ (0 : Int))))) fun v52 => Res.bind (Res.bind (gd (inR names_here_ (many_ % (3 : Int))) (Res.ok ((ix names_here_ (many_ % (3 : Int)))))) fun v50 => Res.bind (Res.bind (Res.bind (gd (inR d_ (19 : Int)) (Res.ok ((ix d_ (19 : Int))))) fun v48 => Res.ok ((v48 % (4 : Int)))) fun v49 => Res.ok ((base_ - v49))) fun v51 => Res.ok ((v50, v51)) : R0 (Str × Int)) fun v53 => Res.ok ((v52, v53)) : R0 (Str × Str × Int)) fun v54 => Res.ok ((s, v54)) : R0 ((List (Int × Str × Str × Int × Int)) × Str × Str × Int)) fun v55 => Res.ok ((spans_, v55)) : R0 ((List (Str × Int)) × (List (Int × Str × Str × Int × Int)) × Str × Str × Int)) fun v56 => Res.ok ((names_here_, v56)) : R0 ((List Str) × (List (Str × Int)) × (List (Int × Str × Str × Int × Int)) × Str × Str × Int)) () fun r47 => Res.ok (r47)
def ladder_j4 (d_ : (List Int)) (names_here_ : (List Str)) (base_ : Int) (spans_ : (List (Str × Int))) (many_ : Int) (s : (List (Int × Str × Str × Int × Int))) : R0 ((List Str) × (List (Str × Int)) × (List (Int × Str × Str × Int × Int)) × Str × Str × Int) :=
  Res.bnd (Res.bind (Res.bind (gd (inR d_ (19 : Int)) (Res.ok ((ix d_ (19 : Int))))) fun v44 => Res.ok ((v44 % (2 : Int)))) fun v45 => Res.ok (decide (v45 = (1 : Int)))) () fun b46 => bif b46 then (
  Res.bnd (Res.ok ((List.reverse s)) : R0 (List (Int × Str × Str × Int × Int))) () fun rides_57 =>
  ladder_j5 d_ names_here_ base_ spans_ many_ (rides_57)) else (
  ladder_j5 d_ names_here_ base_ spans_ many_ (s))
def ladder_k1 (d_ : (List Int)) (names_here_ : (List Str)) (base_ : Int) (spans_ : (List (Str × Int))) (many_ : Int) (s : (List (Int × Str × Str × Int × Int))) : R0 ((List Str) × (List (Str × Int)) × (List (Int × Str × Str × Int × Int)) × Str × Str × Int) :=
  Res.bnd (Res.bind (Res.bind (gd (inR d_ (19 : Int)) (Res.ok ((ix d_ (19 : Int))))) fun v40 => Res.ok ((v40 % (3 : Int)))) fun v41 => Res.ok (decide (v41 = (1 : Int)))) () fun b42 => bif b42 then (
  Res.bnd (Res.bind (gd (inR d_ (16 : Int)) (Res.ok ((ix d_ (16 : Int))))) fun v59 => gd (CMod v59 many_) (Res.ok ((v59 % many_)))) () fun gone_58 =>
  Res.bnd (gd (CCat (cut s none (some ((2 : Int) * gone_58))) (cut s (some (((2 : Int) * gone_58) + (2 : Int))) none)) (Res.ok (((cut s none (some ((2 : Int) * gone_58))) ++ (cut s (some (((2 : Int) * gone_58) + (2 : Int))) none))))) () fun rides_60 =>
  ladder_j4 d_ names_here_ base_ spans_ many_ (rides_60)) else (
  ladder_j4 d_ names_here_ base_ spans_ many_ (s))
def m_ladder (script_ : (List Int)) : R0 ((List Str) × (List (Str × Int)) × (List (Int × Str × Str × Int × Int)) × Str × Str × Int) :=
  Res.bnd (m_draws script_ (0 : Int) (20 : Int)) () fun d_1 =>
  Res.bnd (m_names d_1 (3 : Int)) () fun names_here_2 =>
  Res.bnd (Res.bind (Res.bind (Res.bind (Res.bind (Res.bind (gd (inR d_1 (16 : Int)) (Res.ok ((ix d_1 (16 : Int))))) fun v4 => Res.ok ((v4 :: [])) : R0 (List Int)) fun v5 => Res.ok ((((10 : Int) ^ (20 : Nat)) :: v5)) : R0 (List Int)) fun v6 => Res.ok ((((0 : Int) - ((10 : Int) ^ (40 : Nat))) :: v6)) : R0 (List Int)) fun v7 => Res.ok (((0 : Int) :: v7)) : R0 (List Int)) fun v9 => Res.bind (Res.bind (gd (inR d_1 (17 : Int)) (Res.ok ((ix d_1 (17 : Int))))) fun v8 => Res.ok ((v8 % (4 : Int)))) fun v10 => gd (inR v9 v10) (Res.ok ((ix v9 v10)))) () fun base_3 =>
  Res.bnd (Res.bind (Res.bind (Res.bind (Res.ok ((3 : Int)) : R0 Int) fun n12 => gd (CR62 n12) (Res.ok (upTo n12))) fun v17 => gd (List.length v17 ≤ sizeLine) (compR (fun y13 : Int => (Res.ok true : R0 Bool)) (fun y13 : Int => (Res.bind (gd (inR names_here_2 y13) (Res.ok ((ix names_here_2 y13)))) fun v15 => Res.bind (Res.bind (gd (inR d_1 y13) (Res.ok ((ix d_1 y13)))) fun v14 => Res.ok ((v14 % (3 : Int)))) fun v16 => Res.ok ((v15, v16)) : R0 (Str × Int))) v17)) fun v18 => Res.ok ((dputs [] v18))) () fun spans_11 =>
  Res.bnd (Res.ok (([] : (List (Int × Str × Str × Int × Int)))) : R0 (List (Int × Str × Str × Int × Int))) () fun rides_19 =>
  Res.bnd (Res.bind (Res.bind (gd (inR d_1 (18 : Int)) (Res.ok ((ix d_1 (18 : Int))))) fun v21 => Res.ok ((v21 % (9 : Int)))) fun v22 => Res.ok (((12 : Int) + v22))) () fun many_20 =>
  Res.bnd (Res.bind (Res.ok (many_20) : R0 Int) fun n23 => gd (CR62 n23) (Res.ok (upTo n23))) () fun xs61 => forK (ladder_b0 script_ names_here_2 base_3) (ladder_k1 d_1 names_here_2 base_3 spans_11 many_20) (fun r => r) xs61 (rides_19)
/-! ### _law_soon -/
def lsoon_j2 (s : (List (Str × Int))) : Res Unit (Lo ((List (Str × Int))) (List (Str × Int))) :=
  Res.ok (Lo.go (s))
def lsoon_b0 (spans_ : (List (Str × Int))) (s : (List (Str × Int))) (x : (Int × Str × Str × Int × Int)) : Res Unit (Lo ((List (Str × Int))) (List (Str × Int))) :=
  Res.bnd (Res.ok (decide ((Option.getD (look s x.2.1) (x.2.2.2.1 + (1 : Int))) ≤ x.2.2.2.1)) : R0 Bool) () fun b2 => bif b2 then (
  Res.bnd (Res.bind (gd (has spans_ x.2.2.1 = true) (Res.ok ((Option.getD (look spans_ x.2.2.1) default)))) fun v4 => Res.ok ((x.2.2.2.2 + v4))) () fun ready_3 =>
  Res.bnd (Res.ok ((minI (Option.getD (look s x.2.2.1) ready_3) ready_3)) : R0 Int) () fun x5 => Res.bnd (Res.ok (x.2.2.1) : R0 Str) () fun q6 => gd (List.length s ≤ 100000) (
  lsoon_j2 ((dput s q6 x5)))) else (
  lsoon_j2 (s))
def lsoon_k1 (s : (List (Str × Int))) : R0 (List (Str × Int)) :=
  Res.bnd (Res.bind (noEx (gd (List.length (List.map (fun z => z.1) s) ≤ sizeLine) (compR (fun y8 : Str => (Res.ok true : R0 Bool)) (fun y8 : Str => (Res.bind (gd (has s y8 = true) (Res.ok ((Option.getD (look s y8) default)))) fun v9 => Res.ok ((y8, v9)) : R0 (Str × Int))) (List.map (fun z => z.1) s)))) fun v10 => Res.ok ((srt (rT (wc rS (w1 rI))) v10))) () fun r7 => Res.ok (r7)
def m_lsoon (rides_ : (List (Int × Str × Str × Int × Int))) (spans_ : (List (Str × Int))) (start_ : Str) (since_ : Int) : R0 (List (Str × Int)) :=
  Res.bnd (Res.ok ([(start_, since_)]) : R0 (List (Str × Int))) () fun found_1 =>
  Res.bnd (Res.ok (List.mergeSort rides_ (PySem.W.dataLe false keyL3)) : R0 (List (Int × Str × Str × Int × Int))) () fun xs11 => forK (lsoon_b0 spans_) (lsoon_k1) (fun r => r) xs11 (found_1)
/-! ### law -/
def m_law (script_ : (List Int)) : R0 Bool :=
  Res.bnd (m_ladder script_) () fun u1 =>
  Res.bnd (m_draws script_ (22 : Int) (40 : Int)) () fun d_2 =>
  Res.bnd (m_draws script_ (23 : Int) (40 : Int)) () fun e_3 =>
  Res.bnd (gd (List.length u1.2.2.1 ≤ sizeLine) (compR (fun y5 : (Int × Str × Str × Int × Int) => (Res.bind (Res.bind (gd (inR d_2 y5.1) (Res.ok ((ix d_2 y5.1)))) fun v7 => Res.ok ((v7 % (2 : Int)))) fun v8 => Res.ok (decide (v8 = (1 : Int))))) (fun y5 : (Int × Str × Str × Int × Int) => (Res.ok (y5.1) : R0 Int)) u1.2.2.1)) () fun kept_4 =>
  Res.bnd (gd (List.length u1.2.2.1 ≤ sizeLine) (compR (fun y10 : (Int × Str × Str × Int × Int) => (Res.bind (Res.bind (gd (inR e_3 y10.1) (Res.ok ((ix e_3 y10.1)))) fun v12 => Res.ok ((v12 % (5 : Int)))) fun v13 => Res.ok (decide (v13 = (1 : Int))))) (fun y10 : (Int × Str × Str × Int × Int) => (Res.ok (y10.1) : R0 Int)) u1.2.2.1)) () fun shared_9 =>
  Res.bnd (m_plan u1.2.2.1 u1.2.1 u1.2.2.2.1 u1.2.2.2.2.1 u1.2.2.2.2.2 kept_4 shared_9) () fun due_14 =>
  Res.bnd (Res.bind (Res.bind (Res.bind (Res.bind (m_least u1.2.2.1 u1.2.1 u1.2.2.2.1 u1.2.2.2.2.1 u1.2.2.2.2.2 kept_4 shared_9) fun v15 => Res.ok (Dat.enc (R := (rO (rL rI))) v15)) fun v16 => Res.ok ((v16, (Dat.enc (R := (rO (rL rI))) due_14, ()))) : R0 (PyData × PyData × Unit)) fun v17 => m_sameF v17.1 v17.2.1) fun v18 => Res.ok ((! v18))) () fun b19 => bif b19 then (
  Res.bnd (Res.ok (false) : R0 Bool) () fun r20 => Res.ok (r20)) else (
  Res.bnd (Res.bind (Res.bind (Res.bind (Res.bind (m_soonest u1.2.2.1 u1.2.1 u1.2.2.2.1 u1.2.2.2.2.2) fun v21 => Res.ok (Dat.enc (R := (rL (rT (wc rS (w1 rI))))) v21)) fun v24 => Res.bind (Res.bind (Res.bind (m_lsoon u1.2.2.1 u1.2.1 u1.2.2.2.1 u1.2.2.2.2.2) fun v22 => Res.ok (Dat.enc (R := (rL (rT (wc rS (w1 rI))))) v22)) fun v23 => Res.ok ((v23, ())) : R0 (PyData × Unit)) fun v25 => Res.ok ((v24, v25)) : R0 (PyData × PyData × Unit)) fun v26 => m_sameF v26.1 v26.2.1) fun v27 => Res.ok ((! v27))) () fun b28 => bif b28 then (
  Res.bnd (Res.ok (false) : R0 Bool) () fun r29 => Res.ok (r29)) else (
  Res.bnd (m_no_way u1.2.2.1 u1.2.1 u1.2.2.2.1 u1.2.2.2.2.1 u1.2.2.2.2.2) () fun paper_30 =>
  Res.bnd (Res.ok ((Option.isSome due_14)) : R0 Bool) () fun b31 => bif b31 then (
  Res.bnd (bif (Option.isNone paper_30) then (Res.bind (m_bars u1.2.2.1 u1.2.1 u1.2.2.2.1 u1.2.2.2.2.1 u1.2.2.2.2.2 ((u1.2.2.2.1, u1.2.2.2.2.2) :: [])) fun v33 => Res.ok ((! v33))) else Res.ok false) () fun r32 => Res.ok (r32)) else (
  Res.bnd (bif (Option.isNone paper_30) then Res.ok true else (Res.bind (Res.bind (Res.bind (Res.bind (Res.bind (Res.bind (Res.bind (Res.bind (getO paper_30) fun v34 => Res.ok ((v34, ())) : R0 ((List (Str × Int)) × Unit)) fun v35 => Res.ok ((u1.2.2.2.2.2, v35)) : R0 (Int × (List (Str × Int)) × Unit)) fun v36 => Res.ok ((u1.2.2.2.2.1, v36)) : R0 (Str × Int × (List (Str × Int)) × Unit)) fun v37 => Res.ok ((u1.2.2.2.1, v37)) : R0 (Str × Str × Int × (List (Str × Int)) × Unit)) fun v38 => Res.ok ((u1.2.1, v38)) : R0 ((List (Str × Int)) × Str × Str × Int × (List (Str × Int)) × Unit)) fun v39 => Res.ok ((u1.2.2.1, v39)) : R0 ((List (Int × Str × Str × Int × Int)) × (List (Str × Int)) × Str × Str × Int × (List (Str × Int)) × Unit)) fun v40 => m_lbars v40.1 v40.2.1 v40.2.2.1 v40.2.2.2.1 v40.2.2.2.2.1 v40.2.2.2.2.2.1) fun v41 => Res.ok ((! v41)))) () fun b42 => bif b42 then (
  Res.bnd (Res.ok (false) : R0 Bool) () fun r43 => Res.ok (r43)) else (
  Res.bnd (Res.bind (Res.bind (Res.bind (Res.bind (Res.bind (Res.bind (Res.bind (Res.bind (Res.bind (Res.bind (Res.bind (getO paper_30) fun v45 => Res.ok (v45)) fun v46 => Res.ok ((v46, ())) : R0 ((List (Str × Int)) × Unit)) fun v47 => Res.ok ((u1.2.2.2.2.2, v47)) : R0 (Int × (List (Str × Int)) × Unit)) fun v48 => Res.ok ((u1.2.2.2.2.1, v48)) : R0 (Str × Int × (List (Str × Int)) × Unit)) fun v49 => Res.ok ((u1.2.2.2.1, v49)) : R0 (Str × Str × Int × (List (Str × Int)) × Unit)) fun v50 => Res.ok ((u1.2.1, v50)) : R0 ((List (Str × Int)) × Str × Str × Int × (List (Str × Int)) × Unit)) fun v51 => Res.ok ((u1.2.2.1, v51)) : R0 ((List (Int × Str × Str × Int × Int)) × (List (Str × Int)) × Str × Str × Int × (List (Str × Int)) × Unit)) fun v52 => m_bars v52.1 v52.2.1 v52.2.2.1 v52.2.2.2.1 v52.2.2.2.2.1 v52.2.2.2.2.2.1) fun v53 => Res.ok (Dat.enc (R := rB) v53)) fun v54 => Res.ok ((v54, (Dat.enc (R := rB) true, ()))) : R0 (PyData × PyData × Unit)) fun v55 => m_sameF v55.1 v55.2.1) () fun r44 => Res.ok (r44)))))
theorem getO_ok {α : Type} {x : α} {P : α → Prop} : Ok (getO (some x)) P ↔ P x := Iff.rfl
theorem noEx_okk {α : Type} {m : R0 α} {P : α → Prop} (h : Ok m P) : Ok (noEx m) P := by
  obtain ⟨x, e, p⟩ := h.get
  rw [noEx_ok e]; exact ok_ok.mpr p
theorem key3_le (rs : List Rde) : (List.mergeSort rs (PySem.W.dataLe false keyL3)).Perm rs ∧ (List.mergeSort rs (PySem.W.dataLe false keyL3)).Pairwise fun a b => a.2.2.2.1 ≤ b.2.2.2.1 := by
  refine ⟨List.mergeSort_perm _ _, ?_⟩
  have e : PySem.W.dataLe false keyL3 = fun p q : Rde => decide (p.2.2.2.1 ≤ q.2.2.2.1) := PySem.W.dataLe_int (fun r : Rde => r.2.2.2.1)
  rw [e]
  have := List.pairwise_mergeSort (le := fun p q : Rde => decide (p.2.2.2.1 ≤ q.2.2.2.1)) (fun a b c h1 h2 => by simp only [decide_eq_true_eq] at *; omega) (fun a b => by simp only [Bool.or_eq_true, decide_eq_true_eq]; omega) rs
  exact this.imp fun h => by simpa using h
/-! ### the plan -/
section
variable {kept shared : List Int} {sp : Spn} {rs : List Rde}
theorem cst_mirror (u : Cost) (r : Rde) : (u.1 - b2n (isIn r.1 shared), u.2.1 + b2n (!isIn r.1 kept), u.2.2.1 + 1, u.2.2.2 ++ [r.1]) = cst kept shared u r := by
  unfold cst
  cases isIn r.1 shared <;> cases isIn r.1 kept <;> simp [b2n]
theorem mem_gath {best : List (Int × Cost)} {q : Rde} {T : List Rde} {x : Cost} : x ∈ gath kept shared sp best q T ↔ ∃ o ∈ T, ∃ c, look best o.1 = some c ∧ Pl.Hg (spf sp) o q ∧ x = cst kept shared c q := by
  unfold gath
  rw [List.mem_filterMap]
  constructor
  · rintro ⟨o, ho, e⟩
    cases hc : look best o.1 with
    | none => rw [hc] at e; cases e
    | some c =>
      rw [hc] at e
      by_cases h : Pl.Hg (spf sp) o q
      · simp only [h, if_true] at e
        cases e
        exact ⟨o, ho, c, hc, h, rfl⟩
      · simp [h] at e
  · rintro ⟨o, ho, c, hc, h, rfl⟩
    exact ⟨o, ho, by rw [hc]; simp [h]⟩
/-- what stands before a ride -/
structure Befo (sp : Spn) (s : Str) (t : Int) (best : List (Int × Cost)) (q : Rde) (T : List Rde) (w : List Cost) : Prop where
  mem : ∀ c, c ∈ w ↔ (∃ o ∈ T, look best o.1 = some c ∧ Pl.Hg (spf sp) o q) ∨ ((q.2.1 = s ∧ t ≤ q.2.2.2.1) ∧ c = c0)
theorem Befo.after {s : Str} {t : Int} {best : List (Int × Cost)} {q : Rde} {T : List Rde} {w : List Cost} (h : Befo sp s t best q T w) {x : Cost} : x ∈ ((if q.2.1 = s ∧ t ≤ q.2.2.2.1 then [cst kept shared c0 q] else []) ++ gath kept shared sp best q T) ↔ ∃ c ∈ w, x = cst kept shared c q := by
  rw [List.mem_append, mem_gath]
  constructor
  · rintro (h1 | ⟨o, ho, c, hc, hg, rfl⟩)
    · by_cases z : q.2.1 = s ∧ t ≤ q.2.2.2.1
      · rw [if_pos z] at h1
        exact ⟨c0, (h.mem _).mpr (.inr ⟨z, rfl⟩), by simpa using h1⟩
      · rw [if_neg z] at h1; cases h1
    · exact ⟨c, (h.mem _).mpr (.inl ⟨o, ho, hc, hg⟩), rfl⟩
  · rintro ⟨c, hc, rfl⟩
    rcases (h.mem c).mp hc with ⟨o, ho, h1, h2⟩ | ⟨z, rfl⟩
    · exact .inr ⟨o, ho, c, h1, h2, rfl⟩
    · rw [if_pos z]; exact .inl (by simp)
theorem plan_loop {T : List Rde} (hs : Rs' sp rs) (hT : T.Perm rs) (hp : T.Pairwise fun a b => a.2.2.2.1 ≤ b.2.2.2.1) (s g : Str) (t : Int) (hl : rs.length ≤ 900) {ends : List EndC} (h0 : LI kept shared sp rs s g t [] [] ends) :
    Ok (forK (plan_b1 sp s g t kept shared T) plan_k2 (fun r => r) T ([], ends)) (LeastCh kept shared sp rs s g t) := by
  have tl := hT.length_eq
  have z1 := sizeLine_eq
  refine ok_for (fun pre (z : List (Int × Cost) × List EndC) => LI kept shared sp rs s g t pre z.1 z.2) h0 (fun pre q post z e h => ?_) fun z h => ?_
  · obtain ⟨best, ends⟩ := z
    have h : LI kept shared sp rs s g t pre best ends := h
    have pl : pre.length + 1 ≤ T.length := by rw [e]; simp
    have bl := h.bl
    have el := h.el
    have hT2 : ∀ r ∈ T, r ∈ rs := fun r hr => hT.mem_iff.mp hr
    have stp := h.step hs (e ▸ hT) (e ▸ hp) _ rfl
    rw [← e] at stp
    have many : ∀ o ∈ T, ∀ c, look best o.1 = some c → (c.2.2.2.length : Int) = c.2.2.1 ∧ c.2.2.2.length ≤ rs.length := fun o ho c hc => by
      by_cases op : o ∈ pre
      · obtain ⟨⟨row, _, rfl⟩, _⟩ := h.bs o op c hc
        exact ⟨cost_many row, h.bb _ _ hc⟩
      · have := h.bo o (hT2 o ho) op
        rw [this] at hc; cases hc
    have tail : ∀ w, Befo sp s t best q T w → Ok (plan_j3 g kept shared best ends q w) (LoP (fun z => LI kept shared sp rs s g t (pre ++ [q]) z.1 z.2) (fun z => Ok (plan_k2 z) (LeastCh kept shared sp rs s g t)) (fun r => LeastCh kept shared sp rs s g t r)) := fun w hw => by
      have mw : ∀ c ∈ w, (c.2.2.2.length : Int) = c.2.2.1 ∧ c.2.2.2.length ≤ rs.length := fun c hc => by
        rcases (hw.mem c).mp hc with ⟨o, ho, h1, _⟩ | ⟨_, rfl⟩
        · exact many o ho c h1
        · exact ⟨rfl, Nat.zero_le _⟩
      unfold plan_j3
      simp only [ok_bind, ok_bnd, ok_ok, ok_gd, ok_cond]
      refine ⟨fun e1 => ?_, fun e1 => ?_⟩
      · have ne : w ≠ [] := fun z => by rw [z] at e1; simp at e1
        have ls := minL_spec (R := rCost) ne
        have lw := mw _ ls.mem
        have ls2 : Least rCost (cst kept shared (minL rCost w) q) ((if q.2.1 = s ∧ t ≤ q.2.2.2.1 then [cst kept shared c0 q] else []) ++ gath kept shared sp best q T) := by
          refine ⟨hw.after.mpr ⟨_, ls.mem, rfl⟩, fun y hy => ?_⟩
          obtain ⟨c, hc, rfl⟩ := hw.after.mp hy
          exact cst_mono lw.1 (mw c hc).1 (ls.le c hc)
        obtain ⟨a1, a2⟩ := stp.2 _ ls2
        rw [← cst_mirror] at a1 a2
        have cc : CCat (minL rCost w).2.2.2 [q.1] := by unfold CCat; simp; omega
        refine ⟨ne, cc, by omega, fun e2 => ⟨cc, by omega, ?_⟩, fun e2 => ?_⟩
        · unfold plan_j5 plan_j4
          exact a1 (of_decide_eq_true e2)
        · unfold plan_j5 plan_j4
          exact a2 (of_decide_eq_false e2)
      · have ne : w = [] := by simpa using e1
        unfold plan_j4
        refine stp.1 (List.eq_nil_iff_forall_not_mem.mpr fun x hx => ?_)
        obtain ⟨c, hc, _⟩ := hw.after.mp hx
        rw [ne] at hc; cases hc
    unfold plan_b1
    simp only [ok_bind, ok_bnd, ok_ok, ok_gd, ok_cond]
    refine ⟨by omega, ok_comp (fun o : Rde => has best o.1 && decide (Pl.Hg (spf sp) o q)) (fun o : Rde => (look best o.1).getD default) (fun o ho => ?_) (fun o ho hp => ?_) ?_⟩
    · simp only [ok_bind, ok_bnd, ok_ok, ok_gd, ok_cond]
      refine ⟨fun e1 => (hang_ok (hs.h o (hT2 o ho))).mono fun b hb => by rw [hb, e1]; rfl, fun e1 => by rw [e1]; rfl⟩
    · simp only [ok_bind, ok_bnd, ok_ok, ok_gd, ok_cond]
      simp only [Bool.and_eq_true] at hp
      exact ⟨hp.1, trivial⟩
    · have gm : ∀ c, c ∈ (T.filter fun o : Rde => has best o.1 && decide (Pl.Hg (spf sp) o q)).map (fun o : Rde => (look best o.1).getD default) ↔ ∃ o ∈ T, look best o.1 = some c ∧ Pl.Hg (spf sp) o q := fun c => by
        rw [List.mem_map]
        constructor
        · rintro ⟨o, ho, rfl⟩
          obtain ⟨h1, h2⟩ := List.mem_filter.mp ho
          simp only [Bool.and_eq_true, decide_eq_true_eq] at h2
          obtain ⟨v, hv⟩ := has_iff.mp h2.1
          exact ⟨o, h1, by rw [hv]; rfl, h2.2⟩
        · rintro ⟨o, ho, hc, hg⟩
          refine ⟨o, List.mem_filter.mpr ⟨ho, by rw [has_of hc]; simpa using hg⟩, by rw [hc]; rfl⟩
      have gl : ((T.filter fun o : Rde => has best o.1 && decide (Pl.Hg (spf sp) o q)).map (fun o : Rde => (look best o.1).getD default)).length ≤ T.length := by rw [List.length_map]; exact List.length_filter_le _ _
      generalize (T.filter fun o : Rde => has best o.1 && decide (Pl.Hg (spf sp) o q)).map (fun o : Rde => (look best o.1).getD default) = w0 at gm gl
      refine ⟨fun e1 => ⟨by omega, tail _ ⟨fun c => ?_⟩⟩, fun e1 => tail _ ⟨fun c => ?_⟩⟩
      · simp only [Bool.and_eq_true, decide_eq_true_eq] at e1
        rw [List.mem_append, gm, List.mem_singleton]
        constructor
        · rintro (z | z)
          · exact .inl z
          · exact .inr ⟨e1, z⟩
        · rintro (z | z)
          · exact .inl z
          · exact .inr z.2
      · have e1 : ¬ (q.2.1 = s ∧ t ≤ q.2.2.2.1) := fun z => by simp [z.1, z.2] at e1
        rw [gm]
        constructor
        · exact .inl
        · rintro (z | z)
          · exact z
          · exact absurd z.1 e1
  · unfold plan_k2
    simp only [ok_bind, ok_bnd, ok_ok, ok_gd, ok_cond]
    have hall : ∀ r, r ∈ T ↔ r ∈ rs := fun r => hT.mem_iff
    have cov : ∀ e, Ends kept shared sp rs s g t e → ∃ e' ∈ z.2, dlt (R := rEnd) e e' = false := fun e he => by
      rcases he with ⟨rfl, hg⟩ | ⟨row, a, ha, hg, rfl⟩
      · exact ⟨_, h.e0 hg, dlt_irr _⟩
      · exact h.ec a ((hall a).mpr ha.mem) hg row ha
    refine ⟨fun e1 => ⟨fun _ e he => ?_, fun ns q => by cases q⟩, fun e1 => ?_⟩
    · have e1 : z.2 = [] := by simpa using e1
      obtain ⟨e', h1, _⟩ := cov e he
      rw [e1] at h1; cases h1
    · have ne : z.2 ≠ [] := fun q => by rw [q] at e1; simp at e1
      have ls := minL_spec (R := rEnd) ne
      refine ⟨ne, fun q => (by cases q), fun ns q => ?_⟩
      cases q
      refine ⟨_, h.es _ ls.mem, fun e he => ?_, rfl⟩
      obtain ⟨e', h1, h2⟩ := cov e he
      exact dlt_neg (ls.le e' h1) h2
theorem plan_ok (hs : Rs' sp rs) (hl : rs.length ≤ 900) (s g : Str) (t : Int) (kept shared : List Int) : Ok (m_plan rs sp s g t kept shared) (LeastCh kept shared sp rs s g t) := by
  unfold m_plan
  simp only [ok_bind, ok_bnd, ok_ok, ok_gd, ok_cond]
  have base : ∀ ends : List EndC, (∀ e ∈ ends, Ends kept shared sp rs s g t e) → (s = g → (0, 0, t, 0, []) ∈ ends) → ends.length ≤ 1 → Ok (plan_j0 rs sp s g t kept shared [] ends) (LeastCh kept shared sp rs s g t) := fun ends h1 h2 h3 => by
    unfold plan_j0
    simp only [ok_bind, ok_bnd, ok_ok, ok_gd, ok_cond]
    exact plan_loop hs (key3_le rs).1 (key3_le rs).2 s g t hl ⟨fun r hr => (by cases hr), fun r hr => (by cases hr), fun r _ _ => rfl, h1, fun r hr => (by cases hr), h2, fun k c hc => (by simp [look] at hc), by simp, by simpa using h3⟩
  refine ⟨fun e => ⟨by simp, base _ (fun x hx => ?_) (fun _ => by simp) (by simp)⟩, fun e => base _ (fun x hx => by cases hx) (fun q => absurd q (of_decide_eq_false e)) (by simp)⟩
  have : x = (0, 0, t, 0, []) := by simpa using hx
  exact .inl ⟨this, of_decide_eq_true e⟩
end
/-! ### the soonest moments by the law -/
theorem dput_same {κ α : Type} [DecidableEq κ] {d : List (κ × α)} (u : Uq d) {k : κ} {v : α} (h : look d k = some v) : dput d k v = d := by
  have hm : (k, v) ∈ d := (mem_look u).mpr h
  unfold dput
  rw [if_pos (List.any_eq_true.mpr ⟨_, hm, by simp⟩)]
  have : d.map (fun kv => if kv.1 = k then (kv.1, v) else kv) = d.map id := List.map_congr_left fun kv hkv => by
    by_cases e : kv.1 = k
    · rw [if_pos e]
      have := look_of u kv hkv
      rw [e, h] at this
      cases this
      rfl
    · rw [if_neg e]; rfl
  rw [this, List.map_id]
theorem lsoon_ok {sp : Spn} {rs : List Rde} (hs : Rs' sp rs) (hl : rs.length ≤ 1000) (s : Str) (t : Int) : Ok (m_lsoon rs sp s t) (fun o => ∃ d, Soon sp rs s t d ∧ o = srt rSI d) := by
  have z1 := sizeLine_eq
  unfold m_lsoon
  simp only [ok_bind, ok_bnd, ok_ok, ok_gd, ok_cond]
  obtain ⟨hT, hp⟩ := key3_le rs
  generalize List.mergeSort rs (PySem.W.dataLe false keyL3) = T at hT hp
  refine ok_for (fun pre d => SoonP sp rs s t pre d) ?_ (fun p q b d e h => ?_) fun d h => ?_
  · refine ⟨by simp [Uq], by simp [look], fun p v hv => ?_, fun r hr => (by cases hr), by simp⟩
    simp only [look, List.find?_cons] at hv
    by_cases e : s = p
    · subst e
      simp at hv
      exact .inl ⟨rfl, hv.symm⟩
    · simp [e] at hv
  · have hq : q ∈ rs := hT.mem_iff.mp (by rw [e]; simp)
    have hpre : ∀ r ∈ p, r.2.2.2.1 ≤ q.2.2.2.1 := fun r hr => by
      rw [e, List.pairwise_append] at hp
      exact hp.2.2 r hr q (by simp)
    have pl : p.length ≤ rs.length := by rw [← hT.length_eq, e]; simp
    have hsp := hs.h q hq
    have hlen := h.len
    have ez' : (look sp q.2.2.1).getD default = spf sp q.2.2.1 := rfl
    unfold lsoon_b0 lsoon_j2
    simp only [ok_bind, ok_bnd, ok_ok, ok_gd, ok_cond]
    refine ⟨fun e1 => ⟨hsp, by omega, ?_⟩, fun e1 => ?_⟩
    · have e1 := of_decide_eq_true e1
      cases hu : look d q.2.1 with
      | none => rw [hu] at e1; simp at e1; omega
      | some u =>
        rw [hu] at e1
        simp only [Option.getD_some] at e1
        show SoonP _ _ _ _ _ _
        rw [ez']
        cases hv : look d q.2.2.1 with
        | none =>
          have em : minI ((none : Option Int).getD (q.2.2.2.2 + spf sp q.2.2.1)) (q.2.2.2.2 + spf sp q.2.2.1) = q.2.2.2.2 + spf sp q.2.2.1 := by simp [minI]
          rw [em]
          exact h.put hs hq hpre hu e1 fun v hv' => by rw [hv] at hv'; cases hv'
        | some v =>
          simp only [Option.getD_some]
          by_cases lt : q.2.2.2.2 + spf sp q.2.2.1 < v
          · have em : minI v (q.2.2.2.2 + spf sp q.2.2.1) = q.2.2.2.2 + spf sp q.2.2.1 := by unfold minI; first | (rw [if_pos lt]) | (split <;> omega) | omega
            rw [em]
            exact h.put hs hq hpre hu e1 fun v' hv' => by rw [hv] at hv'; cases hv'; exact lt
          · have em : minI v (q.2.2.2.2 + spf sp q.2.2.1) = v := by unfold minI; first | (rw [if_neg lt]) | (split <;> omega) | omega
            rw [em, dput_same h.uq hv]
            exact h.skip fun _ _ _ => ⟨v, hv, by omega⟩
    · have e1 := of_decide_eq_false e1
      show SoonP _ _ _ _ _ _
      refine h.skip fun u hu hul => ?_
      rw [hu] at e1
      simp only [Option.getD_some] at e1
      omega
  · have dl := h.len
    have tl := hT.length_eq
    unfold lsoon_k1
    simp only [ok_bind, ok_bnd, ok_ok, ok_gd, ok_cond]
    refine noEx_okk (ok_gd.mpr ⟨by rw [List.length_map]; omega, ok_comp (fun _ => true) (fun p : Str => (p, (look d p).getD default)) (fun _ _ => rfl) (fun p hp _ => ?_) ?_⟩)
    · simp only [ok_bind, ok_bnd, ok_ok, ok_gd, ok_cond]
      exact ⟨has_key.mpr hp, trivial⟩
    · rw [List.filter_eq_self.mpr (fun _ _ => rfl), List.map_map]
      have : d.map ((fun p : Str => (p, (look d p).getD default)) ∘ fun z : Str × Int => z.1) = d := by
        have := List.map_congr_left (l := d) (f := (fun p : Str => (p, (look d p).getD default)) ∘ fun z : Str × Int => z.1) (g := id) fun kv hkv => by
          have := look_of h.uq kv hkv
          simp [this]
        rw [this, List.map_id]
      rw [this]
      exact ⟨d, ⟨h.uq, h.st, h.snd, fun r hr => h.cert r (hT.mem_iff.mpr hr), by omega⟩, rfl⟩
theorem srt_look {d d' : Spn} (u : Uq d) (u' : Uq d') (h : ∀ p, look d p = look d' p) : srt rSI d = srt rSI d' := by
  have pm : d.Perm d' := (List.perm_ext_iff_of_nodup (nodup_of_map _ u) (nodup_of_map _ u')).mpr fun kv => by
    obtain ⟨k, v⟩ := kv
    rw [mem_look u, mem_look u', h]
  exact srt_uniq (R := rSI) ((srt_perm d').trans pm.symm) (srt_pw d')
/-! ### the ladder -/
structure Ld (sp : Spn) (rs : List Rde) : Prop where
  wd : Rs' sp rs
  len : rs.length ≤ 40
  num : ∀ r ∈ rs, 0 ≤ r.1 ∧ r.1 < 40
structure LdP (nm : List Str) (n : Int) (rs : List Rde) : Prop where
  len : (rs.length : Int) = n
  dst : ∀ r ∈ rs, r.2.2.1 ∈ nm
  lt : ∀ r ∈ rs, r.2.2.2.1 < r.2.2.2.2
  num : ∀ r ∈ rs, 0 ≤ r.1 ∧ r.1 < n
  nd : (rs.map (·.1)).Nodup
theorem LdP.put {nm : List Str} {n : Int} {rs : List Rde} (h : LdP nm n rs) {y : Rde} (e : y.1 = n) (h1 : y.2.2.1 ∈ nm) (h2 : y.2.2.2.1 < y.2.2.2.2) : LdP nm (n + 1) (rs ++ [y]) := by
  have n0 : 0 ≤ n := by have := h.len; omega
  refine ⟨by have := h.len; simp; omega, fun r hr => ?_, fun r hr => ?_, fun r hr => ?_, ?_⟩
  · rcases List.mem_append.mp hr with z | z
    · exact h.dst r z
    · obtain rfl : r = y := by simpa using z
      exact h1
  · rcases List.mem_append.mp hr with z | z
    · exact h.lt r z
    · obtain rfl : r = y := by simpa using z
      exact h2
  · rcases List.mem_append.mp hr with z | z
    · have := h.num r z; omega
    · obtain rfl : r = y := by simpa using z
      omega
  · rw [List.map_append, List.nodup_append]
    refine ⟨h.nd, by simp, fun a ha b hb e2 => ?_⟩
    obtain ⟨r, hr, rfl⟩ := List.mem_map.mp ha
    have := (h.num r hr).2
    have : b = y.1 := by simpa using hb
    omega
structure Sub (nm : List Str) (n : Int) (rs : List Rde) : Prop where
  len : (rs.length : Int) ≤ n
  dst : ∀ r ∈ rs, r.2.2.1 ∈ nm
  lt : ∀ r ∈ rs, r.2.2.2.1 < r.2.2.2.2
  num : ∀ r ∈ rs, 0 ≤ r.1 ∧ r.1 < n
  nd : (rs.map (·.1)).Nodup
theorem Sub.sub {nm : List Str} {n : Int} {rs rs' : List Rde} (h : Sub nm n rs) (s : rs'.Sublist rs) : Sub nm n rs' :=
  ⟨by have := s.length_le; have := h.len; omega, fun r hr => h.dst r (s.mem hr), fun r hr => h.lt r (s.mem hr), fun r hr => h.num r (s.mem hr), h.nd.sublist (s.map _)⟩
theorem dputs_uq : ∀ (xs acc : Spn), Uq (acc ++ xs) → dputs acc xs = acc ++ xs
  | [], acc, _ => by simp [dputs]
  | x :: xs, acc, u => by
    have hn : has acc x.1 = false := by
      cases q : has acc x.1 with
      | false => rfl
      | true =>
        have h1 := has_key.mp q
        unfold Uq at u
        rw [List.map_append, List.nodup_append] at u
        exact absurd rfl (u.2.2 x.1 h1 x.1 (by simp))
    show dputs (dput acc x.1 x.2) xs = _
    rw [dput_new hn, dputs_uq xs _ (by simpa using u)]
    simp
theorem cut_parts (rs : List Rde) {a : Int} (h0 : 0 ≤ a) : (cut rs none (some a) ++ cut rs (some (a + 2)) none).Sublist rs := by
  obtain ⟨n, rfl⟩ : ∃ n : Nat, a = (n : Int) := ⟨a.toNat, by omega⟩
  rw [show ((n : Int) + 2) = ((n + 2 : Nat) : Int) by omega, cut_take, cut_drop]
  have h2 : (rs.drop (n + 2)).Sublist (rs.drop n) := by
    have : rs.drop (n + 2) = (rs.drop n).drop 2 := by rw [List.drop_drop]
    rw [this]; exact List.drop_sublist _ _
  have := (List.Sublist.refl (rs.take n)).append h2
  rwa [List.take_append_drop] at this
theorem ladder_b2_ok (ns : List Int) {nm : List Str} (n3 : (nm.length : Int) = 3) (b : Int) {k : Int} (k0 : 0 ≤ k) (k1 : k < 21) {x : Int} (x0 : 0 ≤ x) (x1 : x < 2) {rs : List Rde} (h : LdP nm (2 * k + x) rs) :
    Ok (ladder_b2 ns nm b k rs x) (fun r => ∃ rs', LdP nm (2 * k + (x + 1)) rs' ∧ r = .go rs') := by
  unfold ladder_b2
  simp only [ok_bind, ok_bnd, ok_ok, ok_gd, ok_cond]
  refine (draws_ok ns (a := 1 + k) (m := 8) (by omega) (by omega) (by decide) (by decide)).mono fun e he => ?_
  have e0 := he.at_ (i := 4 * x) (by omega) (by omega)
  have e1 := he.at_ (i := 4 * x + 1) (by omega) (by omega)
  have l := h.len
  have i2 : inR nm ((k + 1) % 3) := inR_of (by omega) (by omega)
  refine ⟨e0.1, inR_of (by omega) (by omega), i2, e1.1, by omega, _, ?_, rfl⟩
  have := h.put (y := (2 * k + x, ix nm (k % 3), ix nm ((k + 1) % 3), b + 10 * k + ix e (4 * x) % 3, b + 10 * k + ix e (4 * x) % 3 + 1 + ix e (4 * x + 1) % 6)) rfl (ix_mem i2) (by simp only; omega)
  rw [show 2 * k + (x + 1) = 2 * k + x + 1 by omega]
  exact this
theorem ladder_b0_ok (ns : List Int) {nm : List Str} (n3 : (nm.length : Int) = 3) (b : Int) {k : Int} (k0 : 0 ≤ k) (k1 : k < 21) {rs : List Rde} (h : LdP nm (2 * k) rs) :
    Ok (ladder_b0 ns nm b rs k) (fun r => ∃ rs', LdP nm (2 * (k + 1)) rs' ∧ r = .go rs') := by
  unfold ladder_b0
  simp only [ok_bind, ok_bnd, ok_ok, ok_gd, ok_cond]
  refine ⟨cr62 (by decide) (by decide), ?_⟩
  refine ok_for (fun pre s => LdP nm (2 * k + pre.length) s) (by simpa using h) (fun a x c s e hI => ?_) fun s hI => ?_
  · obtain ⟨hx, hx2⟩ := upTo_split e
    refine (ladder_b2_ok ns n3 b k0 k1 (x := x) (by omega) (by omega) (rs := s) (by rw [hx]; exact hI)).mono ?_
    rintro _ ⟨rs', h', rfl⟩
    show LdP _ _ _
    have : ((a ++ [x]).length : Int) = x + 1 := by rw [List.length_append, hx]; simp
    rw [this]; exact h'
  · have : ((upTo (2 : Int)).length : Int) = 2 := by decide
    rw [this] at hI
    unfold ladder_k3
    exact ⟨s, by rw [show 2 * (k + 1) = 2 * k + 2 by omega]; exact hI, rfl⟩
theorem ladder_ok (ns : List Int) : Ok (m_ladder ns) (fun u => Ld u.2.1 u.2.2.1) := by
  have z1 := sizeLine_eq
  unfold m_ladder
  simp only [ok_bind, ok_bnd, ok_ok, ok_gd, ok_cond]
  refine (draws_ok ns (a := 0) (m := 20) (by omega) (by omega) (by decide) (by decide)).mono fun d hd => ?_
  have d16 := hd.at_ (i := 16) (by omega) (by omega)
  have d17 := hd.at_ (i := 17) (by omega) (by omega)
  have d18 := hd.at_ (i := 18) (by omega) (by omega)
  have d19 := hd.at_ (i := 19) (by omega) (by omega)
  refine (names_ok hd (by decide) (many := 3) (by decide) (by decide)).mono fun nm hn => ?_
  have n3 := hn.len
  have u3 : ((upTo (3 : Int)).length : Int) = 3 := by decide
  refine ⟨d16.1, d17.1, ⟨by omega, show _ < (4 : Int) by omega⟩, cr62 (by decide) (by decide), by omega, ?_⟩
  generalize ix [(0 : Int), 0 - 10 ^ 40, 10 ^ 20, ix d 16] (ix d 17 % 4) = base
  refine ok_comp (fun _ => true) (fun y : Int => (ix nm y, ix d y % 3)) (fun _ _ => rfl) (fun y hy _ => ?_) ?_
  · have hy := mem_upTo.mp hy
    simp only [ok_bind, ok_bnd, ok_ok, ok_gd, ok_cond]
    exact ⟨inR_of hy.1 (by omega), (hd.at_ (i := y) (by omega) (by omega)).1, trivial⟩
  rw [List.filter_eq_self.mpr (fun _ _ => rfl)]
  have hu : Uq ((upTo (3 : Int)).map fun y : Int => (ix nm y, ix d y % 3)) := by
    show (List.map _ (List.map _ _)).Nodup
    rw [List.map_map]
    have : upTo (3 : Int) = [0, 1, 2] := by decide
    rw [this]
    have q01 := nodup_ix hn.nd (i := 0) (j := 1) (by omega) (by omega) (by omega) (by omega) (by omega)
    have q02 := nodup_ix hn.nd (i := 0) (j := 2) (by omega) (by omega) (by omega) (by omega) (by omega)
    have q12 := nodup_ix hn.nd (i := 1) (j := 2) (by omega) (by omega) (by omega) (by omega) (by omega)
    simp [q01, q02, q12]
  have hsp : dputs [] ((upTo (3 : Int)).map fun y : Int => (ix nm y, ix d y % 3)) = (upTo (3 : Int)).map fun y : Int => (ix nm y, ix d y % 3) := by
    rw [dputs_uq _ [] (by simpa using hu), List.nil_append]
  rw [hsp]
  have hv : ∀ p ∈ nm, ∃ v, look ((upTo (3 : Int)).map fun y : Int => (ix nm y, ix d y % 3)) p = some v ∧ 0 ≤ v := fun p hp => by
    obtain ⟨i, hi, rfl⟩ := List.getElem_of_mem hp
    have e : ix nm (i : Int) = nm[i] := by rw [ix_get (by omega) (by omega)]; rfl
    refine ⟨ix d (i : Int) % 3, (mem_look hu).mp (List.mem_map.mpr ⟨(i : Int), mem_upTo.mpr ⟨by omega, by omega⟩, by rw [e]⟩), by omega⟩
  generalize (upTo (3 : Int)).map (fun y : Int => (ix nm y, ix d y % 3)) = sp at hv
  refine ⟨d18.1, cr62 (by omega) (by omega), ?_⟩
  refine ok_for (fun pre s => LdP nm (2 * pre.length) s) ⟨rfl, fun r hr => (by cases hr), fun r hr => (by cases hr), fun r hr => (by cases hr), List.nodup_nil⟩ (fun a x c s e hI => ?_) fun s hI => ?_
  · obtain ⟨hx, hx2⟩ := upTo_split e
    refine (ladder_b0_ok ns n3 base (k := x) (by omega) (by omega) (rs := s) (by rw [hx]; exact hI)).mono ?_
    rintro _ ⟨rs', h', rfl⟩
    show LdP _ _ _
    have : ((a ++ [x]).length : Int) = x + 1 := by rw [List.length_append, hx]; simp
    rw [this]; exact h'
  · rw [upTo_len] at hI
    have hS : Sub nm 40 s := by
      refine ⟨by have := hI.len; omega, hI.dst, hI.lt, fun r hr => ?_, hI.nd⟩
      have := hI.num r hr; omega
    have fin : ∀ rs : List Rde, Sub nm 40 rs → Ld sp rs := fun rs h => ⟨⟨⟨h.lt, fun r hr => by
      obtain ⟨v, e, hv⟩ := hv _ (h.dst r hr)
      unfold spf; rw [e]; exact hv, h.nd⟩, fun r hr => by
      obtain ⟨v, e, _⟩ := hv _ (h.dst r hr)
      exact has_of e⟩, by have := h.len; omega, h.num⟩
    have j5 : ∀ rs : List Rde, Sub nm 40 rs → Ok (ladder_j5 d nm base sp (12 + ix d 18 % 9) rs) (fun u => Ld u.2.1 u.2.2.1) := fun rs h => by
      unfold ladder_j5
      simp only [ok_bind, ok_bnd, ok_ok, ok_gd, ok_cond]
      exact ⟨inR_of (by omega) (by omega), inR_of (by omega) (by omega), d19.1, fin rs h⟩
    have j4 : ∀ rs : List Rde, Sub nm 40 rs → Ok (ladder_j4 d nm base sp (12 + ix d 18 % 9) rs) (fun u => Ld u.2.1 u.2.2.1) := fun rs h => by
      unfold ladder_j4
      simp only [ok_bind, ok_bnd, ok_ok, ok_gd, ok_cond]
      refine ⟨d19.1, fun _ => j5 _ ⟨by rw [List.length_reverse]; exact h.len, fun r hr => h.dst r (List.mem_reverse.mp hr), fun r hr => h.lt r (List.mem_reverse.mp hr), fun r hr => h.num r (List.mem_reverse.mp hr), by rw [List.map_reverse]; exact nodup_rev h.nd⟩, fun _ => j5 _ h⟩
    unfold ladder_k1
    simp only [ok_bind, ok_bnd, ok_ok, ok_gd, ok_cond]
    have m0 : 0 ≤ ix d 16 % (12 + ix d 18 % 9) := Int.emod_nonneg _ (by omega)
    have cl1 := cut_len s none (some (2 * (ix d 16 % (12 + ix d 18 % 9))))
    have cl2 := cut_len s (some (2 * (ix d 16 % (12 + ix d 18 % 9)) + 2)) none
    have sl := hS.len
    refine ⟨d19.1, fun _ => ⟨d16.1, by unfold CMod; omega, by unfold CCat; omega, j4 _ (hS.sub (cut_parts s (by omega)))⟩, fun _ => j4 _ hS⟩
theorem law_true (ns : List Int) (_ : ns.length ≤ 63) : m_law ns = .ok true := by
  refine ok_eq.mp ?_
  have z1 := sizeLine_eq
  unfold m_law
  simp only [ok_bind, ok_bnd, ok_ok, ok_gd, ok_cond]
  refine (ladder_ok ns).mono fun u hu => ?_
  obtain ⟨nm, sp, rs, s, g, t⟩ := u
  have hu : Ld sp rs := hu
  have w := hu.wd
  have hl := hu.len
  refine (draws_ok ns (a := 22) (m := 40) (by decide) (by decide) (by decide) (by decide)).mono fun d hd => (draws_ok ns (a := 23) (m := 40) (by decide) (by decide) (by decide) (by decide)).mono fun e he => ?_
  dsimp only
  refine ⟨by omega, ok_compQ (Q := fun _ _ => True) (S := fun _ _ => True) (fun y hy => ?_) (fun y hy _ => trivial) (fun kept _ _ => ?_)⟩
  · simp only [ok_bind, ok_bnd, ok_ok, ok_gd, ok_cond]
    have := hu.num y hy
    exact ⟨(hd.at_ (i := y.1) (by omega) (by omega)).1, trivial⟩
  refine ⟨by omega, ok_compQ (Q := fun _ _ => True) (S := fun _ _ => True) (fun y hy => ?_) (fun y hy _ => trivial) (fun shared _ _ => ?_)⟩
  · simp only [ok_bind, ok_bnd, ok_ok, ok_gd, ok_cond]
    have := hu.num y hy
    exact ⟨(he.at_ (i := y.1) (by omega) (by omega)).1, trivial⟩
  refine (plan_ok w (by omega) s g t kept shared).mono fun due hdue => (least_ok w (by omega) s g t kept shared).mono fun told ht => ?_
  have e1 : told = due := ht.uniq hdue fun e => Iff.rfl
  subst e1
  rw [sameF_ok, ok_ok]
  refine ⟨fun q => by simp at q, fun _ => (soonest_ok w (by omega) s t).mono ?_⟩
  rintro o ⟨d1, sd1, rfl⟩
  refine (lsoon_ok w (by omega) s t).mono ?_
  rintro o ⟨d2, sd2, rfl⟩
  rw [srt_look sd1.uq sd2.uq (sd1.same sd2 fun _ => Iff.rfl), sameF_ok, ok_ok]
  refine ⟨fun q => by simp at q, fun _ => (no_way_ok w (by omega) s g t).mono ?_⟩
  rintro paper ⟨d3, sd3, rfl⟩
  have dl := sd3.len
  have sl : (srt rSI d3).length = d3.length := (srt_perm d3).length_eq
  have some_of : ∀ e, Ends kept shared sp rs s g t e → ∃ v, look d3 g = some v := fun e he => by
    rcases he with ⟨_, rfl⟩ | ⟨row, a, ha, rfl, _⟩
    · exact ⟨t, sd3.st⟩
    · obtain ⟨v, hv, _⟩ := sd3.way ha
      exact ⟨v, hv⟩
  refine ⟨fun q => ?_, fun q => ?_⟩
  · cases told with
    | none => cases q
    | some nsr =>
      obtain ⟨x, hx, _⟩ := ht.so nsr rfl
      obtain ⟨v, hv⟩ := some_of x hx
      rw [hv]
      refine ⟨fun _ => (bars_ok w.h s g t [(s, t)] (by simp)).mono fun b hb => ?_, fun q => by simp at q⟩
      cases b with
      | false => rfl
      | true =>
        exfalso
        obtain ⟨_, ce⟩ := hb.mp rfl
        rcases hx with ⟨_, rfl⟩ | ⟨row, a, ha, rfl, _⟩
        · have := ce.g
          simp [look] at this
        · obtain ⟨v', hv', _⟩ := ce.way ha
          rw [ce.g] at hv'; cases hv'
  · cases told with
    | some _ => cases q
    | none =>
      have hg : look d3 g = none := by
        cases hg : look d3 g with
        | none => rfl
        | some v =>
          exfalso
          rcases sd3.snd g v hg with ⟨z, _⟩ | ⟨row, a, ha, z, _⟩
          · exact ht.no rfl _ (.inl ⟨rfl, z.symm⟩)
          · exact ht.no rfl _ (.inr ⟨row, a, ha, z, rfl⟩)
      have pb := paper_bars' sd3 hg
      rw [hg]
      simp only [Option.isSome_none, Bool.false_eq_true, if_false, Option.isNone_some]
      refine ⟨fun q => q.elim, fun _ => getO_ok.mpr ((lbars_ok w.h s g t (srt rSI d3) (by omega)).mono fun b hb => ?_)⟩
      rw [hb.mpr pb]
      refine ⟨fun q => (nomatch q), fun _ => getO_ok.mpr ((bars_ok w.h s g t (srt rSI d3) (by omega)).mono fun b2 hb2 => ?_)⟩
      rw [hb2.mpr pb, sameF_ok, ok_ok]
      simp
end Wf
namespace Wf
open PySem L2
def top (i : Nat) : Stmt := PySem.Challenge.pw_wayhold_k42_whole_many_rides.main.body.getD i (.Pass ⟨0, 0, 0, 0⟩)
abbrev s_hangs : Stmt := top 1
abbrev s_by_leaving : Stmt := top 3
abbrev s_soonest : Stmt := top 4
abbrev s_no_way : Stmt := top 5
abbrev s_bars : Stmt := top 6
abbrev s_costs : Stmt := top 8
abbrev s_least : Stmt := top 9
abbrev s_draws : Stmt := top 11
abbrev s_same : Stmt := top 12
abbrev s_names : Stmt := top 13
abbrev s_hang : Stmt := top 14
abbrev s_lbars : Stmt := top 15
abbrev s_plan : Stmt := top 16
abbrev s_ladder : Stmt := top 17
abbrev s_lsoon : Stmt := top 18
abbrev s_law : Stmt := top 19
abbrev sp_hangs (K : PySem.W.Frag) (mg : Str → Option Value) : Sp := spF K mg (fun i : (Int × Str × Str × Int × Int) × (Int × Str × Str × Int × Int) × (List (Str × Int)) × Unit => [.is (rT (wc rI (wc rS (wc rS (wc rI (w1 rI)))))) i.1, .is (rT (wc rI (wc rS (wc rS (wc rI (w1 rI)))))) i.2.1, .is (rK kS rI) i.2.2.1]) (fun i => m_hangs i.1 i.2.1 i.2.2.1) (fun x : Bool => .is rB x)
def N_hangs : List Str := ["ride", "after", "spans"]
theorem sc_hangs : FnScope N_hangs ["ride", "after", "spans"] (defScope s_hangs) := ⟨rfl, rfl, rfl, by decide +kernel, rfl, by decide +kernel, by decide +kernel⟩
theorem fk_hangs {P : Program} {w : World} {K : PySem.W.Frag} {mg : Str → Option Value} {base : Heap} {f : Addr} {fd : FuncData} (Fn : FnP K "hangs" "hangs" s_hangs f fd) (hm : mg "hangs" = some (.ref f)) (hf : Free mg) : Fk P w K mg base 1 "hangs" ["ride", "after", "spans"] (sp_hangs K mg) := by
  refine fk_of Fn (fn_F (k := 0) Fn sc_hangs (fun _ => rfl) (fun i X C => ?_)) hm (fun _ _ _ _ _ _ us hl => match us, hl with | [_, _, _], _ => rfl)
  show XG X [.is (rT (wc rI (wc rS (wc rS (wc rI (w1 rI)))))) i.1, .is (rT (wc rI (wc rS (wc rS (wc rI (w1 rI)))))) i.2.1, .is (rK kS rI) i.2.2.1] _ _ _ _ _
  exact xg_ret (xm_eq (xm_and (xm_eq (xm_cmp o_eqS (xm_eq (ma2 (xm_var C 0 (R := (rT (wc rI (wc rS (wc rS (wc rI (w1 rI))))))) (x := i.1))) (rfl : _ = (Res.ok (i.1.2.2.1) : R0 Str))) (xm_eq (ma1 (xm_var C 1 (R := (rT (wc rI (wc rS (wc rS (wc rI (w1 rI))))))) (x := i.2.1))) (rfl : _ = (Res.ok (i.2.1.2.1) : R0 Str)))) (rfl : _ = (Res.ok (decide (i.1.2.2.1 = i.2.1.2.1)) : R0 Bool))) (xm_eq (xm_one (xm_eq (xm_cmp o_le (xm_eq (xm_binT o_add (xm_eq (ma4l (xm_var C 0 (R := (rT (wc rI (wc rS (wc rS (wc rI (w1 rI))))))) (x := i.1))) (rfl : _ = (Res.ok (i.1.2.2.2.2) : R0 Int))) (xm_eq (xm_dget C (A := kS) (R := rI) (xm_eq (xm_fb bfK (xm_var C 2 (R := (rK kS rI)) (x := i.2.2.1))) (rfl : _ = (Res.ok (i.2.2.1) : R0 (List (Str × Int))))) (xm_eq (ma2 (xm_var C 0 (R := (rT (wc rI (wc rS (wc rS (wc rI (w1 rI))))))) (x := i.1))) (rfl : _ = (Res.ok (i.1.2.2.1) : R0 Str)))) (rfl : _ = (gd (has i.2.2.1 i.1.2.2.1 = true) (Res.ok ((Option.getD (look i.2.2.1 i.1.2.2.1) default))))))) (rfl : _ = (Res.bind (gd (has i.2.2.1 i.1.2.2.1 = true) (Res.ok ((Option.getD (look i.2.2.1 i.1.2.2.1) default)))) fun v2 => Res.ok ((i.1.2.2.2.2 + v2))))) (xm_eq (ma3 (xm_var C 1 (R := (rT (wc rI (wc rS (wc rS (wc rI (w1 rI))))))) (x := i.2.1))) (rfl : _ = (Res.ok (i.2.1.2.2.2.1) : R0 Int)))) (rfl : _ = (Res.bind (Res.bind (gd (has i.2.2.1 i.1.2.2.1 = true) (Res.ok ((Option.getD (look i.2.2.1 i.1.2.2.1) default)))) fun v2 => Res.ok ((i.1.2.2.2.2 + v2))) fun v3 => Res.ok (decide (v3 ≤ i.2.1.2.2.2.1)))))) (rfl : _ = (Res.bind (Res.bind (gd (has i.2.2.1 i.1.2.2.1 = true) (Res.ok ((Option.getD (look i.2.2.1 i.1.2.2.1) default)))) fun v2 => Res.ok ((i.1.2.2.2.2 + v2))) fun v3 => Res.ok (decide (v3 ≤ i.2.1.2.2.2.1)))))) (rfl : _ = (bif decide (i.1.2.2.1 = i.2.1.2.1) then (Res.bind (Res.bind (gd (has i.2.2.1 i.1.2.2.1 = true) (Res.ok ((Option.getD (look i.2.2.1 i.1.2.2.1) default)))) fun v2 => Res.ok ((i.1.2.2.2.2 + v2))) fun v3 => Res.ok (decide (v3 ≤ i.2.1.2.2.2.1))) else Res.ok false))) (fun r1 => r1) (fun _ => ⟨_, Wk.toAny rfl, And.intro rfl rfl⟩) (Wk.toAny rfl)
abbrev sp_by_leaving (K : PySem.W.Frag) (mg : Str → Option Value) : Sp := spF K mg (fun i : List (Int × Str × Str × Int × Int) × Unit => [.is (rL (rT (wc rI (wc rS (wc rS (wc rI (w1 rI))))))) i.1]) (fun i => m_by_leaving i.1) (fun x : List (Int × Str × Str × Int × Int) => .is (rL (rT (wc rI (wc rS (wc rS (wc rI (w1 rI))))))) x)
def N_by_leaving : List Str := ["rides"]
theorem sc_by_leaving : FnScope N_by_leaving ["rides"] (defScope s_by_leaving) := ⟨rfl, rfl, rfl, by decide +kernel, rfl, by decide +kernel, by decide +kernel⟩
theorem keyL_kk {F : Hp} {vs : List V} {x : Int × Str × Str × Int × Int} {its : List Value} (h : (wc rI (wc rS (wc rS (wc rI (w1 rI))))).ok F vs x) (v : Vals vs its) : its.length ≤ 1000 ∧ kk2 3 0 its (keyL x) := by
  obtain ⟨v0, _, rfl, r0, v1, _, rfl, r1, v2, _, rfl, r2, v3, _, rfl, r3, v4, rfl, r4⟩ := h
  cases r0; cases r3; cases r4
  obtain ⟨r1, _⟩ := r1
  obtain ⟨r2, _⟩ := r2
  subst r1 r2
  cases v with
  | cons a0 v => cases v with
    | cons a1 v => cases v with
      | cons a2 v => cases v with
        | cons a3 v => cases v with
          | cons a4 v =>
            cases v
            obtain ⟨t0, rfl⟩ := a0
            obtain ⟨t3, rfl⟩ := a3
            exact ⟨by simp, _, _, _, _, rfl, rfl, rfl⟩
theorem fk_by_leaving {P : Program} {w : World} {K : PySem.W.Frag} {mg : Str → Option Value} {base : Heap} {fd : FuncData} (Fn : FnP K "by_leaving" "by_leaving" s_by_leaving (He.fAd K ("by_leaving", none)) fd) (hm : mg "by_leaving" = some (.ref (He.fAd K ("by_leaving", none)))) (hf : Free mg)
    (TB : LamX.TabB base mg (He.cT K ("by_leaving", none)).1 (He.cT K ("by_leaving", none)).2) (HU : ∀ m ∈ lamDefs, (He.cT K (m, none)).2 = (He.cT K ("by_leaving", none)).2 → m = "by_leaving") : Fk P w K mg base 3 "by_leaving" ["rides"] (sp_by_leaving K mg) := by
  refine fk_of Fn (fn_L (k := 2) Fn sc_by_leaving (fun _ => rfl) (fun i X C hc hq => ?_)) hm (fun _ _ _ _ _ _ us hl => match us, hl with | [_], _ => rfl)
  have LA := lamAt_of C TB hc hq (by decide) HU (by decide +kernel)
  show XG X [.is (rL (rT (wc rI (wc rS (wc rS (wc rI (w1 rI))))))) i.1] _ _ _ _ _
  refine xg_eq (xg_ret (b := ()) (xm_ofO (xmo_sortKey C hf keyL (kk2 3 0) "ride" (xm_fb bfL (xm_var C 0 (R := rL (rT (wc rI (wc rS (wc rS (wc rI (w1 rI))))))) (x := i.1))) LA (by decide +kernel) kr2 (fun F vs x its h v => keyL_kk h v) (fun a b => ?_) (fun bs => PySem.W.Sortable.tuples fun b => ⟨_, _, rfl⟩) (fun x => ?_) (C.deep (Nat.le_refl 2)))) (fun r => r) (fun _ => ⟨_, Wk.toAny rfl, And.intro rfl rfl⟩) (Wk.toAny rfl)) rfl
  · simp [keyL, PySem.W.alike, PySem.W.alikeAll]
  · simp [keyL, PyData.depth, PyData.depthAll]
abbrev sp_soonest (K : PySem.W.Frag) (mg : Str → Option Value) : Sp := spF K mg (fun i : (List (Int × Str × Str × Int × Int)) × (List (Str × Int)) × Str × Int × Unit => [.is (rL (rT (wc rI (wc rS (wc rS (wc rI (w1 rI))))))) i.1, .is (rK kS rI) i.2.1, .is rS i.2.2.1, .is rI i.2.2.2.1]) (fun i => m_soonest i.1 i.2.1 i.2.2.1 i.2.2.2.1) (fun x : (List (Str × Int)) => .res (oL (rT (wc rS (w1 rI)))) x)
def N_soonest : List Str := ["rides", "spans", "start", "since", "found", "ride", "ready"]
theorem sc_soonest : FnScope N_soonest ["rides", "spans", "start", "since"] (defScope s_soonest) := ⟨rfl, rfl, rfl, by decide +kernel, rfl, by decide +kernel, by decide +kernel⟩
theorem fk_soonest {P : Program} {w : World} {K : PySem.W.Frag} {mg : Str → Option Value} {base : Heap} {f : Addr} {fd : FuncData} (Fn : FnP K "soonest" "soonest" s_soonest f fd) (hm : mg "soonest" = some (.ref f)) (hf : Free mg) (G_by_leaving : Fk P w K mg base 3 "by_leaving" ["rides"] (sp_by_leaving K mg)) : Fk P w K mg base 4 "soonest" ["rides", "spans", "start", "since"] (sp_soonest K mg) := by
  refine fk_of Fn (fn_F (k := 3) Fn sc_soonest (fun _ => rfl) (fun i X C => ?_)) hm (fun _ _ _ _ _ _ us hl => match us, hl with | [_, _, _, _], _ => rfl)
  show XG X [.is (rL (rT (wc rI (wc rS (wc rS (wc rI (w1 rI))))))) i.1, .is (rK kS rI) i.2.1, .is rS i.2.2.1, .is rI i.2.2.2.1, .any, .any, .any] _ _ _ _ _
  refine xg_asgO C 4 (xmo_eq (xmo_dict1 (A := kS) C (xm_var C 2 (R := rS) (x := i.2.2.1)) (xm_var C 3 (R := rI) (x := i.2.2.2.1))) (rfl : _ = (Res.ok ([(i.2.2.1, i.2.2.2.1)]) : R0 (List (Str × Int))))) (fun found_1 => ?_) (Wk.toAny rfl)
  show XG X [.is (rL (rT (wc rI (wc rS (wc rS (wc rI (w1 rI))))))) i.1, .is (rK kS rI) i.2.1, .is rS i.2.2.1, .is rI i.2.2.2.1, .res (oK kS rI) found_1, .any, .any] _ _ _ _ _
  refine xg_for C (fun s3 : (List (Str × Int)) => [.is (rL (rT (wc rI (wc rS (wc rS (wc rI (w1 rI))))))) i.1, .is (rK kS rI) i.2.1, .is rS i.2.2.1, .is rI i.2.2.2.1, .res (oK kS rI) s3, .any, .any]) (found_1) (JR := (JF (fun x : (List (Str × Int)) => .res (oL (rT (wc rS (w1 rI)))) x) (fun _ => List.replicate N_soonest.length .any))) (inj := (fun r => r)) (bm := (soonest_b0 i.2.1)) (q := (soonest_k1)) (xi_list (xm_eq (xm_call' C G_by_leaving (xa_cons (ss := fun t : Unit => []) (xm_var C 0 (R := (rL (rT (wc rI (wc rS (wc rS (wc rI (w1 rI)))))))) (x := i.1)) xma_nil rfl (rfl : _ = (Res.ok ((i.1, ())) : R0 ((List (Int × Str × Str × Int × Int)) × Unit))))) (rfl : _ = (m_by_leaving i.1)))) (xtg_name C 5) (Wk.same (Wk.same (Wk.same (Wk.same (Wk.same (Wk.any (Wk.any Wk.nil))))))) (fun s3 x4 => ?_) (Wk.toAny rfl) (fun _ _ _ h => h) (fun s3 => ?_)
  · show XG X [.is (rL (rT (wc rI (wc rS (wc rS (wc rI (w1 rI))))))) i.1, .is (rK kS rI) i.2.1, .is rS i.2.2.1, .is rI i.2.2.2.1, .res (oK kS rI) s3, .is (rT (wc rI (wc rS (wc rS (wc rI (w1 rI)))))) x4, .any] _ _ _ _ _
    refine xg_if (Γ' := fun s8 : (List (Str × Int)) => [.is (rL (rT (wc rI (wc rS (wc rS (wc rI (w1 rI))))))) i.1, .is (rK kS rI) i.2.1, .is rS i.2.2.1, .is rI i.2.2.2.1, .res (oK kS rI) s8, .is (rT (wc rI (wc rS (wc rS (wc rI (w1 rI)))))) x4, .any]) (q := fun s8 : (List (Str × Int)) => soonest_j2 s8) (xmt_eq (xmt_w (xmw_eq (xmw_and (xmt_eq (xmt_cmp (o_inD C (A := kS) (R := rI)) (xm_eq (ma1 (xm_var C 5 (R := (rT (wc rI (wc rS (wc rS (wc rI (w1 rI))))))) (x := x4))) (rfl : _ = (Res.ok (x4.2.1) : R0 Str))) (xm_bor C 4 (A := (oK kS rI)) (x := s3) bwK)) (rfl : _ = (Res.ok ((has s3 x4.2.1)) : R0 Bool))) (xmw_eq (xmw_and1 (xmt_eq (xmt_cmp o_le (xm_eq (xm_dget C (A := kS) (R := rI) (xm_bor C 4 (A := (oK kS rI)) (x := s3) bwK) (xm_eq (ma1 (xm_var C 5 (R := (rT (wc rI (wc rS (wc rS (wc rI (w1 rI))))))) (x := x4))) (rfl : _ = (Res.ok (x4.2.1) : R0 Str)))) (rfl : _ = (gd (has s3 x4.2.1 = true) (Res.ok ((Option.getD (look s3 x4.2.1) default)))))) (xm_eq (ma3 (xm_var C 5 (R := (rT (wc rI (wc rS (wc rS (wc rI (w1 rI))))))) (x := x4))) (rfl : _ = (Res.ok (x4.2.2.2.1) : R0 Int)))) (rfl : _ = (Res.bind (gd (has s3 x4.2.1 = true) (Res.ok ((Option.getD (look s3 x4.2.1) default)))) fun v6 => Res.ok (decide (v6 ≤ x4.2.2.2.1)))))) (rfl : _ = (Res.bind (gd (has s3 x4.2.1 = true) (Res.ok ((Option.getD (look s3 x4.2.1) default)))) fun v6 => Res.ok (decide (v6 ≤ x4.2.2.2.1)))))) (rfl : _ = (bif (has s3 x4.2.1) then (Res.bind (gd (has s3 x4.2.1 = true) (Res.ok ((Option.getD (look s3 x4.2.1) default)))) fun v6 => Res.ok (decide (v6 ≤ x4.2.2.2.1))) else Res.ok false)))) (rfl : _ = (bif (has s3 x4.2.1) then (Res.bind (gd (has s3 x4.2.1 = true) (Res.ok ((Option.getD (look s3 x4.2.1) default)))) fun v6 => Res.ok (decide (v6 ≤ x4.2.2.2.1))) else Res.ok false))) ?_ ?_ (fun s8 => ?_) (Wk.toAny rfl)
    · show XG X [.is (rL (rT (wc rI (wc rS (wc rS (wc rI (w1 rI))))))) i.1, .is (rK kS rI) i.2.1, .is rS i.2.2.1, .is rI i.2.2.2.1, .res (oK kS rI) s3, .is (rT (wc rI (wc rS (wc rS (wc rI (w1 rI)))))) x4, .any] _ _ _ _ _
      refine xg_asg C 6 (xm_eq (xm_binT o_add (xm_eq (ma4l (xm_var C 5 (R := (rT (wc rI (wc rS (wc rS (wc rI (w1 rI))))))) (x := x4))) (rfl : _ = (Res.ok (x4.2.2.2.2) : R0 Int))) (xm_eq (xm_dget C (A := kS) (R := rI) (xm_eq (xm_fb bfK (xm_var C 1 (R := (rK kS rI)) (x := i.2.1))) (rfl : _ = (Res.ok (i.2.1) : R0 (List (Str × Int))))) (xm_eq (ma2 (xm_var C 5 (R := (rT (wc rI (wc rS (wc rS (wc rI (w1 rI))))))) (x := x4))) (rfl : _ = (Res.ok (x4.2.2.1) : R0 Str)))) (rfl : _ = (gd (has i.2.1 x4.2.2.1 = true) (Res.ok ((Option.getD (look i.2.1 x4.2.2.1) default))))))) (rfl : _ = (Res.bind (gd (has i.2.1 x4.2.2.1 = true) (Res.ok ((Option.getD (look i.2.1 x4.2.2.1) default)))) fun v10 => Res.ok ((x4.2.2.2.2 + v10))))) (fun ready_9 => ?_) (Wk.toAny rfl)
      show XG X [.is (rL (rT (wc rI (wc rS (wc rS (wc rI (w1 rI))))))) i.1, .is (rK kS rI) i.2.1, .is rS i.2.2.1, .is rI i.2.2.2.1, .res (oK kS rI) s3, .is (rT (wc rI (wc rS (wc rS (wc rI (w1 rI)))))) x4, .is rI ready_9] _ _ _ _ _
      refine xg_if (Γ' := fun s13 : (List (Str × Int)) => [.is (rL (rT (wc rI (wc rS (wc rS (wc rI (w1 rI))))))) i.1, .is (rK kS rI) i.2.1, .is rS i.2.2.1, .is rI i.2.2.2.1, .res (oK kS rI) s13, .is (rT (wc rI (wc rS (wc rS (wc rI (w1 rI)))))) x4, .is rI ready_9]) (q := fun s13 : (List (Str × Int)) => soonest_j3 s13) (xmt_eq (xmt_w (xmw_eq (xmw_or (xmt_eq (xmt_cmp (o_notInD C (A := kS) (R := rI)) (xm_eq (ma2 (xm_var C 5 (R := (rT (wc rI (wc rS (wc rS (wc rI (w1 rI))))))) (x := x4))) (rfl : _ = (Res.ok (x4.2.2.1) : R0 Str))) (xm_bor C 4 (A := (oK kS rI)) (x := s3) bwK)) (rfl : _ = (Res.ok ((!has s3 x4.2.2.1)) : R0 Bool))) (xmw_eq (xmw_or1 (xmt_eq (xmt_cmp o_lt (xm_var C 6 (R := rI) (x := ready_9)) (xm_eq (xm_dget C (A := kS) (R := rI) (xm_bor C 4 (A := (oK kS rI)) (x := s3) bwK) (xm_eq (ma2 (xm_var C 5 (R := (rT (wc rI (wc rS (wc rS (wc rI (w1 rI))))))) (x := x4))) (rfl : _ = (Res.ok (x4.2.2.1) : R0 Str)))) (rfl : _ = (gd (has s3 x4.2.2.1 = true) (Res.ok ((Option.getD (look s3 x4.2.2.1) default))))))) (rfl : _ = (Res.bind (gd (has s3 x4.2.2.1 = true) (Res.ok ((Option.getD (look s3 x4.2.2.1) default)))) fun v11 => Res.ok (decide (ready_9 < v11)))))) (rfl : _ = (Res.bind (gd (has s3 x4.2.2.1 = true) (Res.ok ((Option.getD (look s3 x4.2.2.1) default)))) fun v11 => Res.ok (decide (ready_9 < v11)))))) (rfl : _ = (bif (!has s3 x4.2.2.1) then Res.ok true else (Res.bind (gd (has s3 x4.2.2.1 = true) (Res.ok ((Option.getD (look s3 x4.2.2.1) default)))) fun v11 => Res.ok (decide (ready_9 < v11))))))) (rfl : _ = (bif (!has s3 x4.2.2.1) then Res.ok true else (Res.bind (gd (has s3 x4.2.2.1 = true) (Res.ok ((Option.getD (look s3 x4.2.2.1) default)))) fun v11 => Res.ok (decide (ready_9 < v11)))))) ?_ ?_ (fun s13 => ?_) (Wk.toAny rfl)
      · show XG X [.is (rL (rT (wc rI (wc rS (wc rS (wc rI (w1 rI))))))) i.1, .is (rK kS rI) i.2.1, .is rS i.2.2.1, .is rI i.2.2.2.1, .res (oK kS rI) s3, .is (rT (wc rI (wc rS (wc rS (wc rI (w1 rI)))))) x4, .is rI ready_9] _ _ _ _ _
        refine xg_dput C 4 (A := kS) (R := rI) (d := s3) (xm_var C 6 (R := rI) (x := ready_9)) (xm_eq (ma2 (xm_var C 5 (R := (rT (wc rI (wc rS (wc rS (wc rI (w1 rI))))))) (x := x4))) (rfl : _ = (Res.ok (x4.2.2.1) : R0 Str))) (fun x14 q15 => ?_) (Wk.toAny rfl)
        show XG X [.is (rL (rT (wc rI (wc rS (wc rS (wc rI (w1 rI))))))) i.1, .is (rK kS rI) i.2.1, .is rS i.2.2.1, .is rI i.2.2.2.1, .res (oK kS rI) (dput s3 q15 x14), .is (rT (wc rI (wc rS (wc rS (wc rI (w1 rI)))))) x4, .is rI ready_9] _ _ _ _ _
        exact xg_nil ⟨_, Wk.refl _, Exists.intro ((dput s3 q15 x14)) (And.intro rfl (Wk.same (Wk.same (Wk.same (Wk.same (Wk.same (Wk.same (Wk.same Wk.nil))))))))⟩
      · show XG X [.is (rL (rT (wc rI (wc rS (wc rS (wc rI (w1 rI))))))) i.1, .is (rK kS rI) i.2.1, .is rS i.2.2.1, .is rI i.2.2.2.1, .res (oK kS rI) s3, .is (rT (wc rI (wc rS (wc rS (wc rI (w1 rI)))))) x4, .is rI ready_9] _ _ _ _ _
        exact xg_nil ⟨_, Wk.refl _, Exists.intro (s3) (And.intro rfl (Wk.same (Wk.same (Wk.same (Wk.same (Wk.same (Wk.same (Wk.same Wk.nil))))))))⟩
      show XG X [.is (rL (rT (wc rI (wc rS (wc rS (wc rI (w1 rI))))))) i.1, .is (rK kS rI) i.2.1, .is rS i.2.2.1, .is rI i.2.2.2.1, .res (oK kS rI) s13, .is (rT (wc rI (wc rS (wc rS (wc rI (w1 rI)))))) x4, .is rI ready_9] _ _ _ _ _
      exact xg_nil ⟨_, Wk.refl _, Exists.intro (s13) (And.intro rfl (Wk.same (Wk.same (Wk.same (Wk.same (Wk.same (Wk.same (Wk.any Wk.nil))))))))⟩
    · show XG X [.is (rL (rT (wc rI (wc rS (wc rS (wc rI (w1 rI))))))) i.1, .is (rK kS rI) i.2.1, .is rS i.2.2.1, .is rI i.2.2.2.1, .res (oK kS rI) s3, .is (rT (wc rI (wc rS (wc rS (wc rI (w1 rI)))))) x4, .any] _ _ _ _ _
      exact xg_nil ⟨_, Wk.refl _, Exists.intro (s3) (And.intro rfl (Wk.same (Wk.same (Wk.same (Wk.same (Wk.same (Wk.same (Wk.any Wk.nil))))))))⟩
    show XG X [.is (rL (rT (wc rI (wc rS (wc rS (wc rI (w1 rI))))))) i.1, .is (rK kS rI) i.2.1, .is rS i.2.2.1, .is rI i.2.2.2.1, .res (oK kS rI) s8, .is (rT (wc rI (wc rS (wc rS (wc rI (w1 rI)))))) x4, .any] _ _ _ _ _
    exact xg_nil ⟨_, Wk.refl _, Exists.intro (s8) (And.intro rfl (Wk.same (Wk.same (Wk.same (Wk.same (Wk.same (Wk.any (Wk.any Wk.nil))))))))⟩
  show XG X [.is (rL (rT (wc rI (wc rS (wc rS (wc rI (w1 rI))))))) i.1, .is (rK kS rI) i.2.1, .is rS i.2.2.1, .is rI i.2.2.2.1, .res (oK kS rI) s3, .any, .any] _ _ _ _ _
  exact xg_retO (xmo_eq (xmo_sortItems C hf 4 (d := s3)) (rfl : _ = (Res.ok ((srt rSI s3)) : R0 (List (Str × Int))))) (fun r16 => r16) (fun _ => ⟨_, Wk.toAny rfl, And.intro rfl rfl⟩) (Wk.toAny rfl)
abbrev sp_no_way (K : PySem.W.Frag) (mg : Str → Option Value) : Sp := spF K mg (fun i : (List (Int × Str × Str × Int × Int)) × (List (Str × Int)) × Str × Str × Int × Unit => [.is (rL (rT (wc rI (wc rS (wc rS (wc rI (w1 rI))))))) i.1, .is (rK kS rI) i.2.1, .is rS i.2.2.1, .is rS i.2.2.2.1, .is rI i.2.2.2.2.1]) (fun i => m_no_way i.1 i.2.1 i.2.2.1 i.2.2.2.1 i.2.2.2.2.1) (fun x : (Option (List (Str × Int))) => .is (rO (rL (rT (wc rS (w1 rI))))) x)
def N_no_way : List Str := ["rides", "spans", "start", "goal", "since", "paper", "place", "ready"]
theorem sc_no_way : FnScope N_no_way ["rides", "spans", "start", "goal", "since"] (defScope s_no_way) := ⟨rfl, rfl, rfl, by decide +kernel, rfl, by decide +kernel, by decide +kernel⟩
theorem fk_no_way {P : Program} {w : World} {K : PySem.W.Frag} {mg : Str → Option Value} {base : Heap} {f : Addr} {fd : FuncData} (Fn : FnP K "no_way" "no_way" s_no_way f fd) (hm : mg "no_way" = some (.ref f)) (hf : Free mg) (G_soonest : Fk P w K mg base 4 "soonest" ["rides", "spans", "start", "since"] (sp_soonest K mg)) : Fk P w K mg base 5 "no_way" ["rides", "spans", "start", "goal", "since"] (sp_no_way K mg) := by
  refine fk_of Fn (fn_F (k := 4) Fn sc_no_way (fun _ => rfl) (fun i X C => ?_)) hm (fun _ _ _ _ _ _ us hl => match us, hl with | [_, _, _, _, _], _ => rfl)
  show XG X [.is (rL (rT (wc rI (wc rS (wc rS (wc rI (w1 rI))))))) i.1, .is (rK kS rI) i.2.1, .is rS i.2.2.1, .is rS i.2.2.2.1, .is rI i.2.2.2.2.1, .any, .any, .any] _ _ _ _ _
  refine xg_asg C 5 (xm_eq (xm_ofO (xmo_eq (xmo_call' C G_soonest (xa_cons (ss := fun t : (List (Str × Int)) × Str × Int × Unit => [Slot.is (rK kS rI) t.1, Slot.is rS t.2.1, Slot.is rI t.2.2.1]) (xm_var C 0 (R := (rL (rT (wc rI (wc rS (wc rS (wc rI (w1 rI)))))))) (x := i.1)) (xa_cons (ss := fun t : Str × Int × Unit => [Slot.is rS t.1, Slot.is rI t.2.1]) (xm_var C 1 (R := (rK kS rI)) (x := i.2.1)) (xa_cons (ss := fun t : Int × Unit => [Slot.is rI t.1]) (xm_var C 2 (R := rS) (x := i.2.2.1)) (xa_cons (ss := fun t : Unit => []) (xm_var C 4 (R := rI) (x := i.2.2.2.2.1)) xma_nil rfl (rfl : _ = (Res.ok ((i.2.2.2.2.1, ())) : R0 (Int × Unit)))) rfl (rfl : _ = (Res.ok ((i.2.2.1, (i.2.2.2.2.1, ()))) : R0 (Str × Int × Unit)))) rfl (rfl : _ = (Res.ok ((i.2.1, (i.2.2.1, (i.2.2.2.2.1, ())))) : R0 ((List (Str × Int)) × Str × Int × Unit)))) rfl (rfl : _ = (Res.ok ((i.1, (i.2.1, (i.2.2.1, (i.2.2.2.2.1, ()))))) : R0 ((List (Int × Str × Str × Int × Int)) × (List (Str × Int)) × Str × Int × Unit))))) (rfl : _ = (m_soonest i.1 i.2.1 i.2.2.1 i.2.2.2.2.1)))) (rfl : _ = (m_soonest i.1 i.2.1 i.2.2.1 i.2.2.2.2.1))) (fun paper_1 => ?_) (Wk.toAny rfl)
  show XG X [.is (rL (rT (wc rI (wc rS (wc rS (wc rI (w1 rI))))))) i.1, .is (rK kS rI) i.2.1, .is rS i.2.2.1, .is rS i.2.2.2.1, .is rI i.2.2.2.2.1, .is (rL (rT (wc rS (w1 rI)))) paper_1, .any, .any] _ _ _ _ _
  refine xg_if1 (xmt_eq (xmt_cmp (o_in C) (xm_var C 3 (R := rS) (x := i.2.2.2.1)) (xm_eq (xm_fb bfL (xm_eq (xm_ofO (xmo_eq (xmo_comp C [("place", 6), ("ready", 7)] (xi_list (xm_var C 5 (R := (rL (rT (wc rS (w1 rI))))) (x := paper_1))) (fun _ C' => (xtg_tup C' (xtgs_c (xtg_name C' 6) (xtgs_1 (xtg_name C' 7))))) (fun _ C' y2 => xmts_nil) (fun _ C' y2 => (xm_var C' 6 (R := rS) (x := y2.1))) (pm := (fun y2 : (Str × Int) => (Res.ok true : R0 Bool))) (gm := (fun y2 : (Str × Int) => (Res.ok (y2.1) : R0 Str)))) (rfl : _ = (gd (List.length paper_1 ≤ sizeLine) (compR (fun y2 : (Str × Int) => (Res.ok true : R0 Bool)) (fun y2 : (Str × Int) => (Res.ok (y2.1) : R0 Str)) paper_1))))) (rfl : _ = (gd (List.length paper_1 ≤ sizeLine) (compR (fun y2 : (Str × Int) => (Res.ok true : R0 Bool)) (fun y2 : (Str × Int) => (Res.ok (y2.1) : R0 Str)) paper_1))))) (rfl : _ = (gd (List.length paper_1 ≤ sizeLine) (compR (fun y2 : (Str × Int) => (Res.ok true : R0 Bool)) (fun y2 : (Str × Int) => (Res.ok (y2.1) : R0 Str)) paper_1))))) (rfl : _ = (Res.bind (gd (List.length paper_1 ≤ sizeLine) (compR (fun y2 : (Str × Int) => (Res.ok true : R0 Bool)) (fun y2 : (Str × Int) => (Res.ok (y2.1) : R0 Str)) paper_1)) fun v3 => Res.ok ((isIn i.2.2.2.1 v3))))) ?_ ?_ (Wk.toAny rfl)
  · show XG X [.is (rL (rT (wc rI (wc rS (wc rS (wc rI (w1 rI))))))) i.1, .is (rK kS rI) i.2.1, .is rS i.2.2.1, .is rS i.2.2.2.1, .is rI i.2.2.2.2.1, .is (rL (rT (wc rS (w1 rI)))) paper_1, .any, .any] _ _ _ _ _
    exact xg_ret (xm_eq (xm_none (R := (rL (rT (wc rS (w1 rI)))))) (rfl : _ = (Res.ok (none) : R0 (Option (List (Str × Int)))))) (fun r5 => r5) (fun _ => ⟨_, Wk.toAny rfl, And.intro rfl rfl⟩) (Wk.toAny rfl)
  show XG X [.is (rL (rT (wc rI (wc rS (wc rS (wc rI (w1 rI))))))) i.1, .is (rK kS rI) i.2.1, .is rS i.2.2.1, .is rS i.2.2.2.1, .is rI i.2.2.2.2.1, .is (rL (rT (wc rS (w1 rI)))) paper_1, .any, .any] _ _ _ _ _
  exact xg_ret (xm_eq (xm_some (xm_var C 5 (R := (rL (rT (wc rS (w1 rI))))) (x := paper_1))) (rfl : _ = (Res.ok (some paper_1) : R0 (Option (List (Str × Int)))))) (fun r6 => r6) (fun _ => ⟨_, Wk.toAny rfl, And.intro rfl rfl⟩) (Wk.toAny rfl)
abbrev sp_bars (K : PySem.W.Frag) (mg : Str → Option Value) : Sp := spF K mg (fun i : (List (Int × Str × Str × Int × Int)) × (List (Str × Int)) × Str × Str × Int × (List (Str × Int)) × Unit => [.is (rL (rT (wc rI (wc rS (wc rS (wc rI (w1 rI))))))) i.1, .is (rK kS rI) i.2.1, .is rS i.2.2.1, .is rS i.2.2.2.1, .is rI i.2.2.2.2.1, .is (rL (rT (wc rS (w1 rI)))) i.2.2.2.2.2.1]) (fun i => m_bars i.1 i.2.1 i.2.2.1 i.2.2.2.1 i.2.2.2.2.1 i.2.2.2.2.2.1) (fun x : Bool => .is rB x)
def N_bars : List Str := ["rides", "spans", "start", "goal", "since", "paper", "known", "place", "ready", "ride"]
theorem sc_bars : FnScope N_bars ["rides", "spans", "start", "goal", "since", "paper"] (defScope s_bars) := ⟨rfl, rfl, rfl, by decide +kernel, rfl, by decide +kernel, by decide +kernel⟩
theorem fk_bars {P : Program} {w : World} {K : PySem.W.Frag} {mg : Str → Option Value} {base : Heap} {f : Addr} {fd : FuncData} (Fn : FnP K "bars" "bars" s_bars f fd) (hm : mg "bars" = some (.ref f)) (hf : Free mg) : Fk P w K mg base 1 "bars" ["rides", "spans", "start", "goal", "since", "paper"] (sp_bars K mg) := by
  refine fk_of Fn (fn_F (k := 0) Fn sc_bars (fun _ => rfl) (fun i X C => ?_)) hm (fun _ _ _ _ _ _ us hl => match us, hl with | [_, _, _, _, _, _], _ => rfl)
  show XG X [.is (rL (rT (wc rI (wc rS (wc rS (wc rI (w1 rI))))))) i.1, .is (rK kS rI) i.2.1, .is rS i.2.2.1, .is rS i.2.2.2.1, .is rI i.2.2.2.2.1, .is (rL (rT (wc rS (w1 rI)))) i.2.2.2.2.2.1, .any, .any, .any, .any] _ _ _ _ _
  refine xg_asgO C 6 (xmo_eq (xmo_newK kS rI) (rfl : _ = (Res.ok (([] : (List (Str × Int)))) : R0 (List (Str × Int))))) (fun known_1 => ?_) (Wk.toAny rfl)
  show XG X [.is (rL (rT (wc rI (wc rS (wc rS (wc rI (w1 rI))))))) i.1, .is (rK kS rI) i.2.1, .is rS i.2.2.1, .is rS i.2.2.2.1, .is rI i.2.2.2.2.1, .is (rL (rT (wc rS (w1 rI)))) i.2.2.2.2.2.1, .res (oK kS rI) known_1, .any, .any, .any] _ _ _ _ _
  refine xg_for C (fun s3 : (List (Str × Int)) => [.is (rL (rT (wc rI (wc rS (wc rS (wc rI (w1 rI))))))) i.1, .is (rK kS rI) i.2.1, .is rS i.2.2.1, .is rS i.2.2.2.1, .is rI i.2.2.2.2.1, .is (rL (rT (wc rS (w1 rI)))) i.2.2.2.2.2.1, .res (oK kS rI) s3, .any, .any, .any]) (known_1) (JR := (JF (fun x : Bool => .is rB x) (fun _ => List.replicate N_bars.length .any))) (inj := (fun r => r)) (bm := (bars_b0)) (q := (bars_k1 i.1 i.2.1 i.2.2.1 i.2.2.2.1 i.2.2.2.2.1)) (xi_list (xm_var C 5 (R := (rL (rT (wc rS (w1 rI))))) (x := i.2.2.2.2.2.1))) (xtg_tup C (xtgs_c (xtg_name C 7) (xtgs_1 (xtg_name C 8)))) (Wk.same (Wk.same (Wk.same (Wk.same (Wk.same (Wk.same (Wk.same (Wk.any (Wk.any (Wk.any Wk.nil)))))))))) (fun s3 x4 => ?_) (Wk.toAny rfl) (fun _ _ _ h => h) (fun s3 => ?_)
  · show XG X [.is (rL (rT (wc rI (wc rS (wc rS (wc rI (w1 rI))))))) i.1, .is (rK kS rI) i.2.1, .is rS i.2.2.1, .is rS i.2.2.2.1, .is rI i.2.2.2.2.1, .is (rL (rT (wc rS (w1 rI)))) i.2.2.2.2.2.1, .res (oK kS rI) s3, .is rS x4.1, .is rI x4.2, .any] _ _ _ _ _
    refine xg_if1 (xmt_eq (xmt_cmp (o_inD C (A := kS) (R := rI)) (xm_var C 7 (R := rS) (x := x4.1)) (xm_bor C 6 (A := (oK kS rI)) (x := s3) bwK)) (rfl : _ = (Res.ok ((has s3 x4.1)) : R0 Bool))) ?_ ?_ (Wk.toAny rfl)
    · show XG X [.is (rL (rT (wc rI (wc rS (wc rS (wc rI (w1 rI))))))) i.1, .is (rK kS rI) i.2.1, .is rS i.2.2.1, .is rS i.2.2.2.1, .is rI i.2.2.2.2.1, .is (rL (rT (wc rS (w1 rI)))) i.2.2.2.2.2.1, .res (oK kS rI) s3, .is rS x4.1, .is rI x4.2, .any] _ _ _ _ _
      refine xg_freeze 6 ?_
      show XG X [.is (rL (rT (wc rI (wc rS (wc rS (wc rI (w1 rI))))))) i.1, .is (rK kS rI) i.2.1, .is rS i.2.2.1, .is rS i.2.2.2.1, .is rI i.2.2.2.2.1, .is (rL (rT (wc rS (w1 rI)))) i.2.2.2.2.2.1, .is (rK kS rI) s3, .is rS x4.1, .is rI x4.2, .any] _ _ _ _ _
      exact xg_ret xm_bool (fun r7 => Lo.out (r7)) (fun _ => ⟨_, Wk.toAny rfl, And.intro rfl rfl⟩) (Wk.toAny rfl)
    show XG X [.is (rL (rT (wc rI (wc rS (wc rS (wc rI (w1 rI))))))) i.1, .is (rK kS rI) i.2.1, .is rS i.2.2.1, .is rS i.2.2.2.1, .is rI i.2.2.2.2.1, .is (rL (rT (wc rS (w1 rI)))) i.2.2.2.2.2.1, .res (oK kS rI) s3, .is rS x4.1, .is rI x4.2, .any] _ _ _ _ _
    refine xg_dput C 6 (A := kS) (R := rI) (d := s3) (xm_var C 8 (R := rI) (x := x4.2)) (xm_var C 7 (R := rS) (x := x4.1)) (fun x8 q9 => ?_) (Wk.toAny rfl)
    show XG X [.is (rL (rT (wc rI (wc rS (wc rS (wc rI (w1 rI))))))) i.1, .is (rK kS rI) i.2.1, .is rS i.2.2.1, .is rS i.2.2.2.1, .is rI i.2.2.2.2.1, .is (rL (rT (wc rS (w1 rI)))) i.2.2.2.2.2.1, .res (oK kS rI) (dput s3 q9 x8), .is rS x4.1, .is rI x4.2, .any] _ _ _ _ _
    exact xg_nil ⟨_, Wk.refl _, Exists.intro ((dput s3 q9 x8)) (And.intro rfl (Wk.same (Wk.same (Wk.same (Wk.same (Wk.same (Wk.same (Wk.same (Wk.any (Wk.any (Wk.any Wk.nil)))))))))))⟩
  show XG X [.is (rL (rT (wc rI (wc rS (wc rS (wc rI (w1 rI))))))) i.1, .is (rK kS rI) i.2.1, .is rS i.2.2.1, .is rS i.2.2.2.1, .is rI i.2.2.2.2.1, .is (rL (rT (wc rS (w1 rI)))) i.2.2.2.2.2.1, .res (oK kS rI) s3, .any, .any, .any] _ _ _ _ _
  refine xg_freeze 6 ?_
  show XG X [.is (rL (rT (wc rI (wc rS (wc rS (wc rI (w1 rI))))))) i.1, .is (rK kS rI) i.2.1, .is rS i.2.2.1, .is rS i.2.2.2.1, .is rI i.2.2.2.2.1, .is (rL (rT (wc rS (w1 rI)))) i.2.2.2.2.2.1, .is (rK kS rI) s3, .any, .any, .any] _ _ _ _ _
  refine xg_if1 (xmt_eq (xmt_w (xmw_eq (xmw_or (xmt_eq (xmt_cmp (o_inD C (A := kS) (R := rI)) (xm_var C 3 (R := rS) (x := i.2.2.2.1)) (xm_eq (xm_fb bfK (xm_var C 6 (R := (rK kS rI)) (x := s3))) (rfl : _ = (Res.ok (s3) : R0 (List (Str × Int)))))) (rfl : _ = (Res.ok ((has s3 i.2.2.2.1)) : R0 Bool))) (xmw_eq (xmw_or (xmt_eq (xmt_cmp (o_notInD C (A := kS) (R := rI)) (xm_var C 2 (R := rS) (x := i.2.2.1)) (xm_eq (xm_fb bfK (xm_var C 6 (R := (rK kS rI)) (x := s3))) (rfl : _ = (Res.ok (s3) : R0 (List (Str × Int)))))) (rfl : _ = (Res.ok ((!has s3 i.2.2.1)) : R0 Bool))) (xmw_eq (xmw_or1 (xmt_eq (xmt_cmp o_gt (xm_eq (xm_dget C (A := kS) (R := rI) (xm_eq (xm_fb bfK (xm_var C 6 (R := (rK kS rI)) (x := s3))) (rfl : _ = (Res.ok (s3) : R0 (List (Str × Int))))) (xm_var C 2 (R := rS) (x := i.2.2.1))) (rfl : _ = (gd (has s3 i.2.2.1 = true) (Res.ok ((Option.getD (look s3 i.2.2.1) default)))))) (xm_var C 4 (R := rI) (x := i.2.2.2.2.1))) (rfl : _ = (Res.bind (gd (has s3 i.2.2.1 = true) (Res.ok ((Option.getD (look s3 i.2.2.1) default)))) fun v10 => Res.ok (decide (v10 > i.2.2.2.2.1)))))) (rfl : _ = (Res.bind (gd (has s3 i.2.2.1 = true) (Res.ok ((Option.getD (look s3 i.2.2.1) default)))) fun v10 => Res.ok (decide (v10 > i.2.2.2.2.1)))))) (rfl : _ = (bif (!has s3 i.2.2.1) then Res.ok true else (Res.bind (gd (has s3 i.2.2.1 = true) (Res.ok ((Option.getD (look s3 i.2.2.1) default)))) fun v10 => Res.ok (decide (v10 > i.2.2.2.2.1))))))) (rfl : _ = (bif (has s3 i.2.2.2.1) then Res.ok true else (bif (!has s3 i.2.2.1) then Res.ok true else (Res.bind (gd (has s3 i.2.2.1 = true) (Res.ok ((Option.getD (look s3 i.2.2.1) default)))) fun v10 => Res.ok (decide (v10 > i.2.2.2.2.1)))))))) (rfl : _ = (bif (has s3 i.2.2.2.1) then Res.ok true else (bif (!has s3 i.2.2.1) then Res.ok true else (Res.bind (gd (has s3 i.2.2.1 = true) (Res.ok ((Option.getD (look s3 i.2.2.1) default)))) fun v10 => Res.ok (decide (v10 > i.2.2.2.2.1))))))) ?_ ?_ (Wk.toAny rfl)
  · show XG X [.is (rL (rT (wc rI (wc rS (wc rS (wc rI (w1 rI))))))) i.1, .is (rK kS rI) i.2.1, .is rS i.2.2.1, .is rS i.2.2.2.1, .is rI i.2.2.2.2.1, .is (rL (rT (wc rS (w1 rI)))) i.2.2.2.2.2.1, .is (rK kS rI) s3, .any, .any, .any] _ _ _ _ _
    exact xg_ret xm_bool (fun r12 => r12) (fun _ => ⟨_, Wk.toAny rfl, And.intro rfl rfl⟩) (Wk.toAny rfl)
  show XG X [.is (rL (rT (wc rI (wc rS (wc rS (wc rI (w1 rI))))))) i.1, .is (rK kS rI) i.2.1, .is rS i.2.2.1, .is rS i.2.2.2.1, .is rI i.2.2.2.2.1, .is (rL (rT (wc rS (w1 rI)))) i.2.2.2.2.2.1, .is (rK kS rI) s3, .any, .any, .any] _ _ _ _ _
  refine xg_for C (fun s14 : Unit => [.is (rL (rT (wc rI (wc rS (wc rS (wc rI (w1 rI))))))) i.1, .is (rK kS rI) i.2.1, .is rS i.2.2.1, .is rS i.2.2.2.1, .is rI i.2.2.2.2.1, .is (rL (rT (wc rS (w1 rI)))) i.2.2.2.2.2.1, .is (rK kS rI) s3, .any, .any, .any]) () (JR := (JF (fun x : Bool => .is rB x) (fun _ => List.replicate N_bars.length .any))) (inj := (fun r => r)) (bm := (bars_b2 i.2.1 s3)) (q := (bars_k3)) (xi_list (xm_var C 0 (R := (rL (rT (wc rI (wc rS (wc rS (wc rI (w1 rI)))))))) (x := i.1))) (xtg_name C 9) (Wk.same (Wk.same (Wk.same (Wk.same (Wk.same (Wk.same (Wk.same (Wk.any (Wk.any (Wk.any Wk.nil)))))))))) (fun s14 x15 => ?_) (Wk.toAny rfl) (fun _ _ _ h => h) (fun s14 => ?_)
  · show XG X [.is (rL (rT (wc rI (wc rS (wc rS (wc rI (w1 rI))))))) i.1, .is (rK kS rI) i.2.1, .is rS i.2.2.1, .is rS i.2.2.2.1, .is rI i.2.2.2.2.1, .is (rL (rT (wc rS (w1 rI)))) i.2.2.2.2.2.1, .is (rK kS rI) s3, .any, .any, .is (rT (wc rI (wc rS (wc rS (wc rI (w1 rI)))))) x15] _ _ _ _ _
    refine xg_if (Γ' := fun s19 : Unit => [.is (rL (rT (wc rI (wc rS (wc rS (wc rI (w1 rI))))))) i.1, .is (rK kS rI) i.2.1, .is rS i.2.2.1, .is rS i.2.2.2.1, .is rI i.2.2.2.2.1, .is (rL (rT (wc rS (w1 rI)))) i.2.2.2.2.2.1, .is (rK kS rI) s3, .any, .any, .is (rT (wc rI (wc rS (wc rS (wc rI (w1 rI)))))) x15]) (q := fun s19 : Unit => bars_j4 s19) (xmt_eq (xmt_w (xmw_eq (xmw_and (xmt_eq (xmt_cmp (o_inD C (A := kS) (R := rI)) (xm_eq (ma1 (xm_var C 9 (R := (rT (wc rI (wc rS (wc rS (wc rI (w1 rI))))))) (x := x15))) (rfl : _ = (Res.ok (x15.2.1) : R0 Str))) (xm_eq (xm_fb bfK (xm_var C 6 (R := (rK kS rI)) (x := s3))) (rfl : _ = (Res.ok (s3) : R0 (List (Str × Int)))))) (rfl : _ = (Res.ok ((has s3 x15.2.1)) : R0 Bool))) (xmw_eq (xmw_and1 (xmt_eq (xmt_cmp o_le (xm_eq (xm_dget C (A := kS) (R := rI) (xm_eq (xm_fb bfK (xm_var C 6 (R := (rK kS rI)) (x := s3))) (rfl : _ = (Res.ok (s3) : R0 (List (Str × Int))))) (xm_eq (ma1 (xm_var C 9 (R := (rT (wc rI (wc rS (wc rS (wc rI (w1 rI))))))) (x := x15))) (rfl : _ = (Res.ok (x15.2.1) : R0 Str)))) (rfl : _ = (gd (has s3 x15.2.1 = true) (Res.ok ((Option.getD (look s3 x15.2.1) default)))))) (xm_eq (ma3 (xm_var C 9 (R := (rT (wc rI (wc rS (wc rS (wc rI (w1 rI))))))) (x := x15))) (rfl : _ = (Res.ok (x15.2.2.2.1) : R0 Int)))) (rfl : _ = (Res.bind (gd (has s3 x15.2.1 = true) (Res.ok ((Option.getD (look s3 x15.2.1) default)))) fun v17 => Res.ok (decide (v17 ≤ x15.2.2.2.1)))))) (rfl : _ = (Res.bind (gd (has s3 x15.2.1 = true) (Res.ok ((Option.getD (look s3 x15.2.1) default)))) fun v17 => Res.ok (decide (v17 ≤ x15.2.2.2.1)))))) (rfl : _ = (bif (has s3 x15.2.1) then (Res.bind (gd (has s3 x15.2.1 = true) (Res.ok ((Option.getD (look s3 x15.2.1) default)))) fun v17 => Res.ok (decide (v17 ≤ x15.2.2.2.1))) else Res.ok false)))) (rfl : _ = (bif (has s3 x15.2.1) then (Res.bind (gd (has s3 x15.2.1 = true) (Res.ok ((Option.getD (look s3 x15.2.1) default)))) fun v17 => Res.ok (decide (v17 ≤ x15.2.2.2.1))) else Res.ok false))) ?_ ?_ (fun s19 => ?_) (Wk.toAny rfl)
    · show XG X [.is (rL (rT (wc rI (wc rS (wc rS (wc rI (w1 rI))))))) i.1, .is (rK kS rI) i.2.1, .is rS i.2.2.1, .is rS i.2.2.2.1, .is rI i.2.2.2.2.1, .is (rL (rT (wc rS (w1 rI)))) i.2.2.2.2.2.1, .is (rK kS rI) s3, .any, .any, .is (rT (wc rI (wc rS (wc rS (wc rI (w1 rI)))))) x15] _ _ _ _ _
      refine xg_if1 (xmt_eq (xmt_w (xmw_eq (xmw_or (xmt_eq (xmt_cmp (o_notInD C (A := kS) (R := rI)) (xm_eq (ma2 (xm_var C 9 (R := (rT (wc rI (wc rS (wc rS (wc rI (w1 rI))))))) (x := x15))) (rfl : _ = (Res.ok (x15.2.2.1) : R0 Str))) (xm_eq (xm_fb bfK (xm_var C 6 (R := (rK kS rI)) (x := s3))) (rfl : _ = (Res.ok (s3) : R0 (List (Str × Int)))))) (rfl : _ = (Res.ok ((!has s3 x15.2.2.1)) : R0 Bool))) (xmw_eq (xmw_or1 (xmt_eq (xmt_cmp o_gt (xm_eq (xm_dget C (A := kS) (R := rI) (xm_eq (xm_fb bfK (xm_var C 6 (R := (rK kS rI)) (x := s3))) (rfl : _ = (Res.ok (s3) : R0 (List (Str × Int))))) (xm_eq (ma2 (xm_var C 9 (R := (rT (wc rI (wc rS (wc rS (wc rI (w1 rI))))))) (x := x15))) (rfl : _ = (Res.ok (x15.2.2.1) : R0 Str)))) (rfl : _ = (gd (has s3 x15.2.2.1 = true) (Res.ok ((Option.getD (look s3 x15.2.2.1) default)))))) (xm_eq (xm_binT o_add (xm_eq (ma4l (xm_var C 9 (R := (rT (wc rI (wc rS (wc rS (wc rI (w1 rI))))))) (x := x15))) (rfl : _ = (Res.ok (x15.2.2.2.2) : R0 Int))) (xm_eq (xm_dget C (A := kS) (R := rI) (xm_eq (xm_fb bfK (xm_var C 1 (R := (rK kS rI)) (x := i.2.1))) (rfl : _ = (Res.ok (i.2.1) : R0 (List (Str × Int))))) (xm_eq (ma2 (xm_var C 9 (R := (rT (wc rI (wc rS (wc rS (wc rI (w1 rI))))))) (x := x15))) (rfl : _ = (Res.ok (x15.2.2.1) : R0 Str)))) (rfl : _ = (gd (has i.2.1 x15.2.2.1 = true) (Res.ok ((Option.getD (look i.2.1 x15.2.2.1) default))))))) (rfl : _ = (Res.bind (gd (has i.2.1 x15.2.2.1 = true) (Res.ok ((Option.getD (look i.2.1 x15.2.2.1) default)))) fun v20 => Res.ok ((x15.2.2.2.2 + v20)))))) (rfl : _ = (Res.bind (gd (has s3 x15.2.2.1 = true) (Res.ok ((Option.getD (look s3 x15.2.2.1) default)))) fun v21 => Res.bind (Res.bind (gd (has i.2.1 x15.2.2.1 = true) (Res.ok ((Option.getD (look i.2.1 x15.2.2.1) default)))) fun v20 => Res.ok ((x15.2.2.2.2 + v20))) fun v22 => Res.ok (decide (v21 > v22)))))) (rfl : _ = (Res.bind (gd (has s3 x15.2.2.1 = true) (Res.ok ((Option.getD (look s3 x15.2.2.1) default)))) fun v21 => Res.bind (Res.bind (gd (has i.2.1 x15.2.2.1 = true) (Res.ok ((Option.getD (look i.2.1 x15.2.2.1) default)))) fun v20 => Res.ok ((x15.2.2.2.2 + v20))) fun v22 => Res.ok (decide (v21 > v22)))))) (rfl : _ = (bif (!has s3 x15.2.2.1) then Res.ok true else (Res.bind (gd (has s3 x15.2.2.1 = true) (Res.ok ((Option.getD (look s3 x15.2.2.1) default)))) fun v21 => Res.bind (Res.bind (gd (has i.2.1 x15.2.2.1 = true) (Res.ok ((Option.getD (look i.2.1 x15.2.2.1) default)))) fun v20 => Res.ok ((x15.2.2.2.2 + v20))) fun v22 => Res.ok (decide (v21 > v22))))))) (rfl : _ = (bif (!has s3 x15.2.2.1) then Res.ok true else (Res.bind (gd (has s3 x15.2.2.1 = true) (Res.ok ((Option.getD (look s3 x15.2.2.1) default)))) fun v21 => Res.bind (Res.bind (gd (has i.2.1 x15.2.2.1 = true) (Res.ok ((Option.getD (look i.2.1 x15.2.2.1) default)))) fun v20 => Res.ok ((x15.2.2.2.2 + v20))) fun v22 => Res.ok (decide (v21 > v22)))))) ?_ ?_ (Wk.toAny rfl)
      · show XG X [.is (rL (rT (wc rI (wc rS (wc rS (wc rI (w1 rI))))))) i.1, .is (rK kS rI) i.2.1, .is rS i.2.2.1, .is rS i.2.2.2.1, .is rI i.2.2.2.2.1, .is (rL (rT (wc rS (w1 rI)))) i.2.2.2.2.2.1, .is (rK kS rI) s3, .any, .any, .is (rT (wc rI (wc rS (wc rS (wc rI (w1 rI)))))) x15] _ _ _ _ _
        exact xg_ret xm_bool (fun r24 => Lo.out (r24)) (fun _ => ⟨_, Wk.toAny rfl, And.intro rfl rfl⟩) (Wk.toAny rfl)
      show XG X [.is (rL (rT (wc rI (wc rS (wc rS (wc rI (w1 rI))))))) i.1, .is (rK kS rI) i.2.1, .is rS i.2.2.1, .is rS i.2.2.2.1, .is rI i.2.2.2.2.1, .is (rL (rT (wc rS (w1 rI)))) i.2.2.2.2.2.1, .is (rK kS rI) s3, .any, .any, .is (rT (wc rI (wc rS (wc rS (wc rI (w1 rI)))))) x15] _ _ _ _ _
      exact xg_nil ⟨_, Wk.refl _, Exists.intro () (And.intro rfl (Wk.same (Wk.same (Wk.same (Wk.same (Wk.same (Wk.same (Wk.same (Wk.any (Wk.any (Wk.same Wk.nil)))))))))))⟩
    · show XG X [.is (rL (rT (wc rI (wc rS (wc rS (wc rI (w1 rI))))))) i.1, .is (rK kS rI) i.2.1, .is rS i.2.2.1, .is rS i.2.2.2.1, .is rI i.2.2.2.2.1, .is (rL (rT (wc rS (w1 rI)))) i.2.2.2.2.2.1, .is (rK kS rI) s3, .any, .any, .is (rT (wc rI (wc rS (wc rS (wc rI (w1 rI)))))) x15] _ _ _ _ _
      exact xg_nil ⟨_, Wk.refl _, Exists.intro () (And.intro rfl (Wk.same (Wk.same (Wk.same (Wk.same (Wk.same (Wk.same (Wk.same (Wk.any (Wk.any (Wk.same Wk.nil)))))))))))⟩
    show XG X [.is (rL (rT (wc rI (wc rS (wc rS (wc rI (w1 rI))))))) i.1, .is (rK kS rI) i.2.1, .is rS i.2.2.1, .is rS i.2.2.2.1, .is rI i.2.2.2.2.1, .is (rL (rT (wc rS (w1 rI)))) i.2.2.2.2.2.1, .is (rK kS rI) s3, .any, .any, .is (rT (wc rI (wc rS (wc rS (wc rI (w1 rI)))))) x15] _ _ _ _ _
    exact xg_nil ⟨_, Wk.refl _, Exists.intro () (And.intro rfl (Wk.same (Wk.same (Wk.same (Wk.same (Wk.same (Wk.same (Wk.same (Wk.any (Wk.any (Wk.any Wk.nil)))))))))))⟩
  show XG X [.is (rL (rT (wc rI (wc rS (wc rS (wc rI (w1 rI))))))) i.1, .is (rK kS rI) i.2.1, .is rS i.2.2.1, .is rS i.2.2.2.1, .is rI i.2.2.2.2.1, .is (rL (rT (wc rS (w1 rI)))) i.2.2.2.2.2.1, .is (rK kS rI) s3, .any, .any, .any] _ _ _ _ _
  exact xg_ret xm_bool (fun r25 => r25) (fun _ => ⟨_, Wk.toAny rfl, And.intro rfl rfl⟩) (Wk.toAny rfl)
abbrev sp_costs (K : PySem.W.Frag) (mg : Str → Option Value) : Sp := spF K mg (fun i : (Int × Int × Int × (List Int)) × (Int × Str × Str × Int × Int) × (List Int) × (List Int) × Unit => [.is (rT (wc rI (wc rI (wc rI (w1 (rL rI)))))) i.1, .is (rT (wc rI (wc rS (wc rS (wc rI (w1 rI)))))) i.2.1, .is (rL rI) i.2.2.1, .is (rL rI) i.2.2.2.1]) (fun i => m_costs i.1 i.2.1 i.2.2.1 i.2.2.2.1) (fun x : (Int × Int × Int × (List Int)) => .is (rT (wc rI (wc rI (wc rI (w1 (rL rI)))))) x)
def N_costs : List Str := ["path", "ride", "kept", "shared", "lost", "fresh", "many", "numbers"]
theorem sc_costs : FnScope N_costs ["path", "ride", "kept", "shared"] (defScope s_costs) := ⟨rfl, rfl, rfl, by decide +kernel, rfl, by decide +kernel, by decide +kernel⟩
theorem fk_costs {P : Program} {w : World} {K : PySem.W.Frag} {mg : Str → Option Value} {base : Heap} {f : Addr} {fd : FuncData} (Fn : FnP K "costs" "costs" s_costs f fd) (hm : mg "costs" = some (.ref f)) (hf : Free mg) : Fk P w K mg base 1 "costs" ["path", "ride", "kept", "shared"] (sp_costs K mg) := by
  refine fk_of Fn (fn_F (k := 0) Fn sc_costs (fun _ => rfl) (fun i X C => ?_)) hm (fun _ _ _ _ _ _ us hl => match us, hl with | [_, _, _, _], _ => rfl)
  show XG X [.is (rT (wc rI (wc rI (wc rI (w1 (rL rI)))))) i.1, .is (rT (wc rI (wc rS (wc rS (wc rI (w1 rI)))))) i.2.1, .is (rL rI) i.2.2.1, .is (rL rI) i.2.2.2.1, .any, .any, .any, .any] _ _ _ _ _
  refine xg_unpack (xm_var C 0 (R := (rT (wc rI (wc rI (wc rI (w1 (rL rI))))))) (x := i.1)) (xtg_tup C (xtgs_c (xtg_name C 4) (xtgs_c (xtg_name C 5) (xtgs_c (xtg_name C 6) (xtgs_1 (xtg_name C 7)))))) (fun u1 => ?_) (Wk.toAny rfl)
  show XG X [.is (rT (wc rI (wc rI (wc rI (w1 (rL rI)))))) i.1, .is (rT (wc rI (wc rS (wc rS (wc rI (w1 rI)))))) i.2.1, .is (rL rI) i.2.2.1, .is (rL rI) i.2.2.2.1, .is rI u1.1, .is rI u1.2.1, .is rI u1.2.2.1, .is (rL rI) u1.2.2.2] _ _ _ _ _
  refine xg_if (Γ' := fun s3 : Int => [.is (rT (wc rI (wc rI (wc rI (w1 (rL rI)))))) i.1, .is (rT (wc rI (wc rS (wc rS (wc rI (w1 rI)))))) i.2.1, .is (rL rI) i.2.2.1, .is (rL rI) i.2.2.2.1, .is rI s3, .is rI u1.2.1, .is rI u1.2.2.1, .is (rL rI) u1.2.2.2]) (q := fun s3 : Int => costs_j0 i.2.1 i.2.2.1 u1.2.1 u1.2.2.1 u1.2.2.2 s3) (xmt_eq (xmt_cmp (o_in C) (xm_eq (ma0 (xm_var C 1 (R := (rT (wc rI (wc rS (wc rS (wc rI (w1 rI))))))) (x := i.2.1))) (rfl : _ = (Res.ok (i.2.1.1) : R0 Int))) (xm_eq (xm_fb bfL (xm_var C 3 (R := (rL rI)) (x := i.2.2.2.1))) (rfl : _ = (Res.ok (i.2.2.2.1) : R0 (List Int))))) (rfl : _ = (Res.ok ((isIn i.2.1.1 i.2.2.2.1)) : R0 Bool))) ?_ ?_ (fun s3 => ?_) (Wk.toAny rfl)
  · show XG X [.is (rT (wc rI (wc rI (wc rI (w1 (rL rI)))))) i.1, .is (rT (wc rI (wc rS (wc rS (wc rI (w1 rI)))))) i.2.1, .is (rL rI) i.2.2.1, .is (rL rI) i.2.2.2.1, .is rI u1.1, .is rI u1.2.1, .is rI u1.2.2.1, .is (rL rI) u1.2.2.2] _ _ _ _ _
    refine xg_aug C 4 (i := u1.1) ip_sub (xm_int (i := (1 : Int))) (fun z4 => ?_) (Wk.toAny rfl)
    show XG X [.is (rT (wc rI (wc rI (wc rI (w1 (rL rI)))))) i.1, .is (rT (wc rI (wc rS (wc rS (wc rI (w1 rI)))))) i.2.1, .is (rL rI) i.2.2.1, .is (rL rI) i.2.2.2.1, .is rI (u1.1 - z4), .is rI u1.2.1, .is rI u1.2.2.1, .is (rL rI) u1.2.2.2] _ _ _ _ _
    exact xg_nil ⟨_, Wk.refl _, Exists.intro ((u1.1 - z4)) (And.intro rfl (Wk.same (Wk.same (Wk.same (Wk.same (Wk.same (Wk.same (Wk.same (Wk.same Wk.nil)))))))))⟩
  · show XG X [.is (rT (wc rI (wc rI (wc rI (w1 (rL rI)))))) i.1, .is (rT (wc rI (wc rS (wc rS (wc rI (w1 rI)))))) i.2.1, .is (rL rI) i.2.2.1, .is (rL rI) i.2.2.2.1, .is rI u1.1, .is rI u1.2.1, .is rI u1.2.2.1, .is (rL rI) u1.2.2.2] _ _ _ _ _
    exact xg_nil ⟨_, Wk.refl _, Exists.intro (u1.1) (And.intro rfl (Wk.same (Wk.same (Wk.same (Wk.same (Wk.same (Wk.same (Wk.same (Wk.same Wk.nil)))))))))⟩
  show XG X [.is (rT (wc rI (wc rI (wc rI (w1 (rL rI)))))) i.1, .is (rT (wc rI (wc rS (wc rS (wc rI (w1 rI)))))) i.2.1, .is (rL rI) i.2.2.1, .is (rL rI) i.2.2.2.1, .is rI s3, .is rI u1.2.1, .is rI u1.2.2.1, .is (rL rI) u1.2.2.2] _ _ _ _ _
  refine xg_if (Γ' := fun s6 : Int => [.is (rT (wc rI (wc rI (wc rI (w1 (rL rI)))))) i.1, .is (rT (wc rI (wc rS (wc rS (wc rI (w1 rI)))))) i.2.1, .is (rL rI) i.2.2.1, .is (rL rI) i.2.2.2.1, .is rI s3, .is rI s6, .is rI u1.2.2.1, .is (rL rI) u1.2.2.2]) (q := fun s6 : Int => costs_j1 i.2.1 s3 u1.2.2.1 u1.2.2.2 s6) (xmt_eq (xmt_cmp (o_notIn C) (xm_eq (ma0 (xm_var C 1 (R := (rT (wc rI (wc rS (wc rS (wc rI (w1 rI))))))) (x := i.2.1))) (rfl : _ = (Res.ok (i.2.1.1) : R0 Int))) (xm_eq (xm_fb bfL (xm_var C 2 (R := (rL rI)) (x := i.2.2.1))) (rfl : _ = (Res.ok (i.2.2.1) : R0 (List Int))))) (rfl : _ = (Res.ok ((!isIn i.2.1.1 i.2.2.1)) : R0 Bool))) ?_ ?_ (fun s6 => ?_) (Wk.toAny rfl)
  · show XG X [.is (rT (wc rI (wc rI (wc rI (w1 (rL rI)))))) i.1, .is (rT (wc rI (wc rS (wc rS (wc rI (w1 rI)))))) i.2.1, .is (rL rI) i.2.2.1, .is (rL rI) i.2.2.2.1, .is rI s3, .is rI u1.2.1, .is rI u1.2.2.1, .is (rL rI) u1.2.2.2] _ _ _ _ _
    refine xg_aug C 5 (i := u1.2.1) ip_add (xm_int (i := (1 : Int))) (fun z7 => ?_) (Wk.toAny rfl)
    show XG X [.is (rT (wc rI (wc rI (wc rI (w1 (rL rI)))))) i.1, .is (rT (wc rI (wc rS (wc rS (wc rI (w1 rI)))))) i.2.1, .is (rL rI) i.2.2.1, .is (rL rI) i.2.2.2.1, .is rI s3, .is rI (u1.2.1 + z7), .is rI u1.2.2.1, .is (rL rI) u1.2.2.2] _ _ _ _ _
    exact xg_nil ⟨_, Wk.refl _, Exists.intro ((u1.2.1 + z7)) (And.intro rfl (Wk.same (Wk.same (Wk.same (Wk.same (Wk.same (Wk.same (Wk.same (Wk.same Wk.nil)))))))))⟩
  · show XG X [.is (rT (wc rI (wc rI (wc rI (w1 (rL rI)))))) i.1, .is (rT (wc rI (wc rS (wc rS (wc rI (w1 rI)))))) i.2.1, .is (rL rI) i.2.2.1, .is (rL rI) i.2.2.2.1, .is rI s3, .is rI u1.2.1, .is rI u1.2.2.1, .is (rL rI) u1.2.2.2] _ _ _ _ _
    exact xg_nil ⟨_, Wk.refl _, Exists.intro (u1.2.1) (And.intro rfl (Wk.same (Wk.same (Wk.same (Wk.same (Wk.same (Wk.same (Wk.same (Wk.same Wk.nil)))))))))⟩
  show XG X [.is (rT (wc rI (wc rI (wc rI (w1 (rL rI)))))) i.1, .is (rT (wc rI (wc rS (wc rS (wc rI (w1 rI)))))) i.2.1, .is (rL rI) i.2.2.1, .is (rL rI) i.2.2.2.1, .is rI s3, .is rI s6, .is rI u1.2.2.1, .is (rL rI) u1.2.2.2] _ _ _ _ _
  exact xg_ret (xm_eq (xm_tup (xr_c (xm_var C 4 (R := rI) (x := s3)) (xr_c (xm_var C 5 (R := rI) (x := s6)) (xr_c (xm_eq (xm_binT o_add (xm_var C 6 (R := rI) (x := u1.2.2.1)) (xm_int (i := (1 : Int)))) (rfl : _ = (Res.ok ((u1.2.2.1 + (1 : Int))) : R0 Int))) (xmr_1 (xm_eq (xm_ofO (xmo_eq (xmo_cat (xm_eq (xm_fb bfL (xm_var C 7 (R := (rL rI)) (x := u1.2.2.2))) (rfl : _ = (Res.ok (u1.2.2.2) : R0 (List Int)))) (xm_eq (xm_fb bfL (xm_eq (xm_ofO (xmo_eq (xmo_newL (xl_c (xm_eq (ma0 (xm_var C 1 (R := (rT (wc rI (wc rS (wc rS (wc rI (w1 rI))))))) (x := i.2.1))) (rfl : _ = (Res.ok (i.2.1.1) : R0 Int))) (xml_nil (R := rI)) (rfl : _ = (Res.ok ((i.2.1.1 :: [])) : R0 (List Int))))) (rfl : _ = (Res.ok ((i.2.1.1 :: [])) : R0 (List Int))))) (rfl : _ = (Res.ok ((i.2.1.1 :: [])) : R0 (List Int))))) (rfl : _ = (Res.ok ((i.2.1.1 :: [])) : R0 (List Int))))) (rfl : _ = (gd (CCat u1.2.2.2 (i.2.1.1 :: [])) (Res.ok ((u1.2.2.2 ++ (i.2.1.1 :: [])))))))) (rfl : _ = (gd (CCat u1.2.2.2 (i.2.1.1 :: [])) (Res.ok ((u1.2.2.2 ++ (i.2.1.1 :: [])))))))) (rfl : _ = (Res.bind (gd (CCat u1.2.2.2 (i.2.1.1 :: [])) (Res.ok ((u1.2.2.2 ++ (i.2.1.1 :: []))))) fun v9 => Res.ok (((u1.2.2.1 + (1 : Int)), v9)) : R0 (Int × (List Int))))) (rfl : _ = (Res.bind (Res.bind (gd (CCat u1.2.2.2 (i.2.1.1 :: [])) (Res.ok ((u1.2.2.2 ++ (i.2.1.1 :: []))))) fun v9 => Res.ok (((u1.2.2.1 + (1 : Int)), v9)) : R0 (Int × (List Int))) fun v10 => Res.ok ((s6, v10)) : R0 (Int × Int × (List Int))))) (rfl : _ = (Res.bind (Res.bind (Res.bind (gd (CCat u1.2.2.2 (i.2.1.1 :: [])) (Res.ok ((u1.2.2.2 ++ (i.2.1.1 :: []))))) fun v9 => Res.ok (((u1.2.2.1 + (1 : Int)), v9)) : R0 (Int × (List Int))) fun v10 => Res.ok ((s6, v10)) : R0 (Int × Int × (List Int))) fun v11 => Res.ok ((s3, v11)) : R0 (Int × Int × Int × (List Int)))))) (rfl : _ = (Res.bind (Res.bind (Res.bind (gd (CCat u1.2.2.2 (i.2.1.1 :: [])) (Res.ok ((u1.2.2.2 ++ (i.2.1.1 :: []))))) fun v9 => Res.ok (((u1.2.2.1 + (1 : Int)), v9)) : R0 (Int × (List Int))) fun v10 => Res.ok ((s6, v10)) : R0 (Int × Int × (List Int))) fun v11 => Res.ok ((s3, v11)) : R0 (Int × Int × Int × (List Int))))) (fun r8 => r8) (fun _ => ⟨_, Wk.toAny rfl, And.intro rfl rfl⟩) (Wk.toAny rfl)
abbrev sp_least (K : PySem.W.Frag) (mg : Str → Option Value) : Sp := spF K mg (fun i : (List (Int × Str × Str × Int × Int)) × (List (Str × Int)) × Str × Str × Int × (List Int) × (List Int) × Unit => [.is (rL (rT (wc rI (wc rS (wc rS (wc rI (w1 rI))))))) i.1, .is (rK kS rI) i.2.1, .is rS i.2.2.1, .is rS i.2.2.2.1, .is rI i.2.2.2.2.1, .is (rL rI) i.2.2.2.2.2.1, .is (rL rI) i.2.2.2.2.2.2.1]) (fun i => m_least i.1 i.2.1 i.2.2.1 i.2.2.2.1 i.2.2.2.2.1 i.2.2.2.2.2.1 i.2.2.2.2.2.2.1) (fun x : (Option (List Int)) => .is (rO (rL rI)) x)
def N_least : List Str := ["rides", "spans", "start", "goal", "since", "kept", "shared", "best", "ends", "row", "ride", "ways", "other", "lost", "fresh", "many", "numbers"]
theorem sc_least : FnScope N_least ["rides", "spans", "start", "goal", "since", "kept", "shared"] (defScope s_least) := ⟨rfl, rfl, rfl, by decide +kernel, rfl, by decide +kernel, by decide +kernel⟩
theorem fk_least {P : Program} {w : World} {K : PySem.W.Frag} {mg : Str → Option Value} {base : Heap} {f : Addr} {fd : FuncData} (Fn : FnP K "least_change" "least_change" s_least f fd) (hm : mg "least_change" = some (.ref f)) (hf : Free mg) (G_by_leaving : Fk P w K mg base 3 "by_leaving" ["rides"] (sp_by_leaving K mg)) (G_costs : Fk P w K mg base 1 "costs" ["path", "ride", "kept", "shared"] (sp_costs K mg)) (G_hangs : Fk P w K mg base 1 "hangs" ["ride", "after", "spans"] (sp_hangs K mg)) : Fk P w K mg base 4 "least_change" ["rides", "spans", "start", "goal", "since", "kept", "shared"] (sp_least K mg) := by
  refine fk_of Fn (fn_F (k := 3) Fn sc_least (fun _ => rfl) (fun i X C => ?_)) hm (fun _ _ _ _ _ _ us hl => match us, hl with | [_, _, _, _, _, _, _], _ => rfl)
  show XG X [.is (rL (rT (wc rI (wc rS (wc rS (wc rI (w1 rI))))))) i.1, .is (rK kS rI) i.2.1, .is rS i.2.2.1, .is rS i.2.2.2.1, .is rI i.2.2.2.2.1, .is (rL rI) i.2.2.2.2.2.1, .is (rL rI) i.2.2.2.2.2.2.1, .any, .any, .any, .any, .any, .any, .any, .any, .any, .any] _ _ _ _ _
  refine xg_asgO C 7 (xmo_eq (xmo_newK kI (rT (wc rI (wc rI (wc rI (w1 (rL rI))))))) (rfl : _ = (Res.ok (([] : (List (Int × (Int × Int × Int × (List Int)))))) : R0 (List (Int × (Int × Int × Int × (List Int))))))) (fun best_1 => ?_) (Wk.toAny rfl)
  show XG X [.is (rL (rT (wc rI (wc rS (wc rS (wc rI (w1 rI))))))) i.1, .is (rK kS rI) i.2.1, .is rS i.2.2.1, .is rS i.2.2.2.1, .is rI i.2.2.2.2.1, .is (rL rI) i.2.2.2.2.2.1, .is (rL rI) i.2.2.2.2.2.2.1, .res (oK kI (rT (wc rI (wc rI (wc rI (w1 (rL rI))))))) best_1, .any, .any, .any, .any, .any, .any, .any, .any, .any] _ _ _ _ _
  refine xg_asgO C 8 (xmo_eq (xmo_newL (R := (rT (wc rI (wc rI (wc rI (wc rI (w1 (rL rI)))))))) xml_nil) (rfl : _ = (Res.ok (([] : (List (Int × Int × Int × Int × (List Int))))) : R0 (List (Int × Int × Int × Int × (List Int)))))) (fun ends_2 => ?_) (Wk.toAny rfl)
  show XG X [.is (rL (rT (wc rI (wc rS (wc rS (wc rI (w1 rI))))))) i.1, .is (rK kS rI) i.2.1, .is rS i.2.2.1, .is rS i.2.2.2.1, .is rI i.2.2.2.2.1, .is (rL rI) i.2.2.2.2.2.1, .is (rL rI) i.2.2.2.2.2.2.1, .res (oK kI (rT (wc rI (wc rI (wc rI (w1 (rL rI))))))) best_1, .res (oL (rT (wc rI (wc rI (wc rI (wc rI (w1 (rL rI)))))))) ends_2, .any, .any, .any, .any, .any, .any, .any, .any] _ _ _ _ _
  refine xg_if (Γ' := fun s4 : (List (Int × Int × Int × Int × (List Int))) => [.is (rL (rT (wc rI (wc rS (wc rS (wc rI (w1 rI))))))) i.1, .is (rK kS rI) i.2.1, .is rS i.2.2.1, .is rS i.2.2.2.1, .is rI i.2.2.2.2.1, .is (rL rI) i.2.2.2.2.2.1, .is (rL rI) i.2.2.2.2.2.2.1, .res (oK kI (rT (wc rI (wc rI (wc rI (w1 (rL rI))))))) best_1, .res (oL (rT (wc rI (wc rI (wc rI (wc rI (w1 (rL rI)))))))) s4, .any, .any, .any, .any, .any, .any, .any, .any]) (q := fun s4 : (List (Int × Int × Int × Int × (List Int))) => least_j0 i.1 i.2.1 i.2.2.1 i.2.2.2.1 i.2.2.2.2.1 i.2.2.2.2.2.1 i.2.2.2.2.2.2.1 best_1 s4) (xmt_eq (xmt_cmp o_eqS (xm_var C 2 (R := rS) (x := i.2.2.1)) (xm_var C 3 (R := rS) (x := i.2.2.2.1))) (rfl : _ = (Res.ok (decide (i.2.2.1 = i.2.2.2.1)) : R0 Bool))) ?_ ?_ (fun s4 => ?_) (Wk.toAny rfl)
  · show XG X [.is (rL (rT (wc rI (wc rS (wc rS (wc rI (w1 rI))))))) i.1, .is (rK kS rI) i.2.1, .is rS i.2.2.1, .is rS i.2.2.2.1, .is rI i.2.2.2.2.1, .is (rL rI) i.2.2.2.2.2.1, .is (rL rI) i.2.2.2.2.2.2.1, .res (oK kI (rT (wc rI (wc rI (wc rI (w1 (rL rI))))))) best_1, .res (oL (rT (wc rI (wc rI (wc rI (wc rI (w1 (rL rI)))))))) ends_2, .any, .any, .any, .any, .any, .any, .any, .any] _ _ _ _ _
    refine xg_append C 8 (xm_eq (xm_tup (xr_c (xm_int (i := (0 : Int))) (xr_c (xm_int (i := (0 : Int))) (xr_c (xm_var C 4 (R := rI) (x := i.2.2.2.2.1)) (xr_c (xm_int (i := (0 : Int))) (xmr_1 (xm_eq (xm_ofO (xmo_eq (xmo_newL (R := rI) xml_nil) (rfl : _ = (Res.ok (([] : (List Int))) : R0 (List Int))))) (rfl : _ = (Res.ok (([] : (List Int))) : R0 (List Int))))) (rfl : _ = (Res.ok (((0 : Int), ([] : (List Int)))) : R0 (Int × (List Int))))) (rfl : _ = (Res.ok ((i.2.2.2.2.1, ((0 : Int), ([] : (List Int))))) : R0 (Int × Int × (List Int))))) (rfl : _ = (Res.ok (((0 : Int), (i.2.2.2.2.1, ((0 : Int), ([] : (List Int)))))) : R0 (Int × Int × Int × (List Int))))) (rfl : _ = (Res.ok (((0 : Int), ((0 : Int), (i.2.2.2.2.1, ((0 : Int), ([] : (List Int))))))) : R0 (Int × Int × Int × Int × (List Int)))))) (rfl : _ = (Res.ok (((0 : Int), ((0 : Int), (i.2.2.2.2.1, ((0 : Int), ([] : (List Int))))))) : R0 (Int × Int × Int × Int × (List Int))))) (fun x5 => ?_) (Wk.toAny rfl)
    show XG X [.is (rL (rT (wc rI (wc rS (wc rS (wc rI (w1 rI))))))) i.1, .is (rK kS rI) i.2.1, .is rS i.2.2.1, .is rS i.2.2.2.1, .is rI i.2.2.2.2.1, .is (rL rI) i.2.2.2.2.2.1, .is (rL rI) i.2.2.2.2.2.2.1, .res (oK kI (rT (wc rI (wc rI (wc rI (w1 (rL rI))))))) best_1, .res (oL (rT (wc rI (wc rI (wc rI (wc rI (w1 (rL rI)))))))) (ends_2 ++ [x5]), .any, .any, .any, .any, .any, .any, .any, .any] _ _ _ _ _
    exact xg_nil ⟨_, Wk.refl _, Exists.intro ((ends_2 ++ [x5])) (And.intro rfl (Wk.same (Wk.same (Wk.same (Wk.same (Wk.same (Wk.same (Wk.same (Wk.same (Wk.same (Wk.any (Wk.any (Wk.any (Wk.any (Wk.any (Wk.any (Wk.any (Wk.any Wk.nil))))))))))))))))))⟩
  · show XG X [.is (rL (rT (wc rI (wc rS (wc rS (wc rI (w1 rI))))))) i.1, .is (rK kS rI) i.2.1, .is rS i.2.2.1, .is rS i.2.2.2.1, .is rI i.2.2.2.2.1, .is (rL rI) i.2.2.2.2.2.1, .is (rL rI) i.2.2.2.2.2.2.1, .res (oK kI (rT (wc rI (wc rI (wc rI (w1 (rL rI))))))) best_1, .res (oL (rT (wc rI (wc rI (wc rI (wc rI (w1 (rL rI)))))))) ends_2, .any, .any, .any, .any, .any, .any, .any, .any] _ _ _ _ _
    exact xg_nil ⟨_, Wk.refl _, Exists.intro (ends_2) (And.intro rfl (Wk.same (Wk.same (Wk.same (Wk.same (Wk.same (Wk.same (Wk.same (Wk.same (Wk.same (Wk.any (Wk.any (Wk.any (Wk.any (Wk.any (Wk.any (Wk.any (Wk.any Wk.nil))))))))))))))))))⟩
  show XG X [.is (rL (rT (wc rI (wc rS (wc rS (wc rI (w1 rI))))))) i.1, .is (rK kS rI) i.2.1, .is rS i.2.2.1, .is rS i.2.2.2.1, .is rI i.2.2.2.2.1, .is (rL rI) i.2.2.2.2.2.1, .is (rL rI) i.2.2.2.2.2.2.1, .res (oK kI (rT (wc rI (wc rI (wc rI (w1 (rL rI))))))) best_1, .res (oL (rT (wc rI (wc rI (wc rI (wc rI (w1 (rL rI)))))))) s4, .any, .any, .any, .any, .any, .any, .any, .any] _ _ _ _ _
  refine xg_asg C 9 (xm_eq (xm_call' C G_by_leaving (xa_cons (ss := fun t : Unit => []) (xm_var C 0 (R := (rL (rT (wc rI (wc rS (wc rS (wc rI (w1 rI)))))))) (x := i.1)) xma_nil rfl (rfl : _ = (Res.ok ((i.1, ())) : R0 ((List (Int × Str × Str × Int × Int)) × Unit))))) (rfl : _ = (m_by_leaving i.1))) (fun row_6 => ?_) (Wk.toAny rfl)
  show XG X [.is (rL (rT (wc rI (wc rS (wc rS (wc rI (w1 rI))))))) i.1, .is (rK kS rI) i.2.1, .is rS i.2.2.1, .is rS i.2.2.2.1, .is rI i.2.2.2.2.1, .is (rL rI) i.2.2.2.2.2.1, .is (rL rI) i.2.2.2.2.2.2.1, .res (oK kI (rT (wc rI (wc rI (wc rI (w1 (rL rI))))))) best_1, .res (oL (rT (wc rI (wc rI (wc rI (wc rI (w1 (rL rI)))))))) s4, .is (rL (rT (wc rI (wc rS (wc rS (wc rI (w1 rI))))))) row_6, .any, .any, .any, .any, .any, .any, .any] _ _ _ _ _
  refine xg_for C (fun s8 : (List (Int × (Int × Int × Int × (List Int)))) × (List (Int × Int × Int × Int × (List Int))) => [.is (rL (rT (wc rI (wc rS (wc rS (wc rI (w1 rI))))))) i.1, .is (rK kS rI) i.2.1, .is rS i.2.2.1, .is rS i.2.2.2.1, .is rI i.2.2.2.2.1, .is (rL rI) i.2.2.2.2.2.1, .is (rL rI) i.2.2.2.2.2.2.1, .res (oK kI (rT (wc rI (wc rI (wc rI (w1 (rL rI))))))) s8.1, .res (oL (rT (wc rI (wc rI (wc rI (wc rI (w1 (rL rI)))))))) s8.2, .is (rL (rT (wc rI (wc rS (wc rS (wc rI (w1 rI))))))) row_6, .any, .any, .any, .any, .any, .any, .any]) (best_1, s4) (JR := (JF (fun x : (Option (List Int)) => .is (rO (rL rI)) x) (fun _ => List.replicate N_least.length .any))) (inj := (fun r => r)) (bm := (least_b1 i.2.1 i.2.2.1 i.2.2.2.1 i.2.2.2.2.1 i.2.2.2.2.2.1 i.2.2.2.2.2.2.1 row_6)) (q := (least_k2)) (xi_list (xm_var C 9 (R := (rL (rT (wc rI (wc rS (wc rS (wc rI (w1 rI)))))))) (x := row_6))) (xtg_name C 10) (Wk.same (Wk.same (Wk.same (Wk.same (Wk.same (Wk.same (Wk.same (Wk.same (Wk.same (Wk.same (Wk.any (Wk.any (Wk.any (Wk.any (Wk.any (Wk.any (Wk.any Wk.nil))))))))))))))))) (fun s8 x9 => ?_) (Wk.toAny rfl) (fun _ _ _ h => h) (fun s8 => ?_)
  · show XG X [.is (rL (rT (wc rI (wc rS (wc rS (wc rI (w1 rI))))))) i.1, .is (rK kS rI) i.2.1, .is rS i.2.2.1, .is rS i.2.2.2.1, .is rI i.2.2.2.2.1, .is (rL rI) i.2.2.2.2.2.1, .is (rL rI) i.2.2.2.2.2.2.1, .res (oK kI (rT (wc rI (wc rI (wc rI (w1 (rL rI))))))) s8.1, .res (oL (rT (wc rI (wc rI (wc rI (wc rI (w1 (rL rI)))))))) s8.2, .is (rL (rT (wc rI (wc rS (wc rS (wc rI (w1 rI))))))) row_6, .is (rT (wc rI (wc rS (wc rS (wc rI (w1 rI)))))) x9, .any, .any, .any, .any, .any, .any] _ _ _ _ _
    refine xg_asgO C 11 (xmo_eq (xmo_newL (R := (rT (wc rI (wc rI (wc rI (w1 (rL rI))))))) xml_nil) (rfl : _ = (Res.ok (([] : (List (Int × Int × Int × (List Int))))) : R0 (List (Int × Int × Int × (List Int)))))) (fun ways_11 => ?_) (Wk.toAny rfl)
    show XG X [.is (rL (rT (wc rI (wc rS (wc rS (wc rI (w1 rI))))))) i.1, .is (rK kS rI) i.2.1, .is rS i.2.2.1, .is rS i.2.2.2.1, .is rI i.2.2.2.2.1, .is (rL rI) i.2.2.2.2.2.1, .is (rL rI) i.2.2.2.2.2.2.1, .res (oK kI (rT (wc rI (wc rI (wc rI (w1 (rL rI))))))) s8.1, .res (oL (rT (wc rI (wc rI (wc rI (wc rI (w1 (rL rI)))))))) s8.2, .is (rL (rT (wc rI (wc rS (wc rS (wc rI (w1 rI))))))) row_6, .is (rT (wc rI (wc rS (wc rS (wc rI (w1 rI)))))) x9, .res (oL (rT (wc rI (wc rI (wc rI (w1 (rL rI))))))) ways_11, .any, .any, .any, .any, .any] _ _ _ _ _
    refine xg_if (Γ' := fun s13 : (List (Int × Int × Int × (List Int))) => [.is (rL (rT (wc rI (wc rS (wc rS (wc rI (w1 rI))))))) i.1, .is (rK kS rI) i.2.1, .is rS i.2.2.1, .is rS i.2.2.2.1, .is rI i.2.2.2.2.1, .is (rL rI) i.2.2.2.2.2.1, .is (rL rI) i.2.2.2.2.2.2.1, .res (oK kI (rT (wc rI (wc rI (wc rI (w1 (rL rI))))))) s8.1, .res (oL (rT (wc rI (wc rI (wc rI (wc rI (w1 (rL rI)))))))) s8.2, .is (rL (rT (wc rI (wc rS (wc rS (wc rI (w1 rI))))))) row_6, .is (rT (wc rI (wc rS (wc rS (wc rI (w1 rI)))))) x9, .res (oL (rT (wc rI (wc rI (wc rI (w1 (rL rI))))))) s13, .any, .any, .any, .any, .any]) (q := fun s13 : (List (Int × Int × Int × (List Int))) => least_j3 i.2.1 i.2.2.2.1 i.2.2.2.2.2.1 i.2.2.2.2.2.2.1 s8.1 s8.2 row_6 x9 s13) (xmt_eq (xmt_w (xmw_eq (xmw_andP (xmt_eq (xmt_cmp o_eqS (xm_eq (ma1 (xm_var C 10 (R := (rT (wc rI (wc rS (wc rS (wc rI (w1 rI))))))) (x := x9))) (rfl : _ = (Res.ok (x9.2.1) : R0 Str))) (xm_var C 2 (R := rS) (x := i.2.2.1))) (rfl : _ = (Res.ok (decide (x9.2.1 = i.2.2.1)) : R0 Bool))) (xmw_eq (xmw_and1 (xmt_eq (xmt_cmp o_le (xm_var C 4 (R := rI) (x := i.2.2.2.2.1)) (xm_eq (ma3 (xm_var C 10 (R := (rT (wc rI (wc rS (wc rS (wc rI (w1 rI))))))) (x := x9))) (rfl : _ = (Res.ok (x9.2.2.2.1) : R0 Int)))) (rfl : _ = (Res.ok (decide (i.2.2.2.2.1 ≤ x9.2.2.2.1)) : R0 Bool)))) (rfl : _ = (Res.ok (decide (i.2.2.2.2.1 ≤ x9.2.2.2.1)) : R0 Bool)))) (rfl : _ = (Res.ok ((decide (x9.2.1 = i.2.2.1) && decide (i.2.2.2.2.1 ≤ x9.2.2.2.1))) : R0 Bool)))) (rfl : _ = (Res.ok ((decide (x9.2.1 = i.2.2.1) && decide (i.2.2.2.2.1 ≤ x9.2.2.2.1))) : R0 Bool))) ?_ ?_ (fun s13 => ?_) (Wk.toAny rfl)
    · show XG X [.is (rL (rT (wc rI (wc rS (wc rS (wc rI (w1 rI))))))) i.1, .is (rK kS rI) i.2.1, .is rS i.2.2.1, .is rS i.2.2.2.1, .is rI i.2.2.2.2.1, .is (rL rI) i.2.2.2.2.2.1, .is (rL rI) i.2.2.2.2.2.2.1, .res (oK kI (rT (wc rI (wc rI (wc rI (w1 (rL rI))))))) s8.1, .res (oL (rT (wc rI (wc rI (wc rI (wc rI (w1 (rL rI)))))))) s8.2, .is (rL (rT (wc rI (wc rS (wc rS (wc rI (w1 rI))))))) row_6, .is (rT (wc rI (wc rS (wc rS (wc rI (w1 rI)))))) x9, .res (oL (rT (wc rI (wc rI (wc rI (w1 (rL rI))))))) ways_11, .any, .any, .any, .any, .any] _ _ _ _ _
      refine xg_append C 11 (xm_eq (xm_call' C G_costs (xa_cons (ss := fun t : (Int × Str × Str × Int × Int) × (List Int) × (List Int) × Unit => [Slot.is (rT (wc rI (wc rS (wc rS (wc rI (w1 rI)))))) t.1, Slot.is (rL rI) t.2.1, Slot.is (rL rI) t.2.2.1]) (xm_eq (xm_tup (xr_c (xm_int (i := (0 : Int))) (xr_c (xm_int (i := (0 : Int))) (xr_c (xm_int (i := (0 : Int))) (xmr_1 (xm_eq (xm_ofO (xmo_eq (xmo_newL (R := rI) xml_nil) (rfl : _ = (Res.ok (([] : (List Int))) : R0 (List Int))))) (rfl : _ = (Res.ok (([] : (List Int))) : R0 (List Int))))) (rfl : _ = (Res.ok (((0 : Int), ([] : (List Int)))) : R0 (Int × (List Int))))) (rfl : _ = (Res.ok (((0 : Int), ((0 : Int), ([] : (List Int))))) : R0 (Int × Int × (List Int))))) (rfl : _ = (Res.ok (((0 : Int), ((0 : Int), ((0 : Int), ([] : (List Int)))))) : R0 (Int × Int × Int × (List Int)))))) (rfl : _ = (Res.ok (((0 : Int), ((0 : Int), ((0 : Int), ([] : (List Int)))))) : R0 (Int × Int × Int × (List Int))))) (xa_cons (ss := fun t : (List Int) × (List Int) × Unit => [Slot.is (rL rI) t.1, Slot.is (rL rI) t.2.1]) (xm_var C 10 (R := (rT (wc rI (wc rS (wc rS (wc rI (w1 rI))))))) (x := x9)) (xa_cons (ss := fun t : (List Int) × Unit => [Slot.is (rL rI) t.1]) (xm_var C 5 (R := (rL rI)) (x := i.2.2.2.2.2.1)) (xa_cons (ss := fun t : Unit => []) (xm_var C 6 (R := (rL rI)) (x := i.2.2.2.2.2.2.1)) xma_nil rfl (rfl : _ = (Res.ok ((i.2.2.2.2.2.2.1, ())) : R0 ((List Int) × Unit)))) rfl (rfl : _ = (Res.ok ((i.2.2.2.2.2.1, (i.2.2.2.2.2.2.1, ()))) : R0 ((List Int) × (List Int) × Unit)))) rfl (rfl : _ = (Res.ok ((x9, (i.2.2.2.2.2.1, (i.2.2.2.2.2.2.1, ())))) : R0 ((Int × Str × Str × Int × Int) × (List Int) × (List Int) × Unit)))) rfl (rfl : _ = (Res.ok ((((0 : Int), ((0 : Int), ((0 : Int), ([] : (List Int))))), (x9, (i.2.2.2.2.2.1, (i.2.2.2.2.2.2.1, ()))))) : R0 ((Int × Int × Int × (List Int)) × (Int × Str × Str × Int × Int) × (List Int) × (List Int) × Unit))))) (rfl : _ = (m_costs ((0 : Int), ((0 : Int), ((0 : Int), ([] : (List Int))))) x9 i.2.2.2.2.2.1 i.2.2.2.2.2.2.1))) (fun x14 => ?_) (Wk.toAny rfl)
      show XG X [.is (rL (rT (wc rI (wc rS (wc rS (wc rI (w1 rI))))))) i.1, .is (rK kS rI) i.2.1, .is rS i.2.2.1, .is rS i.2.2.2.1, .is rI i.2.2.2.2.1, .is (rL rI) i.2.2.2.2.2.1, .is (rL rI) i.2.2.2.2.2.2.1, .res (oK kI (rT (wc rI (wc rI (wc rI (w1 (rL rI))))))) s8.1, .res (oL (rT (wc rI (wc rI (wc rI (wc rI (w1 (rL rI)))))))) s8.2, .is (rL (rT (wc rI (wc rS (wc rS (wc rI (w1 rI))))))) row_6, .is (rT (wc rI (wc rS (wc rS (wc rI (w1 rI)))))) x9, .res (oL (rT (wc rI (wc rI (wc rI (w1 (rL rI))))))) (ways_11 ++ [x14]), .any, .any, .any, .any, .any] _ _ _ _ _
      exact xg_nil ⟨_, Wk.refl _, Exists.intro ((ways_11 ++ [x14])) (And.intro rfl (Wk.same (Wk.same (Wk.same (Wk.same (Wk.same (Wk.same (Wk.same (Wk.same (Wk.same (Wk.same (Wk.same (Wk.same (Wk.any (Wk.any (Wk.any (Wk.any (Wk.any Wk.nil))))))))))))))))))⟩
    · show XG X [.is (rL (rT (wc rI (wc rS (wc rS (wc rI (w1 rI))))))) i.1, .is (rK kS rI) i.2.1, .is rS i.2.2.1, .is rS i.2.2.2.1, .is rI i.2.2.2.2.1, .is (rL rI) i.2.2.2.2.2.1, .is (rL rI) i.2.2.2.2.2.2.1, .res (oK kI (rT (wc rI (wc rI (wc rI (w1 (rL rI))))))) s8.1, .res (oL (rT (wc rI (wc rI (wc rI (wc rI (w1 (rL rI)))))))) s8.2, .is (rL (rT (wc rI (wc rS (wc rS (wc rI (w1 rI))))))) row_6, .is (rT (wc rI (wc rS (wc rS (wc rI (w1 rI)))))) x9, .res (oL (rT (wc rI (wc rI (wc rI (w1 (rL rI))))))) ways_11, .any, .any, .any, .any, .any] _ _ _ _ _
      exact xg_nil ⟨_, Wk.refl _, Exists.intro (ways_11) (And.intro rfl (Wk.same (Wk.same (Wk.same (Wk.same (Wk.same (Wk.same (Wk.same (Wk.same (Wk.same (Wk.same (Wk.same (Wk.same (Wk.any (Wk.any (Wk.any (Wk.any (Wk.any Wk.nil))))))))))))))))))⟩
    show XG X [.is (rL (rT (wc rI (wc rS (wc rS (wc rI (w1 rI))))))) i.1, .is (rK kS rI) i.2.1, .is rS i.2.2.1, .is rS i.2.2.2.1, .is rI i.2.2.2.2.1, .is (rL rI) i.2.2.2.2.2.1, .is (rL rI) i.2.2.2.2.2.2.1, .res (oK kI (rT (wc rI (wc rI (wc rI (w1 (rL rI))))))) s8.1, .res (oL (rT (wc rI (wc rI (wc rI (wc rI (w1 (rL rI)))))))) s8.2, .is (rL (rT (wc rI (wc rS (wc rS (wc rI (w1 rI))))))) row_6, .is (rT (wc rI (wc rS (wc rS (wc rI (w1 rI)))))) x9, .res (oL (rT (wc rI (wc rI (wc rI (w1 (rL rI))))))) s13, .any, .any, .any, .any, .any] _ _ _ _ _
    refine xg_for C (fun s16 : (List (Int × Int × Int × (List Int))) => [.is (rL (rT (wc rI (wc rS (wc rS (wc rI (w1 rI))))))) i.1, .is (rK kS rI) i.2.1, .is rS i.2.2.1, .is rS i.2.2.2.1, .is rI i.2.2.2.2.1, .is (rL rI) i.2.2.2.2.2.1, .is (rL rI) i.2.2.2.2.2.2.1, .res (oK kI (rT (wc rI (wc rI (wc rI (w1 (rL rI))))))) s8.1, .res (oL (rT (wc rI (wc rI (wc rI (wc rI (w1 (rL rI)))))))) s8.2, .is (rL (rT (wc rI (wc rS (wc rS (wc rI (w1 rI))))))) row_6, .is (rT (wc rI (wc rS (wc rS (wc rI (w1 rI)))))) x9, .res (oL (rT (wc rI (wc rI (wc rI (w1 (rL rI))))))) s16, .any, .any, .any, .any, .any]) (s13) (JR := (JF (fun x : (Option (List Int)) => .is (rO (rL rI)) x) (fun _ => List.replicate N_least.length .any))) (inj := (fun r => Lo.out (r))) (bm := (least_b4 i.2.1 i.2.2.2.2.2.1 i.2.2.2.2.2.2.1 s8.1 x9)) (q := (least_k5 i.2.2.2.1 s8.1 s8.2 x9)) (xi_list (xm_var C 9 (R := (rL (rT (wc rI (wc rS (wc rS (wc rI (w1 rI)))))))) (x := row_6))) (xtg_name C 12) (Wk.same (Wk.same (Wk.same (Wk.same (Wk.same (Wk.same (Wk.same (Wk.same (Wk.same (Wk.same (Wk.same (Wk.same (Wk.any (Wk.any (Wk.any (Wk.any (Wk.any Wk.nil))))))))))))))))) (fun s16 x17 => ?_) (Wk.toAny rfl) (fun _ _ _ h => h) (fun s16 => ?_)
    · show XG X [.is (rL (rT (wc rI (wc rS (wc rS (wc rI (w1 rI))))))) i.1, .is (rK kS rI) i.2.1, .is rS i.2.2.1, .is rS i.2.2.2.1, .is rI i.2.2.2.2.1, .is (rL rI) i.2.2.2.2.2.1, .is (rL rI) i.2.2.2.2.2.2.1, .res (oK kI (rT (wc rI (wc rI (wc rI (w1 (rL rI))))))) s8.1, .res (oL (rT (wc rI (wc rI (wc rI (wc rI (w1 (rL rI)))))))) s8.2, .is (rL (rT (wc rI (wc rS (wc rS (wc rI (w1 rI))))))) row_6, .is (rT (wc rI (wc rS (wc rS (wc rI (w1 rI)))))) x9, .res (oL (rT (wc rI (wc rI (wc rI (w1 (rL rI))))))) s16, .is (rT (wc rI (wc rS (wc rS (wc rI (w1 rI)))))) x17, .any, .any, .any, .any] _ _ _ _ _
      refine xg_if (Γ' := fun s20 : (List (Int × Int × Int × (List Int))) => [.is (rL (rT (wc rI (wc rS (wc rS (wc rI (w1 rI))))))) i.1, .is (rK kS rI) i.2.1, .is rS i.2.2.1, .is rS i.2.2.2.1, .is rI i.2.2.2.2.1, .is (rL rI) i.2.2.2.2.2.1, .is (rL rI) i.2.2.2.2.2.2.1, .res (oK kI (rT (wc rI (wc rI (wc rI (w1 (rL rI))))))) s8.1, .res (oL (rT (wc rI (wc rI (wc rI (wc rI (w1 (rL rI)))))))) s8.2, .is (rL (rT (wc rI (wc rS (wc rS (wc rI (w1 rI))))))) row_6, .is (rT (wc rI (wc rS (wc rS (wc rI (w1 rI)))))) x9, .res (oL (rT (wc rI (wc rI (wc rI (w1 (rL rI))))))) s20, .is (rT (wc rI (wc rS (wc rS (wc rI (w1 rI)))))) x17, .any, .any, .any, .any]) (q := fun s20 : (List (Int × Int × Int × (List Int))) => least_j6 s20) (xmt_eq (xmt_w (xmw_eq (xmw_and (xmt_eq (xmt_cmp (o_inD C (A := kI) (R := (rT (wc rI (wc rI (wc rI (w1 (rL rI)))))))) (xm_eq (ma0 (xm_var C 12 (R := (rT (wc rI (wc rS (wc rS (wc rI (w1 rI))))))) (x := x17))) (rfl : _ = (Res.ok (x17.1) : R0 Int))) (xm_bor C 7 (A := (oK kI (rT (wc rI (wc rI (wc rI (w1 (rL rI)))))))) (x := s8.1) bwK)) (rfl : _ = (Res.ok ((has s8.1 x17.1)) : R0 Bool))) (xmw_eq (xmw_and1 (xmt_eq (xmt_val (xm_eq (xm_call' C G_hangs (xa_cons (ss := fun t : (Int × Str × Str × Int × Int) × (List (Str × Int)) × Unit => [Slot.is (rT (wc rI (wc rS (wc rS (wc rI (w1 rI)))))) t.1, Slot.is (rK kS rI) t.2.1]) (xm_var C 12 (R := (rT (wc rI (wc rS (wc rS (wc rI (w1 rI))))))) (x := x17)) (xa_cons (ss := fun t : (List (Str × Int)) × Unit => [Slot.is (rK kS rI) t.1]) (xm_var C 10 (R := (rT (wc rI (wc rS (wc rS (wc rI (w1 rI))))))) (x := x9)) (xa_cons (ss := fun t : Unit => []) (xm_var C 1 (R := (rK kS rI)) (x := i.2.1)) xma_nil rfl (rfl : _ = (Res.ok ((i.2.1, ())) : R0 ((List (Str × Int)) × Unit)))) rfl (rfl : _ = (Res.ok ((x9, (i.2.1, ()))) : R0 ((Int × Str × Str × Int × Int) × (List (Str × Int)) × Unit)))) rfl (rfl : _ = (Res.ok ((x17, (x9, (i.2.1, ())))) : R0 ((Int × Str × Str × Int × Int) × (Int × Str × Str × Int × Int) × (List (Str × Int)) × Unit))))) (rfl : _ = (m_hangs x17 x9 i.2.1)))) (rfl : _ = (m_hangs x17 x9 i.2.1)))) (rfl : _ = (m_hangs x17 x9 i.2.1)))) (rfl : _ = (bif (has s8.1 x17.1) then (m_hangs x17 x9 i.2.1) else Res.ok false)))) (rfl : _ = (bif (has s8.1 x17.1) then (m_hangs x17 x9 i.2.1) else Res.ok false))) ?_ ?_ (fun s20 => ?_) (Wk.toAny rfl)
      · show XG X [.is (rL (rT (wc rI (wc rS (wc rS (wc rI (w1 rI))))))) i.1, .is (rK kS rI) i.2.1, .is rS i.2.2.1, .is rS i.2.2.2.1, .is rI i.2.2.2.2.1, .is (rL rI) i.2.2.2.2.2.1, .is (rL rI) i.2.2.2.2.2.2.1, .res (oK kI (rT (wc rI (wc rI (wc rI (w1 (rL rI))))))) s8.1, .res (oL (rT (wc rI (wc rI (wc rI (wc rI (w1 (rL rI)))))))) s8.2, .is (rL (rT (wc rI (wc rS (wc rS (wc rI (w1 rI))))))) row_6, .is (rT (wc rI (wc rS (wc rS (wc rI (w1 rI)))))) x9, .res (oL (rT (wc rI (wc rI (wc rI (w1 (rL rI))))))) s16, .is (rT (wc rI (wc rS (wc rS (wc rI (w1 rI)))))) x17, .any, .any, .any, .any] _ _ _ _ _
        refine xg_append C 11 (xm_eq (xm_call' C G_costs (xa_cons (ss := fun t : (Int × Str × Str × Int × Int) × (List Int) × (List Int) × Unit => [Slot.is (rT (wc rI (wc rS (wc rS (wc rI (w1 rI)))))) t.1, Slot.is (rL rI) t.2.1, Slot.is (rL rI) t.2.2.1]) (xm_eq (xm_dget C (A := kI) (R := (rT (wc rI (wc rI (wc rI (w1 (rL rI))))))) (xm_bor C 7 (A := (oK kI (rT (wc rI (wc rI (wc rI (w1 (rL rI)))))))) (x := s8.1) bwK) (xm_eq (ma0 (xm_var C 12 (R := (rT (wc rI (wc rS (wc rS (wc rI (w1 rI))))))) (x := x17))) (rfl : _ = (Res.ok (x17.1) : R0 Int)))) (rfl : _ = (gd (has s8.1 x17.1 = true) (Res.ok ((Option.getD (look s8.1 x17.1) default)))))) (xa_cons (ss := fun t : (List Int) × (List Int) × Unit => [Slot.is (rL rI) t.1, Slot.is (rL rI) t.2.1]) (xm_var C 10 (R := (rT (wc rI (wc rS (wc rS (wc rI (w1 rI))))))) (x := x9)) (xa_cons (ss := fun t : (List Int) × Unit => [Slot.is (rL rI) t.1]) (xm_var C 5 (R := (rL rI)) (x := i.2.2.2.2.2.1)) (xa_cons (ss := fun t : Unit => []) (xm_var C 6 (R := (rL rI)) (x := i.2.2.2.2.2.2.1)) xma_nil rfl (rfl : _ = (Res.ok ((i.2.2.2.2.2.2.1, ())) : R0 ((List Int) × Unit)))) rfl (rfl : _ = (Res.ok ((i.2.2.2.2.2.1, (i.2.2.2.2.2.2.1, ()))) : R0 ((List Int) × (List Int) × Unit)))) rfl (rfl : _ = (Res.ok ((x9, (i.2.2.2.2.2.1, (i.2.2.2.2.2.2.1, ())))) : R0 ((Int × Str × Str × Int × Int) × (List Int) × (List Int) × Unit)))) rfl (rfl : _ = (Res.bind (gd (has s8.1 x17.1 = true) (Res.ok ((Option.getD (look s8.1 x17.1) default)))) fun v21 => Res.ok ((v21, (x9, (i.2.2.2.2.2.1, (i.2.2.2.2.2.2.1, ()))))) : R0 ((Int × Int × Int × (List Int)) × (Int × Str × Str × Int × Int) × (List Int) × (List Int) × Unit))))) (rfl : _ = (Res.bind (Res.bind (gd (has s8.1 x17.1 = true) (Res.ok ((Option.getD (look s8.1 x17.1) default)))) fun v21 => Res.ok ((v21, (x9, (i.2.2.2.2.2.1, (i.2.2.2.2.2.2.1, ()))))) : R0 ((Int × Int × Int × (List Int)) × (Int × Str × Str × Int × Int) × (List Int) × (List Int) × Unit)) fun v22 => m_costs v22.1 v22.2.1 v22.2.2.1 v22.2.2.2.1))) (fun x23 => ?_) (Wk.toAny rfl)
        show XG X [.is (rL (rT (wc rI (wc rS (wc rS (wc rI (w1 rI))))))) i.1, .is (rK kS rI) i.2.1, .is rS i.2.2.1, .is rS i.2.2.2.1, .is rI i.2.2.2.2.1, .is (rL rI) i.2.2.2.2.2.1, .is (rL rI) i.2.2.2.2.2.2.1, .res (oK kI (rT (wc rI (wc rI (wc rI (w1 (rL rI))))))) s8.1, .res (oL (rT (wc rI (wc rI (wc rI (wc rI (w1 (rL rI)))))))) s8.2, .is (rL (rT (wc rI (wc rS (wc rS (wc rI (w1 rI))))))) row_6, .is (rT (wc rI (wc rS (wc rS (wc rI (w1 rI)))))) x9, .res (oL (rT (wc rI (wc rI (wc rI (w1 (rL rI))))))) (s16 ++ [x23]), .is (rT (wc rI (wc rS (wc rS (wc rI (w1 rI)))))) x17, .any, .any, .any, .any] _ _ _ _ _
        exact xg_nil ⟨_, Wk.refl _, Exists.intro ((s16 ++ [x23])) (And.intro rfl (Wk.same (Wk.same (Wk.same (Wk.same (Wk.same (Wk.same (Wk.same (Wk.same (Wk.same (Wk.same (Wk.same (Wk.same (Wk.same (Wk.any (Wk.any (Wk.any (Wk.any Wk.nil))))))))))))))))))⟩
      · show XG X [.is (rL (rT (wc rI (wc rS (wc rS (wc rI (w1 rI))))))) i.1, .is (rK kS rI) i.2.1, .is rS i.2.2.1, .is rS i.2.2.2.1, .is rI i.2.2.2.2.1, .is (rL rI) i.2.2.2.2.2.1, .is (rL rI) i.2.2.2.2.2.2.1, .res (oK kI (rT (wc rI (wc rI (wc rI (w1 (rL rI))))))) s8.1, .res (oL (rT (wc rI (wc rI (wc rI (wc rI (w1 (rL rI)))))))) s8.2, .is (rL (rT (wc rI (wc rS (wc rS (wc rI (w1 rI))))))) row_6, .is (rT (wc rI (wc rS (wc rS (wc rI (w1 rI)))))) x9, .res (oL (rT (wc rI (wc rI (wc rI (w1 (rL rI))))))) s16, .is (rT (wc rI (wc rS (wc rS (wc rI (w1 rI)))))) x17, .any, .any, .any, .any] _ _ _ _ _
        exact xg_nil ⟨_, Wk.refl _, Exists.intro (s16) (And.intro rfl (Wk.same (Wk.same (Wk.same (Wk.same (Wk.same (Wk.same (Wk.same (Wk.same (Wk.same (Wk.same (Wk.same (Wk.same (Wk.same (Wk.any (Wk.any (Wk.any (Wk.any Wk.nil))))))))))))))))))⟩
      show XG X [.is (rL (rT (wc rI (wc rS (wc rS (wc rI (w1 rI))))))) i.1, .is (rK kS rI) i.2.1, .is rS i.2.2.1, .is rS i.2.2.2.1, .is rI i.2.2.2.2.1, .is (rL rI) i.2.2.2.2.2.1, .is (rL rI) i.2.2.2.2.2.2.1, .res (oK kI (rT (wc rI (wc rI (wc rI (w1 (rL rI))))))) s8.1, .res (oL (rT (wc rI (wc rI (wc rI (wc rI (w1 (rL rI)))))))) s8.2, .is (rL (rT (wc rI (wc rS (wc rS (wc rI (w1 rI))))))) row_6, .is (rT (wc rI (wc rS (wc rS (wc rI (w1 rI)))))) x9, .res (oL (rT (wc rI (wc rI (wc rI (w1 (rL rI))))))) s20, .is (rT (wc rI (wc rS (wc rS (wc rI (w1 rI)))))) x17, .any, .any, .any, .any] _ _ _ _ _
      exact xg_nil ⟨_, Wk.refl _, Exists.intro (s20) (And.intro rfl (Wk.same (Wk.same (Wk.same (Wk.same (Wk.same (Wk.same (Wk.same (Wk.same (Wk.same (Wk.same (Wk.same (Wk.same (Wk.any (Wk.any (Wk.any (Wk.any (Wk.any Wk.nil))))))))))))))))))⟩
    show XG X [.is (rL (rT (wc rI (wc rS (wc rS (wc rI (w1 rI))))))) i.1, .is (rK kS rI) i.2.1, .is rS i.2.2.1, .is rS i.2.2.2.1, .is rI i.2.2.2.2.1, .is (rL rI) i.2.2.2.2.2.1, .is (rL rI) i.2.2.2.2.2.2.1, .res (oK kI (rT (wc rI (wc rI (wc rI (w1 (rL rI))))))) s8.1, .res (oL (rT (wc rI (wc rI (wc rI (wc rI (w1 (rL rI)))))))) s8.2, .is (rL (rT (wc rI (wc rS (wc rS (wc rI (w1 rI))))))) row_6, .is (rT (wc rI (wc rS (wc rS (wc rI (w1 rI)))))) x9, .res (oL (rT (wc rI (wc rI (wc rI (w1 (rL rI))))))) s16, .any, .any, .any, .any, .any] _ _ _ _ _
    refine xg_if (Γ' := fun s25 : (List (Int × (Int × Int × Int × (List Int)))) × (List (Int × Int × Int × Int × (List Int))) => [.is (rL (rT (wc rI (wc rS (wc rS (wc rI (w1 rI))))))) i.1, .is (rK kS rI) i.2.1, .is rS i.2.2.1, .is rS i.2.2.2.1, .is rI i.2.2.2.2.1, .is (rL rI) i.2.2.2.2.2.1, .is (rL rI) i.2.2.2.2.2.2.1, .res (oK kI (rT (wc rI (wc rI (wc rI (w1 (rL rI))))))) s25.1, .res (oL (rT (wc rI (wc rI (wc rI (wc rI (w1 (rL rI)))))))) s25.2, .is (rL (rT (wc rI (wc rS (wc rS (wc rI (w1 rI))))))) row_6, .is (rT (wc rI (wc rS (wc rS (wc rI (w1 rI)))))) x9, .res (oL (rT (wc rI (wc rI (wc rI (w1 (rL rI))))))) s16, .any, .any, .any, .any, .any]) (q := fun s25 : (List (Int × (Int × Int × Int × (List Int)))) × (List (Int × Int × Int × Int × (List Int))) => least_j7 s25) (xmt_eq (xmt_truL (xm_bor C 11 (A := (oL (rT (wc rI (wc rI (wc rI (w1 (rL rI)))))))) (x := s16) bwL)) (rfl : _ = (Res.ok ((!List.isEmpty s16)) : R0 Bool))) ?_ ?_ (fun s25 => ?_) (Wk.toAny rfl)
    · show XG X [.is (rL (rT (wc rI (wc rS (wc rS (wc rI (w1 rI))))))) i.1, .is (rK kS rI) i.2.1, .is rS i.2.2.1, .is rS i.2.2.2.1, .is rI i.2.2.2.2.1, .is (rL rI) i.2.2.2.2.2.1, .is (rL rI) i.2.2.2.2.2.2.1, .res (oK kI (rT (wc rI (wc rI (wc rI (w1 (rL rI))))))) s8.1, .res (oL (rT (wc rI (wc rI (wc rI (wc rI (w1 (rL rI)))))))) s8.2, .is (rL (rT (wc rI (wc rS (wc rS (wc rI (w1 rI))))))) row_6, .is (rT (wc rI (wc rS (wc rS (wc rI (w1 rI)))))) x9, .res (oL (rT (wc rI (wc rI (wc rI (w1 (rL rI))))))) s16, .any, .any, .any, .any, .any] _ _ _ _ _
      refine xg_dput C 7 (A := kI) (R := (rT (wc rI (wc rI (wc rI (w1 (rL rI))))))) (d := s8.1) (xm_eq (xm_b1 C hf (cr_min C) (xm_bor C 11 (A := (oL (rT (wc rI (wc rI (wc rI (w1 (rL rI)))))))) (x := s16) bwL) boot_min) (rfl : _ = (gd (CNe s16) (Res.ok ((minL (rT (wc rI (wc rI (wc rI (w1 (rL rI)))))) s16)))))) (xm_eq (ma0 (xm_var C 10 (R := (rT (wc rI (wc rS (wc rS (wc rI (w1 rI))))))) (x := x9))) (rfl : _ = (Res.ok (x9.1) : R0 Int))) (fun x26 q27 => ?_) (Wk.toAny rfl)
      show XG X [.is (rL (rT (wc rI (wc rS (wc rS (wc rI (w1 rI))))))) i.1, .is (rK kS rI) i.2.1, .is rS i.2.2.1, .is rS i.2.2.2.1, .is rI i.2.2.2.2.1, .is (rL rI) i.2.2.2.2.2.1, .is (rL rI) i.2.2.2.2.2.2.1, .res (oK kI (rT (wc rI (wc rI (wc rI (w1 (rL rI))))))) (dput s8.1 q27 x26), .res (oL (rT (wc rI (wc rI (wc rI (wc rI (w1 (rL rI)))))))) s8.2, .is (rL (rT (wc rI (wc rS (wc rS (wc rI (w1 rI))))))) row_6, .is (rT (wc rI (wc rS (wc rS (wc rI (w1 rI)))))) x9, .res (oL (rT (wc rI (wc rI (wc rI (w1 (rL rI))))))) s16, .any, .any, .any, .any, .any] _ _ _ _ _
      refine xg_unpack (xm_eq (xm_dget C (A := kI) (R := (rT (wc rI (wc rI (wc rI (w1 (rL rI))))))) (xm_bor C 7 (A := (oK kI (rT (wc rI (wc rI (wc rI (w1 (rL rI)))))))) (x := (dput s8.1 q27 x26)) bwK) (xm_eq (ma0 (xm_var C 10 (R := (rT (wc rI (wc rS (wc rS (wc rI (w1 rI))))))) (x := x9))) (rfl : _ = (Res.ok (x9.1) : R0 Int)))) (rfl : _ = (gd (has (dput s8.1 q27 x26) x9.1 = true) (Res.ok ((Option.getD (look (dput s8.1 q27 x26) x9.1) default)))))) (xtg_tup C (xtgs_c (xtg_name C 13) (xtgs_c (xtg_name C 14) (xtgs_c (xtg_name C 15) (xtgs_1 (xtg_name C 16)))))) (fun u28 => ?_) (Wk.toAny rfl)
      show XG X [.is (rL (rT (wc rI (wc rS (wc rS (wc rI (w1 rI))))))) i.1, .is (rK kS rI) i.2.1, .is rS i.2.2.1, .is rS i.2.2.2.1, .is rI i.2.2.2.2.1, .is (rL rI) i.2.2.2.2.2.1, .is (rL rI) i.2.2.2.2.2.2.1, .res (oK kI (rT (wc rI (wc rI (wc rI (w1 (rL rI))))))) (dput s8.1 q27 x26), .res (oL (rT (wc rI (wc rI (wc rI (wc rI (w1 (rL rI)))))))) s8.2, .is (rL (rT (wc rI (wc rS (wc rS (wc rI (w1 rI))))))) row_6, .is (rT (wc rI (wc rS (wc rS (wc rI (w1 rI)))))) x9, .res (oL (rT (wc rI (wc rI (wc rI (w1 (rL rI))))))) s16, .any, .is rI u28.1, .is rI u28.2.1, .is rI u28.2.2.1, .is (rL rI) u28.2.2.2] _ _ _ _ _
      refine xg_if (Γ' := fun s30 : (List (Int × Int × Int × Int × (List Int))) => [.is (rL (rT (wc rI (wc rS (wc rS (wc rI (w1 rI))))))) i.1, .is (rK kS rI) i.2.1, .is rS i.2.2.1, .is rS i.2.2.2.1, .is rI i.2.2.2.2.1, .is (rL rI) i.2.2.2.2.2.1, .is (rL rI) i.2.2.2.2.2.2.1, .res (oK kI (rT (wc rI (wc rI (wc rI (w1 (rL rI))))))) (dput s8.1 q27 x26), .res (oL (rT (wc rI (wc rI (wc rI (wc rI (w1 (rL rI)))))))) s30, .is (rL (rT (wc rI (wc rS (wc rS (wc rI (w1 rI))))))) row_6, .is (rT (wc rI (wc rS (wc rS (wc rI (w1 rI)))))) x9, .res (oL (rT (wc rI (wc rI (wc rI (w1 (rL rI))))))) s16, .any, .is rI u28.1, .is rI u28.2.1, .is rI u28.2.2.1, .is (rL rI) u28.2.2.2]) (q := fun s30 : (List (Int × Int × Int × Int × (List Int))) => least_j8 (dput s8.1 q27 x26) s30) (xmt_eq (xmt_cmp o_eqS (xm_eq (ma2 (xm_var C 10 (R := (rT (wc rI (wc rS (wc rS (wc rI (w1 rI))))))) (x := x9))) (rfl : _ = (Res.ok (x9.2.2.1) : R0 Str))) (xm_var C 3 (R := rS) (x := i.2.2.2.1))) (rfl : _ = (Res.ok (decide (x9.2.2.1 = i.2.2.2.1)) : R0 Bool))) ?_ ?_ (fun s30 => ?_) (Wk.toAny rfl)
      · show XG X [.is (rL (rT (wc rI (wc rS (wc rS (wc rI (w1 rI))))))) i.1, .is (rK kS rI) i.2.1, .is rS i.2.2.1, .is rS i.2.2.2.1, .is rI i.2.2.2.2.1, .is (rL rI) i.2.2.2.2.2.1, .is (rL rI) i.2.2.2.2.2.2.1, .res (oK kI (rT (wc rI (wc rI (wc rI (w1 (rL rI))))))) (dput s8.1 q27 x26), .res (oL (rT (wc rI (wc rI (wc rI (wc rI (w1 (rL rI)))))))) s8.2, .is (rL (rT (wc rI (wc rS (wc rS (wc rI (w1 rI))))))) row_6, .is (rT (wc rI (wc rS (wc rS (wc rI (w1 rI)))))) x9, .res (oL (rT (wc rI (wc rI (wc rI (w1 (rL rI))))))) s16, .any, .is rI u28.1, .is rI u28.2.1, .is rI u28.2.2.1, .is (rL rI) u28.2.2.2] _ _ _ _ _
        refine xg_append C 8 (xm_eq (xm_tup (xr_c (xm_var C 13 (R := rI) (x := u28.1)) (xr_c (xm_var C 14 (R := rI) (x := u28.2.1)) (xr_c (xm_eq (ma4l (xm_var C 10 (R := (rT (wc rI (wc rS (wc rS (wc rI (w1 rI))))))) (x := x9))) (rfl : _ = (Res.ok (x9.2.2.2.2) : R0 Int))) (xr_c (xm_var C 15 (R := rI) (x := u28.2.2.1)) (xmr_1 (xm_var C 16 (R := (rL rI)) (x := u28.2.2.2))) (rfl : _ = (Res.ok ((u28.2.2.1, u28.2.2.2)) : R0 (Int × (List Int))))) (rfl : _ = (Res.ok ((x9.2.2.2.2, (u28.2.2.1, u28.2.2.2))) : R0 (Int × Int × (List Int))))) (rfl : _ = (Res.ok ((u28.2.1, (x9.2.2.2.2, (u28.2.2.1, u28.2.2.2)))) : R0 (Int × Int × Int × (List Int))))) (rfl : _ = (Res.ok ((u28.1, (u28.2.1, (x9.2.2.2.2, (u28.2.2.1, u28.2.2.2))))) : R0 (Int × Int × Int × Int × (List Int)))))) (rfl : _ = (Res.ok ((u28.1, (u28.2.1, (x9.2.2.2.2, (u28.2.2.1, u28.2.2.2))))) : R0 (Int × Int × Int × Int × (List Int))))) (fun x31 => ?_) (Wk.toAny rfl)
        show XG X [.is (rL (rT (wc rI (wc rS (wc rS (wc rI (w1 rI))))))) i.1, .is (rK kS rI) i.2.1, .is rS i.2.2.1, .is rS i.2.2.2.1, .is rI i.2.2.2.2.1, .is (rL rI) i.2.2.2.2.2.1, .is (rL rI) i.2.2.2.2.2.2.1, .res (oK kI (rT (wc rI (wc rI (wc rI (w1 (rL rI))))))) (dput s8.1 q27 x26), .res (oL (rT (wc rI (wc rI (wc rI (wc rI (w1 (rL rI)))))))) (s8.2 ++ [x31]), .is (rL (rT (wc rI (wc rS (wc rS (wc rI (w1 rI))))))) row_6, .is (rT (wc rI (wc rS (wc rS (wc rI (w1 rI)))))) x9, .res (oL (rT (wc rI (wc rI (wc rI (w1 (rL rI))))))) s16, .any, .is rI u28.1, .is rI u28.2.1, .is rI u28.2.2.1, .is (rL rI) u28.2.2.2] _ _ _ _ _
        exact xg_nil ⟨_, Wk.refl _, Exists.intro ((s8.2 ++ [x31])) (And.intro rfl (Wk.same (Wk.same (Wk.same (Wk.same (Wk.same (Wk.same (Wk.same (Wk.same (Wk.same (Wk.same (Wk.same (Wk.same (Wk.any (Wk.same (Wk.same (Wk.same (Wk.same Wk.nil))))))))))))))))))⟩
      · show XG X [.is (rL (rT (wc rI (wc rS (wc rS (wc rI (w1 rI))))))) i.1, .is (rK kS rI) i.2.1, .is rS i.2.2.1, .is rS i.2.2.2.1, .is rI i.2.2.2.2.1, .is (rL rI) i.2.2.2.2.2.1, .is (rL rI) i.2.2.2.2.2.2.1, .res (oK kI (rT (wc rI (wc rI (wc rI (w1 (rL rI))))))) (dput s8.1 q27 x26), .res (oL (rT (wc rI (wc rI (wc rI (wc rI (w1 (rL rI)))))))) s8.2, .is (rL (rT (wc rI (wc rS (wc rS (wc rI (w1 rI))))))) row_6, .is (rT (wc rI (wc rS (wc rS (wc rI (w1 rI)))))) x9, .res (oL (rT (wc rI (wc rI (wc rI (w1 (rL rI))))))) s16, .any, .is rI u28.1, .is rI u28.2.1, .is rI u28.2.2.1, .is (rL rI) u28.2.2.2] _ _ _ _ _
        exact xg_nil ⟨_, Wk.refl _, Exists.intro (s8.2) (And.intro rfl (Wk.same (Wk.same (Wk.same (Wk.same (Wk.same (Wk.same (Wk.same (Wk.same (Wk.same (Wk.same (Wk.same (Wk.same (Wk.any (Wk.same (Wk.same (Wk.same (Wk.same Wk.nil))))))))))))))))))⟩
      show XG X [.is (rL (rT (wc rI (wc rS (wc rS (wc rI (w1 rI))))))) i.1, .is (rK kS rI) i.2.1, .is rS i.2.2.1, .is rS i.2.2.2.1, .is rI i.2.2.2.2.1, .is (rL rI) i.2.2.2.2.2.1, .is (rL rI) i.2.2.2.2.2.2.1, .res (oK kI (rT (wc rI (wc rI (wc rI (w1 (rL rI))))))) (dput s8.1 q27 x26), .res (oL (rT (wc rI (wc rI (wc rI (wc rI (w1 (rL rI)))))))) s30, .is (rL (rT (wc rI (wc rS (wc rS (wc rI (w1 rI))))))) row_6, .is (rT (wc rI (wc rS (wc rS (wc rI (w1 rI)))))) x9, .res (oL (rT (wc rI (wc rI (wc rI (w1 (rL rI))))))) s16, .any, .is rI u28.1, .is rI u28.2.1, .is rI u28.2.2.1, .is (rL rI) u28.2.2.2] _ _ _ _ _
      exact xg_nil ⟨_, Wk.refl _, Exists.intro ((dput s8.1 q27 x26), s30) (And.intro rfl (Wk.same (Wk.same (Wk.same (Wk.same (Wk.same (Wk.same (Wk.same (Wk.same (Wk.same (Wk.same (Wk.same (Wk.same (Wk.any (Wk.any (Wk.any (Wk.any (Wk.any Wk.nil))))))))))))))))))⟩
    · show XG X [.is (rL (rT (wc rI (wc rS (wc rS (wc rI (w1 rI))))))) i.1, .is (rK kS rI) i.2.1, .is rS i.2.2.1, .is rS i.2.2.2.1, .is rI i.2.2.2.2.1, .is (rL rI) i.2.2.2.2.2.1, .is (rL rI) i.2.2.2.2.2.2.1, .res (oK kI (rT (wc rI (wc rI (wc rI (w1 (rL rI))))))) s8.1, .res (oL (rT (wc rI (wc rI (wc rI (wc rI (w1 (rL rI)))))))) s8.2, .is (rL (rT (wc rI (wc rS (wc rS (wc rI (w1 rI))))))) row_6, .is (rT (wc rI (wc rS (wc rS (wc rI (w1 rI)))))) x9, .res (oL (rT (wc rI (wc rI (wc rI (w1 (rL rI))))))) s16, .any, .any, .any, .any, .any] _ _ _ _ _
      exact xg_nil ⟨_, Wk.refl _, Exists.intro (s8.1, s8.2) (And.intro rfl (Wk.same (Wk.same (Wk.same (Wk.same (Wk.same (Wk.same (Wk.same (Wk.same (Wk.same (Wk.same (Wk.same (Wk.same (Wk.any (Wk.any (Wk.any (Wk.any (Wk.any Wk.nil))))))))))))))))))⟩
    show XG X [.is (rL (rT (wc rI (wc rS (wc rS (wc rI (w1 rI))))))) i.1, .is (rK kS rI) i.2.1, .is rS i.2.2.1, .is rS i.2.2.2.1, .is rI i.2.2.2.2.1, .is (rL rI) i.2.2.2.2.2.1, .is (rL rI) i.2.2.2.2.2.2.1, .res (oK kI (rT (wc rI (wc rI (wc rI (w1 (rL rI))))))) s25.1, .res (oL (rT (wc rI (wc rI (wc rI (wc rI (w1 (rL rI)))))))) s25.2, .is (rL (rT (wc rI (wc rS (wc rS (wc rI (w1 rI))))))) row_6, .is (rT (wc rI (wc rS (wc rS (wc rI (w1 rI)))))) x9, .res (oL (rT (wc rI (wc rI (wc rI (w1 (rL rI))))))) s16, .any, .any, .any, .any, .any] _ _ _ _ _
    exact xg_nil ⟨_, Wk.refl _, Exists.intro (s25.1, s25.2) (And.intro rfl (Wk.same (Wk.same (Wk.same (Wk.same (Wk.same (Wk.same (Wk.same (Wk.same (Wk.same (Wk.same (Wk.any (Wk.any (Wk.any (Wk.any (Wk.any (Wk.any (Wk.any Wk.nil))))))))))))))))))⟩
  show XG X [.is (rL (rT (wc rI (wc rS (wc rS (wc rI (w1 rI))))))) i.1, .is (rK kS rI) i.2.1, .is rS i.2.2.1, .is rS i.2.2.2.1, .is rI i.2.2.2.2.1, .is (rL rI) i.2.2.2.2.2.1, .is (rL rI) i.2.2.2.2.2.2.1, .res (oK kI (rT (wc rI (wc rI (wc rI (w1 (rL rI))))))) s8.1, .res (oL (rT (wc rI (wc rI (wc rI (wc rI (w1 (rL rI)))))))) s8.2, .is (rL (rT (wc rI (wc rS (wc rS (wc rI (w1 rI))))))) row_6, .any, .any, .any, .any, .any, .any, .any] _ _ _ _ _
  refine xg_freeze 7 ?_
  show XG X [.is (rL (rT (wc rI (wc rS (wc rS (wc rI (w1 rI))))))) i.1, .is (rK kS rI) i.2.1, .is rS i.2.2.1, .is rS i.2.2.2.1, .is rI i.2.2.2.2.1, .is (rL rI) i.2.2.2.2.2.1, .is (rL rI) i.2.2.2.2.2.2.1, .is (rK kI (rT (wc rI (wc rI (wc rI (w1 (rL rI))))))) s8.1, .res (oL (rT (wc rI (wc rI (wc rI (wc rI (w1 (rL rI)))))))) s8.2, .is (rL (rT (wc rI (wc rS (wc rS (wc rI (w1 rI))))))) row_6, .any, .any, .any, .any, .any, .any, .any] _ _ _ _ _
  refine xg_freeze 8 ?_
  show XG X [.is (rL (rT (wc rI (wc rS (wc rS (wc rI (w1 rI))))))) i.1, .is (rK kS rI) i.2.1, .is rS i.2.2.1, .is rS i.2.2.2.1, .is rI i.2.2.2.2.1, .is (rL rI) i.2.2.2.2.2.1, .is (rL rI) i.2.2.2.2.2.2.1, .is (rK kI (rT (wc rI (wc rI (wc rI (w1 (rL rI))))))) s8.1, .is (rL (rT (wc rI (wc rI (wc rI (wc rI (w1 (rL rI)))))))) s8.2, .is (rL (rT (wc rI (wc rS (wc rS (wc rI (w1 rI))))))) row_6, .any, .any, .any, .any, .any, .any, .any] _ _ _ _ _
  refine xg_if1 (xmt_eq (xmt_cmp (o_eqL C) (xm_eq (xm_fb bfL (xm_var C 8 (R := (rL (rT (wc rI (wc rI (wc rI (wc rI (w1 (rL rI))))))))) (x := s8.2))) (rfl : _ = (Res.ok (s8.2) : R0 (List (Int × Int × Int × Int × (List Int)))))) (xm_eq (xm_fb bfL (xm_eq (xm_ofO (xmo_eq (xmo_newL (R := (rT (wc rI (wc rI (wc rI (wc rI (w1 (rL rI)))))))) xml_nil) (rfl : _ = (Res.ok (([] : (List (Int × Int × Int × Int × (List Int))))) : R0 (List (Int × Int × Int × Int × (List Int))))))) (rfl : _ = (Res.ok (([] : (List (Int × Int × Int × Int × (List Int))))) : R0 (List (Int × Int × Int × Int × (List Int))))))) (rfl : _ = (Res.ok (([] : (List (Int × Int × Int × Int × (List Int))))) : R0 (List (Int × Int × Int × Int × (List Int))))))) (rfl : _ = (Res.ok (decide (s8.2 = ([] : (List (Int × Int × Int × Int × (List Int)))))) : R0 Bool))) ?_ ?_ (Wk.toAny rfl)
  · show XG X [.is (rL (rT (wc rI (wc rS (wc rS (wc rI (w1 rI))))))) i.1, .is (rK kS rI) i.2.1, .is rS i.2.2.1, .is rS i.2.2.2.1, .is rI i.2.2.2.2.1, .is (rL rI) i.2.2.2.2.2.1, .is (rL rI) i.2.2.2.2.2.2.1, .is (rK kI (rT (wc rI (wc rI (wc rI (w1 (rL rI))))))) s8.1, .is (rL (rT (wc rI (wc rI (wc rI (wc rI (w1 (rL rI)))))))) s8.2, .is (rL (rT (wc rI (wc rS (wc rS (wc rI (w1 rI))))))) row_6, .any, .any, .any, .any, .any, .any, .any] _ _ _ _ _
    exact xg_ret (xm_eq (xm_none (R := (rL rI))) (rfl : _ = (Res.ok (none) : R0 (Option (List Int))))) (fun r33 => r33) (fun _ => ⟨_, Wk.toAny rfl, And.intro rfl rfl⟩) (Wk.toAny rfl)
  show XG X [.is (rL (rT (wc rI (wc rS (wc rS (wc rI (w1 rI))))))) i.1, .is (rK kS rI) i.2.1, .is rS i.2.2.1, .is rS i.2.2.2.1, .is rI i.2.2.2.2.1, .is (rL rI) i.2.2.2.2.2.1, .is (rL rI) i.2.2.2.2.2.2.1, .is (rK kI (rT (wc rI (wc rI (wc rI (w1 (rL rI))))))) s8.1, .is (rL (rT (wc rI (wc rI (wc rI (wc rI (w1 (rL rI)))))))) s8.2, .is (rL (rT (wc rI (wc rS (wc rS (wc rI (w1 rI))))))) row_6, .any, .any, .any, .any, .any, .any, .any] _ _ _ _ _
  exact xg_ret (xm_eq (xm_some (xm_eq (ma4l (xm_eq (xm_b1 C hf (cr_min C) (xm_eq (xm_fb bfL (xm_var C 8 (R := (rL (rT (wc rI (wc rI (wc rI (wc rI (w1 (rL rI))))))))) (x := s8.2))) (rfl : _ = (Res.ok (s8.2) : R0 (List (Int × Int × Int × Int × (List Int)))))) boot_min) (rfl : _ = (gd (CNe s8.2) (Res.ok ((minL (rT (wc rI (wc rI (wc rI (wc rI (w1 (rL rI))))))) s8.2))))))) (rfl : _ = (Res.bind (gd (CNe s8.2) (Res.ok ((minL (rT (wc rI (wc rI (wc rI (wc rI (w1 (rL rI))))))) s8.2)))) fun v35 => Res.ok (v35.2.2.2.2))))) (rfl : _ = (Res.bind (Res.bind (gd (CNe s8.2) (Res.ok ((minL (rT (wc rI (wc rI (wc rI (wc rI (w1 (rL rI))))))) s8.2)))) fun v35 => Res.ok (v35.2.2.2.2)) fun v36 => Res.ok (some v36)))) (fun r34 => r34) (fun _ => ⟨_, Wk.toAny rfl, And.intro rfl rfl⟩) (Wk.toAny rfl)
abbrev sp_draws (K : PySem.W.Frag) (mg : Str → Option Value) : Sp := spF K mg (fun i : (List Int) × Int × Int × Unit => [.is (rSc K) i.1, .is rI i.2.1, .is rI i.2.2.1]) (fun i => m_draws i.1 i.2.1 i.2.2.1) (fun x : (List Int) => .is (rL rI) x)
def N_draws : List Str := ["_law_script", "_law_at", "_law_many", "_law_cell", "_law_seed", "_law_row", "_law_mark"]
theorem sc_draws : FnScope N_draws ["_law_script", "_law_at", "_law_many"] (defScope s_draws) := ⟨rfl, rfl, rfl, by decide +kernel, rfl, by decide +kernel, by decide +kernel⟩
theorem fk_draws {P : Program} {w : World} {K : PySem.W.Frag} {mg : Str → Option Value} {base : Heap} {f : Addr} {fd : FuncData} (Fn : FnP K "_law_draws" "_law_draws" s_draws f fd) (hm : mg "_law_draws" = some (.ref f)) (hf : Free mg) : Fk P w K mg base 1 "_law_draws" ["_law_script", "_law_at", "_law_many"] (sp_draws K mg) := by
  refine fk_of Fn (fn_F (k := 0) Fn sc_draws (fun _ => rfl) (fun i X C => ?_)) hm (fun _ _ _ _ _ _ us hl => match us, hl with | [_, _, _], _ => rfl)
  show XG X [.is (rSc K) i.1, .is rI i.2.1, .is rI i.2.2.1, .any, .any, .any, .any] _ _ _ _ _
  refine xg_asg C 3 (xm_eq (xm_binT o_add (xm_eq (xm_binL o_mul (xm_int (i := (7 : Int))) (xm_var C 1 (R := rI) (x := i.2.1)) (cmul_l (by decide))) (rfl : _ = (Res.ok (((7 : Int) * i.2.1)) : R0 Int))) (xm_int (i := (1 : Int)))) (rfl : _ = (Res.ok ((((7 : Int) * i.2.1) + (1 : Int))) : R0 Int))) (fun cell_1 => ?_) (Wk.toAny rfl)
  show XG X [.is (rSc K) i.1, .is rI i.2.1, .is rI i.2.2.1, .is rI cell_1, .any, .any, .any] _ _ _ _ _
  refine xg_if (Γ' := fun s3 : Int => [.is (rSc K) i.1, .is rI i.2.1, .is rI i.2.2.1, .is rI s3, .any, .any, .any]) (q := fun s3 : Int => draws_j0 i.2.1 i.2.2.1 s3) (xmt_eq (xmt_cmp o_lt (xm_var C 1 (R := rI) (x := i.2.1)) (xm_eq (xm_len C hf (len_script C) (xm_var C 0 (R := (rSc K)) (x := i.1))) (rfl : _ = (Res.ok (((List.length i.1 : Nat) : Int)) : R0 Int)))) (rfl : _ = (Res.ok (decide (i.2.1 < ((List.length i.1 : Nat) : Int))) : R0 Bool))) ?_ ?_ (fun s3 => ?_) (Wk.toAny rfl)
  · show XG X [.is (rSc K) i.1, .is rI i.2.1, .is rI i.2.2.1, .is rI cell_1, .any, .any, .any] _ _ _ _ _
    refine xg_asg C 3 (xm_eq (xm_ix (i_script C) (xm_var C 0 (R := (rSc K)) (x := i.1)) (xm_var C 1 (R := rI) (x := i.2.1))) (rfl : _ = (gd (inR i.1 i.2.1) (Res.ok ((ix i.1 i.2.1)))))) (fun cell_4 => ?_) (Wk.toAny rfl)
    show XG X [.is (rSc K) i.1, .is rI i.2.1, .is rI i.2.2.1, .is rI cell_4, .any, .any, .any] _ _ _ _ _
    exact xg_nil ⟨_, Wk.refl _, Exists.intro (cell_4) (And.intro rfl (Wk.same (Wk.same (Wk.same (Wk.same (Wk.any (Wk.any (Wk.any Wk.nil))))))))⟩
  · show XG X [.is (rSc K) i.1, .is rI i.2.1, .is rI i.2.2.1, .is rI cell_1, .any, .any, .any] _ _ _ _ _
    refine xg_if (Γ' := fun s6 : Int => [.is (rSc K) i.1, .is rI i.2.1, .is rI i.2.2.1, .is rI s6, .any, .any, .any]) (q := fun s6 : Int => draws_j6 i.2.1 i.2.2.1 s6) (xmt_eq (xmt_cmp o_gt (xm_eq (xm_len C hf (len_script C) (xm_var C 0 (R := (rSc K)) (x := i.1))) (rfl : _ = (Res.ok (((List.length i.1 : Nat) : Int)) : R0 Int))) (xm_int (i := (0 : Int)))) (rfl : _ = (Res.ok (decide (((List.length i.1 : Nat) : Int) > (0 : Int))) : R0 Bool))) ?_ ?_ (fun s6 => ?_) (Wk.toAny rfl)
    · show XG X [.is (rSc K) i.1, .is rI i.2.1, .is rI i.2.2.1, .is rI cell_1, .any, .any, .any] _ _ _ _ _
      refine xg_asg C 3 (xm_eq (xm_binT o_add (xm_eq (xm_binT o_add (xm_eq (xm_binK o_mod (xm_eq (xm_ix (i_script C) (xm_var C 0 (R := (rSc K)) (x := i.1)) (xm_eq (xm_bin o_mod (xm_var C 1 (R := rI) (x := i.2.1)) (xm_eq (xm_len C hf (len_script C) (xm_var C 0 (R := (rSc K)) (x := i.1))) (rfl : _ = (Res.ok (((List.length i.1 : Nat) : Int)) : R0 Int)))) (rfl : _ = (gd (CMod i.2.1 ((List.length i.1 : Nat) : Int)) (Res.ok ((i.2.1 % ((List.length i.1 : Nat) : Int)))))))) (rfl : _ = (Res.bind (gd (CMod i.2.1 ((List.length i.1 : Nat) : Int)) (Res.ok ((i.2.1 % ((List.length i.1 : Nat) : Int))))) fun v8 => gd (inR i.1 v8) (Res.ok ((ix i.1 v8)))))) (xm_int (i := (999983 : Int))) (cmod_r (by decide))) (rfl : _ = (Res.bind (Res.bind (gd (CMod i.2.1 ((List.length i.1 : Nat) : Int)) (Res.ok ((i.2.1 % ((List.length i.1 : Nat) : Int))))) fun v8 => gd (inR i.1 v8) (Res.ok ((ix i.1 v8)))) fun v9 => Res.ok ((v9 % (999983 : Int)))))) (xm_eq (xm_binK o_mul (xm_eq (xm_bin o_mul (xm_var C 1 (R := rI) (x := i.2.1)) (xm_var C 1 (R := rI) (x := i.2.1))) (rfl : _ = (gd (CMul i.2.1 i.2.1) (Res.ok ((i.2.1 * i.2.1)))))) (xm_int (i := (97 : Int))) (cmul_r (by decide))) (rfl : _ = (Res.bind (gd (CMul i.2.1 i.2.1) (Res.ok ((i.2.1 * i.2.1)))) fun v10 => Res.ok ((v10 * (97 : Int))))))) (rfl : _ = (Res.bind (Res.bind (Res.bind (gd (CMod i.2.1 ((List.length i.1 : Nat) : Int)) (Res.ok ((i.2.1 % ((List.length i.1 : Nat) : Int))))) fun v8 => gd (inR i.1 v8) (Res.ok ((ix i.1 v8)))) fun v9 => Res.ok ((v9 % (999983 : Int)))) fun v11 => Res.bind (Res.bind (gd (CMul i.2.1 i.2.1) (Res.ok ((i.2.1 * i.2.1)))) fun v10 => Res.ok ((v10 * (97 : Int)))) fun v12 => Res.ok ((v11 + v12))))) (xm_int (i := (1 : Int)))) (rfl : _ = (Res.bind (Res.bind (Res.bind (Res.bind (gd (CMod i.2.1 ((List.length i.1 : Nat) : Int)) (Res.ok ((i.2.1 % ((List.length i.1 : Nat) : Int))))) fun v8 => gd (inR i.1 v8) (Res.ok ((ix i.1 v8)))) fun v9 => Res.ok ((v9 % (999983 : Int)))) fun v11 => Res.bind (Res.bind (gd (CMul i.2.1 i.2.1) (Res.ok ((i.2.1 * i.2.1)))) fun v10 => Res.ok ((v10 * (97 : Int)))) fun v12 => Res.ok ((v11 + v12))) fun v13 => Res.ok ((v13 + (1 : Int)))))) (fun cell_7 => ?_) (Wk.toAny rfl)
      show XG X [.is (rSc K) i.1, .is rI i.2.1, .is rI i.2.2.1, .is rI cell_7, .any, .any, .any] _ _ _ _ _
      exact xg_nil ⟨_, Wk.refl _, Exists.intro (cell_7) (And.intro rfl (Wk.same (Wk.same (Wk.same (Wk.same (Wk.any (Wk.any (Wk.any Wk.nil))))))))⟩
    · show XG X [.is (rSc K) i.1, .is rI i.2.1, .is rI i.2.2.1, .is rI cell_1, .any, .any, .any] _ _ _ _ _
      exact xg_nil ⟨_, Wk.refl _, Exists.intro (cell_1) (And.intro rfl (Wk.same (Wk.same (Wk.same (Wk.same (Wk.any (Wk.any (Wk.any Wk.nil))))))))⟩
    show XG X [.is (rSc K) i.1, .is rI i.2.1, .is rI i.2.2.1, .is rI s6, .any, .any, .any] _ _ _ _ _
    exact xg_nil ⟨_, Wk.refl _, Exists.intro (s6) (And.intro rfl (Wk.same (Wk.same (Wk.same (Wk.same (Wk.any (Wk.any (Wk.any Wk.nil))))))))⟩
  show XG X [.is (rSc K) i.1, .is rI i.2.1, .is rI i.2.2.1, .is rI s3, .any, .any, .any] _ _ _ _ _
  refine xg_asg C 4 (xm_eq (xm_binT o_add (xm_eq (xm_binT o_add (xm_eq (xm_binK o_mod (xm_var C 3 (R := rI) (x := s3)) (xm_int (i := (999983 : Int))) (cmod_r (by decide))) (rfl : _ = (Res.ok ((s3 % (999983 : Int))) : R0 Int))) (xm_eq (xm_binL o_mul (xm_int (i := (31 : Int))) (xm_var C 1 (R := rI) (x := i.2.1)) (cmul_l (by decide))) (rfl : _ = (Res.ok (((31 : Int) * i.2.1)) : R0 Int)))) (rfl : _ = (Res.ok (((s3 % (999983 : Int)) + ((31 : Int) * i.2.1))) : R0 Int))) (xm_int (i := (5 : Int)))) (rfl : _ = (Res.ok ((((s3 % (999983 : Int)) + ((31 : Int) * i.2.1)) + (5 : Int))) : R0 Int))) (fun seed_14 => ?_) (Wk.toAny rfl)
  show XG X [.is (rSc K) i.1, .is rI i.2.1, .is rI i.2.2.1, .is rI s3, .is rI seed_14, .any, .any] _ _ _ _ _
  refine xg_asgO C 5 (xmo_eq (xmo_newL (R := rI) xml_nil) (rfl : _ = (Res.ok (([] : (List Int))) : R0 (List Int)))) (fun row_15 => ?_) (Wk.toAny rfl)
  show XG X [.is (rSc K) i.1, .is rI i.2.1, .is rI i.2.2.1, .is rI s3, .is rI seed_14, .res (oL rI) row_15, .any] _ _ _ _ _
  refine xg_if (Γ' := fun s17 : Int × (List Int) => [.is (rSc K) i.1, .is rI i.2.1, .is rI i.2.2.1, .is rI s17.1, .is rI seed_14, .res (oL rI) s17.2, .any]) (q := fun s17 : Int × (List Int) => draws_j1 i.2.2.1 seed_14 s17) (xmt_eq (xmt_cmp o_ge (xm_var C 3 (R := rI) (x := s3)) (xm_eq (xm_binC o_pow (xm_int (i := 10)) (xm_int (i := 18)) (by decide)) (rfl : _ = (Res.ok (((10 : Int) ^ (18 : Nat))) : R0 Int)))) (rfl : _ = (Res.ok (decide (s3 ≥ ((10 : Int) ^ (18 : Nat)))) : R0 Bool))) ?_ ?_ (fun s17 => ?_) (Wk.toAny rfl)
  · show XG X [.is (rSc K) i.1, .is rI i.2.1, .is rI i.2.2.1, .is rI s3, .is rI seed_14, .res (oL rI) row_15, .any] _ _ _ _ _
    refine xg_while C (fun s18 : Int × (List Int) => [.is (rSc K) i.1, .is rI i.2.1, .is rI i.2.2.1, .is rI s18.1, .is rI seed_14, .res (oL rI) s18.2, .any]) (s3, row_15) fuel (JR := (JF (fun x : (List Int) => .is (rL rI) x) (fun _ => List.replicate N_draws.length .any))) (inj := (fun r => r)) (mc := (fun s18 : Int × (List Int) => (Res.ok ((decide (s18.1 > (0 : Int)) && decide (((List.length s18.2 : Nat) : Int) < i.2.2.1))) : R0 Bool))) (bm := (draws_b4)) (q := (draws_k5 i.2.2.1 seed_14)) (bx := fun _ => ()) (Wk.same (Wk.same (Wk.same (Wk.same (Wk.same (Wk.same (Wk.any Wk.nil))))))) (fun s18 => (xmt_eq (xmt_w (xmw_eq (xmw_andP (xmt_eq (xmt_cmp o_gt (xm_var C 3 (R := rI) (x := s18.1)) (xm_int (i := (0 : Int)))) (rfl : _ = (Res.ok (decide (s18.1 > (0 : Int))) : R0 Bool))) (xmw_eq (xmw_and1 (xmt_eq (xmt_cmp o_lt (xm_eq (xm_len C hf len_list (xm_bor C 5 (A := (oL rI)) (x := s18.2) bwL)) (rfl : _ = (Res.ok (((List.length s18.2 : Nat) : Int)) : R0 Int))) (xm_var C 2 (R := rI) (x := i.2.2.1))) (rfl : _ = (Res.ok (decide (((List.length s18.2 : Nat) : Int) < i.2.2.1)) : R0 Bool)))) (rfl : _ = (Res.ok (decide (((List.length s18.2 : Nat) : Int) < i.2.2.1)) : R0 Bool)))) (rfl : _ = (Res.ok ((decide (s18.1 > (0 : Int)) && decide (((List.length s18.2 : Nat) : Int) < i.2.2.1))) : R0 Bool)))) (rfl : _ = (Res.ok ((decide (s18.1 > (0 : Int)) && decide (((List.length s18.2 : Nat) : Int) < i.2.2.1))) : R0 Bool)))) (fun s18 => ?_) (fun _ _ _ h => h) (fun _ => Wk.toAny rfl) (fun s18 => ?_)
    · show XG X [.is (rSc K) i.1, .is rI i.2.1, .is rI i.2.2.1, .is rI s18.1, .is rI seed_14, .res (oL rI) s18.2, .any] _ _ _ _ _
      refine xg_append C 5 (xm_eq (xm_binK o_mod (xm_var C 3 (R := rI) (x := s18.1)) (xm_int (i := (1013 : Int))) (cmod_r (by decide))) (rfl : _ = (Res.ok ((s18.1 % (1013 : Int))) : R0 Int))) (fun x19 => ?_) (Wk.toAny rfl)
      show XG X [.is (rSc K) i.1, .is rI i.2.1, .is rI i.2.2.1, .is rI s18.1, .is rI seed_14, .res (oL rI) (s18.2 ++ [x19]), .any] _ _ _ _ _
      refine xg_asg C 3 (xm_eq (xm_binK o_div (xm_var C 3 (R := rI) (x := s18.1)) (xm_int (i := (1013 : Int))) (cdiv_r (by decide))) (rfl : _ = (Res.ok ((s18.1 / (1013 : Int))) : R0 Int))) (fun cell_20 => ?_) (Wk.toAny rfl)
      show XG X [.is (rSc K) i.1, .is rI i.2.1, .is rI i.2.2.1, .is rI cell_20, .is rI seed_14, .res (oL rI) (s18.2 ++ [x19]), .any] _ _ _ _ _
      exact xg_nil ⟨_, Wk.refl _, Exists.intro (cell_20, (s18.2 ++ [x19])) (And.intro rfl (Wk.same (Wk.same (Wk.same (Wk.same (Wk.same (Wk.same (Wk.any Wk.nil))))))))⟩
    show XG X [.is (rSc K) i.1, .is rI i.2.1, .is rI i.2.2.1, .is rI s18.1, .is rI seed_14, .res (oL rI) s18.2, .any] _ _ _ _ _
    exact xg_nil ⟨_, Wk.refl _, Exists.intro (s18.1, s18.2) (And.intro rfl (Wk.same (Wk.same (Wk.same (Wk.same (Wk.same (Wk.same (Wk.any Wk.nil))))))))⟩
  · show XG X [.is (rSc K) i.1, .is rI i.2.1, .is rI i.2.2.1, .is rI s3, .is rI seed_14, .res (oL rI) row_15, .any] _ _ _ _ _
    exact xg_nil ⟨_, Wk.refl _, Exists.intro (s3, row_15) (And.intro rfl (Wk.same (Wk.same (Wk.same (Wk.same (Wk.same (Wk.same (Wk.any Wk.nil))))))))⟩
  show XG X [.is (rSc K) i.1, .is rI i.2.1, .is rI i.2.2.1, .is rI s17.1, .is rI seed_14, .res (oL rI) s17.2, .any] _ _ _ _ _
  refine xg_while C (fun s21 : Int × (List Int) => [.is (rSc K) i.1, .is rI i.2.1, .is rI i.2.2.1, .is rI s17.1, .is rI s21.1, .res (oL rI) s21.2, .any]) (seed_14, s17.2) fuel (JR := (JF (fun x : (List Int) => .is (rL rI) x) (fun _ => List.replicate N_draws.length .any))) (inj := (fun r => r)) (mc := (fun s21 : Int × (List Int) => (Res.ok (decide (((List.length s21.2 : Nat) : Int) < i.2.2.1)) : R0 Bool))) (bm := (draws_b2)) (q := (draws_k3)) (bx := fun _ => ()) (Wk.same (Wk.same (Wk.same (Wk.same (Wk.same (Wk.same (Wk.any Wk.nil))))))) (fun s21 => (xmt_eq (xmt_cmp o_lt (xm_eq (xm_len C hf len_list (xm_bor C 5 (A := (oL rI)) (x := s21.2) bwL)) (rfl : _ = (Res.ok (((List.length s21.2 : Nat) : Int)) : R0 Int))) (xm_var C 2 (R := rI) (x := i.2.2.1))) (rfl : _ = (Res.ok (decide (((List.length s21.2 : Nat) : Int) < i.2.2.1)) : R0 Bool)))) (fun s21 => ?_) (fun _ _ _ h => h) (fun _ => Wk.toAny rfl) (fun s21 => ?_)
  · show XG X [.is (rSc K) i.1, .is rI i.2.1, .is rI i.2.2.1, .is rI s17.1, .is rI s21.1, .res (oL rI) s21.2, .any] _ _ _ _ _
    refine xg_asg C 6 (xm_eq (xm_binT o_add (xm_eq (xm_len C hf len_list (xm_bor C 5 (A := (oL rI)) (x := s21.2) bwL)) (rfl : _ = (Res.ok (((List.length s21.2 : Nat) : Int)) : R0 Int))) (xm_int (i := (1 : Int)))) (rfl : _ = (Res.ok ((((List.length s21.2 : Nat) : Int) + (1 : Int))) : R0 Int))) (fun mark_22 => ?_) (Wk.toAny rfl)
    show XG X [.is (rSc K) i.1, .is rI i.2.1, .is rI i.2.2.1, .is rI s17.1, .is rI s21.1, .res (oL rI) s21.2, .is rI mark_22] _ _ _ _ _
    refine xg_asg C 4 (xm_eq (xm_binK o_mod (xm_eq (xm_binT o_add (xm_eq (xm_binT o_add (xm_eq (xm_binK o_mul (xm_var C 4 (R := rI) (x := s21.1)) (xm_int (i := (48271 : Int))) (cmul_r (by decide))) (rfl : _ = (Res.ok ((s21.1 * (48271 : Int))) : R0 Int))) (xm_eq (xm_binK o_mul (xm_eq (xm_bin o_mul (xm_var C 6 (R := rI) (x := mark_22)) (xm_var C 6 (R := rI) (x := mark_22))) (rfl : _ = (gd (CMul mark_22 mark_22) (Res.ok ((mark_22 * mark_22)))))) (xm_int (i := (6133 : Int))) (cmul_r (by decide))) (rfl : _ = (Res.bind (gd (CMul mark_22 mark_22) (Res.ok ((mark_22 * mark_22)))) fun v24 => Res.ok ((v24 * (6133 : Int))))))) (rfl : _ = (Res.bind (Res.bind (gd (CMul mark_22 mark_22) (Res.ok ((mark_22 * mark_22)))) fun v24 => Res.ok ((v24 * (6133 : Int)))) fun v25 => Res.ok (((s21.1 * (48271 : Int)) + v25))))) (xm_int (i := (17 : Int)))) (rfl : _ = (Res.bind (Res.bind (Res.bind (gd (CMul mark_22 mark_22) (Res.ok ((mark_22 * mark_22)))) fun v24 => Res.ok ((v24 * (6133 : Int)))) fun v25 => Res.ok (((s21.1 * (48271 : Int)) + v25))) fun v26 => Res.ok ((v26 + (17 : Int)))))) (xm_int (i := (2147483647 : Int))) (cmod_r (by decide))) (rfl : _ = (Res.bind (Res.bind (Res.bind (Res.bind (gd (CMul mark_22 mark_22) (Res.ok ((mark_22 * mark_22)))) fun v24 => Res.ok ((v24 * (6133 : Int)))) fun v25 => Res.ok (((s21.1 * (48271 : Int)) + v25))) fun v26 => Res.ok ((v26 + (17 : Int)))) fun v27 => Res.ok ((v27 % (2147483647 : Int)))))) (fun seed_23 => ?_) (Wk.toAny rfl)
    show XG X [.is (rSc K) i.1, .is rI i.2.1, .is rI i.2.2.1, .is rI s17.1, .is rI seed_23, .res (oL rI) s21.2, .is rI mark_22] _ _ _ _ _
    refine xg_append C 5 (xm_eq (xm_binK o_mod (xm_eq (xm_binK o_mod (xm_eq (xm_bin o_mul (xm_eq (xm_binK o_mod (xm_var C 4 (R := rI) (x := seed_23)) (xm_int (i := (65521 : Int))) (cmod_r (by decide))) (rfl : _ = (Res.ok ((seed_23 % (65521 : Int))) : R0 Int))) (xm_eq (xm_binT o_add (xm_eq (xm_binK o_mod (xm_eq (xm_binK o_div (xm_var C 4 (R := rI) (x := seed_23)) (xm_int (i := (65521 : Int))) (cdiv_r (by decide))) (rfl : _ = (Res.ok ((seed_23 / (65521 : Int))) : R0 Int))) (xm_int (i := (32749 : Int))) (cmod_r (by decide))) (rfl : _ = (Res.ok (((seed_23 / (65521 : Int)) % (32749 : Int))) : R0 Int))) (xm_int (i := (1 : Int)))) (rfl : _ = (Res.ok ((((seed_23 / (65521 : Int)) % (32749 : Int)) + (1 : Int))) : R0 Int)))) (rfl : _ = (gd (CMul (seed_23 % (65521 : Int)) (((seed_23 / (65521 : Int)) % (32749 : Int)) + (1 : Int))) (Res.ok (((seed_23 % (65521 : Int)) * (((seed_23 / (65521 : Int)) % (32749 : Int)) + (1 : Int)))))))) (xm_int (i := (1000003 : Int))) (cmod_r (by decide))) (rfl : _ = (Res.bind (gd (CMul (seed_23 % (65521 : Int)) (((seed_23 / (65521 : Int)) % (32749 : Int)) + (1 : Int))) (Res.ok (((seed_23 % (65521 : Int)) * (((seed_23 / (65521 : Int)) % (32749 : Int)) + (1 : Int)))))) fun v28 => Res.ok ((v28 % (1000003 : Int)))))) (xm_int (i := (1013 : Int))) (cmod_r (by decide))) (rfl : _ = (Res.bind (Res.bind (gd (CMul (seed_23 % (65521 : Int)) (((seed_23 / (65521 : Int)) % (32749 : Int)) + (1 : Int))) (Res.ok (((seed_23 % (65521 : Int)) * (((seed_23 / (65521 : Int)) % (32749 : Int)) + (1 : Int)))))) fun v28 => Res.ok ((v28 % (1000003 : Int)))) fun v29 => Res.ok ((v29 % (1013 : Int)))))) (fun x30 => ?_) (Wk.toAny rfl)
    show XG X [.is (rSc K) i.1, .is rI i.2.1, .is rI i.2.2.1, .is rI s17.1, .is rI seed_23, .res (oL rI) (s21.2 ++ [x30]), .is rI mark_22] _ _ _ _ _
    exact xg_nil ⟨_, Wk.refl _, Exists.intro (seed_23, (s21.2 ++ [x30])) (And.intro rfl (Wk.same (Wk.same (Wk.same (Wk.same (Wk.same (Wk.same (Wk.any Wk.nil))))))))⟩
  show XG X [.is (rSc K) i.1, .is rI i.2.1, .is rI i.2.2.1, .is rI s17.1, .is rI s21.1, .res (oL rI) s21.2, .any] _ _ _ _ _
  refine xg_freeze 5 ?_
  show XG X [.is (rSc K) i.1, .is rI i.2.1, .is rI i.2.2.1, .is rI s17.1, .is rI s21.1, .is (rL rI) s21.2, .any] _ _ _ _ _
  exact xg_ret (xm_var C 5 (R := (rL rI)) (x := s21.2)) (fun r31 => r31) (fun _ => ⟨_, Wk.toAny rfl, And.intro rfl rfl⟩) (Wk.toAny rfl)
abbrev sp_same (r : PyData → PyData → R0 Bool) (K : PySem.W.Frag) (mg : Str → Option Value) : Sp := spF K mg (fun i : PyData × PyData × Unit => [.is rP i.1, .is rP i.2.1]) (fun i => m_same r i.1 i.2.1) (fun x : Bool => .is rB x)
def N_same : List Str := ["_law_found", "_law_due", "_law_k"]
theorem sc_same : FnScope N_same ["_law_found", "_law_due"] (defScope s_same) := ⟨rfl, rfl, rfl, by decide +kernel, rfl, by decide +kernel, by decide +kernel⟩
theorem fk_sameS {P : Program} {w : World} {K : PySem.W.Frag} {mg : Str → Option Value} {base : Heap} {r : PyData → PyData → R0 Bool} {n : Nat} {f : Addr} {fd : FuncData} (Fn : FnP K "_law_same" "_law_same" s_same f fd) (hm : mg "_law_same" = some (.ref f)) (hf : Free mg) (G_sameR : Fk P w K mg base n "_law_same" ["_law_found", "_law_due"] (spF K mg (fun i : PyData × PyData × Unit => [.is rP i.1, .is rP i.2.1]) (fun i => r i.1 i.2.1) (fun x : Bool => .is rB x))) : Fk P w K mg base (n + 1) "_law_same" ["_law_found", "_law_due"] (sp_same r K mg) := by
  refine fk_of Fn (fn_F (k := n) Fn sc_same (fun _ => rfl) (fun i X C => ?_)) hm (fun _ _ _ _ _ _ us hl => match us, hl with | [_, _], _ => rfl)
  show XG X [.is rP i.1, .is rP i.2.1, .any] _ _ _ _ _
  refine xg_if1 (xmt_eq (xmt_val (xm_eq (xm_eq (xm_b2 C hf c_isi2 (xm_var C 1 (R := rP) (x := i.2.1)) (xm_eq (xm_tup (xr_c (xm_eq (xm_cls C hf boot_tuple) (rfl : _ = (Res.ok ("tuple") : R0 String))) (xmr_1 (xm_eq (xm_cls C hf boot_list) (rfl : _ = (Res.ok ("list") : R0 String)))) (rfl : _ = (Res.ok (("tuple", "list")) : R0 (String × String))))) (rfl : _ = (Res.ok (("tuple", "list")) : R0 (String × String)))) boot_isinstance) (isi2_eq (by decide) (by decide))) (rfl : _ = (Res.ok ((isA i.2.1 "tuple" || isA i.2.1 "list")) : R0 Bool)))) (rfl : _ = (Res.ok ((isA i.2.1 "tuple" || isA i.2.1 "list")) : R0 Bool))) ?_ ?_ (Wk.toAny rfl)
  · show XG X [.is rP i.1, .is rP i.2.1, .any] _ _ _ _ _
    refine xg_if1 (xmt_eq (xmt_w (xmw_eq (xmw_orP (xmt_eq (xmt_cmp o_neB (xm_eq (xm_eq (xm_b2 C hf c_isi (xm_var C 1 (R := rP) (x := i.2.1)) (xm_cls C hf boot_tuple) boot_isinstance) (isi_eq (by decide))) (rfl : _ = (Res.ok ((isA i.2.1 "tuple")) : R0 Bool))) (xm_eq (xm_eq (xm_b2 C hf c_isi (xm_var C 0 (R := rP) (x := i.1)) (xm_cls C hf boot_tuple) boot_isinstance) (isi_eq (by decide))) (rfl : _ = (Res.ok ((isA i.1 "tuple")) : R0 Bool)))) (rfl : _ = (Res.ok ((!decide ((isA i.2.1 "tuple") = (isA i.1 "tuple")))) : R0 Bool))) (xmw_eq (xmw_or1 (xmt_eq (xmt_cmp o_neB (xm_eq (xm_eq (xm_b2 C hf c_isi (xm_var C 1 (R := rP) (x := i.2.1)) (xm_cls C hf boot_list) boot_isinstance) (isi_eq (by decide))) (rfl : _ = (Res.ok ((isA i.2.1 "list")) : R0 Bool))) (xm_eq (xm_eq (xm_b2 C hf c_isi (xm_var C 0 (R := rP) (x := i.1)) (xm_cls C hf boot_list) boot_isinstance) (isi_eq (by decide))) (rfl : _ = (Res.ok ((isA i.1 "list")) : R0 Bool)))) (rfl : _ = (Res.ok ((!decide ((isA i.2.1 "list") = (isA i.1 "list")))) : R0 Bool)))) (rfl : _ = (Res.ok ((!decide ((isA i.2.1 "list") = (isA i.1 "list")))) : R0 Bool)))) (rfl : _ = (Res.ok (((!decide ((isA i.2.1 "tuple") = (isA i.1 "tuple"))) || (!decide ((isA i.2.1 "list") = (isA i.1 "list"))))) : R0 Bool)))) (rfl : _ = (Res.ok (((!decide ((isA i.2.1 "tuple") = (isA i.1 "tuple"))) || (!decide ((isA i.2.1 "list") = (isA i.1 "list"))))) : R0 Bool))) ?_ ?_ (Wk.toAny rfl)
    · show XG X [.is rP i.1, .is rP i.2.1, .any] _ _ _ _ _
      exact xg_ret xm_bool (fun r3 => r3) (fun _ => ⟨_, Wk.toAny rfl, And.intro rfl rfl⟩) (Wk.toAny rfl)
    show XG X [.is rP i.1, .is rP i.2.1, .any] _ _ _ _ _
    refine xg_if1 (xmt_eq (xmt_cmp o_neI (xm_eq (xm_b1 C hf len_lp (xm_var C 0 (R := rP) (x := i.1)) boot_len) (rfl : _ = (gd (isSeq i.1) (Res.ok (((List.length (kids i.1) : Nat) : Int)))))) (xm_eq (xm_b1 C hf len_lp (xm_var C 1 (R := rP) (x := i.2.1)) boot_len) (rfl : _ = (gd (isSeq i.2.1) (Res.ok (((List.length (kids i.2.1) : Nat) : Int))))))) (rfl : _ = (Res.bind (gd (isSeq i.1) (Res.ok (((List.length (kids i.1) : Nat) : Int)))) fun v4 => Res.bind (gd (isSeq i.2.1) (Res.ok (((List.length (kids i.2.1) : Nat) : Int)))) fun v5 => Res.ok ((!decide (v4 = v5)))))) ?_ ?_ (Wk.toAny rfl)
    · show XG X [.is rP i.1, .is rP i.2.1, .any] _ _ _ _ _
      exact xg_ret xm_bool (fun r7 => r7) (fun _ => ⟨_, Wk.toAny rfl, And.intro rfl rfl⟩) (Wk.toAny rfl)
    show XG X [.is rP i.1, .is rP i.2.1, .any] _ _ _ _ _
    refine xg_for C (fun s10 : Unit => [.is rP i.1, .is rP i.2.1, .any]) () (JR := (JF (fun x : Bool => .is rB x) (fun _ => List.replicate N_same.length .any))) (inj := (fun r => r)) (bm := (same_b0 r i.1 i.2.1)) (q := (same_k1 r)) (xi_rangeZ C hf (xm_eq (xm_b1 C hf lenZ_lp (xm_var C 1 (R := rP) (x := i.2.1)) boot_len) (rfl : _ = (gd (isSeq i.2.1) (Res.ok (((List.length (kids i.2.1) : Nat) : Int))))))) (xtg_name C 2) (Wk.same (Wk.same (Wk.any Wk.nil))) (fun s10 x11 => ?_) (Wk.toAny rfl) (fun _ _ _ h => h) (fun s10 => ?_)
    · show XG X [.is rP i.1, .is rP i.2.1, .is rI x11] _ _ _ _ _
      refine xg_if1 (xmt_eq (xmt_not (xmt_eq (xmt_val (xm_eq (xm_call' C G_sameR (xa_cons (ss := fun t : PyData × Unit => [Slot.is rP t.1]) (xm_eq (xm_ix ix_lp (xm_var C 0 (R := rP) (x := i.1)) (xm_var C 2 (R := rI) (x := x11))) (rfl : _ = (gd (CIxP i.1 x11) (Res.ok ((ix (kids i.1) x11)))))) (xa_cons (ss := fun t : Unit => []) (xm_eq (xm_ix ix_lp (xm_var C 1 (R := rP) (x := i.2.1)) (xm_var C 2 (R := rI) (x := x11))) (rfl : _ = (gd (CIxP i.2.1 x11) (Res.ok ((ix (kids i.2.1) x11)))))) xma_nil rfl (rfl : _ = (Res.bind (gd (CIxP i.2.1 x11) (Res.ok ((ix (kids i.2.1) x11)))) fun v13 => Res.ok ((v13, ())) : R0 (PyData × Unit)))) rfl (rfl : _ = (Res.bind (gd (CIxP i.1 x11) (Res.ok ((ix (kids i.1) x11)))) fun v14 => Res.bind (Res.bind (gd (CIxP i.2.1 x11) (Res.ok ((ix (kids i.2.1) x11)))) fun v13 => Res.ok ((v13, ())) : R0 (PyData × Unit)) fun v15 => Res.ok ((v14, v15)) : R0 (PyData × PyData × Unit))))) (rfl : _ = (Res.bind (Res.bind (gd (CIxP i.1 x11) (Res.ok ((ix (kids i.1) x11)))) fun v14 => Res.bind (Res.bind (gd (CIxP i.2.1 x11) (Res.ok ((ix (kids i.2.1) x11)))) fun v13 => Res.ok ((v13, ())) : R0 (PyData × Unit)) fun v15 => Res.ok ((v14, v15)) : R0 (PyData × PyData × Unit)) fun v16 => r v16.1 v16.2.1)))) (rfl : _ = (Res.bind (Res.bind (gd (CIxP i.1 x11) (Res.ok ((ix (kids i.1) x11)))) fun v14 => Res.bind (Res.bind (gd (CIxP i.2.1 x11) (Res.ok ((ix (kids i.2.1) x11)))) fun v13 => Res.ok ((v13, ())) : R0 (PyData × Unit)) fun v15 => Res.ok ((v14, v15)) : R0 (PyData × PyData × Unit)) fun v16 => r v16.1 v16.2.1)))) (rfl : _ = (Res.bind (Res.bind (Res.bind (gd (CIxP i.1 x11) (Res.ok ((ix (kids i.1) x11)))) fun v14 => Res.bind (Res.bind (gd (CIxP i.2.1 x11) (Res.ok ((ix (kids i.2.1) x11)))) fun v13 => Res.ok ((v13, ())) : R0 (PyData × Unit)) fun v15 => Res.ok ((v14, v15)) : R0 (PyData × PyData × Unit)) fun v16 => r v16.1 v16.2.1) fun v17 => Res.ok ((! v17))))) ?_ ?_ (Wk.toAny rfl)
      · show XG X [.is rP i.1, .is rP i.2.1, .is rI x11] _ _ _ _ _
        exact xg_ret xm_bool (fun r19 => Lo.out (r19)) (fun _ => ⟨_, Wk.toAny rfl, And.intro rfl rfl⟩) (Wk.toAny rfl)
      show XG X [.is rP i.1, .is rP i.2.1, .is rI x11] _ _ _ _ _
      exact xg_nil ⟨_, Wk.refl _, Exists.intro () (And.intro rfl (Wk.same (Wk.same (Wk.any Wk.nil))))⟩
    show XG X [.is rP i.1, .is rP i.2.1, .any] _ _ _ _ _
    exact xg_ret xm_bool (fun r20 => r20) (fun _ => ⟨_, Wk.toAny rfl, And.intro rfl rfl⟩) (Wk.toAny rfl)
  show XG X [.is rP i.1, .is rP i.2.1, .any] _ _ _ _ _
  refine xg_if1 (xmt_eq (xmt_cmp o_isNP (xm_var C 1 (R := rP) (x := i.2.1)) xm_unit) (rfl : _ = (Res.ok ((tyN i.2.1 == "NoneType")) : R0 Bool))) ?_ ?_ (Wk.toAny rfl)
  · show XG X [.is rP i.1, .is rP i.2.1, .any] _ _ _ _ _
    exact xg_ret (xm_eq (xm_cmp o_isNP (xm_var C 0 (R := rP) (x := i.1)) xm_unit) (rfl : _ = (Res.ok ((tyN i.1 == "NoneType")) : R0 Bool))) (fun r22 => r22) (fun _ => ⟨_, Wk.toAny rfl, And.intro rfl rfl⟩) (Wk.toAny rfl)
  show XG X [.is rP i.1, .is rP i.2.1, .any] _ _ _ _ _
  refine xg_if1 (xmt_eq (xmt_w (xmw_eq (xmw_orP (xmt_eq (xmt_val (xm_eq (xm_eq (xm_b2 C hf c_isi (xm_var C 1 (R := rP) (x := i.2.1)) (xm_cls C hf boot_bool) boot_isinstance) (isi_eq (by decide))) (rfl : _ = (Res.ok ((isA i.2.1 "bool")) : R0 Bool)))) (rfl : _ = (Res.ok ((isA i.2.1 "bool")) : R0 Bool))) (xmw_eq (xmw_or1 (xmt_eq (xmt_val (xm_eq (xm_eq (xm_b2 C hf c_isi (xm_var C 0 (R := rP) (x := i.1)) (xm_cls C hf boot_bool) boot_isinstance) (isi_eq (by decide))) (rfl : _ = (Res.ok ((isA i.1 "bool")) : R0 Bool)))) (rfl : _ = (Res.ok ((isA i.1 "bool")) : R0 Bool)))) (rfl : _ = (Res.ok ((isA i.1 "bool")) : R0 Bool)))) (rfl : _ = (Res.ok (((isA i.2.1 "bool") || (isA i.1 "bool"))) : R0 Bool)))) (rfl : _ = (Res.ok (((isA i.2.1 "bool") || (isA i.1 "bool"))) : R0 Bool))) ?_ ?_ (Wk.toAny rfl)
  · show XG X [.is rP i.1, .is rP i.2.1, .any] _ _ _ _ _
    exact xg_ret (xm_eq (xm_and (xm_eq (xm_eq (xm_b2 C hf c_isi (xm_var C 1 (R := rP) (x := i.2.1)) (xm_cls C hf boot_bool) boot_isinstance) (isi_eq (by decide))) (rfl : _ = (Res.ok ((isA i.2.1 "bool")) : R0 Bool))) (xm_eq (xm_and (xm_eq (xm_eq (xm_b2 C hf c_isi (xm_var C 0 (R := rP) (x := i.1)) (xm_cls C hf boot_bool) boot_isinstance) (isi_eq (by decide))) (rfl : _ = (Res.ok ((isA i.1 "bool")) : R0 Bool))) (xm_eq (xm_one (xm_eq (xm_cmpG (o_eqP C) (xm_var C 0 (R := rP) (x := i.1)) (xm_var C 1 (R := rP) (x := i.2.1))) (rfl : _ = (gd (CDep i.1 i.2.1) (Res.ok (PyData.eqv i.1 i.2.1)))))) (rfl : _ = (gd (CDep i.1 i.2.1) (Res.ok (PyData.eqv i.1 i.2.1)))))) (rfl : _ = (bif (isA i.1 "bool") then (gd (CDep i.1 i.2.1) (Res.ok (PyData.eqv i.1 i.2.1))) else Res.ok false)))) (rfl : _ = (bif (isA i.2.1 "bool") then (bif (isA i.1 "bool") then (gd (CDep i.1 i.2.1) (Res.ok (PyData.eqv i.1 i.2.1))) else Res.ok false) else Res.ok false))) (fun r24 => r24) (fun _ => ⟨_, Wk.toAny rfl, And.intro rfl rfl⟩) (Wk.toAny rfl)
  show XG X [.is rP i.1, .is rP i.2.1, .any] _ _ _ _ _
  refine xg_if1 (xmt_eq (xmt_val (xm_eq (xm_eq (xm_b2 C hf c_isi (xm_var C 1 (R := rP) (x := i.2.1)) (xm_cls C hf boot_int) boot_isinstance) (isi_eq (by decide))) (rfl : _ = (Res.ok ((isA i.2.1 "int")) : R0 Bool)))) (rfl : _ = (Res.ok ((isA i.2.1 "int")) : R0 Bool))) ?_ ?_ (Wk.toAny rfl)
  · show XG X [.is rP i.1, .is rP i.2.1, .any] _ _ _ _ _
    exact xg_ret (xm_eq (xm_and (xm_eq (xm_eq (xm_b2 C hf c_isi (xm_var C 0 (R := rP) (x := i.1)) (xm_cls C hf boot_int) boot_isinstance) (isi_eq (by decide))) (rfl : _ = (Res.ok ((isA i.1 "int")) : R0 Bool))) (xm_eq (xm_one (xm_eq (xm_cmpG (o_eqP C) (xm_var C 0 (R := rP) (x := i.1)) (xm_var C 1 (R := rP) (x := i.2.1))) (rfl : _ = (gd (CDep i.1 i.2.1) (Res.ok (PyData.eqv i.1 i.2.1)))))) (rfl : _ = (gd (CDep i.1 i.2.1) (Res.ok (PyData.eqv i.1 i.2.1)))))) (rfl : _ = (bif (isA i.1 "int") then (gd (CDep i.1 i.2.1) (Res.ok (PyData.eqv i.1 i.2.1))) else Res.ok false))) (fun r26 => r26) (fun _ => ⟨_, Wk.toAny rfl, And.intro rfl rfl⟩) (Wk.toAny rfl)
  show XG X [.is rP i.1, .is rP i.2.1, .any] _ _ _ _ _
  exact xg_ret (xm_eq (xm_and (xm_eq (xm_eq (xm_b2 C hf c_isi (xm_var C 0 (R := rP) (x := i.1)) (xm_cls C hf boot_str) boot_isinstance) (isi_eq (by decide))) (rfl : _ = (Res.ok ((isA i.1 "str")) : R0 Bool))) (xm_eq (xm_one (xm_eq (xm_cmpG (o_eqP C) (xm_var C 0 (R := rP) (x := i.1)) (xm_var C 1 (R := rP) (x := i.2.1))) (rfl : _ = (gd (CDep i.1 i.2.1) (Res.ok (PyData.eqv i.1 i.2.1)))))) (rfl : _ = (gd (CDep i.1 i.2.1) (Res.ok (PyData.eqv i.1 i.2.1)))))) (rfl : _ = (bif (isA i.1 "str") then (gd (CDep i.1 i.2.1) (Res.ok (PyData.eqv i.1 i.2.1))) else Res.ok false))) (fun r27 => r27) (fun _ => ⟨_, Wk.toAny rfl, And.intro rfl rfl⟩) (Wk.toAny rfl)
abbrev sp_sameF (K : PySem.W.Frag) (mg : Str → Option Value) : Sp := spF K mg (fun i : PyData × PyData × Unit => [.is rP i.1, .is rP i.2.1]) (fun i => m_sameF i.1 i.2.1) (fun x : Bool => .is rB x)
theorem fk_sameL {P : Program} {w : World} {K : PySem.W.Frag} {mg : Str → Option Value} {base : Heap} {f : Addr} {fd : FuncData} (Fn : FnP K "_law_same" "_law_same" s_same f fd) (hm : mg "_law_same" = some (.ref f)) (hf : Free mg) : ∀ n : Nat, n ≤ 60 → Fk P w K mg base n "_law_same" ["_law_found", "_law_due"] (spF K mg (fun i : PyData × PyData × Unit => [.is rP i.1, .is rP i.2.1]) (fun i => rLev n i.1 i.2.1) (fun x : Bool => .is rB x))
  | 0, _ => by
    have no : ∀ vs H Q E, ¬ spF K mg (fun i : PyData × PyData × Unit => [.is rP i.1, .is rP i.2.1]) (fun i => rLev 0 i.1 i.2.1) (fun x : Bool => .is rB x) vs H Q E := fun vs H Q E ⟨i, F, D, _, _, q⟩ => by
      have : rLev 0 i.1 i.2.1 = .bad := gd_bad (Nat.not_lt_zero _)
      simp only [this] at q
    exact fk_of Fn ⟨fun vs H Q E h => absurd h (no vs H Q E), fun A outer s H args us vs Q E _ _ _ _ h => absurd h (no vs H Q E)⟩ hm (fun _ _ _ _ _ _ us hl => match us, hl with | [_, _], _ => rfl)
  | n + 1, h => (fk_sameS Fn hm hf (fk_sameL Fn hm hf n (by omega))).imp (spF_imp (lev_imp (by omega)))
theorem fk_sameF {P : Program} {w : World} {K : PySem.W.Frag} {mg : Str → Option Value} {base : Heap} {f : Addr} {fd : FuncData} (Fn : FnP K "_law_same" "_law_same" s_same f fd) (hm : mg "_law_same" = some (.ref f)) (hf : Free mg) : Fk P w K mg base 6 "_law_same" ["_law_found", "_law_due"] (sp_sameF K mg) := fk_sameL Fn hm hf 6 (by decide)
abbrev sp_names (K : PySem.W.Frag) (mg : Str → Option Value) : Sp := spF K mg (fun i : (List Int) × Int × Unit => [.is (rL rI) i.1, .is rI i.2.1]) (fun i => m_names i.1 i.2.1) (fun x : (List Str) => .is (rL rS) x)
def N_names : List Str := ["_law_d", "_law_many", "_law_letters", "_law_names_here", "_law_k", "_law_own", "_law_rest", "_law_j"]
theorem sc_names : FnScope N_names ["_law_d", "_law_many"] (defScope s_names) := ⟨rfl, rfl, rfl, by decide +kernel, rfl, by decide +kernel, by decide +kernel⟩
theorem fk_names {P : Program} {w : World} {K : PySem.W.Frag} {mg : Str → Option Value} {base : Heap} {f : Addr} {fd : FuncData} (Fn : FnP K "_law_names" "_law_names" s_names f fd) (hm : mg "_law_names" = some (.ref f)) (hf : Free mg) : Fk P w K mg base 1 "_law_names" ["_law_d", "_law_many"] (sp_names K mg) := by
  refine fk_of Fn (fn_F (k := 0) Fn sc_names (fun _ => rfl) (fun i X C => ?_)) hm (fun _ _ _ _ _ _ us hl => match us, hl with | [_, _], _ => rfl)
  show XG X [.is (rL rI) i.1, .is rI i.2.1, .any, .any, .any, .any, .any, .any] _ _ _ _ _
  refine xg_asg C 2 (xm_eq (xm_str (s := "abcdefghijklmnopqrstuvwxyz") (by decide +kernel)) (rfl : _ = (Res.ok (("abcdefghijklmnopqrstuvwxyz" : Str)) : R0 Str))) (fun letters_1 => ?_) (Wk.toAny rfl)
  show XG X [.is (rL rI) i.1, .is rI i.2.1, .is rS letters_1, .any, .any, .any, .any, .any] _ _ _ _ _
  refine xg_asgO C 3 (xmo_eq (xmo_newL (R := rS) xml_nil) (rfl : _ = (Res.ok (([] : (List Str))) : R0 (List Str)))) (fun names_here_2 => ?_) (Wk.toAny rfl)
  show XG X [.is (rL rI) i.1, .is rI i.2.1, .is rS letters_1, .res (oL rS) names_here_2, .any, .any, .any, .any] _ _ _ _ _
  refine xg_for C (fun s5 : (List Str) => [.is (rL rI) i.1, .is rI i.2.1, .is rS letters_1, .res (oL rS) s5, .any, .any, .any, .any]) (names_here_2) (JR := (JF (fun x : (List Str) => .is (rL rS) x) (fun _ => List.replicate N_names.length .any))) (inj := (fun r => r)) (bm := (names_b0 i.1 letters_1)) (q := (names_k1)) (xi_range1 C hf (xm_var C 1 (R := rI) (x := i.2.1))) (xtg_name C 4) (Wk.same (Wk.same (Wk.same (Wk.same (Wk.any (Wk.any (Wk.any (Wk.any Wk.nil)))))))) (fun s5 x6 => ?_) (Wk.toAny rfl) (fun _ _ _ h => h) (fun s5 => ?_)
  · show XG X [.is (rL rI) i.1, .is rI i.2.1, .is rS letters_1, .res (oL rS) s5, .is rI x6, .any, .any, .any] _ _ _ _ _
    refine xg_asg C 5 (xm_eq (xm_ix i_str (xm_var C 2 (R := rS) (x := letters_1)) (xm_eq (xm_binK o_mod (xm_eq (xm_binT o_add (xm_eq (xm_bin o_mul (xm_var C 4 (R := rI) (x := x6)) (xm_eq (xm_ix i_list (xm_eq (xm_fb bfL (xm_eq (xm_ofO (xmo_eq (xmo_newL (xl_c (xm_int (i := (1 : Int))) (xl_c (xm_int (i := (3 : Int))) (xl_c (xm_int (i := (5 : Int))) (xl_c (xm_int (i := (7 : Int))) (xl_c (xm_int (i := (9 : Int))) (xl_c (xm_int (i := (11 : Int))) (xml_nil (R := rI)) (rfl : _ = (Res.ok (((11 : Int) :: [])) : R0 (List Int)))) (rfl : _ = (Res.ok (((9 : Int) :: ((11 : Int) :: []))) : R0 (List Int)))) (rfl : _ = (Res.ok (((7 : Int) :: ((9 : Int) :: ((11 : Int) :: [])))) : R0 (List Int)))) (rfl : _ = (Res.ok (((5 : Int) :: ((7 : Int) :: ((9 : Int) :: ((11 : Int) :: []))))) : R0 (List Int)))) (rfl : _ = (Res.ok (((3 : Int) :: ((5 : Int) :: ((7 : Int) :: ((9 : Int) :: ((11 : Int) :: [])))))) : R0 (List Int)))) (rfl : _ = (Res.ok (((1 : Int) :: ((3 : Int) :: ((5 : Int) :: ((7 : Int) :: ((9 : Int) :: ((11 : Int) :: []))))))) : R0 (List Int))))) (rfl : _ = (Res.ok (((1 : Int) :: ((3 : Int) :: ((5 : Int) :: ((7 : Int) :: ((9 : Int) :: ((11 : Int) :: []))))))) : R0 (List Int))))) (rfl : _ = (Res.ok (((1 : Int) :: ((3 : Int) :: ((5 : Int) :: ((7 : Int) :: ((9 : Int) :: ((11 : Int) :: []))))))) : R0 (List Int))))) (rfl : _ = (Res.ok (((1 : Int) :: ((3 : Int) :: ((5 : Int) :: ((7 : Int) :: ((9 : Int) :: ((11 : Int) :: []))))))) : R0 (List Int)))) (xm_eq (xm_binK o_mod (xm_eq (xm_ix i_list (xm_eq (xm_fb bfL (xm_var C 0 (R := (rL rI)) (x := i.1))) (rfl : _ = (Res.ok (i.1) : R0 (List Int)))) (xm_int (i := (0 : Int)))) (rfl : _ = (gd (inR i.1 (0 : Int)) (Res.ok ((ix i.1 (0 : Int))))))) (xm_int (i := (6 : Int))) (cmod_r (by decide))) (rfl : _ = (Res.bind (gd (inR i.1 (0 : Int)) (Res.ok ((ix i.1 (0 : Int))))) fun v9 => Res.ok ((v9 % (6 : Int))))))) (rfl : _ = (Res.bind (Res.bind (gd (inR i.1 (0 : Int)) (Res.ok ((ix i.1 (0 : Int))))) fun v9 => Res.ok ((v9 % (6 : Int)))) fun v10 => gd (inR ((1 : Int) :: ((3 : Int) :: ((5 : Int) :: ((7 : Int) :: ((9 : Int) :: ((11 : Int) :: [])))))) v10) (Res.ok ((ix ((1 : Int) :: ((3 : Int) :: ((5 : Int) :: ((7 : Int) :: ((9 : Int) :: ((11 : Int) :: [])))))) v10))))))) (rfl : _ = (Res.bind (Res.bind (Res.bind (gd (inR i.1 (0 : Int)) (Res.ok ((ix i.1 (0 : Int))))) fun v9 => Res.ok ((v9 % (6 : Int)))) fun v10 => gd (inR ((1 : Int) :: ((3 : Int) :: ((5 : Int) :: ((7 : Int) :: ((9 : Int) :: ((11 : Int) :: [])))))) v10) (Res.ok ((ix ((1 : Int) :: ((3 : Int) :: ((5 : Int) :: ((7 : Int) :: ((9 : Int) :: ((11 : Int) :: [])))))) v10)))) fun v11 => gd (CMul x6 v11) (Res.ok ((x6 * v11)))))) (xm_eq (xm_ix i_list (xm_eq (xm_fb bfL (xm_var C 0 (R := (rL rI)) (x := i.1))) (rfl : _ = (Res.ok (i.1) : R0 (List Int)))) (xm_int (i := (1 : Int)))) (rfl : _ = (gd (inR i.1 (1 : Int)) (Res.ok ((ix i.1 (1 : Int)))))))) (rfl : _ = (Res.bind (Res.bind (Res.bind (Res.bind (gd (inR i.1 (0 : Int)) (Res.ok ((ix i.1 (0 : Int))))) fun v9 => Res.ok ((v9 % (6 : Int)))) fun v10 => gd (inR ((1 : Int) :: ((3 : Int) :: ((5 : Int) :: ((7 : Int) :: ((9 : Int) :: ((11 : Int) :: [])))))) v10) (Res.ok ((ix ((1 : Int) :: ((3 : Int) :: ((5 : Int) :: ((7 : Int) :: ((9 : Int) :: ((11 : Int) :: [])))))) v10)))) fun v11 => gd (CMul x6 v11) (Res.ok ((x6 * v11)))) fun v12 => Res.bind (gd (inR i.1 (1 : Int)) (Res.ok ((ix i.1 (1 : Int))))) fun v13 => Res.ok ((v12 + v13))))) (xm_int (i := (26 : Int))) (cmod_r (by decide))) (rfl : _ = (Res.bind (Res.bind (Res.bind (Res.bind (Res.bind (gd (inR i.1 (0 : Int)) (Res.ok ((ix i.1 (0 : Int))))) fun v9 => Res.ok ((v9 % (6 : Int)))) fun v10 => gd (inR ((1 : Int) :: ((3 : Int) :: ((5 : Int) :: ((7 : Int) :: ((9 : Int) :: ((11 : Int) :: [])))))) v10) (Res.ok ((ix ((1 : Int) :: ((3 : Int) :: ((5 : Int) :: ((7 : Int) :: ((9 : Int) :: ((11 : Int) :: [])))))) v10)))) fun v11 => gd (CMul x6 v11) (Res.ok ((x6 * v11)))) fun v12 => Res.bind (gd (inR i.1 (1 : Int)) (Res.ok ((ix i.1 (1 : Int))))) fun v13 => Res.ok ((v12 + v13))) fun v14 => Res.ok ((v14 % (26 : Int))))))) (rfl : _ = (Res.bind (Res.bind (Res.bind (Res.bind (Res.bind (Res.bind (gd (inR i.1 (0 : Int)) (Res.ok ((ix i.1 (0 : Int))))) fun v9 => Res.ok ((v9 % (6 : Int)))) fun v10 => gd (inR ((1 : Int) :: ((3 : Int) :: ((5 : Int) :: ((7 : Int) :: ((9 : Int) :: ((11 : Int) :: [])))))) v10) (Res.ok ((ix ((1 : Int) :: ((3 : Int) :: ((5 : Int) :: ((7 : Int) :: ((9 : Int) :: ((11 : Int) :: [])))))) v10)))) fun v11 => gd (CMul x6 v11) (Res.ok ((x6 * v11)))) fun v12 => Res.bind (gd (inR i.1 (1 : Int)) (Res.ok ((ix i.1 (1 : Int))))) fun v13 => Res.ok ((v12 + v13))) fun v14 => Res.ok ((v14 % (26 : Int)))) fun v15 => gd (inR (Array.toList (Str.cps letters_1)) v15) (Res.ok ((signAt letters_1 v15)))))) (fun own_8 => ?_) (Wk.toAny rfl)
    show XG X [.is (rL rI) i.1, .is rI i.2.1, .is rS letters_1, .res (oL rS) s5, .is rI x6, .is rS own_8, .any, .any] _ _ _ _ _
    refine xg_asg C 6 (xm_eq (xm_glue (xm_eq (xm_fb bfL (xm_eq (xm_ofO (xmo_eq (xmo_comp C [("_law_j", 7)] (xi_range1 C hf (xm_eq (xm_binK o_mod (xm_eq (xm_ix i_list (xm_eq (xm_fb bfL (xm_var C 0 (R := (rL rI)) (x := i.1))) (rfl : _ = (Res.ok (i.1) : R0 (List Int)))) (xm_eq (xm_binT o_add (xm_int (i := (4 : Int))) (xm_var C 4 (R := rI) (x := x6))) (rfl : _ = (Res.ok (((4 : Int) + x6)) : R0 Int)))) (rfl : _ = (gd (inR i.1 ((4 : Int) + x6)) (Res.ok ((ix i.1 ((4 : Int) + x6))))))) (xm_int (i := (12 : Int))) (cmod_r (by decide))) (rfl : _ = (Res.bind (gd (inR i.1 ((4 : Int) + x6)) (Res.ok ((ix i.1 ((4 : Int) + x6))))) fun v17 => Res.ok ((v17 % (12 : Int))))))) (fun _ C' => (xtg_name C' 7)) (fun _ C' y19 => xmts_nil) (fun _ C' y19 => (xm_eq (xm_ix i_str (xm_eq (xm_bin o_addS (xm_var C' 2 (R := rS) (x := letters_1)) (xm_eq (xm_str (s := "0123456789") (by decide +kernel)) (rfl : _ = (Res.ok (("0123456789" : Str)) : R0 Str)))) (rfl : _ = (gd (CStr letters_1 ("0123456789" : Str)) (Res.ok (letters_1 ++ ("0123456789" : Str)))))) (xm_eq (xm_binK o_mod (xm_eq (xm_binT o_add (xm_eq (xm_ix i_list (xm_eq (xm_fb bfL (xm_var C' 0 (R := (rL rI)) (x := i.1))) (rfl : _ = (Res.ok (i.1) : R0 (List Int)))) (xm_int (i := (2 : Int)))) (rfl : _ = (gd (inR i.1 (2 : Int)) (Res.ok ((ix i.1 (2 : Int))))))) (xm_eq (xm_bin o_mul (xm_var C' 7 (R := rI) (x := y19)) (xm_eq (xm_ix i_list (xm_eq (xm_fb bfL (xm_var C' 0 (R := (rL rI)) (x := i.1))) (rfl : _ = (Res.ok (i.1) : R0 (List Int)))) (xm_int (i := (3 : Int)))) (rfl : _ = (gd (inR i.1 (3 : Int)) (Res.ok ((ix i.1 (3 : Int)))))))) (rfl : _ = (Res.bind (gd (inR i.1 (3 : Int)) (Res.ok ((ix i.1 (3 : Int))))) fun v20 => gd (CMul y19 v20) (Res.ok ((y19 * v20))))))) (rfl : _ = (Res.bind (gd (inR i.1 (2 : Int)) (Res.ok ((ix i.1 (2 : Int))))) fun v21 => Res.bind (Res.bind (gd (inR i.1 (3 : Int)) (Res.ok ((ix i.1 (3 : Int))))) fun v20 => gd (CMul y19 v20) (Res.ok ((y19 * v20)))) fun v22 => Res.ok ((v21 + v22))))) (xm_int (i := (36 : Int))) (cmod_r (by decide))) (rfl : _ = (Res.bind (Res.bind (gd (inR i.1 (2 : Int)) (Res.ok ((ix i.1 (2 : Int))))) fun v21 => Res.bind (Res.bind (gd (inR i.1 (3 : Int)) (Res.ok ((ix i.1 (3 : Int))))) fun v20 => gd (CMul y19 v20) (Res.ok ((y19 * v20)))) fun v22 => Res.ok ((v21 + v22))) fun v23 => Res.ok ((v23 % (36 : Int))))))) (rfl : _ = (Res.bind (gd (CStr letters_1 ("0123456789" : Str)) (Res.ok (letters_1 ++ ("0123456789" : Str)))) fun v24 => Res.bind (Res.bind (Res.bind (gd (inR i.1 (2 : Int)) (Res.ok ((ix i.1 (2 : Int))))) fun v21 => Res.bind (Res.bind (gd (inR i.1 (3 : Int)) (Res.ok ((ix i.1 (3 : Int))))) fun v20 => gd (CMul y19 v20) (Res.ok ((y19 * v20)))) fun v22 => Res.ok ((v21 + v22))) fun v23 => Res.ok ((v23 % (36 : Int)))) fun v25 => gd (inR (Array.toList (Str.cps v24)) v25) (Res.ok ((signAt v24 v25))))))) (pm := (fun y19 : Int => (Res.ok true : R0 Bool))) (gm := (fun y19 : Int => (Res.bind (gd (CStr letters_1 ("0123456789" : Str)) (Res.ok (letters_1 ++ ("0123456789" : Str)))) fun v24 => Res.bind (Res.bind (Res.bind (gd (inR i.1 (2 : Int)) (Res.ok ((ix i.1 (2 : Int))))) fun v21 => Res.bind (Res.bind (gd (inR i.1 (3 : Int)) (Res.ok ((ix i.1 (3 : Int))))) fun v20 => gd (CMul y19 v20) (Res.ok ((y19 * v20)))) fun v22 => Res.ok ((v21 + v22))) fun v23 => Res.ok ((v23 % (36 : Int)))) fun v25 => gd (inR (Array.toList (Str.cps v24)) v25) (Res.ok ((signAt v24 v25))))))) (rfl : _ = (Res.bind (Res.bind (Res.bind (gd (inR i.1 ((4 : Int) + x6)) (Res.ok ((ix i.1 ((4 : Int) + x6))))) fun v17 => Res.ok ((v17 % (12 : Int)))) fun n18 => gd (CR62 n18) (Res.ok (upTo n18))) fun v26 => gd (List.length v26 ≤ sizeLine) (compR (fun y19 : Int => (Res.ok true : R0 Bool)) (fun y19 : Int => (Res.bind (gd (CStr letters_1 ("0123456789" : Str)) (Res.ok (letters_1 ++ ("0123456789" : Str)))) fun v24 => Res.bind (Res.bind (Res.bind (gd (inR i.1 (2 : Int)) (Res.ok ((ix i.1 (2 : Int))))) fun v21 => Res.bind (Res.bind (gd (inR i.1 (3 : Int)) (Res.ok ((ix i.1 (3 : Int))))) fun v20 => gd (CMul y19 v20) (Res.ok ((y19 * v20)))) fun v22 => Res.ok ((v21 + v22))) fun v23 => Res.ok ((v23 % (36 : Int)))) fun v25 => gd (inR (Array.toList (Str.cps v24)) v25) (Res.ok ((signAt v24 v25))))) v26))))) (rfl : _ = (Res.bind (Res.bind (Res.bind (gd (inR i.1 ((4 : Int) + x6)) (Res.ok ((ix i.1 ((4 : Int) + x6))))) fun v17 => Res.ok ((v17 % (12 : Int)))) fun n18 => gd (CR62 n18) (Res.ok (upTo n18))) fun v26 => gd (List.length v26 ≤ sizeLine) (compR (fun y19 : Int => (Res.ok true : R0 Bool)) (fun y19 : Int => (Res.bind (gd (CStr letters_1 ("0123456789" : Str)) (Res.ok (letters_1 ++ ("0123456789" : Str)))) fun v24 => Res.bind (Res.bind (Res.bind (gd (inR i.1 (2 : Int)) (Res.ok ((ix i.1 (2 : Int))))) fun v21 => Res.bind (Res.bind (gd (inR i.1 (3 : Int)) (Res.ok ((ix i.1 (3 : Int))))) fun v20 => gd (CMul y19 v20) (Res.ok ((y19 * v20)))) fun v22 => Res.ok ((v21 + v22))) fun v23 => Res.ok ((v23 % (36 : Int)))) fun v25 => gd (inR (Array.toList (Str.cps v24)) v25) (Res.ok ((signAt v24 v25))))) v26))))) (rfl : _ = (Res.bind (Res.bind (Res.bind (gd (inR i.1 ((4 : Int) + x6)) (Res.ok ((ix i.1 ((4 : Int) + x6))))) fun v17 => Res.ok ((v17 % (12 : Int)))) fun n18 => gd (CR62 n18) (Res.ok (upTo n18))) fun v26 => gd (List.length v26 ≤ sizeLine) (compR (fun y19 : Int => (Res.ok true : R0 Bool)) (fun y19 : Int => (Res.bind (gd (CStr letters_1 ("0123456789" : Str)) (Res.ok (letters_1 ++ ("0123456789" : Str)))) fun v24 => Res.bind (Res.bind (Res.bind (gd (inR i.1 (2 : Int)) (Res.ok ((ix i.1 (2 : Int))))) fun v21 => Res.bind (Res.bind (gd (inR i.1 (3 : Int)) (Res.ok ((ix i.1 (3 : Int))))) fun v20 => gd (CMul y19 v20) (Res.ok ((y19 * v20)))) fun v22 => Res.ok ((v21 + v22))) fun v23 => Res.ok ((v23 % (36 : Int)))) fun v25 => gd (inR (Array.toList (Str.cps v24)) v25) (Res.ok ((signAt v24 v25))))) v26))))) (rfl : _ = (Res.bind (Res.bind (Res.bind (Res.bind (gd (inR i.1 ((4 : Int) + x6)) (Res.ok ((ix i.1 ((4 : Int) + x6))))) fun v17 => Res.ok ((v17 % (12 : Int)))) fun n18 => gd (CR62 n18) (Res.ok (upTo n18))) fun v26 => gd (List.length v26 ≤ sizeLine) (compR (fun y19 : Int => (Res.ok true : R0 Bool)) (fun y19 : Int => (Res.bind (gd (CStr letters_1 ("0123456789" : Str)) (Res.ok (letters_1 ++ ("0123456789" : Str)))) fun v24 => Res.bind (Res.bind (Res.bind (gd (inR i.1 (2 : Int)) (Res.ok ((ix i.1 (2 : Int))))) fun v21 => Res.bind (Res.bind (gd (inR i.1 (3 : Int)) (Res.ok ((ix i.1 (3 : Int))))) fun v20 => gd (CMul y19 v20) (Res.ok ((y19 * v20)))) fun v22 => Res.ok ((v21 + v22))) fun v23 => Res.ok ((v23 % (36 : Int)))) fun v25 => gd (inR (Array.toList (Str.cps v24)) v25) (Res.ok ((signAt v24 v25))))) v26)) fun v27 => gd ((List.map (fun z => Str.length z) v27).sum ≤ 100000) (Res.ok ((glue v27)))))) (fun rest_16 => ?_) (Wk.toAny rfl)
    show XG X [.is (rL rI) i.1, .is rI i.2.1, .is rS letters_1, .res (oL rS) s5, .is rI x6, .is rS own_8, .is rS rest_16, .any] _ _ _ _ _
    refine xg_append C 3 (xm_eq (xm_ix i_list (xm_eq (xm_fb bfL (xm_eq (xm_ofO (xmo_eq (xmo_newL (xl_c (xm_eq (xm_bin o_addS (xm_var C 5 (R := rS) (x := own_8)) (xm_var C 6 (R := rS) (x := rest_16))) (rfl : _ = (gd (CStr own_8 rest_16) (Res.ok (own_8 ++ rest_16))))) (xl_c (xm_eq (xm_bin o_addS (xm_var C 6 (R := rS) (x := rest_16)) (xm_var C 5 (R := rS) (x := own_8))) (rfl : _ = (gd (CStr rest_16 own_8) (Res.ok (rest_16 ++ own_8))))) (xml_nil (R := rS)) (rfl : _ = (Res.bind (gd (CStr rest_16 own_8) (Res.ok (rest_16 ++ own_8))) fun v28 => Res.ok ((v28 :: [])) : R0 (List Str)))) (rfl : _ = (Res.bind (gd (CStr own_8 rest_16) (Res.ok (own_8 ++ rest_16))) fun v29 => Res.bind (Res.bind (gd (CStr rest_16 own_8) (Res.ok (rest_16 ++ own_8))) fun v28 => Res.ok ((v28 :: [])) : R0 (List Str)) fun v30 => Res.ok ((v29 :: v30)) : R0 (List Str))))) (rfl : _ = (Res.bind (gd (CStr own_8 rest_16) (Res.ok (own_8 ++ rest_16))) fun v29 => Res.bind (Res.bind (gd (CStr rest_16 own_8) (Res.ok (rest_16 ++ own_8))) fun v28 => Res.ok ((v28 :: [])) : R0 (List Str)) fun v30 => Res.ok ((v29 :: v30)) : R0 (List Str))))) (rfl : _ = (Res.bind (gd (CStr own_8 rest_16) (Res.ok (own_8 ++ rest_16))) fun v29 => Res.bind (Res.bind (gd (CStr rest_16 own_8) (Res.ok (rest_16 ++ own_8))) fun v28 => Res.ok ((v28 :: [])) : R0 (List Str)) fun v30 => Res.ok ((v29 :: v30)) : R0 (List Str))))) (rfl : _ = (Res.bind (gd (CStr own_8 rest_16) (Res.ok (own_8 ++ rest_16))) fun v29 => Res.bind (Res.bind (gd (CStr rest_16 own_8) (Res.ok (rest_16 ++ own_8))) fun v28 => Res.ok ((v28 :: [])) : R0 (List Str)) fun v30 => Res.ok ((v29 :: v30)) : R0 (List Str)))) (xm_eq (xm_binK o_mod (xm_eq (xm_binK o_div (xm_eq (xm_ix i_list (xm_eq (xm_fb bfL (xm_var C 0 (R := (rL rI)) (x := i.1))) (rfl : _ = (Res.ok (i.1) : R0 (List Int)))) (xm_int (i := (0 : Int)))) (rfl : _ = (gd (inR i.1 (0 : Int)) (Res.ok ((ix i.1 (0 : Int))))))) (xm_int (i := (6 : Int))) (cdiv_r (by decide))) (rfl : _ = (Res.bind (gd (inR i.1 (0 : Int)) (Res.ok ((ix i.1 (0 : Int))))) fun v31 => Res.ok ((v31 / (6 : Int)))))) (xm_int (i := (2 : Int))) (cmod_r (by decide))) (rfl : _ = (Res.bind (Res.bind (gd (inR i.1 (0 : Int)) (Res.ok ((ix i.1 (0 : Int))))) fun v31 => Res.ok ((v31 / (6 : Int)))) fun v32 => Res.ok ((v32 % (2 : Int))))))) (rfl : _ = (Res.bind (Res.bind (gd (CStr own_8 rest_16) (Res.ok (own_8 ++ rest_16))) fun v29 => Res.bind (Res.bind (gd (CStr rest_16 own_8) (Res.ok (rest_16 ++ own_8))) fun v28 => Res.ok ((v28 :: [])) : R0 (List Str)) fun v30 => Res.ok ((v29 :: v30)) : R0 (List Str)) fun v33 => Res.bind (Res.bind (Res.bind (gd (inR i.1 (0 : Int)) (Res.ok ((ix i.1 (0 : Int))))) fun v31 => Res.ok ((v31 / (6 : Int)))) fun v32 => Res.ok ((v32 % (2 : Int)))) fun v34 => gd (inR v33 v34) (Res.ok ((ix v33 v34)))))) (fun x35 => ?_) (Wk.toAny rfl)
    show XG X [.is (rL rI) i.1, .is rI i.2.1, .is rS letters_1, .res (oL rS) (s5 ++ [x35]), .is rI x6, .is rS own_8, .is rS rest_16, .any] _ _ _ _ _
    exact xg_nil ⟨_, Wk.refl _, Exists.intro ((s5 ++ [x35])) (And.intro rfl (Wk.same (Wk.same (Wk.same (Wk.same (Wk.any (Wk.any (Wk.any (Wk.any Wk.nil)))))))))⟩
  show XG X [.is (rL rI) i.1, .is rI i.2.1, .is rS letters_1, .res (oL rS) s5, .any, .any, .any, .any] _ _ _ _ _
  refine xg_freeze 3 ?_
  show XG X [.is (rL rI) i.1, .is rI i.2.1, .is rS letters_1, .is (rL rS) s5, .any, .any, .any, .any] _ _ _ _ _
  exact xg_ret (xm_var C 3 (R := (rL rS)) (x := s5)) (fun r36 => r36) (fun _ => ⟨_, Wk.toAny rfl, And.intro rfl rfl⟩) (Wk.toAny rfl)
abbrev sp_hang (K : PySem.W.Frag) (mg : Str → Option Value) : Sp := spF K mg (fun i : (Int × Str × Str × Int × Int) × (Int × Str × Str × Int × Int) × (List (Str × Int)) × Unit => [.is (rT (wc rI (wc rS (wc rS (wc rI (w1 rI)))))) i.1, .is (rT (wc rI (wc rS (wc rS (wc rI (w1 rI)))))) i.2.1, .is (rK kS rI) i.2.2.1]) (fun i => m_hang i.1 i.2.1 i.2.2.1) (fun x : Bool => .is rB x)
def N_hang : List Str := ["_law_ride", "_law_after", "_law_spans"]
theorem sc_hang : FnScope N_hang ["_law_ride", "_law_after", "_law_spans"] (defScope s_hang) := ⟨rfl, rfl, rfl, by decide +kernel, rfl, by decide +kernel, by decide +kernel⟩
theorem fk_hang {P : Program} {w : World} {K : PySem.W.Frag} {mg : Str → Option Value} {base : Heap} {f : Addr} {fd : FuncData} (Fn : FnP K "_law_hang" "_law_hang" s_hang f fd) (hm : mg "_law_hang" = some (.ref f)) (hf : Free mg) : Fk P w K mg base 1 "_law_hang" ["_law_ride", "_law_after", "_law_spans"] (sp_hang K mg) := by
  refine fk_of Fn (fn_F (k := 0) Fn sc_hang (fun _ => rfl) (fun i X C => ?_)) hm (fun _ _ _ _ _ _ us hl => match us, hl with | [_, _, _], _ => rfl)
  show XG X [.is (rT (wc rI (wc rS (wc rS (wc rI (w1 rI)))))) i.1, .is (rT (wc rI (wc rS (wc rS (wc rI (w1 rI)))))) i.2.1, .is (rK kS rI) i.2.2.1] _ _ _ _ _
  exact xg_ret (xm_eq (xm_and (xm_eq (xm_cmp o_eqS (xm_eq (ma2 (xm_var C 0 (R := (rT (wc rI (wc rS (wc rS (wc rI (w1 rI))))))) (x := i.1))) (rfl : _ = (Res.ok (i.1.2.2.1) : R0 Str))) (xm_eq (ma1 (xm_var C 1 (R := (rT (wc rI (wc rS (wc rS (wc rI (w1 rI))))))) (x := i.2.1))) (rfl : _ = (Res.ok (i.2.1.2.1) : R0 Str)))) (rfl : _ = (Res.ok (decide (i.1.2.2.1 = i.2.1.2.1)) : R0 Bool))) (xm_eq (xm_one (xm_eq (xm_cmp o_ge (xm_eq (ma3 (xm_var C 1 (R := (rT (wc rI (wc rS (wc rS (wc rI (w1 rI))))))) (x := i.2.1))) (rfl : _ = (Res.ok (i.2.1.2.2.2.1) : R0 Int))) (xm_eq (xm_binT o_add (xm_eq (ma4l (xm_var C 0 (R := (rT (wc rI (wc rS (wc rS (wc rI (w1 rI))))))) (x := i.1))) (rfl : _ = (Res.ok (i.1.2.2.2.2) : R0 Int))) (xm_eq (xm_dget C (A := kS) (R := rI) (xm_eq (xm_fb bfK (xm_var C 2 (R := (rK kS rI)) (x := i.2.2.1))) (rfl : _ = (Res.ok (i.2.2.1) : R0 (List (Str × Int))))) (xm_eq (ma2 (xm_var C 0 (R := (rT (wc rI (wc rS (wc rS (wc rI (w1 rI))))))) (x := i.1))) (rfl : _ = (Res.ok (i.1.2.2.1) : R0 Str)))) (rfl : _ = (gd (has i.2.2.1 i.1.2.2.1 = true) (Res.ok ((Option.getD (look i.2.2.1 i.1.2.2.1) default))))))) (rfl : _ = (Res.bind (gd (has i.2.2.1 i.1.2.2.1 = true) (Res.ok ((Option.getD (look i.2.2.1 i.1.2.2.1) default)))) fun v2 => Res.ok ((i.1.2.2.2.2 + v2)))))) (rfl : _ = (Res.bind (Res.bind (gd (has i.2.2.1 i.1.2.2.1 = true) (Res.ok ((Option.getD (look i.2.2.1 i.1.2.2.1) default)))) fun v2 => Res.ok ((i.1.2.2.2.2 + v2))) fun v3 => Res.ok (decide (i.2.1.2.2.2.1 ≥ v3)))))) (rfl : _ = (Res.bind (Res.bind (gd (has i.2.2.1 i.1.2.2.1 = true) (Res.ok ((Option.getD (look i.2.2.1 i.1.2.2.1) default)))) fun v2 => Res.ok ((i.1.2.2.2.2 + v2))) fun v3 => Res.ok (decide (i.2.1.2.2.2.1 ≥ v3)))))) (rfl : _ = (bif decide (i.1.2.2.1 = i.2.1.2.1) then (Res.bind (Res.bind (gd (has i.2.2.1 i.1.2.2.1 = true) (Res.ok ((Option.getD (look i.2.2.1 i.1.2.2.1) default)))) fun v2 => Res.ok ((i.1.2.2.2.2 + v2))) fun v3 => Res.ok (decide (i.2.1.2.2.2.1 ≥ v3))) else Res.ok false))) (fun r1 => r1) (fun _ => ⟨_, Wk.toAny rfl, And.intro rfl rfl⟩) (Wk.toAny rfl)
abbrev sp_lbars (K : PySem.W.Frag) (mg : Str → Option Value) : Sp := spF K mg (fun i : (List (Int × Str × Str × Int × Int)) × (List (Str × Int)) × Str × Str × Int × (List (Str × Int)) × Unit => [.is (rL (rT (wc rI (wc rS (wc rS (wc rI (w1 rI))))))) i.1, .is (rK kS rI) i.2.1, .is rS i.2.2.1, .is rS i.2.2.2.1, .is rI i.2.2.2.2.1, .is (rL (rT (wc rS (w1 rI)))) i.2.2.2.2.2.1]) (fun i => m_lbars i.1 i.2.1 i.2.2.1 i.2.2.2.1 i.2.2.2.2.1 i.2.2.2.2.2.1) (fun x : Bool => .is rB x)
def N_lbars : List Str := ["_law_rides", "_law_spans", "_law_start", "_law_goal", "_law_since", "_law_paper", "_law_sites", "_law_place", "_law_moment", "_law_ride", "_law_due", "_law_there", "_law_ready"]
theorem sc_lbars : FnScope N_lbars ["_law_rides", "_law_spans", "_law_start", "_law_goal", "_law_since", "_law_paper"] (defScope s_lbars) := ⟨rfl, rfl, rfl, by decide +kernel, rfl, by decide +kernel, by decide +kernel⟩
theorem fk_lbars {P : Program} {w : World} {K : PySem.W.Frag} {mg : Str → Option Value} {base : Heap} {f : Addr} {fd : FuncData} (Fn : FnP K "_law_bars" "_law_bars" s_lbars f fd) (hm : mg "_law_bars" = some (.ref f)) (hf : Free mg) : Fk P w K mg base 1 "_law_bars" ["_law_rides", "_law_spans", "_law_start", "_law_goal", "_law_since", "_law_paper"] (sp_lbars K mg) := by
  refine fk_of Fn (fn_F (k := 0) Fn sc_lbars (fun _ => rfl) (fun i X C => ?_)) hm (fun _ _ _ _ _ _ us hl => match us, hl with | [_, _, _, _, _, _], _ => rfl)
  show XG X [.is (rL (rT (wc rI (wc rS (wc rS (wc rI (w1 rI))))))) i.1, .is (rK kS rI) i.2.1, .is rS i.2.2.1, .is rS i.2.2.2.1, .is rI i.2.2.2.2.1, .is (rL (rT (wc rS (w1 rI)))) i.2.2.2.2.2.1, .any, .any, .any, .any, .any, .any, .any] _ _ _ _ _
  refine xg_asgC C 6 [("_law_place", 7), ("_law_moment", 8)] (xi_list (xm_var C 5 (R := (rL (rT (wc rS (w1 rI))))) (x := i.2.2.2.2.2.1))) (fun _ C' => (xtg_tup C' (xtgs_c (xtg_name C' 7) (xtgs_1 (xtg_name C' 8))))) (fun _ C' y2 => xmts_nil) (fun _ C' y2 => (xm_var C' 7 (R := rS) (x := y2.1))) (pm := (fun y2 : (Str × Int) => (Res.ok true : R0 Bool))) (gm := (fun y2 : (Str × Int) => (Res.ok (y2.1) : R0 Str))) (fun sites_1 => ?_) (Wk.toAny rfl)
  show XG X [.is (rL (rT (wc rI (wc rS (wc rS (wc rI (w1 rI))))))) i.1, .is (rK kS rI) i.2.1, .is rS i.2.2.1, .is rS i.2.2.2.1, .is rI i.2.2.2.2.1, .is (rL (rT (wc rS (w1 rI)))) i.2.2.2.2.2.1, .res (oL rS) sites_1, .any, .any, .any, .any, .any, .any] _ _ _ _ _
  refine xg_freeze 6 ?_
  show XG X [.is (rL (rT (wc rI (wc rS (wc rS (wc rI (w1 rI))))))) i.1, .is (rK kS rI) i.2.1, .is rS i.2.2.1, .is rS i.2.2.2.1, .is rI i.2.2.2.2.1, .is (rL (rT (wc rS (w1 rI)))) i.2.2.2.2.2.1, .is (rL rS) sites_1, .any, .any, .any, .any, .any, .any] _ _ _ _ _
  refine xg_if1 (xmt_eq (xmt_w (xmw_eq (xmw_or (xmt_eq (xmt_cmp o_neI (xm_eq (xm_lenSet C hf (xm_eq (xm_fb bfL (xm_var C 6 (R := (rL rS)) (x := sites_1))) (rfl : _ = (Res.ok (sites_1) : R0 (List Str))))) (rfl : _ = (gd (CFew sites_1) (Res.ok (((List.length (ded sites_1) : Nat) : Int)))))) (xm_eq (xm_len C hf len_list (xm_eq (xm_fb bfL (xm_var C 6 (R := (rL rS)) (x := sites_1))) (rfl : _ = (Res.ok (sites_1) : R0 (List Str))))) (rfl : _ = (Res.ok (((List.length sites_1 : Nat) : Int)) : R0 Int)))) (rfl : _ = (Res.bind (gd (CFew sites_1) (Res.ok (((List.length (ded sites_1) : Nat) : Int)))) fun v3 => Res.ok ((!decide (v3 = ((List.length sites_1 : Nat) : Int))))))) (xmw_eq (xmw_orP (xmt_eq (xmt_cmp (o_in C) (xm_var C 3 (R := rS) (x := i.2.2.2.1)) (xm_eq (xm_fb bfL (xm_var C 6 (R := (rL rS)) (x := sites_1))) (rfl : _ = (Res.ok (sites_1) : R0 (List Str))))) (rfl : _ = (Res.ok ((isIn i.2.2.2.1 sites_1)) : R0 Bool))) (xmw_eq (xmw_or1 (xmt_eq (xmt_cmp (o_notIn C) (xm_var C 2 (R := rS) (x := i.2.2.1)) (xm_eq (xm_fb bfL (xm_var C 6 (R := (rL rS)) (x := sites_1))) (rfl : _ = (Res.ok (sites_1) : R0 (List Str))))) (rfl : _ = (Res.ok ((!isIn i.2.2.1 sites_1)) : R0 Bool)))) (rfl : _ = (Res.ok ((!isIn i.2.2.1 sites_1)) : R0 Bool)))) (rfl : _ = (Res.ok (((isIn i.2.2.2.1 sites_1) || (!isIn i.2.2.1 sites_1))) : R0 Bool)))) (rfl : _ = (Res.bind (Res.bind (gd (CFew sites_1) (Res.ok (((List.length (ded sites_1) : Nat) : Int)))) fun v3 => Res.ok ((!decide (v3 = ((List.length sites_1 : Nat) : Int))))) fun v4 => bif v4 then Res.ok true else (Res.ok (((isIn i.2.2.2.1 sites_1) || (!isIn i.2.2.1 sites_1))) : R0 Bool))))) (rfl : _ = (Res.bind (Res.bind (gd (CFew sites_1) (Res.ok (((List.length (ded sites_1) : Nat) : Int)))) fun v3 => Res.ok ((!decide (v3 = ((List.length sites_1 : Nat) : Int))))) fun v4 => bif v4 then Res.ok true else (Res.ok (((isIn i.2.2.2.1 sites_1) || (!isIn i.2.2.1 sites_1))) : R0 Bool)))) ?_ ?_ (Wk.toAny rfl)
  · show XG X [.is (rL (rT (wc rI (wc rS (wc rS (wc rI (w1 rI))))))) i.1, .is (rK kS rI) i.2.1, .is rS i.2.2.1, .is rS i.2.2.2.1, .is rI i.2.2.2.2.1, .is (rL (rT (wc rS (w1 rI)))) i.2.2.2.2.2.1, .is (rL rS) sites_1, .any, .any, .any, .any, .any, .any] _ _ _ _ _
    exact xg_ret xm_bool (fun r6 => r6) (fun _ => ⟨_, Wk.toAny rfl, And.intro rfl rfl⟩) (Wk.toAny rfl)
  show XG X [.is (rL (rT (wc rI (wc rS (wc rS (wc rI (w1 rI))))))) i.1, .is (rK kS rI) i.2.1, .is rS i.2.2.1, .is rS i.2.2.2.1, .is rI i.2.2.2.2.1, .is (rL (rT (wc rS (w1 rI)))) i.2.2.2.2.2.1, .is (rL rS) sites_1, .any, .any, .any, .any, .any, .any] _ _ _ _ _
  refine xg_for C (fun s8 : Unit => [.is (rL (rT (wc rI (wc rS (wc rS (wc rI (w1 rI))))))) i.1, .is (rK kS rI) i.2.1, .is rS i.2.2.1, .is rS i.2.2.2.1, .is rI i.2.2.2.2.1, .is (rL (rT (wc rS (w1 rI)))) i.2.2.2.2.2.1, .is (rL rS) sites_1, .any, .any, .any, .any, .any, .any]) () (JR := (JF (fun x : Bool => .is rB x) (fun _ => List.replicate N_lbars.length .any))) (inj := (fun r => r)) (bm := (lbars_b0 i.1 i.2.1 i.2.2.1 i.2.2.2.2.1 i.2.2.2.2.2.1)) (q := (lbars_k1)) (xi_list (xm_var C 5 (R := (rL (rT (wc rS (w1 rI))))) (x := i.2.2.2.2.2.1))) (xtg_tup C (xtgs_c (xtg_name C 7) (xtgs_1 (xtg_name C 8)))) (Wk.same (Wk.same (Wk.same (Wk.same (Wk.same (Wk.same (Wk.same (Wk.any (Wk.any (Wk.any (Wk.any (Wk.any (Wk.any Wk.nil))))))))))))) (fun s8 x9 => ?_) (Wk.toAny rfl) (fun _ _ _ h => h) (fun s8 => ?_)
  · show XG X [.is (rL (rT (wc rI (wc rS (wc rS (wc rI (w1 rI))))))) i.1, .is (rK kS rI) i.2.1, .is rS i.2.2.1, .is rS i.2.2.2.1, .is rI i.2.2.2.2.1, .is (rL (rT (wc rS (w1 rI)))) i.2.2.2.2.2.1, .is (rL rS) sites_1, .is rS x9.1, .is rI x9.2, .any, .any, .any, .any] _ _ _ _ _
    refine xg_if1 (xmt_eq (xmt_w (xmw_eq (xmw_andP (xmt_eq (xmt_cmp o_eqS (xm_var C 7 (R := rS) (x := x9.1)) (xm_var C 2 (R := rS) (x := i.2.2.1))) (rfl : _ = (Res.ok (decide (x9.1 = i.2.2.1)) : R0 Bool))) (xmw_eq (xmw_and1 (xmt_eq (xmt_cmp o_gt (xm_var C 8 (R := rI) (x := x9.2)) (xm_var C 4 (R := rI) (x := i.2.2.2.2.1))) (rfl : _ = (Res.ok (decide (x9.2 > i.2.2.2.2.1)) : R0 Bool)))) (rfl : _ = (Res.ok (decide (x9.2 > i.2.2.2.2.1)) : R0 Bool)))) (rfl : _ = (Res.ok ((decide (x9.1 = i.2.2.1) && decide (x9.2 > i.2.2.2.2.1))) : R0 Bool)))) (rfl : _ = (Res.ok ((decide (x9.1 = i.2.2.1) && decide (x9.2 > i.2.2.2.2.1))) : R0 Bool))) ?_ ?_ (Wk.toAny rfl)
    · show XG X [.is (rL (rT (wc rI (wc rS (wc rS (wc rI (w1 rI))))))) i.1, .is (rK kS rI) i.2.1, .is rS i.2.2.1, .is rS i.2.2.2.1, .is rI i.2.2.2.2.1, .is (rL (rT (wc rS (w1 rI)))) i.2.2.2.2.2.1, .is (rL rS) sites_1, .is rS x9.1, .is rI x9.2, .any, .any, .any, .any] _ _ _ _ _
      exact xg_ret xm_bool (fun r12 => Lo.out (r12)) (fun _ => ⟨_, Wk.toAny rfl, And.intro rfl rfl⟩) (Wk.toAny rfl)
    show XG X [.is (rL (rT (wc rI (wc rS (wc rS (wc rI (w1 rI))))))) i.1, .is (rK kS rI) i.2.1, .is rS i.2.2.1, .is rS i.2.2.2.1, .is rI i.2.2.2.2.1, .is (rL (rT (wc rS (w1 rI)))) i.2.2.2.2.2.1, .is (rL rS) sites_1, .is rS x9.1, .is rI x9.2, .any, .any, .any, .any] _ _ _ _ _
    refine xg_for C (fun s14 : Unit => [.is (rL (rT (wc rI (wc rS (wc rS (wc rI (w1 rI))))))) i.1, .is (rK kS rI) i.2.1, .is rS i.2.2.1, .is rS i.2.2.2.1, .is rI i.2.2.2.2.1, .is (rL (rT (wc rS (w1 rI)))) i.2.2.2.2.2.1, .is (rL rS) sites_1, .is rS x9.1, .is rI x9.2, .any, .any, .any, .any]) () (JR := (JF (fun x : Bool => .is rB x) (fun _ => List.replicate N_lbars.length .any))) (inj := (fun r => Lo.out (r))) (bm := (lbars_b2 i.2.1 i.2.2.2.2.2.1 x9.1 x9.2)) (q := (lbars_k3)) (xi_list (xm_var C 0 (R := (rL (rT (wc rI (wc rS (wc rS (wc rI (w1 rI)))))))) (x := i.1))) (xtg_name C 9) (Wk.same (Wk.same (Wk.same (Wk.same (Wk.same (Wk.same (Wk.same (Wk.same (Wk.same (Wk.any (Wk.any (Wk.any (Wk.any Wk.nil))))))))))))) (fun s14 x15 => ?_) (Wk.toAny rfl) (fun _ _ _ h => h) (fun s14 => ?_)
    · show XG X [.is (rL (rT (wc rI (wc rS (wc rS (wc rI (w1 rI))))))) i.1, .is (rK kS rI) i.2.1, .is rS i.2.2.1, .is rS i.2.2.2.1, .is rI i.2.2.2.2.1, .is (rL (rT (wc rS (w1 rI)))) i.2.2.2.2.2.1, .is (rL rS) sites_1, .is rS x9.1, .is rI x9.2, .is (rT (wc rI (wc rS (wc rS (wc rI (w1 rI)))))) x15, .any, .any, .any] _ _ _ _ _
      refine xg_if (Γ' := fun s18 : Unit => [.is (rL (rT (wc rI (wc rS (wc rS (wc rI (w1 rI))))))) i.1, .is (rK kS rI) i.2.1, .is rS i.2.2.1, .is rS i.2.2.2.1, .is rI i.2.2.2.2.1, .is (rL (rT (wc rS (w1 rI)))) i.2.2.2.2.2.1, .is (rL rS) sites_1, .is rS x9.1, .is rI x9.2, .is (rT (wc rI (wc rS (wc rS (wc rI (w1 rI)))))) x15, .any, .any, .any]) (q := fun s18 : Unit => lbars_j4 s18) (xmt_eq (xmt_w (xmw_eq (xmw_andP (xmt_eq (xmt_cmp o_eqS (xm_eq (ma1 (xm_var C 9 (R := (rT (wc rI (wc rS (wc rS (wc rI (w1 rI))))))) (x := x15))) (rfl : _ = (Res.ok (x15.2.1) : R0 Str))) (xm_var C 7 (R := rS) (x := x9.1))) (rfl : _ = (Res.ok (decide (x15.2.1 = x9.1)) : R0 Bool))) (xmw_eq (xmw_and1 (xmt_eq (xmt_cmp o_le (xm_var C 8 (R := rI) (x := x9.2)) (xm_eq (ma3 (xm_var C 9 (R := (rT (wc rI (wc rS (wc rS (wc rI (w1 rI))))))) (x := x15))) (rfl : _ = (Res.ok (x15.2.2.2.1) : R0 Int)))) (rfl : _ = (Res.ok (decide (x9.2 ≤ x15.2.2.2.1)) : R0 Bool)))) (rfl : _ = (Res.ok (decide (x9.2 ≤ x15.2.2.2.1)) : R0 Bool)))) (rfl : _ = (Res.ok ((decide (x15.2.1 = x9.1) && decide (x9.2 ≤ x15.2.2.2.1))) : R0 Bool)))) (rfl : _ = (Res.ok ((decide (x15.2.1 = x9.1) && decide (x9.2 ≤ x15.2.2.2.1))) : R0 Bool))) ?_ ?_ (fun s18 => ?_) (Wk.toAny rfl)
      · show XG X [.is (rL (rT (wc rI (wc rS (wc rS (wc rI (w1 rI))))))) i.1, .is (rK kS rI) i.2.1, .is rS i.2.2.1, .is rS i.2.2.2.1, .is rI i.2.2.2.2.1, .is (rL (rT (wc rS (w1 rI)))) i.2.2.2.2.2.1, .is (rL rS) sites_1, .is rS x9.1, .is rI x9.2, .is (rT (wc rI (wc rS (wc rS (wc rI (w1 rI)))))) x15, .any, .any, .any] _ _ _ _ _
        refine xg_asgC C 10 [("_law_there", 11), ("_law_ready", 12)] (xi_list (xm_var C 5 (R := (rL (rT (wc rS (w1 rI))))) (x := i.2.2.2.2.2.1))) (fun _ C' => (xtg_tup C' (xtgs_c (xtg_name C' 11) (xtgs_1 (xtg_name C' 12))))) (fun _ C' y20 => (xmts_one (xmt_eq (xmt_cmp o_eqS (xm_var C' 11 (R := rS) (x := y20.1)) (xm_eq (ma2 (xm_var C' 9 (R := (rT (wc rI (wc rS (wc rS (wc rI (w1 rI))))))) (x := x15))) (rfl : _ = (Res.ok (x15.2.2.1) : R0 Str)))) (rfl : _ = (Res.ok (decide (y20.1 = x15.2.2.1)) : R0 Bool))))) (fun _ C' y20 => (xm_var C' 12 (R := rI) (x := y20.2))) (pm := (fun y20 : (Str × Int) => (Res.ok (decide (y20.1 = x15.2.2.1)) : R0 Bool))) (gm := (fun y20 : (Str × Int) => (Res.ok (y20.2) : R0 Int))) (fun due_19 => ?_) (Wk.toAny rfl)
        show XG X [.is (rL (rT (wc rI (wc rS (wc rS (wc rI (w1 rI))))))) i.1, .is (rK kS rI) i.2.1, .is rS i.2.2.1, .is rS i.2.2.2.1, .is rI i.2.2.2.2.1, .is (rL (rT (wc rS (w1 rI)))) i.2.2.2.2.2.1, .is (rL rS) sites_1, .is rS x9.1, .is rI x9.2, .is (rT (wc rI (wc rS (wc rS (wc rI (w1 rI)))))) x15, .res (oL rI) due_19, .any, .any] _ _ _ _ _
        refine xg_freeze 10 ?_
        show XG X [.is (rL (rT (wc rI (wc rS (wc rS (wc rI (w1 rI))))))) i.1, .is (rK kS rI) i.2.1, .is rS i.2.2.1, .is rS i.2.2.2.1, .is rI i.2.2.2.2.1, .is (rL (rT (wc rS (w1 rI)))) i.2.2.2.2.2.1, .is (rL rS) sites_1, .is rS x9.1, .is rI x9.2, .is (rT (wc rI (wc rS (wc rS (wc rI (w1 rI)))))) x15, .is (rL rI) due_19, .any, .any] _ _ _ _ _
        refine xg_if1 (xmt_eq (xmt_w (xmw_eq (xmw_or (xmt_eq (xmt_not (xmt_eq (xmt_truL (xm_eq (xm_fb bfL (xm_var C 10 (R := (rL rI)) (x := due_19))) (rfl : _ = (Res.ok (due_19) : R0 (List Int))))) (rfl : _ = (Res.ok ((!List.isEmpty due_19)) : R0 Bool)))) (rfl : _ = (Res.ok ((! (!List.isEmpty due_19))) : R0 Bool))) (xmw_eq (xmw_or1 (xmt_eq (xmt_cmp o_gt (xm_eq (xm_ix i_list (xm_eq (xm_fb bfL (xm_var C 10 (R := (rL rI)) (x := due_19))) (rfl : _ = (Res.ok (due_19) : R0 (List Int)))) (xm_int (i := (0 : Int)))) (rfl : _ = (gd (inR due_19 (0 : Int)) (Res.ok ((ix due_19 (0 : Int))))))) (xm_eq (xm_binT o_add (xm_eq (ma4l (xm_var C 9 (R := (rT (wc rI (wc rS (wc rS (wc rI (w1 rI))))))) (x := x15))) (rfl : _ = (Res.ok (x15.2.2.2.2) : R0 Int))) (xm_eq (xm_dget C (A := kS) (R := rI) (xm_eq (xm_fb bfK (xm_var C 1 (R := (rK kS rI)) (x := i.2.1))) (rfl : _ = (Res.ok (i.2.1) : R0 (List (Str × Int))))) (xm_eq (ma2 (xm_var C 9 (R := (rT (wc rI (wc rS (wc rS (wc rI (w1 rI))))))) (x := x15))) (rfl : _ = (Res.ok (x15.2.2.1) : R0 Str)))) (rfl : _ = (gd (has i.2.1 x15.2.2.1 = true) (Res.ok ((Option.getD (look i.2.1 x15.2.2.1) default))))))) (rfl : _ = (Res.bind (gd (has i.2.1 x15.2.2.1 = true) (Res.ok ((Option.getD (look i.2.1 x15.2.2.1) default)))) fun v21 => Res.ok ((x15.2.2.2.2 + v21)))))) (rfl : _ = (Res.bind (gd (inR due_19 (0 : Int)) (Res.ok ((ix due_19 (0 : Int))))) fun v22 => Res.bind (Res.bind (gd (has i.2.1 x15.2.2.1 = true) (Res.ok ((Option.getD (look i.2.1 x15.2.2.1) default)))) fun v21 => Res.ok ((x15.2.2.2.2 + v21))) fun v23 => Res.ok (decide (v22 > v23)))))) (rfl : _ = (Res.bind (gd (inR due_19 (0 : Int)) (Res.ok ((ix due_19 (0 : Int))))) fun v22 => Res.bind (Res.bind (gd (has i.2.1 x15.2.2.1 = true) (Res.ok ((Option.getD (look i.2.1 x15.2.2.1) default)))) fun v21 => Res.ok ((x15.2.2.2.2 + v21))) fun v23 => Res.ok (decide (v22 > v23)))))) (rfl : _ = (bif (! (!List.isEmpty due_19)) then Res.ok true else (Res.bind (gd (inR due_19 (0 : Int)) (Res.ok ((ix due_19 (0 : Int))))) fun v22 => Res.bind (Res.bind (gd (has i.2.1 x15.2.2.1 = true) (Res.ok ((Option.getD (look i.2.1 x15.2.2.1) default)))) fun v21 => Res.ok ((x15.2.2.2.2 + v21))) fun v23 => Res.ok (decide (v22 > v23))))))) (rfl : _ = (bif (! (!List.isEmpty due_19)) then Res.ok true else (Res.bind (gd (inR due_19 (0 : Int)) (Res.ok ((ix due_19 (0 : Int))))) fun v22 => Res.bind (Res.bind (gd (has i.2.1 x15.2.2.1 = true) (Res.ok ((Option.getD (look i.2.1 x15.2.2.1) default)))) fun v21 => Res.ok ((x15.2.2.2.2 + v21))) fun v23 => Res.ok (decide (v22 > v23)))))) ?_ ?_ (Wk.toAny rfl)
        · show XG X [.is (rL (rT (wc rI (wc rS (wc rS (wc rI (w1 rI))))))) i.1, .is (rK kS rI) i.2.1, .is rS i.2.2.1, .is rS i.2.2.2.1, .is rI i.2.2.2.2.1, .is (rL (rT (wc rS (w1 rI)))) i.2.2.2.2.2.1, .is (rL rS) sites_1, .is rS x9.1, .is rI x9.2, .is (rT (wc rI (wc rS (wc rS (wc rI (w1 rI)))))) x15, .is (rL rI) due_19, .any, .any] _ _ _ _ _
          exact xg_ret xm_bool (fun r25 => Lo.out (r25)) (fun _ => ⟨_, Wk.toAny rfl, And.intro rfl rfl⟩) (Wk.toAny rfl)
        show XG X [.is (rL (rT (wc rI (wc rS (wc rS (wc rI (w1 rI))))))) i.1, .is (rK kS rI) i.2.1, .is rS i.2.2.1, .is rS i.2.2.2.1, .is rI i.2.2.2.2.1, .is (rL (rT (wc rS (w1 rI)))) i.2.2.2.2.2.1, .is (rL rS) sites_1, .is rS x9.1, .is rI x9.2, .is (rT (wc rI (wc rS (wc rS (wc rI (w1 rI)))))) x15, .is (rL rI) due_19, .any, .any] _ _ _ _ _
        exact xg_nil ⟨_, Wk.refl _, Exists.intro () (And.intro rfl (Wk.same (Wk.same (Wk.same (Wk.same (Wk.same (Wk.same (Wk.same (Wk.same (Wk.same (Wk.same (Wk.any (Wk.any (Wk.any Wk.nil))))))))))))))⟩
      · show XG X [.is (rL (rT (wc rI (wc rS (wc rS (wc rI (w1 rI))))))) i.1, .is (rK kS rI) i.2.1, .is rS i.2.2.1, .is rS i.2.2.2.1, .is rI i.2.2.2.2.1, .is (rL (rT (wc rS (w1 rI)))) i.2.2.2.2.2.1, .is (rL rS) sites_1, .is rS x9.1, .is rI x9.2, .is (rT (wc rI (wc rS (wc rS (wc rI (w1 rI)))))) x15, .any, .any, .any] _ _ _ _ _
        exact xg_nil ⟨_, Wk.refl _, Exists.intro () (And.intro rfl (Wk.same (Wk.same (Wk.same (Wk.same (Wk.same (Wk.same (Wk.same (Wk.same (Wk.same (Wk.same (Wk.any (Wk.any (Wk.any Wk.nil))))))))))))))⟩
      show XG X [.is (rL (rT (wc rI (wc rS (wc rS (wc rI (w1 rI))))))) i.1, .is (rK kS rI) i.2.1, .is rS i.2.2.1, .is rS i.2.2.2.1, .is rI i.2.2.2.2.1, .is (rL (rT (wc rS (w1 rI)))) i.2.2.2.2.2.1, .is (rL rS) sites_1, .is rS x9.1, .is rI x9.2, .is (rT (wc rI (wc rS (wc rS (wc rI (w1 rI)))))) x15, .any, .any, .any] _ _ _ _ _
      exact xg_nil ⟨_, Wk.refl _, Exists.intro () (And.intro rfl (Wk.same (Wk.same (Wk.same (Wk.same (Wk.same (Wk.same (Wk.same (Wk.same (Wk.same (Wk.any (Wk.any (Wk.any (Wk.any Wk.nil))))))))))))))⟩
    show XG X [.is (rL (rT (wc rI (wc rS (wc rS (wc rI (w1 rI))))))) i.1, .is (rK kS rI) i.2.1, .is rS i.2.2.1, .is rS i.2.2.2.1, .is rI i.2.2.2.2.1, .is (rL (rT (wc rS (w1 rI)))) i.2.2.2.2.2.1, .is (rL rS) sites_1, .is rS x9.1, .is rI x9.2, .any, .any, .any, .any] _ _ _ _ _
    exact xg_nil ⟨_, Wk.refl _, Exists.intro () (And.intro rfl (Wk.same (Wk.same (Wk.same (Wk.same (Wk.same (Wk.same (Wk.same (Wk.any (Wk.any (Wk.any (Wk.any (Wk.any (Wk.any Wk.nil))))))))))))))⟩
  show XG X [.is (rL (rT (wc rI (wc rS (wc rS (wc rI (w1 rI))))))) i.1, .is (rK kS rI) i.2.1, .is rS i.2.2.1, .is rS i.2.2.2.1, .is rI i.2.2.2.2.1, .is (rL (rT (wc rS (w1 rI)))) i.2.2.2.2.2.1, .is (rL rS) sites_1, .any, .any, .any, .any, .any, .any] _ _ _ _ _
  exact xg_ret xm_bool (fun r26 => r26) (fun _ => ⟨_, Wk.toAny rfl, And.intro rfl rfl⟩) (Wk.toAny rfl)
abbrev sp_plan (K : PySem.W.Frag) (mg : Str → Option Value) : Sp := spF K mg (fun i : (List (Int × Str × Str × Int × Int)) × (List (Str × Int)) × Str × Str × Int × (List Int) × (List Int) × Unit => [.is (rL (rT (wc rI (wc rS (wc rS (wc rI (w1 rI))))))) i.1, .is (rK kS rI) i.2.1, .is rS i.2.2.1, .is rS i.2.2.2.1, .is rI i.2.2.2.2.1, .is (rL rI) i.2.2.2.2.2.1, .is (rL rI) i.2.2.2.2.2.2.1]) (fun i => m_plan i.1 i.2.1 i.2.2.1 i.2.2.2.1 i.2.2.2.2.1 i.2.2.2.2.2.1 i.2.2.2.2.2.2.1) (fun x : (Option (List Int)) => .is (rO (rL rI)) x)
def N_plan : List Str := ["_law_rides", "_law_spans", "_law_start", "_law_goal", "_law_since", "_law_kept", "_law_shared", "_law_best", "_law_found", "_law_row", "_law_ride", "_law_some", "_law_lost", "_law_fresh", "_law_many", "_law_numbers", "_law_one"]
theorem sc_plan : FnScope N_plan ["_law_rides", "_law_spans", "_law_start", "_law_goal", "_law_since", "_law_kept", "_law_shared"] (defScope s_plan) := ⟨rfl, rfl, rfl, by decide +kernel, rfl, by decide +kernel, by decide +kernel⟩
theorem fk_plan {P : Program} {w : World} {K : PySem.W.Frag} {mg : Str → Option Value} {base : Heap} {fd : FuncData} (Fn : FnP K "_law_plan" "_law_plan" s_plan (He.fAd K ("_law_plan", none)) fd) (hm : mg "_law_plan" = some (.ref (He.fAd K ("_law_plan", none)))) (hf : Free mg) (TB : LamX.TabB base mg (He.cT K ("_law_plan", none)).1 (He.cT K ("_law_plan", none)).2) (HU : ∀ m ∈ lamDefs, (He.cT K (m, none)).2 = (He.cT K ("_law_plan", none)).2 → m = "_law_plan") (G_hang : Fk P w K mg base 1 "_law_hang" ["_law_ride", "_law_after", "_law_spans"] (sp_hang K mg)) : Fk P w K mg base 3 "_law_plan" ["_law_rides", "_law_spans", "_law_start", "_law_goal", "_law_since", "_law_kept", "_law_shared"] (sp_plan K mg) := by
  refine fk_of Fn (fn_L (k := 2) Fn sc_plan (fun _ => rfl) (fun i X C hc hq => ?_)) hm (fun _ _ _ _ _ _ us hl => match us, hl with | [_, _, _, _, _, _, _], _ => rfl)
  have LA := lamAt_of C TB hc hq (by decide) HU (by decide +kernel)
  show XG X [.is (rL (rT (wc rI (wc rS (wc rS (wc rI (w1 rI))))))) i.1, .is (rK kS rI) i.2.1, .is rS i.2.2.1, .is rS i.2.2.2.1, .is rI i.2.2.2.2.1, .is (rL rI) i.2.2.2.2.2.1, .is (rL rI) i.2.2.2.2.2.2.1, .any, .any, .any, .any, .any, .any, .any, .any, .any, .any] _ _ _ _ _
  refine xg_asgO C 7 (xmo_eq (xmo_newK kI (rT (wc rI (wc rI (wc rI (w1 (rL rI))))))) (rfl : _ = (Res.ok (([] : (List (Int × (Int × Int × Int × (List Int)))))) : R0 (List (Int × (Int × Int × Int × (List Int))))))) (fun best_1 => ?_) (Wk.toAny rfl)
  show XG X [.is (rL (rT (wc rI (wc rS (wc rS (wc rI (w1 rI))))))) i.1, .is (rK kS rI) i.2.1, .is rS i.2.2.1, .is rS i.2.2.2.1, .is rI i.2.2.2.2.1, .is (rL rI) i.2.2.2.2.2.1, .is (rL rI) i.2.2.2.2.2.2.1, .res (oK kI (rT (wc rI (wc rI (wc rI (w1 (rL rI))))))) best_1, .any, .any, .any, .any, .any, .any, .any, .any, .any] _ _ _ _ _
  refine xg_asgO C 8 (xmo_eq (xmo_newL (R := (rT (wc rI (wc rI (wc rI (wc rI (w1 (rL rI)))))))) xml_nil) (rfl : _ = (Res.ok (([] : (List (Int × Int × Int × Int × (List Int))))) : R0 (List (Int × Int × Int × Int × (List Int)))))) (fun found_2 => ?_) (Wk.toAny rfl)
  show XG X [.is (rL (rT (wc rI (wc rS (wc rS (wc rI (w1 rI))))))) i.1, .is (rK kS rI) i.2.1, .is rS i.2.2.1, .is rS i.2.2.2.1, .is rI i.2.2.2.2.1, .is (rL rI) i.2.2.2.2.2.1, .is (rL rI) i.2.2.2.2.2.2.1, .res (oK kI (rT (wc rI (wc rI (wc rI (w1 (rL rI))))))) best_1, .res (oL (rT (wc rI (wc rI (wc rI (wc rI (w1 (rL rI)))))))) found_2, .any, .any, .any, .any, .any, .any, .any, .any] _ _ _ _ _
  refine xg_if (Γ' := fun s4 : (List (Int × Int × Int × Int × (List Int))) => [.is (rL (rT (wc rI (wc rS (wc rS (wc rI (w1 rI))))))) i.1, .is (rK kS rI) i.2.1, .is rS i.2.2.1, .is rS i.2.2.2.1, .is rI i.2.2.2.2.1, .is (rL rI) i.2.2.2.2.2.1, .is (rL rI) i.2.2.2.2.2.2.1, .res (oK kI (rT (wc rI (wc rI (wc rI (w1 (rL rI))))))) best_1, .res (oL (rT (wc rI (wc rI (wc rI (wc rI (w1 (rL rI)))))))) s4, .any, .any, .any, .any, .any, .any, .any, .any]) (q := fun s4 : (List (Int × Int × Int × Int × (List Int))) => plan_j0 i.1 i.2.1 i.2.2.1 i.2.2.2.1 i.2.2.2.2.1 i.2.2.2.2.2.1 i.2.2.2.2.2.2.1 best_1 s4) (xmt_eq (xmt_cmp o_eqS (xm_var C 2 (R := rS) (x := i.2.2.1)) (xm_var C 3 (R := rS) (x := i.2.2.2.1))) (rfl : _ = (Res.ok (decide (i.2.2.1 = i.2.2.2.1)) : R0 Bool))) ?_ ?_ (fun s4 => ?_) (Wk.toAny rfl)
  · show XG X [.is (rL (rT (wc rI (wc rS (wc rS (wc rI (w1 rI))))))) i.1, .is (rK kS rI) i.2.1, .is rS i.2.2.1, .is rS i.2.2.2.1, .is rI i.2.2.2.2.1, .is (rL rI) i.2.2.2.2.2.1, .is (rL rI) i.2.2.2.2.2.2.1, .res (oK kI (rT (wc rI (wc rI (wc rI (w1 (rL rI))))))) best_1, .res (oL (rT (wc rI (wc rI (wc rI (wc rI (w1 (rL rI)))))))) found_2, .any, .any, .any, .any, .any, .any, .any, .any] _ _ _ _ _
    refine xg_append C 8 (xm_eq (xm_tup (xr_c (xm_int (i := (0 : Int))) (xr_c (xm_int (i := (0 : Int))) (xr_c (xm_var C 4 (R := rI) (x := i.2.2.2.2.1)) (xr_c (xm_int (i := (0 : Int))) (xmr_1 (xm_eq (xm_ofO (xmo_eq (xmo_newL (R := rI) xml_nil) (rfl : _ = (Res.ok (([] : (List Int))) : R0 (List Int))))) (rfl : _ = (Res.ok (([] : (List Int))) : R0 (List Int))))) (rfl : _ = (Res.ok (((0 : Int), ([] : (List Int)))) : R0 (Int × (List Int))))) (rfl : _ = (Res.ok ((i.2.2.2.2.1, ((0 : Int), ([] : (List Int))))) : R0 (Int × Int × (List Int))))) (rfl : _ = (Res.ok (((0 : Int), (i.2.2.2.2.1, ((0 : Int), ([] : (List Int)))))) : R0 (Int × Int × Int × (List Int))))) (rfl : _ = (Res.ok (((0 : Int), ((0 : Int), (i.2.2.2.2.1, ((0 : Int), ([] : (List Int))))))) : R0 (Int × Int × Int × Int × (List Int)))))) (rfl : _ = (Res.ok (((0 : Int), ((0 : Int), (i.2.2.2.2.1, ((0 : Int), ([] : (List Int))))))) : R0 (Int × Int × Int × Int × (List Int))))) (fun x5 => ?_) (Wk.toAny rfl)
    show XG X [.is (rL (rT (wc rI (wc rS (wc rS (wc rI (w1 rI))))))) i.1, .is (rK kS rI) i.2.1, .is rS i.2.2.1, .is rS i.2.2.2.1, .is rI i.2.2.2.2.1, .is (rL rI) i.2.2.2.2.2.1, .is (rL rI) i.2.2.2.2.2.2.1, .res (oK kI (rT (wc rI (wc rI (wc rI (w1 (rL rI))))))) best_1, .res (oL (rT (wc rI (wc rI (wc rI (wc rI (w1 (rL rI)))))))) (found_2 ++ [x5]), .any, .any, .any, .any, .any, .any, .any, .any] _ _ _ _ _
    exact xg_nil ⟨_, Wk.refl _, Exists.intro ((found_2 ++ [x5])) (And.intro rfl (Wk.same (Wk.same (Wk.same (Wk.same (Wk.same (Wk.same (Wk.same (Wk.same (Wk.same (Wk.any (Wk.any (Wk.any (Wk.any (Wk.any (Wk.any (Wk.any (Wk.any Wk.nil))))))))))))))))))⟩
  · show XG X [.is (rL (rT (wc rI (wc rS (wc rS (wc rI (w1 rI))))))) i.1, .is (rK kS rI) i.2.1, .is rS i.2.2.1, .is rS i.2.2.2.1, .is rI i.2.2.2.2.1, .is (rL rI) i.2.2.2.2.2.1, .is (rL rI) i.2.2.2.2.2.2.1, .res (oK kI (rT (wc rI (wc rI (wc rI (w1 (rL rI))))))) best_1, .res (oL (rT (wc rI (wc rI (wc rI (wc rI (w1 (rL rI)))))))) found_2, .any, .any, .any, .any, .any, .any, .any, .any] _ _ _ _ _
    exact xg_nil ⟨_, Wk.refl _, Exists.intro (found_2) (And.intro rfl (Wk.same (Wk.same (Wk.same (Wk.same (Wk.same (Wk.same (Wk.same (Wk.same (Wk.same (Wk.any (Wk.any (Wk.any (Wk.any (Wk.any (Wk.any (Wk.any (Wk.any Wk.nil))))))))))))))))))⟩
  show XG X [.is (rL (rT (wc rI (wc rS (wc rS (wc rI (w1 rI))))))) i.1, .is (rK kS rI) i.2.1, .is rS i.2.2.1, .is rS i.2.2.2.1, .is rI i.2.2.2.2.1, .is (rL rI) i.2.2.2.2.2.1, .is (rL rI) i.2.2.2.2.2.2.1, .res (oK kI (rT (wc rI (wc rI (wc rI (w1 (rL rI))))))) best_1, .res (oL (rT (wc rI (wc rI (wc rI (wc rI (w1 (rL rI)))))))) s4, .any, .any, .any, .any, .any, .any, .any, .any] _ _ _ _ _
  refine xg_asg C 9 (xm_eq (xm_ofO (xmo_eq (xmo_sortKey C hf keyL3 (kk1 3) "_law_ride" (xm_eq (xm_fb bfL (xm_var C 0 (R := (rL (rT (wc rI (wc rS (wc rS (wc rI (w1 rI)))))))) (x := i.1))) (rfl : _ = (Res.ok (i.1) : R0 (List (Int × Str × Str × Int × Int))))) LA (by decide +kernel) kr1 (fun F vs x its h v => keyL3_kk h v) keyL3_al (fun bs => PySem.W.Sortable.others fun b => ⟨(by simp [keyL3]), (by simp [keyL3])⟩) keyL3_dep (C.deep (by decide))) (rfl : _ = (Res.ok ((List.mergeSort i.1 (PySem.W.dataLe false keyL3))) : R0 (List (Int × Str × Str × Int × Int)))))) (rfl : _ = (Res.ok ((List.mergeSort i.1 (PySem.W.dataLe false keyL3))) : R0 (List (Int × Str × Str × Int × Int))))) (fun row_6 => ?_) (Wk.toAny rfl)
  show XG X [.is (rL (rT (wc rI (wc rS (wc rS (wc rI (w1 rI))))))) i.1, .is (rK kS rI) i.2.1, .is rS i.2.2.1, .is rS i.2.2.2.1, .is rI i.2.2.2.2.1, .is (rL rI) i.2.2.2.2.2.1, .is (rL rI) i.2.2.2.2.2.2.1, .res (oK kI (rT (wc rI (wc rI (wc rI (w1 (rL rI))))))) best_1, .res (oL (rT (wc rI (wc rI (wc rI (wc rI (w1 (rL rI)))))))) s4, .is (rL (rT (wc rI (wc rS (wc rS (wc rI (w1 rI))))))) row_6, .any, .any, .any, .any, .any, .any, .any] _ _ _ _ _
  refine xg_for C (fun s8 : (List (Int × (Int × Int × Int × (List Int)))) × (List (Int × Int × Int × Int × (List Int))) => [.is (rL (rT (wc rI (wc rS (wc rS (wc rI (w1 rI))))))) i.1, .is (rK kS rI) i.2.1, .is rS i.2.2.1, .is rS i.2.2.2.1, .is rI i.2.2.2.2.1, .is (rL rI) i.2.2.2.2.2.1, .is (rL rI) i.2.2.2.2.2.2.1, .res (oK kI (rT (wc rI (wc rI (wc rI (w1 (rL rI))))))) s8.1, .res (oL (rT (wc rI (wc rI (wc rI (wc rI (w1 (rL rI)))))))) s8.2, .is (rL (rT (wc rI (wc rS (wc rS (wc rI (w1 rI))))))) row_6, .any, .any, .any, .any, .any, .any, .any]) (best_1, s4) (JR := (JF (fun x : (Option (List Int)) => .is (rO (rL rI)) x) (fun _ => List.replicate N_plan.length .any))) (inj := (fun r => r)) (bm := (plan_b1 i.2.1 i.2.2.1 i.2.2.2.1 i.2.2.2.2.1 i.2.2.2.2.2.1 i.2.2.2.2.2.2.1 row_6)) (q := (plan_k2)) (xi_list (xm_var C 9 (R := (rL (rT (wc rI (wc rS (wc rS (wc rI (w1 rI)))))))) (x := row_6))) (xtg_name C 10) (Wk.same (Wk.same (Wk.same (Wk.same (Wk.same (Wk.same (Wk.same (Wk.same (Wk.same (Wk.same (Wk.any (Wk.any (Wk.any (Wk.any (Wk.any (Wk.any (Wk.any Wk.nil))))))))))))))))) (fun s8 x9 => ?_) (Wk.toAny rfl) (fun _ _ _ h => h) (fun s8 => ?_)
  · show XG X [.is (rL (rT (wc rI (wc rS (wc rS (wc rI (w1 rI))))))) i.1, .is (rK kS rI) i.2.1, .is rS i.2.2.1, .is rS i.2.2.2.1, .is rI i.2.2.2.2.1, .is (rL rI) i.2.2.2.2.2.1, .is (rL rI) i.2.2.2.2.2.2.1, .res (oK kI (rT (wc rI (wc rI (wc rI (w1 (rL rI))))))) s8.1, .res (oL (rT (wc rI (wc rI (wc rI (wc rI (w1 (rL rI)))))))) s8.2, .is (rL (rT (wc rI (wc rS (wc rS (wc rI (w1 rI))))))) row_6, .is (rT (wc rI (wc rS (wc rS (wc rI (w1 rI)))))) x9, .any, .any, .any, .any, .any, .any] _ _ _ _ _
    refine xg_asgC C 11 [("_law_one", 16)] (xi_list (xm_var C 9 (R := (rL (rT (wc rI (wc rS (wc rS (wc rI (w1 rI)))))))) (x := row_6))) (fun _ C' => (xtg_name C' 16)) (fun _ C' y12 => (xmts_one (xmt_eq (xmt_w (xmw_eq (xmw_and (xmt_eq (xmt_cmp (o_inD C' (A := kI) (R := (rT (wc rI (wc rI (wc rI (w1 (rL rI)))))))) (xm_eq (ma0 (xm_var C' 16 (R := (rT (wc rI (wc rS (wc rS (wc rI (w1 rI))))))) (x := y12))) (rfl : _ = (Res.ok (y12.1) : R0 Int))) (xm_bor C' 7 (A := (oK kI (rT (wc rI (wc rI (wc rI (w1 (rL rI)))))))) (x := s8.1) bwK)) (rfl : _ = (Res.ok ((has s8.1 y12.1)) : R0 Bool))) (xmw_eq (xmw_and1 (xmt_eq (xmt_val (xm_eq (xm_call' C' G_hang (xa_cons (ss := fun t : (Int × Str × Str × Int × Int) × (List (Str × Int)) × Unit => [Slot.is (rT (wc rI (wc rS (wc rS (wc rI (w1 rI)))))) t.1, Slot.is (rK kS rI) t.2.1]) (xm_var C' 16 (R := (rT (wc rI (wc rS (wc rS (wc rI (w1 rI))))))) (x := y12)) (xa_cons (ss := fun t : (List (Str × Int)) × Unit => [Slot.is (rK kS rI) t.1]) (xm_var C' 10 (R := (rT (wc rI (wc rS (wc rS (wc rI (w1 rI))))))) (x := x9)) (xa_cons (ss := fun t : Unit => []) (xm_var C' 1 (R := (rK kS rI)) (x := i.2.1)) xma_nil rfl (rfl : _ = (Res.ok ((i.2.1, ())) : R0 ((List (Str × Int)) × Unit)))) rfl (rfl : _ = (Res.ok ((x9, (i.2.1, ()))) : R0 ((Int × Str × Str × Int × Int) × (List (Str × Int)) × Unit)))) rfl (rfl : _ = (Res.ok ((y12, (x9, (i.2.1, ())))) : R0 ((Int × Str × Str × Int × Int) × (Int × Str × Str × Int × Int) × (List (Str × Int)) × Unit))))) (rfl : _ = (m_hang y12 x9 i.2.1)))) (rfl : _ = (m_hang y12 x9 i.2.1)))) (rfl : _ = (m_hang y12 x9 i.2.1)))) (rfl : _ = (bif (has s8.1 y12.1) then (m_hang y12 x9 i.2.1) else Res.ok false)))) (rfl : _ = (bif (has s8.1 y12.1) then (m_hang y12 x9 i.2.1) else Res.ok false))))) (fun _ C' y12 => (xm_eq (xm_dget C' (A := kI) (R := (rT (wc rI (wc rI (wc rI (w1 (rL rI))))))) (xm_bor C' 7 (A := (oK kI (rT (wc rI (wc rI (wc rI (w1 (rL rI)))))))) (x := s8.1) bwK) (xm_eq (ma0 (xm_var C' 16 (R := (rT (wc rI (wc rS (wc rS (wc rI (w1 rI))))))) (x := y12))) (rfl : _ = (Res.ok (y12.1) : R0 Int)))) (rfl : _ = (gd (has s8.1 y12.1 = true) (Res.ok ((Option.getD (look s8.1 y12.1) default))))))) (pm := (fun y12 : (Int × Str × Str × Int × Int) => (bif (has s8.1 y12.1) then (m_hang y12 x9 i.2.1) else Res.ok false))) (gm := (fun y12 : (Int × Str × Str × Int × Int) => (gd (has s8.1 y12.1 = true) (Res.ok ((Option.getD (look s8.1 y12.1) default)))))) (fun some_11 => ?_) (Wk.toAny rfl)
    show XG X [.is (rL (rT (wc rI (wc rS (wc rS (wc rI (w1 rI))))))) i.1, .is (rK kS rI) i.2.1, .is rS i.2.2.1, .is rS i.2.2.2.1, .is rI i.2.2.2.2.1, .is (rL rI) i.2.2.2.2.2.1, .is (rL rI) i.2.2.2.2.2.2.1, .res (oK kI (rT (wc rI (wc rI (wc rI (w1 (rL rI))))))) s8.1, .res (oL (rT (wc rI (wc rI (wc rI (wc rI (w1 (rL rI)))))))) s8.2, .is (rL (rT (wc rI (wc rS (wc rS (wc rI (w1 rI))))))) row_6, .is (rT (wc rI (wc rS (wc rS (wc rI (w1 rI)))))) x9, .res (oL (rT (wc rI (wc rI (wc rI (w1 (rL rI))))))) some_11, .any, .any, .any, .any, .any] _ _ _ _ _
    refine xg_if (Γ' := fun s14 : (List (Int × Int × Int × (List Int))) => [.is (rL (rT (wc rI (wc rS (wc rS (wc rI (w1 rI))))))) i.1, .is (rK kS rI) i.2.1, .is rS i.2.2.1, .is rS i.2.2.2.1, .is rI i.2.2.2.2.1, .is (rL rI) i.2.2.2.2.2.1, .is (rL rI) i.2.2.2.2.2.2.1, .res (oK kI (rT (wc rI (wc rI (wc rI (w1 (rL rI))))))) s8.1, .res (oL (rT (wc rI (wc rI (wc rI (wc rI (w1 (rL rI)))))))) s8.2, .is (rL (rT (wc rI (wc rS (wc rS (wc rI (w1 rI))))))) row_6, .is (rT (wc rI (wc rS (wc rS (wc rI (w1 rI)))))) x9, .res (oL (rT (wc rI (wc rI (wc rI (w1 (rL rI))))))) s14, .any, .any, .any, .any, .any]) (q := fun s14 : (List (Int × Int × Int × (List Int))) => plan_j3 i.2.2.2.1 i.2.2.2.2.2.1 i.2.2.2.2.2.2.1 s8.1 s8.2 x9 s14) (xmt_eq (xmt_w (xmw_eq (xmw_andP (xmt_eq (xmt_cmp o_eqS (xm_eq (ma1 (xm_var C 10 (R := (rT (wc rI (wc rS (wc rS (wc rI (w1 rI))))))) (x := x9))) (rfl : _ = (Res.ok (x9.2.1) : R0 Str))) (xm_var C 2 (R := rS) (x := i.2.2.1))) (rfl : _ = (Res.ok (decide (x9.2.1 = i.2.2.1)) : R0 Bool))) (xmw_eq (xmw_and1 (xmt_eq (xmt_cmp o_ge (xm_eq (ma3 (xm_var C 10 (R := (rT (wc rI (wc rS (wc rS (wc rI (w1 rI))))))) (x := x9))) (rfl : _ = (Res.ok (x9.2.2.2.1) : R0 Int))) (xm_var C 4 (R := rI) (x := i.2.2.2.2.1))) (rfl : _ = (Res.ok (decide (x9.2.2.2.1 ≥ i.2.2.2.2.1)) : R0 Bool)))) (rfl : _ = (Res.ok (decide (x9.2.2.2.1 ≥ i.2.2.2.2.1)) : R0 Bool)))) (rfl : _ = (Res.ok ((decide (x9.2.1 = i.2.2.1) && decide (x9.2.2.2.1 ≥ i.2.2.2.2.1))) : R0 Bool)))) (rfl : _ = (Res.ok ((decide (x9.2.1 = i.2.2.1) && decide (x9.2.2.2.1 ≥ i.2.2.2.2.1))) : R0 Bool))) ?_ ?_ (fun s14 => ?_) (Wk.toAny rfl)
    · show XG X [.is (rL (rT (wc rI (wc rS (wc rS (wc rI (w1 rI))))))) i.1, .is (rK kS rI) i.2.1, .is rS i.2.2.1, .is rS i.2.2.2.1, .is rI i.2.2.2.2.1, .is (rL rI) i.2.2.2.2.2.1, .is (rL rI) i.2.2.2.2.2.2.1, .res (oK kI (rT (wc rI (wc rI (wc rI (w1 (rL rI))))))) s8.1, .res (oL (rT (wc rI (wc rI (wc rI (wc rI (w1 (rL rI)))))))) s8.2, .is (rL (rT (wc rI (wc rS (wc rS (wc rI (w1 rI))))))) row_6, .is (rT (wc rI (wc rS (wc rS (wc rI (w1 rI)))))) x9, .res (oL (rT (wc rI (wc rI (wc rI (w1 (rL rI))))))) some_11, .any, .any, .any, .any, .any] _ _ _ _ _
      refine xg_append C 11 (xm_eq (xm_tup (xr_c (xm_int (i := (0 : Int))) (xr_c (xm_int (i := (0 : Int))) (xr_c (xm_int (i := (0 : Int))) (xmr_1 (xm_eq (xm_ofO (xmo_eq (xmo_newL (R := rI) xml_nil) (rfl : _ = (Res.ok (([] : (List Int))) : R0 (List Int))))) (rfl : _ = (Res.ok (([] : (List Int))) : R0 (List Int))))) (rfl : _ = (Res.ok (((0 : Int), ([] : (List Int)))) : R0 (Int × (List Int))))) (rfl : _ = (Res.ok (((0 : Int), ((0 : Int), ([] : (List Int))))) : R0 (Int × Int × (List Int))))) (rfl : _ = (Res.ok (((0 : Int), ((0 : Int), ((0 : Int), ([] : (List Int)))))) : R0 (Int × Int × Int × (List Int)))))) (rfl : _ = (Res.ok (((0 : Int), ((0 : Int), ((0 : Int), ([] : (List Int)))))) : R0 (Int × Int × Int × (List Int))))) (fun x15 => ?_) (Wk.toAny rfl)
      show XG X [.is (rL (rT (wc rI (wc rS (wc rS (wc rI (w1 rI))))))) i.1, .is (rK kS rI) i.2.1, .is rS i.2.2.1, .is rS i.2.2.2.1, .is rI i.2.2.2.2.1, .is (rL rI) i.2.2.2.2.2.1, .is (rL rI) i.2.2.2.2.2.2.1, .res (oK kI (rT (wc rI (wc rI (wc rI (w1 (rL rI))))))) s8.1, .res (oL (rT (wc rI (wc rI (wc rI (wc rI (w1 (rL rI)))))))) s8.2, .is (rL (rT (wc rI (wc rS (wc rS (wc rI (w1 rI))))))) row_6, .is (rT (wc rI (wc rS (wc rS (wc rI (w1 rI)))))) x9, .res (oL (rT (wc rI (wc rI (wc rI (w1 (rL rI))))))) (some_11 ++ [x15]), .any, .any, .any, .any, .any] _ _ _ _ _
      exact xg_nil ⟨_, Wk.refl _, Exists.intro ((some_11 ++ [x15])) (And.intro rfl (Wk.same (Wk.same (Wk.same (Wk.same (Wk.same (Wk.same (Wk.same (Wk.same (Wk.same (Wk.same (Wk.same (Wk.same (Wk.any (Wk.any (Wk.any (Wk.any (Wk.any Wk.nil))))))))))))))))))⟩
    · show XG X [.is (rL (rT (wc rI (wc rS (wc rS (wc rI (w1 rI))))))) i.1, .is (rK kS rI) i.2.1, .is rS i.2.2.1, .is rS i.2.2.2.1, .is rI i.2.2.2.2.1, .is (rL rI) i.2.2.2.2.2.1, .is (rL rI) i.2.2.2.2.2.2.1, .res (oK kI (rT (wc rI (wc rI (wc rI (w1 (rL rI))))))) s8.1, .res (oL (rT (wc rI (wc rI (wc rI (wc rI (w1 (rL rI)))))))) s8.2, .is (rL (rT (wc rI (wc rS (wc rS (wc rI (w1 rI))))))) row_6, .is (rT (wc rI (wc rS (wc rS (wc rI (w1 rI)))))) x9, .res (oL (rT (wc rI (wc rI (wc rI (w1 (rL rI))))))) some_11, .any, .any, .any, .any, .any] _ _ _ _ _
      exact xg_nil ⟨_, Wk.refl _, Exists.intro (some_11) (And.intro rfl (Wk.same (Wk.same (Wk.same (Wk.same (Wk.same (Wk.same (Wk.same (Wk.same (Wk.same (Wk.same (Wk.same (Wk.same (Wk.any (Wk.any (Wk.any (Wk.any (Wk.any Wk.nil))))))))))))))))))⟩
    show XG X [.is (rL (rT (wc rI (wc rS (wc rS (wc rI (w1 rI))))))) i.1, .is (rK kS rI) i.2.1, .is rS i.2.2.1, .is rS i.2.2.2.1, .is rI i.2.2.2.2.1, .is (rL rI) i.2.2.2.2.2.1, .is (rL rI) i.2.2.2.2.2.2.1, .res (oK kI (rT (wc rI (wc rI (wc rI (w1 (rL rI))))))) s8.1, .res (oL (rT (wc rI (wc rI (wc rI (wc rI (w1 (rL rI)))))))) s8.2, .is (rL (rT (wc rI (wc rS (wc rS (wc rI (w1 rI))))))) row_6, .is (rT (wc rI (wc rS (wc rS (wc rI (w1 rI)))))) x9, .res (oL (rT (wc rI (wc rI (wc rI (w1 (rL rI))))))) s14, .any, .any, .any, .any, .any] _ _ _ _ _
    refine xg_if (Γ' := fun s17 : (List (Int × (Int × Int × Int × (List Int)))) × (List (Int × Int × Int × Int × (List Int))) => [.is (rL (rT (wc rI (wc rS (wc rS (wc rI (w1 rI))))))) i.1, .is (rK kS rI) i.2.1, .is rS i.2.2.1, .is rS i.2.2.2.1, .is rI i.2.2.2.2.1, .is (rL rI) i.2.2.2.2.2.1, .is (rL rI) i.2.2.2.2.2.2.1, .res (oK kI (rT (wc rI (wc rI (wc rI (w1 (rL rI))))))) s17.1, .res (oL (rT (wc rI (wc rI (wc rI (wc rI (w1 (rL rI)))))))) s17.2, .is (rL (rT (wc rI (wc rS (wc rS (wc rI (w1 rI))))))) row_6, .is (rT (wc rI (wc rS (wc rS (wc rI (w1 rI)))))) x9, .res (oL (rT (wc rI (wc rI (wc rI (w1 (rL rI))))))) s14, .any, .any, .any, .any, .any]) (q := fun s17 : (List (Int × (Int × Int × Int × (List Int)))) × (List (Int × Int × Int × Int × (List Int))) => plan_j4 s17) (xmt_eq (xmt_truL (xm_bor C 11 (A := (oL (rT (wc rI (wc rI (wc rI (w1 (rL rI)))))))) (x := s14) bwL)) (rfl : _ = (Res.ok ((!List.isEmpty s14)) : R0 Bool))) ?_ ?_ (fun s17 => ?_) (Wk.toAny rfl)
    · show XG X [.is (rL (rT (wc rI (wc rS (wc rS (wc rI (w1 rI))))))) i.1, .is (rK kS rI) i.2.1, .is rS i.2.2.1, .is rS i.2.2.2.1, .is rI i.2.2.2.2.1, .is (rL rI) i.2.2.2.2.2.1, .is (rL rI) i.2.2.2.2.2.2.1, .res (oK kI (rT (wc rI (wc rI (wc rI (w1 (rL rI))))))) s8.1, .res (oL (rT (wc rI (wc rI (wc rI (wc rI (w1 (rL rI)))))))) s8.2, .is (rL (rT (wc rI (wc rS (wc rS (wc rI (w1 rI))))))) row_6, .is (rT (wc rI (wc rS (wc rS (wc rI (w1 rI)))))) x9, .res (oL (rT (wc rI (wc rI (wc rI (w1 (rL rI))))))) s14, .any, .any, .any, .any, .any] _ _ _ _ _
      refine xg_unpack (xm_eq (xm_b1 C hf (cr_min C) (xm_bor C 11 (A := (oL (rT (wc rI (wc rI (wc rI (w1 (rL rI)))))))) (x := s14) bwL) boot_min) (rfl : _ = (gd (CNe s14) (Res.ok ((minL (rT (wc rI (wc rI (wc rI (w1 (rL rI)))))) s14)))))) (xtg_tup C (xtgs_c (xtg_name C 12) (xtgs_c (xtg_name C 13) (xtgs_c (xtg_name C 14) (xtgs_1 (xtg_name C 15)))))) (fun u18 => ?_) (Wk.toAny rfl)
      show XG X [.is (rL (rT (wc rI (wc rS (wc rS (wc rI (w1 rI))))))) i.1, .is (rK kS rI) i.2.1, .is rS i.2.2.1, .is rS i.2.2.2.1, .is rI i.2.2.2.2.1, .is (rL rI) i.2.2.2.2.2.1, .is (rL rI) i.2.2.2.2.2.2.1, .res (oK kI (rT (wc rI (wc rI (wc rI (w1 (rL rI))))))) s8.1, .res (oL (rT (wc rI (wc rI (wc rI (wc rI (w1 (rL rI)))))))) s8.2, .is (rL (rT (wc rI (wc rS (wc rS (wc rI (w1 rI))))))) row_6, .is (rT (wc rI (wc rS (wc rS (wc rI (w1 rI)))))) x9, .res (oL (rT (wc rI (wc rI (wc rI (w1 (rL rI))))))) s14, .is rI u18.1, .is rI u18.2.1, .is rI u18.2.2.1, .is (rL rI) u18.2.2.2, .any] _ _ _ _ _
      refine xg_asg C 12 (xm_eq (xm_binT o_sub (xm_var C 12 (R := rI) (x := u18.1)) (xm_eq (xm_eq (xm_t1 C hf c_intB (xm_eq (xm_cmp (o_in C) (xm_eq (ma0 (xm_var C 10 (R := (rT (wc rI (wc rS (wc rS (wc rI (w1 rI))))))) (x := x9))) (rfl : _ = (Res.ok (x9.1) : R0 Int))) (xm_eq (xm_fb bfL (xm_var C 6 (R := (rL rI)) (x := i.2.2.2.2.2.2.1))) (rfl : _ = (Res.ok (i.2.2.2.2.2.2.1) : R0 (List Int))))) (rfl : _ = (Res.ok ((isIn x9.1 i.2.2.2.2.2.2.1)) : R0 Bool))) boot_int) (alw_eq _ _)) (rfl : _ = (Res.ok ((b2n (isIn x9.1 i.2.2.2.2.2.2.1))) : R0 Int)))) (rfl : _ = (Res.ok ((u18.1 - (b2n (isIn x9.1 i.2.2.2.2.2.2.1)))) : R0 Int))) (fun lost_19 => ?_) (Wk.toAny rfl)
      show XG X [.is (rL (rT (wc rI (wc rS (wc rS (wc rI (w1 rI))))))) i.1, .is (rK kS rI) i.2.1, .is rS i.2.2.1, .is rS i.2.2.2.1, .is rI i.2.2.2.2.1, .is (rL rI) i.2.2.2.2.2.1, .is (rL rI) i.2.2.2.2.2.2.1, .res (oK kI (rT (wc rI (wc rI (wc rI (w1 (rL rI))))))) s8.1, .res (oL (rT (wc rI (wc rI (wc rI (wc rI (w1 (rL rI)))))))) s8.2, .is (rL (rT (wc rI (wc rS (wc rS (wc rI (w1 rI))))))) row_6, .is (rT (wc rI (wc rS (wc rS (wc rI (w1 rI)))))) x9, .res (oL (rT (wc rI (wc rI (wc rI (w1 (rL rI))))))) s14, .is rI lost_19, .is rI u18.2.1, .is rI u18.2.2.1, .is (rL rI) u18.2.2.2, .any] _ _ _ _ _
      refine xg_asg C 13 (xm_eq (xm_binT o_add (xm_var C 13 (R := rI) (x := u18.2.1)) (xm_eq (xm_eq (xm_t1 C hf c_intB (xm_eq (xm_cmp (o_notIn C) (xm_eq (ma0 (xm_var C 10 (R := (rT (wc rI (wc rS (wc rS (wc rI (w1 rI))))))) (x := x9))) (rfl : _ = (Res.ok (x9.1) : R0 Int))) (xm_eq (xm_fb bfL (xm_var C 5 (R := (rL rI)) (x := i.2.2.2.2.2.1))) (rfl : _ = (Res.ok (i.2.2.2.2.2.1) : R0 (List Int))))) (rfl : _ = (Res.ok ((!isIn x9.1 i.2.2.2.2.2.1)) : R0 Bool))) boot_int) (alw_eq _ _)) (rfl : _ = (Res.ok ((b2n (!isIn x9.1 i.2.2.2.2.2.1))) : R0 Int)))) (rfl : _ = (Res.ok ((u18.2.1 + (b2n (!isIn x9.1 i.2.2.2.2.2.1)))) : R0 Int))) (fun fresh_20 => ?_) (Wk.toAny rfl)
      show XG X [.is (rL (rT (wc rI (wc rS (wc rS (wc rI (w1 rI))))))) i.1, .is (rK kS rI) i.2.1, .is rS i.2.2.1, .is rS i.2.2.2.1, .is rI i.2.2.2.2.1, .is (rL rI) i.2.2.2.2.2.1, .is (rL rI) i.2.2.2.2.2.2.1, .res (oK kI (rT (wc rI (wc rI (wc rI (w1 (rL rI))))))) s8.1, .res (oL (rT (wc rI (wc rI (wc rI (wc rI (w1 (rL rI)))))))) s8.2, .is (rL (rT (wc rI (wc rS (wc rS (wc rI (w1 rI))))))) row_6, .is (rT (wc rI (wc rS (wc rS (wc rI (w1 rI)))))) x9, .res (oL (rT (wc rI (wc rI (wc rI (w1 (rL rI))))))) s14, .is rI lost_19, .is rI fresh_20, .is rI u18.2.2.1, .is (rL rI) u18.2.2.2, .any] _ _ _ _ _
      refine xg_dput C 7 (A := kI) (R := (rT (wc rI (wc rI (wc rI (w1 (rL rI))))))) (d := s8.1) (xm_eq (xm_tup (xr_c (xm_var C 12 (R := rI) (x := lost_19)) (xr_c (xm_var C 13 (R := rI) (x := fresh_20)) (xr_c (xm_eq (xm_binT o_add (xm_var C 14 (R := rI) (x := u18.2.2.1)) (xm_int (i := (1 : Int)))) (rfl : _ = (Res.ok ((u18.2.2.1 + (1 : Int))) : R0 Int))) (xmr_1 (xm_eq (xm_ofO (xmo_eq (xmo_cat (xm_eq (xm_fb bfL (xm_var C 15 (R := (rL rI)) (x := u18.2.2.2))) (rfl : _ = (Res.ok (u18.2.2.2) : R0 (List Int)))) (xm_eq (xm_fb bfL (xm_eq (xm_ofO (xmo_eq (xmo_newL (xl_c (xm_eq (ma0 (xm_var C 10 (R := (rT (wc rI (wc rS (wc rS (wc rI (w1 rI))))))) (x := x9))) (rfl : _ = (Res.ok (x9.1) : R0 Int))) (xml_nil (R := rI)) (rfl : _ = (Res.ok ((x9.1 :: [])) : R0 (List Int))))) (rfl : _ = (Res.ok ((x9.1 :: [])) : R0 (List Int))))) (rfl : _ = (Res.ok ((x9.1 :: [])) : R0 (List Int))))) (rfl : _ = (Res.ok ((x9.1 :: [])) : R0 (List Int))))) (rfl : _ = (gd (CCat u18.2.2.2 (x9.1 :: [])) (Res.ok ((u18.2.2.2 ++ (x9.1 :: [])))))))) (rfl : _ = (gd (CCat u18.2.2.2 (x9.1 :: [])) (Res.ok ((u18.2.2.2 ++ (x9.1 :: [])))))))) (rfl : _ = (Res.bind (gd (CCat u18.2.2.2 (x9.1 :: [])) (Res.ok ((u18.2.2.2 ++ (x9.1 :: []))))) fun v21 => Res.ok (((u18.2.2.1 + (1 : Int)), v21)) : R0 (Int × (List Int))))) (rfl : _ = (Res.bind (Res.bind (gd (CCat u18.2.2.2 (x9.1 :: [])) (Res.ok ((u18.2.2.2 ++ (x9.1 :: []))))) fun v21 => Res.ok (((u18.2.2.1 + (1 : Int)), v21)) : R0 (Int × (List Int))) fun v22 => Res.ok ((fresh_20, v22)) : R0 (Int × Int × (List Int))))) (rfl : _ = (Res.bind (Res.bind (Res.bind (gd (CCat u18.2.2.2 (x9.1 :: [])) (Res.ok ((u18.2.2.2 ++ (x9.1 :: []))))) fun v21 => Res.ok (((u18.2.2.1 + (1 : Int)), v21)) : R0 (Int × (List Int))) fun v22 => Res.ok ((fresh_20, v22)) : R0 (Int × Int × (List Int))) fun v23 => Res.ok ((lost_19, v23)) : R0 (Int × Int × Int × (List Int)))))) (rfl : _ = (Res.bind (Res.bind (Res.bind (gd (CCat u18.2.2.2 (x9.1 :: [])) (Res.ok ((u18.2.2.2 ++ (x9.1 :: []))))) fun v21 => Res.ok (((u18.2.2.1 + (1 : Int)), v21)) : R0 (Int × (List Int))) fun v22 => Res.ok ((fresh_20, v22)) : R0 (Int × Int × (List Int))) fun v23 => Res.ok ((lost_19, v23)) : R0 (Int × Int × Int × (List Int))))) (xm_eq (ma0 (xm_var C 10 (R := (rT (wc rI (wc rS (wc rS (wc rI (w1 rI))))))) (x := x9))) (rfl : _ = (Res.ok (x9.1) : R0 Int))) (fun x24 q25 => ?_) (Wk.toAny rfl)
      show XG X [.is (rL (rT (wc rI (wc rS (wc rS (wc rI (w1 rI))))))) i.1, .is (rK kS rI) i.2.1, .is rS i.2.2.1, .is rS i.2.2.2.1, .is rI i.2.2.2.2.1, .is (rL rI) i.2.2.2.2.2.1, .is (rL rI) i.2.2.2.2.2.2.1, .res (oK kI (rT (wc rI (wc rI (wc rI (w1 (rL rI))))))) (dput s8.1 q25 x24), .res (oL (rT (wc rI (wc rI (wc rI (wc rI (w1 (rL rI)))))))) s8.2, .is (rL (rT (wc rI (wc rS (wc rS (wc rI (w1 rI))))))) row_6, .is (rT (wc rI (wc rS (wc rS (wc rI (w1 rI)))))) x9, .res (oL (rT (wc rI (wc rI (wc rI (w1 (rL rI))))))) s14, .is rI lost_19, .is rI fresh_20, .is rI u18.2.2.1, .is (rL rI) u18.2.2.2, .any] _ _ _ _ _
      refine xg_if (Γ' := fun s27 : (List (Int × Int × Int × Int × (List Int))) => [.is (rL (rT (wc rI (wc rS (wc rS (wc rI (w1 rI))))))) i.1, .is (rK kS rI) i.2.1, .is rS i.2.2.1, .is rS i.2.2.2.1, .is rI i.2.2.2.2.1, .is (rL rI) i.2.2.2.2.2.1, .is (rL rI) i.2.2.2.2.2.2.1, .res (oK kI (rT (wc rI (wc rI (wc rI (w1 (rL rI))))))) (dput s8.1 q25 x24), .res (oL (rT (wc rI (wc rI (wc rI (wc rI (w1 (rL rI)))))))) s27, .is (rL (rT (wc rI (wc rS (wc rS (wc rI (w1 rI))))))) row_6, .is (rT (wc rI (wc rS (wc rS (wc rI (w1 rI)))))) x9, .res (oL (rT (wc rI (wc rI (wc rI (w1 (rL rI))))))) s14, .is rI lost_19, .is rI fresh_20, .is rI u18.2.2.1, .is (rL rI) u18.2.2.2, .any]) (q := fun s27 : (List (Int × Int × Int × Int × (List Int))) => plan_j5 (dput s8.1 q25 x24) s27) (xmt_eq (xmt_cmp o_eqS (xm_eq (ma2 (xm_var C 10 (R := (rT (wc rI (wc rS (wc rS (wc rI (w1 rI))))))) (x := x9))) (rfl : _ = (Res.ok (x9.2.2.1) : R0 Str))) (xm_var C 3 (R := rS) (x := i.2.2.2.1))) (rfl : _ = (Res.ok (decide (x9.2.2.1 = i.2.2.2.1)) : R0 Bool))) ?_ ?_ (fun s27 => ?_) (Wk.toAny rfl)
      · show XG X [.is (rL (rT (wc rI (wc rS (wc rS (wc rI (w1 rI))))))) i.1, .is (rK kS rI) i.2.1, .is rS i.2.2.1, .is rS i.2.2.2.1, .is rI i.2.2.2.2.1, .is (rL rI) i.2.2.2.2.2.1, .is (rL rI) i.2.2.2.2.2.2.1, .res (oK kI (rT (wc rI (wc rI (wc rI (w1 (rL rI))))))) (dput s8.1 q25 x24), .res (oL (rT (wc rI (wc rI (wc rI (wc rI (w1 (rL rI)))))))) s8.2, .is (rL (rT (wc rI (wc rS (wc rS (wc rI (w1 rI))))))) row_6, .is (rT (wc rI (wc rS (wc rS (wc rI (w1 rI)))))) x9, .res (oL (rT (wc rI (wc rI (wc rI (w1 (rL rI))))))) s14, .is rI lost_19, .is rI fresh_20, .is rI u18.2.2.1, .is (rL rI) u18.2.2.2, .any] _ _ _ _ _
        refine xg_append C 8 (xm_eq (xm_tup (xr_c (xm_var C 12 (R := rI) (x := lost_19)) (xr_c (xm_var C 13 (R := rI) (x := fresh_20)) (xr_c (xm_eq (ma4l (xm_var C 10 (R := (rT (wc rI (wc rS (wc rS (wc rI (w1 rI))))))) (x := x9))) (rfl : _ = (Res.ok (x9.2.2.2.2) : R0 Int))) (xr_c (xm_eq (xm_binT o_add (xm_var C 14 (R := rI) (x := u18.2.2.1)) (xm_int (i := (1 : Int)))) (rfl : _ = (Res.ok ((u18.2.2.1 + (1 : Int))) : R0 Int))) (xmr_1 (xm_eq (xm_ofO (xmo_eq (xmo_cat (xm_eq (xm_fb bfL (xm_var C 15 (R := (rL rI)) (x := u18.2.2.2))) (rfl : _ = (Res.ok (u18.2.2.2) : R0 (List Int)))) (xm_eq (xm_fb bfL (xm_eq (xm_ofO (xmo_eq (xmo_newL (xl_c (xm_eq (ma0 (xm_var C 10 (R := (rT (wc rI (wc rS (wc rS (wc rI (w1 rI))))))) (x := x9))) (rfl : _ = (Res.ok (x9.1) : R0 Int))) (xml_nil (R := rI)) (rfl : _ = (Res.ok ((x9.1 :: [])) : R0 (List Int))))) (rfl : _ = (Res.ok ((x9.1 :: [])) : R0 (List Int))))) (rfl : _ = (Res.ok ((x9.1 :: [])) : R0 (List Int))))) (rfl : _ = (Res.ok ((x9.1 :: [])) : R0 (List Int))))) (rfl : _ = (gd (CCat u18.2.2.2 (x9.1 :: [])) (Res.ok ((u18.2.2.2 ++ (x9.1 :: [])))))))) (rfl : _ = (gd (CCat u18.2.2.2 (x9.1 :: [])) (Res.ok ((u18.2.2.2 ++ (x9.1 :: [])))))))) (rfl : _ = (Res.bind (gd (CCat u18.2.2.2 (x9.1 :: [])) (Res.ok ((u18.2.2.2 ++ (x9.1 :: []))))) fun v28 => Res.ok (((u18.2.2.1 + (1 : Int)), v28)) : R0 (Int × (List Int))))) (rfl : _ = (Res.bind (Res.bind (gd (CCat u18.2.2.2 (x9.1 :: [])) (Res.ok ((u18.2.2.2 ++ (x9.1 :: []))))) fun v28 => Res.ok (((u18.2.2.1 + (1 : Int)), v28)) : R0 (Int × (List Int))) fun v29 => Res.ok ((x9.2.2.2.2, v29)) : R0 (Int × Int × (List Int))))) (rfl : _ = (Res.bind (Res.bind (Res.bind (gd (CCat u18.2.2.2 (x9.1 :: [])) (Res.ok ((u18.2.2.2 ++ (x9.1 :: []))))) fun v28 => Res.ok (((u18.2.2.1 + (1 : Int)), v28)) : R0 (Int × (List Int))) fun v29 => Res.ok ((x9.2.2.2.2, v29)) : R0 (Int × Int × (List Int))) fun v30 => Res.ok ((fresh_20, v30)) : R0 (Int × Int × Int × (List Int))))) (rfl : _ = (Res.bind (Res.bind (Res.bind (Res.bind (gd (CCat u18.2.2.2 (x9.1 :: [])) (Res.ok ((u18.2.2.2 ++ (x9.1 :: []))))) fun v28 => Res.ok (((u18.2.2.1 + (1 : Int)), v28)) : R0 (Int × (List Int))) fun v29 => Res.ok ((x9.2.2.2.2, v29)) : R0 (Int × Int × (List Int))) fun v30 => Res.ok ((fresh_20, v30)) : R0 (Int × Int × Int × (List Int))) fun v31 => Res.ok ((lost_19, v31)) : R0 (Int × Int × Int × Int × (List Int)))))) (rfl : _ = (Res.bind (Res.bind (Res.bind (Res.bind (gd (CCat u18.2.2.2 (x9.1 :: [])) (Res.ok ((u18.2.2.2 ++ (x9.1 :: []))))) fun v28 => Res.ok (((u18.2.2.1 + (1 : Int)), v28)) : R0 (Int × (List Int))) fun v29 => Res.ok ((x9.2.2.2.2, v29)) : R0 (Int × Int × (List Int))) fun v30 => Res.ok ((fresh_20, v30)) : R0 (Int × Int × Int × (List Int))) fun v31 => Res.ok ((lost_19, v31)) : R0 (Int × Int × Int × Int × (List Int))))) (fun x32 => ?_) (Wk.toAny rfl)
        show XG X [.is (rL (rT (wc rI (wc rS (wc rS (wc rI (w1 rI))))))) i.1, .is (rK kS rI) i.2.1, .is rS i.2.2.1, .is rS i.2.2.2.1, .is rI i.2.2.2.2.1, .is (rL rI) i.2.2.2.2.2.1, .is (rL rI) i.2.2.2.2.2.2.1, .res (oK kI (rT (wc rI (wc rI (wc rI (w1 (rL rI))))))) (dput s8.1 q25 x24), .res (oL (rT (wc rI (wc rI (wc rI (wc rI (w1 (rL rI)))))))) (s8.2 ++ [x32]), .is (rL (rT (wc rI (wc rS (wc rS (wc rI (w1 rI))))))) row_6, .is (rT (wc rI (wc rS (wc rS (wc rI (w1 rI)))))) x9, .res (oL (rT (wc rI (wc rI (wc rI (w1 (rL rI))))))) s14, .is rI lost_19, .is rI fresh_20, .is rI u18.2.2.1, .is (rL rI) u18.2.2.2, .any] _ _ _ _ _
        exact xg_nil ⟨_, Wk.refl _, Exists.intro ((s8.2 ++ [x32])) (And.intro rfl (Wk.same (Wk.same (Wk.same (Wk.same (Wk.same (Wk.same (Wk.same (Wk.same (Wk.same (Wk.same (Wk.same (Wk.same (Wk.same (Wk.same (Wk.same (Wk.same (Wk.any Wk.nil))))))))))))))))))⟩
      · show XG X [.is (rL (rT (wc rI (wc rS (wc rS (wc rI (w1 rI))))))) i.1, .is (rK kS rI) i.2.1, .is rS i.2.2.1, .is rS i.2.2.2.1, .is rI i.2.2.2.2.1, .is (rL rI) i.2.2.2.2.2.1, .is (rL rI) i.2.2.2.2.2.2.1, .res (oK kI (rT (wc rI (wc rI (wc rI (w1 (rL rI))))))) (dput s8.1 q25 x24), .res (oL (rT (wc rI (wc rI (wc rI (wc rI (w1 (rL rI)))))))) s8.2, .is (rL (rT (wc rI (wc rS (wc rS (wc rI (w1 rI))))))) row_6, .is (rT (wc rI (wc rS (wc rS (wc rI (w1 rI)))))) x9, .res (oL (rT (wc rI (wc rI (wc rI (w1 (rL rI))))))) s14, .is rI lost_19, .is rI fresh_20, .is rI u18.2.2.1, .is (rL rI) u18.2.2.2, .any] _ _ _ _ _
        exact xg_nil ⟨_, Wk.refl _, Exists.intro (s8.2) (And.intro rfl (Wk.same (Wk.same (Wk.same (Wk.same (Wk.same (Wk.same (Wk.same (Wk.same (Wk.same (Wk.same (Wk.same (Wk.same (Wk.same (Wk.same (Wk.same (Wk.same (Wk.any Wk.nil))))))))))))))))))⟩
      show XG X [.is (rL (rT (wc rI (wc rS (wc rS (wc rI (w1 rI))))))) i.1, .is (rK kS rI) i.2.1, .is rS i.2.2.1, .is rS i.2.2.2.1, .is rI i.2.2.2.2.1, .is (rL rI) i.2.2.2.2.2.1, .is (rL rI) i.2.2.2.2.2.2.1, .res (oK kI (rT (wc rI (wc rI (wc rI (w1 (rL rI))))))) (dput s8.1 q25 x24), .res (oL (rT (wc rI (wc rI (wc rI (wc rI (w1 (rL rI)))))))) s27, .is (rL (rT (wc rI (wc rS (wc rS (wc rI (w1 rI))))))) row_6, .is (rT (wc rI (wc rS (wc rS (wc rI (w1 rI)))))) x9, .res (oL (rT (wc rI (wc rI (wc rI (w1 (rL rI))))))) s14, .is rI lost_19, .is rI fresh_20, .is rI u18.2.2.1, .is (rL rI) u18.2.2.2, .any] _ _ _ _ _
      exact xg_nil ⟨_, Wk.refl _, Exists.intro ((dput s8.1 q25 x24), s27) (And.intro rfl (Wk.same (Wk.same (Wk.same (Wk.same (Wk.same (Wk.same (Wk.same (Wk.same (Wk.same (Wk.same (Wk.same (Wk.same (Wk.any (Wk.any (Wk.any (Wk.any (Wk.any Wk.nil))))))))))))))))))⟩
    · show XG X [.is (rL (rT (wc rI (wc rS (wc rS (wc rI (w1 rI))))))) i.1, .is (rK kS rI) i.2.1, .is rS i.2.2.1, .is rS i.2.2.2.1, .is rI i.2.2.2.2.1, .is (rL rI) i.2.2.2.2.2.1, .is (rL rI) i.2.2.2.2.2.2.1, .res (oK kI (rT (wc rI (wc rI (wc rI (w1 (rL rI))))))) s8.1, .res (oL (rT (wc rI (wc rI (wc rI (wc rI (w1 (rL rI)))))))) s8.2, .is (rL (rT (wc rI (wc rS (wc rS (wc rI (w1 rI))))))) row_6, .is (rT (wc rI (wc rS (wc rS (wc rI (w1 rI)))))) x9, .res (oL (rT (wc rI (wc rI (wc rI (w1 (rL rI))))))) s14, .any, .any, .any, .any, .any] _ _ _ _ _
      exact xg_nil ⟨_, Wk.refl _, Exists.intro (s8.1, s8.2) (And.intro rfl (Wk.same (Wk.same (Wk.same (Wk.same (Wk.same (Wk.same (Wk.same (Wk.same (Wk.same (Wk.same (Wk.same (Wk.same (Wk.any (Wk.any (Wk.any (Wk.any (Wk.any Wk.nil))))))))))))))))))⟩
    show XG X [.is (rL (rT (wc rI (wc rS (wc rS (wc rI (w1 rI))))))) i.1, .is (rK kS rI) i.2.1, .is rS i.2.2.1, .is rS i.2.2.2.1, .is rI i.2.2.2.2.1, .is (rL rI) i.2.2.2.2.2.1, .is (rL rI) i.2.2.2.2.2.2.1, .res (oK kI (rT (wc rI (wc rI (wc rI (w1 (rL rI))))))) s17.1, .res (oL (rT (wc rI (wc rI (wc rI (wc rI (w1 (rL rI)))))))) s17.2, .is (rL (rT (wc rI (wc rS (wc rS (wc rI (w1 rI))))))) row_6, .is (rT (wc rI (wc rS (wc rS (wc rI (w1 rI)))))) x9, .res (oL (rT (wc rI (wc rI (wc rI (w1 (rL rI))))))) s14, .any, .any, .any, .any, .any] _ _ _ _ _
    exact xg_nil ⟨_, Wk.refl _, Exists.intro (s17.1, s17.2) (And.intro rfl (Wk.same (Wk.same (Wk.same (Wk.same (Wk.same (Wk.same (Wk.same (Wk.same (Wk.same (Wk.same (Wk.any (Wk.any (Wk.any (Wk.any (Wk.any (Wk.any (Wk.any Wk.nil))))))))))))))))))⟩
  show XG X [.is (rL (rT (wc rI (wc rS (wc rS (wc rI (w1 rI))))))) i.1, .is (rK kS rI) i.2.1, .is rS i.2.2.1, .is rS i.2.2.2.1, .is rI i.2.2.2.2.1, .is (rL rI) i.2.2.2.2.2.1, .is (rL rI) i.2.2.2.2.2.2.1, .res (oK kI (rT (wc rI (wc rI (wc rI (w1 (rL rI))))))) s8.1, .res (oL (rT (wc rI (wc rI (wc rI (wc rI (w1 (rL rI)))))))) s8.2, .is (rL (rT (wc rI (wc rS (wc rS (wc rI (w1 rI))))))) row_6, .any, .any, .any, .any, .any, .any, .any] _ _ _ _ _
  refine xg_freeze 7 ?_
  show XG X [.is (rL (rT (wc rI (wc rS (wc rS (wc rI (w1 rI))))))) i.1, .is (rK kS rI) i.2.1, .is rS i.2.2.1, .is rS i.2.2.2.1, .is rI i.2.2.2.2.1, .is (rL rI) i.2.2.2.2.2.1, .is (rL rI) i.2.2.2.2.2.2.1, .is (rK kI (rT (wc rI (wc rI (wc rI (w1 (rL rI))))))) s8.1, .res (oL (rT (wc rI (wc rI (wc rI (wc rI (w1 (rL rI)))))))) s8.2, .is (rL (rT (wc rI (wc rS (wc rS (wc rI (w1 rI))))))) row_6, .any, .any, .any, .any, .any, .any, .any] _ _ _ _ _
  refine xg_freeze 8 ?_
  show XG X [.is (rL (rT (wc rI (wc rS (wc rS (wc rI (w1 rI))))))) i.1, .is (rK kS rI) i.2.1, .is rS i.2.2.1, .is rS i.2.2.2.1, .is rI i.2.2.2.2.1, .is (rL rI) i.2.2.2.2.2.1, .is (rL rI) i.2.2.2.2.2.2.1, .is (rK kI (rT (wc rI (wc rI (wc rI (w1 (rL rI))))))) s8.1, .is (rL (rT (wc rI (wc rI (wc rI (wc rI (w1 (rL rI)))))))) s8.2, .is (rL (rT (wc rI (wc rS (wc rS (wc rI (w1 rI))))))) row_6, .any, .any, .any, .any, .any, .any, .any] _ _ _ _ _
  refine xg_if1 (xmt_eq (xmt_not (xmt_eq (xmt_truL (xm_eq (xm_fb bfL (xm_var C 8 (R := (rL (rT (wc rI (wc rI (wc rI (wc rI (w1 (rL rI))))))))) (x := s8.2))) (rfl : _ = (Res.ok (s8.2) : R0 (List (Int × Int × Int × Int × (List Int))))))) (rfl : _ = (Res.ok ((!List.isEmpty s8.2)) : R0 Bool)))) (rfl : _ = (Res.ok ((! (!List.isEmpty s8.2))) : R0 Bool))) ?_ ?_ (Wk.toAny rfl)
  · show XG X [.is (rL (rT (wc rI (wc rS (wc rS (wc rI (w1 rI))))))) i.1, .is (rK kS rI) i.2.1, .is rS i.2.2.1, .is rS i.2.2.2.1, .is rI i.2.2.2.2.1, .is (rL rI) i.2.2.2.2.2.1, .is (rL rI) i.2.2.2.2.2.2.1, .is (rK kI (rT (wc rI (wc rI (wc rI (w1 (rL rI))))))) s8.1, .is (rL (rT (wc rI (wc rI (wc rI (wc rI (w1 (rL rI)))))))) s8.2, .is (rL (rT (wc rI (wc rS (wc rS (wc rI (w1 rI))))))) row_6, .any, .any, .any, .any, .any, .any, .any] _ _ _ _ _
    exact xg_ret (xm_eq (xm_none (R := (rL rI))) (rfl : _ = (Res.ok (none) : R0 (Option (List Int))))) (fun r34 => r34) (fun _ => ⟨_, Wk.toAny rfl, And.intro rfl rfl⟩) (Wk.toAny rfl)
  show XG X [.is (rL (rT (wc rI (wc rS (wc rS (wc rI (w1 rI))))))) i.1, .is (rK kS rI) i.2.1, .is rS i.2.2.1, .is rS i.2.2.2.1, .is rI i.2.2.2.2.1, .is (rL rI) i.2.2.2.2.2.1, .is (rL rI) i.2.2.2.2.2.2.1, .is (rK kI (rT (wc rI (wc rI (wc rI (w1 (rL rI))))))) s8.1, .is (rL (rT (wc rI (wc rI (wc rI (wc rI (w1 (rL rI)))))))) s8.2, .is (rL (rT (wc rI (wc rS (wc rS (wc rI (w1 rI))))))) row_6, .any, .any, .any, .any, .any, .any, .any] _ _ _ _ _
  exact xg_ret (xm_eq (xm_some (xm_eq (ma4l (xm_eq (xm_b1 C hf (cr_min C) (xm_eq (xm_fb bfL (xm_var C 8 (R := (rL (rT (wc rI (wc rI (wc rI (wc rI (w1 (rL rI))))))))) (x := s8.2))) (rfl : _ = (Res.ok (s8.2) : R0 (List (Int × Int × Int × Int × (List Int)))))) boot_min) (rfl : _ = (gd (CNe s8.2) (Res.ok ((minL (rT (wc rI (wc rI (wc rI (wc rI (w1 (rL rI))))))) s8.2))))))) (rfl : _ = (Res.bind (gd (CNe s8.2) (Res.ok ((minL (rT (wc rI (wc rI (wc rI (wc rI (w1 (rL rI))))))) s8.2)))) fun v36 => Res.ok (v36.2.2.2.2))))) (rfl : _ = (Res.bind (Res.bind (gd (CNe s8.2) (Res.ok ((minL (rT (wc rI (wc rI (wc rI (wc rI (w1 (rL rI))))))) s8.2)))) fun v36 => Res.ok (v36.2.2.2.2)) fun v37 => Res.ok (some v37)))) (fun r35 => r35) (fun _ => ⟨_, Wk.toAny rfl, And.intro rfl rfl⟩) (Wk.toAny rfl)
abbrev sp_ladder (K : PySem.W.Frag) (mg : Str → Option Value) : Sp := spF K mg (fun i : (List Int) × Unit => [.is (rSc K) i.1]) (fun i => m_ladder i.1) (fun x : ((List Str) × (List (Str × Int)) × (List (Int × Str × Str × Int × Int)) × Str × Str × Int) => .is (rT (wc (rL rS) (wc (rK kS rI) (wc (rL (rT (wc rI (wc rS (wc rS (wc rI (w1 rI))))))) (wc rS (wc rS (w1 rI))))))) x)
def N_ladder : List Str := ["_law_script", "_law_d", "_law_names_here", "_law_base", "_law_spans", "_law_rides", "_law_many", "_law_k", "_law_j", "_law_e", "_law_leaves", "_law_gone"]
theorem sc_ladder : FnScope N_ladder ["_law_script"] (defScope s_ladder) := ⟨rfl, rfl, rfl, by decide +kernel, rfl, by decide +kernel, by decide +kernel⟩
theorem fk_ladder {P : Program} {w : World} {K : PySem.W.Frag} {mg : Str → Option Value} {base : Heap} {f : Addr} {fd : FuncData} (Fn : FnP K "_law_ladder" "_law_ladder" s_ladder f fd) (hm : mg "_law_ladder" = some (.ref f)) (hf : Free mg) (G_draws : Fk P w K mg base 1 "_law_draws" ["_law_script", "_law_at", "_law_many"] (sp_draws K mg)) (G_names : Fk P w K mg base 1 "_law_names" ["_law_d", "_law_many"] (sp_names K mg)) : Fk P w K mg base 2 "_law_ladder" ["_law_script"] (sp_ladder K mg) := by
  refine fk_of Fn (fn_F (k := 1) Fn sc_ladder (fun _ => rfl) (fun i X C => ?_)) hm (fun _ _ _ _ _ _ us hl => match us, hl with | [_], _ => rfl)
  show XG X [.is (rSc K) i.1, .any, .any, .any, .any, .any, .any, .any, .any, .any, .any, .any] _ _ _ _ _
  refine xg_asg C 1 (xm_eq (xm_call' C G_draws (xa_cons (ss := fun t : Int × Int × Unit => [Slot.is rI t.1, Slot.is rI t.2.1]) (xm_var C 0 (R := (rSc K)) (x := i.1)) (xa_cons (ss := fun t : Int × Unit => [Slot.is rI t.1]) (xm_int (i := (0 : Int))) (xa_cons (ss := fun t : Unit => []) (xm_int (i := (20 : Int))) xma_nil rfl (rfl : _ = (Res.ok (((20 : Int), ())) : R0 (Int × Unit)))) rfl (rfl : _ = (Res.ok (((0 : Int), ((20 : Int), ()))) : R0 (Int × Int × Unit)))) rfl (rfl : _ = (Res.ok ((i.1, ((0 : Int), ((20 : Int), ())))) : R0 ((List Int) × Int × Int × Unit))))) (rfl : _ = (m_draws i.1 (0 : Int) (20 : Int)))) (fun d_1 => ?_) (Wk.toAny rfl)
  show XG X [.is (rSc K) i.1, .is (rL rI) d_1, .any, .any, .any, .any, .any, .any, .any, .any, .any, .any] _ _ _ _ _
  refine xg_asg C 2 (xm_eq (xm_call' C G_names (xa_cons (ss := fun t : Int × Unit => [Slot.is rI t.1]) (xm_var C 1 (R := (rL rI)) (x := d_1)) (xa_cons (ss := fun t : Unit => []) (xm_int (i := (3 : Int))) xma_nil rfl (rfl : _ = (Res.ok (((3 : Int), ())) : R0 (Int × Unit)))) rfl (rfl : _ = (Res.ok ((d_1, ((3 : Int), ()))) : R0 ((List Int) × Int × Unit))))) (rfl : _ = (m_names d_1 (3 : Int)))) (fun names_here_2 => ?_) (Wk.toAny rfl)
  show XG X [.is (rSc K) i.1, .is (rL rI) d_1, .is (rL rS) names_here_2, .any, .any, .any, .any, .any, .any, .any, .any, .any] _ _ _ _ _
  refine xg_asg C 3 (xm_eq (xm_ix i_list (xm_eq (xm_fb bfL (xm_eq (xm_ofO (xmo_eq (xmo_newL (xl_c (xm_int (i := (0 : Int))) (xl_c (xm_eq (xm_binT o_sub (xm_int (i := (0 : Int))) (xm_eq (xm_binC o_pow (xm_int (i := 10)) (xm_int (i := 40)) (by decide)) (rfl : _ = (Res.ok (((10 : Int) ^ (40 : Nat))) : R0 Int)))) (rfl : _ = (Res.ok (((0 : Int) - ((10 : Int) ^ (40 : Nat)))) : R0 Int))) (xl_c (xm_eq (xm_binC o_pow (xm_int (i := 10)) (xm_int (i := 20)) (by decide)) (rfl : _ = (Res.ok (((10 : Int) ^ (20 : Nat))) : R0 Int))) (xl_c (xm_eq (xm_ix i_list (xm_eq (xm_fb bfL (xm_var C 1 (R := (rL rI)) (x := d_1))) (rfl : _ = (Res.ok (d_1) : R0 (List Int)))) (xm_int (i := (16 : Int)))) (rfl : _ = (gd (inR d_1 (16 : Int)) (Res.ok ((ix d_1 (16 : Int))))))) (xml_nil (R := rI)) (rfl : _ = (Res.bind (gd (inR d_1 (16 : Int)) (Res.ok ((ix d_1 (16 : Int))))) fun v4 => Res.ok ((v4 :: [])) : R0 (List Int)))) (rfl : _ = (Res.bind (Res.bind (gd (inR d_1 (16 : Int)) (Res.ok ((ix d_1 (16 : Int))))) fun v4 => Res.ok ((v4 :: [])) : R0 (List Int)) fun v5 => Res.ok ((((10 : Int) ^ (20 : Nat)) :: v5)) : R0 (List Int)))) (rfl : _ = (Res.bind (Res.bind (Res.bind (gd (inR d_1 (16 : Int)) (Res.ok ((ix d_1 (16 : Int))))) fun v4 => Res.ok ((v4 :: [])) : R0 (List Int)) fun v5 => Res.ok ((((10 : Int) ^ (20 : Nat)) :: v5)) : R0 (List Int)) fun v6 => Res.ok ((((0 : Int) - ((10 : Int) ^ (40 : Nat))) :: v6)) : R0 (List Int)))) (rfl : _ = (Res.bind (Res.bind (Res.bind (Res.bind (gd (inR d_1 (16 : Int)) (Res.ok ((ix d_1 (16 : Int))))) fun v4 => Res.ok ((v4 :: [])) : R0 (List Int)) fun v5 => Res.ok ((((10 : Int) ^ (20 : Nat)) :: v5)) : R0 (List Int)) fun v6 => Res.ok ((((0 : Int) - ((10 : Int) ^ (40 : Nat))) :: v6)) : R0 (List Int)) fun v7 => Res.ok (((0 : Int) :: v7)) : R0 (List Int))))) (rfl : _ = (Res.bind (Res.bind (Res.bind (Res.bind (gd (inR d_1 (16 : Int)) (Res.ok ((ix d_1 (16 : Int))))) fun v4 => Res.ok ((v4 :: [])) : R0 (List Int)) fun v5 => Res.ok ((((10 : Int) ^ (20 : Nat)) :: v5)) : R0 (List Int)) fun v6 => Res.ok ((((0 : Int) - ((10 : Int) ^ (40 : Nat))) :: v6)) : R0 (List Int)) fun v7 => Res.ok (((0 : Int) :: v7)) : R0 (List Int))))) (rfl : _ = (Res.bind (Res.bind (Res.bind (Res.bind (gd (inR d_1 (16 : Int)) (Res.ok ((ix d_1 (16 : Int))))) fun v4 => Res.ok ((v4 :: [])) : R0 (List Int)) fun v5 => Res.ok ((((10 : Int) ^ (20 : Nat)) :: v5)) : R0 (List Int)) fun v6 => Res.ok ((((0 : Int) - ((10 : Int) ^ (40 : Nat))) :: v6)) : R0 (List Int)) fun v7 => Res.ok (((0 : Int) :: v7)) : R0 (List Int))))) (rfl : _ = (Res.bind (Res.bind (Res.bind (Res.bind (gd (inR d_1 (16 : Int)) (Res.ok ((ix d_1 (16 : Int))))) fun v4 => Res.ok ((v4 :: [])) : R0 (List Int)) fun v5 => Res.ok ((((10 : Int) ^ (20 : Nat)) :: v5)) : R0 (List Int)) fun v6 => Res.ok ((((0 : Int) - ((10 : Int) ^ (40 : Nat))) :: v6)) : R0 (List Int)) fun v7 => Res.ok (((0 : Int) :: v7)) : R0 (List Int)))) (xm_eq (xm_binK o_mod (xm_eq (xm_ix i_list (xm_eq (xm_fb bfL (xm_var C 1 (R := (rL rI)) (x := d_1))) (rfl : _ = (Res.ok (d_1) : R0 (List Int)))) (xm_int (i := (17 : Int)))) (rfl : _ = (gd (inR d_1 (17 : Int)) (Res.ok ((ix d_1 (17 : Int))))))) (xm_int (i := (4 : Int))) (cmod_r (by decide))) (rfl : _ = (Res.bind (gd (inR d_1 (17 : Int)) (Res.ok ((ix d_1 (17 : Int))))) fun v8 => Res.ok ((v8 % (4 : Int))))))) (rfl : _ = (Res.bind (Res.bind (Res.bind (Res.bind (Res.bind (gd (inR d_1 (16 : Int)) (Res.ok ((ix d_1 (16 : Int))))) fun v4 => Res.ok ((v4 :: [])) : R0 (List Int)) fun v5 => Res.ok ((((10 : Int) ^ (20 : Nat)) :: v5)) : R0 (List Int)) fun v6 => Res.ok ((((0 : Int) - ((10 : Int) ^ (40 : Nat))) :: v6)) : R0 (List Int)) fun v7 => Res.ok (((0 : Int) :: v7)) : R0 (List Int)) fun v9 => Res.bind (Res.bind (gd (inR d_1 (17 : Int)) (Res.ok ((ix d_1 (17 : Int))))) fun v8 => Res.ok ((v8 % (4 : Int)))) fun v10 => gd (inR v9 v10) (Res.ok ((ix v9 v10)))))) (fun base_3 => ?_) (Wk.toAny rfl)
  show XG X [.is (rSc K) i.1, .is (rL rI) d_1, .is (rL rS) names_here_2, .is rI base_3, .any, .any, .any, .any, .any, .any, .any, .any] _ _ _ _ _
  refine xg_asg C 4 (xm_eq (xm_ofO (xmo_eq (xmo_eq (xmo_t1 C hf (n_dictP (A := kS) C) (xm_eq (xm_fb bfL (xm_eq (xm_ofO (xmo_eq (xmo_comp C [("_law_k", 7)] (xi_range1 C hf (xm_int (i := (3 : Int)))) (fun _ C' => (xtg_name C' 7)) (fun _ C' y13 => xmts_nil) (fun _ C' y13 => (xm_eq (xm_tup (xr_c (xm_eq (xm_ix i_list (xm_eq (xm_fb bfL (xm_var C' 2 (R := (rL rS)) (x := names_here_2))) (rfl : _ = (Res.ok (names_here_2) : R0 (List Str)))) (xm_var C' 7 (R := rI) (x := y13))) (rfl : _ = (gd (inR names_here_2 y13) (Res.ok ((ix names_here_2 y13)))))) (xmr_1 (xm_eq (xm_binK o_mod (xm_eq (xm_ix i_list (xm_eq (xm_fb bfL (xm_var C' 1 (R := (rL rI)) (x := d_1))) (rfl : _ = (Res.ok (d_1) : R0 (List Int)))) (xm_var C' 7 (R := rI) (x := y13))) (rfl : _ = (gd (inR d_1 y13) (Res.ok ((ix d_1 y13)))))) (xm_int (i := (3 : Int))) (cmod_r (by decide))) (rfl : _ = (Res.bind (gd (inR d_1 y13) (Res.ok ((ix d_1 y13)))) fun v14 => Res.ok ((v14 % (3 : Int))))))) (rfl : _ = (Res.bind (gd (inR names_here_2 y13) (Res.ok ((ix names_here_2 y13)))) fun v15 => Res.bind (Res.bind (gd (inR d_1 y13) (Res.ok ((ix d_1 y13)))) fun v14 => Res.ok ((v14 % (3 : Int)))) fun v16 => Res.ok ((v15, v16)) : R0 (Str × Int))))) (rfl : _ = (Res.bind (gd (inR names_here_2 y13) (Res.ok ((ix names_here_2 y13)))) fun v15 => Res.bind (Res.bind (gd (inR d_1 y13) (Res.ok ((ix d_1 y13)))) fun v14 => Res.ok ((v14 % (3 : Int)))) fun v16 => Res.ok ((v15, v16)) : R0 (Str × Int))))) (pm := (fun y13 : Int => (Res.ok true : R0 Bool))) (gm := (fun y13 : Int => (Res.bind (gd (inR names_here_2 y13) (Res.ok ((ix names_here_2 y13)))) fun v15 => Res.bind (Res.bind (gd (inR d_1 y13) (Res.ok ((ix d_1 y13)))) fun v14 => Res.ok ((v14 % (3 : Int)))) fun v16 => Res.ok ((v15, v16)) : R0 (Str × Int))))) (rfl : _ = (Res.bind (Res.bind (Res.ok ((3 : Int)) : R0 Int) fun n12 => gd (CR62 n12) (Res.ok (upTo n12))) fun v17 => gd (List.length v17 ≤ sizeLine) (compR (fun y13 : Int => (Res.ok true : R0 Bool)) (fun y13 : Int => (Res.bind (gd (inR names_here_2 y13) (Res.ok ((ix names_here_2 y13)))) fun v15 => Res.bind (Res.bind (gd (inR d_1 y13) (Res.ok ((ix d_1 y13)))) fun v14 => Res.ok ((v14 % (3 : Int)))) fun v16 => Res.ok ((v15, v16)) : R0 (Str × Int))) v17))))) (rfl : _ = (Res.bind (Res.bind (Res.ok ((3 : Int)) : R0 Int) fun n12 => gd (CR62 n12) (Res.ok (upTo n12))) fun v17 => gd (List.length v17 ≤ sizeLine) (compR (fun y13 : Int => (Res.ok true : R0 Bool)) (fun y13 : Int => (Res.bind (gd (inR names_here_2 y13) (Res.ok ((ix names_here_2 y13)))) fun v15 => Res.bind (Res.bind (gd (inR d_1 y13) (Res.ok ((ix d_1 y13)))) fun v14 => Res.ok ((v14 % (3 : Int)))) fun v16 => Res.ok ((v15, v16)) : R0 (Str × Int))) v17))))) (rfl : _ = (Res.bind (Res.bind (Res.ok ((3 : Int)) : R0 Int) fun n12 => gd (CR62 n12) (Res.ok (upTo n12))) fun v17 => gd (List.length v17 ≤ sizeLine) (compR (fun y13 : Int => (Res.ok true : R0 Bool)) (fun y13 : Int => (Res.bind (gd (inR names_here_2 y13) (Res.ok ((ix names_here_2 y13)))) fun v15 => Res.bind (Res.bind (gd (inR d_1 y13) (Res.ok ((ix d_1 y13)))) fun v14 => Res.ok ((v14 % (3 : Int)))) fun v16 => Res.ok ((v15, v16)) : R0 (Str × Int))) v17)))) boot_dict) (alw_eq _ _)) (rfl : _ = (Res.bind (Res.bind (Res.bind (Res.ok ((3 : Int)) : R0 Int) fun n12 => gd (CR62 n12) (Res.ok (upTo n12))) fun v17 => gd (List.length v17 ≤ sizeLine) (compR (fun y13 : Int => (Res.ok true : R0 Bool)) (fun y13 : Int => (Res.bind (gd (inR names_here_2 y13) (Res.ok ((ix names_here_2 y13)))) fun v15 => Res.bind (Res.bind (gd (inR d_1 y13) (Res.ok ((ix d_1 y13)))) fun v14 => Res.ok ((v14 % (3 : Int)))) fun v16 => Res.ok ((v15, v16)) : R0 (Str × Int))) v17)) fun v18 => Res.ok ((dputs [] v18)))))) (rfl : _ = (Res.bind (Res.bind (Res.bind (Res.ok ((3 : Int)) : R0 Int) fun n12 => gd (CR62 n12) (Res.ok (upTo n12))) fun v17 => gd (List.length v17 ≤ sizeLine) (compR (fun y13 : Int => (Res.ok true : R0 Bool)) (fun y13 : Int => (Res.bind (gd (inR names_here_2 y13) (Res.ok ((ix names_here_2 y13)))) fun v15 => Res.bind (Res.bind (gd (inR d_1 y13) (Res.ok ((ix d_1 y13)))) fun v14 => Res.ok ((v14 % (3 : Int)))) fun v16 => Res.ok ((v15, v16)) : R0 (Str × Int))) v17)) fun v18 => Res.ok ((dputs [] v18))))) (fun spans_11 => ?_) (Wk.toAny rfl)
  show XG X [.is (rSc K) i.1, .is (rL rI) d_1, .is (rL rS) names_here_2, .is rI base_3, .is (rK kS rI) spans_11, .any, .any, .any, .any, .any, .any, .any] _ _ _ _ _
  refine xg_asgO C 5 (xmo_eq (xmo_newL (R := (rT (wc rI (wc rS (wc rS (wc rI (w1 rI))))))) xml_nil) (rfl : _ = (Res.ok (([] : (List (Int × Str × Str × Int × Int)))) : R0 (List (Int × Str × Str × Int × Int))))) (fun rides_19 => ?_) (Wk.toAny rfl)
  show XG X [.is (rSc K) i.1, .is (rL rI) d_1, .is (rL rS) names_here_2, .is rI base_3, .is (rK kS rI) spans_11, .res (oL (rT (wc rI (wc rS (wc rS (wc rI (w1 rI))))))) rides_19, .any, .any, .any, .any, .any, .any] _ _ _ _ _
  refine xg_asg C 6 (xm_eq (xm_binT o_add (xm_int (i := (12 : Int))) (xm_eq (xm_binK o_mod (xm_eq (xm_ix i_list (xm_eq (xm_fb bfL (xm_var C 1 (R := (rL rI)) (x := d_1))) (rfl : _ = (Res.ok (d_1) : R0 (List Int)))) (xm_int (i := (18 : Int)))) (rfl : _ = (gd (inR d_1 (18 : Int)) (Res.ok ((ix d_1 (18 : Int))))))) (xm_int (i := (9 : Int))) (cmod_r (by decide))) (rfl : _ = (Res.bind (gd (inR d_1 (18 : Int)) (Res.ok ((ix d_1 (18 : Int))))) fun v21 => Res.ok ((v21 % (9 : Int))))))) (rfl : _ = (Res.bind (Res.bind (gd (inR d_1 (18 : Int)) (Res.ok ((ix d_1 (18 : Int))))) fun v21 => Res.ok ((v21 % (9 : Int)))) fun v22 => Res.ok (((12 : Int) + v22))))) (fun many_20 => ?_) (Wk.toAny rfl)
  show XG X [.is (rSc K) i.1, .is (rL rI) d_1, .is (rL rS) names_here_2, .is rI base_3, .is (rK kS rI) spans_11, .res (oL (rT (wc rI (wc rS (wc rS (wc rI (w1 rI))))))) rides_19, .is rI many_20, .any, .any, .any, .any, .any] _ _ _ _ _
  refine xg_for C (fun s25 : (List (Int × Str × Str × Int × Int)) => [.is (rSc K) i.1, .is (rL rI) d_1, .is (rL rS) names_here_2, .is rI base_3, .is (rK kS rI) spans_11, .res (oL (rT (wc rI (wc rS (wc rS (wc rI (w1 rI))))))) s25, .is rI many_20, .any, .any, .any, .any, .any]) (rides_19) (JR := (JF (fun x : ((List Str) × (List (Str × Int)) × (List (Int × Str × Str × Int × Int)) × Str × Str × Int) => .is (rT (wc (rL rS) (wc (rK kS rI) (wc (rL (rT (wc rI (wc rS (wc rS (wc rI (w1 rI))))))) (wc rS (wc rS (w1 rI))))))) x) (fun _ => List.replicate N_ladder.length .any))) (inj := (fun r => r)) (bm := (ladder_b0 i.1 names_here_2 base_3)) (q := (ladder_k1 d_1 names_here_2 base_3 spans_11 many_20)) (xi_range1 C hf (xm_var C 6 (R := rI) (x := many_20))) (xtg_name C 7) (Wk.same (Wk.same (Wk.same (Wk.same (Wk.same (Wk.same (Wk.same (Wk.any (Wk.any (Wk.any (Wk.any (Wk.any Wk.nil)))))))))))) (fun s25 x26 => ?_) (Wk.toAny rfl) (fun _ _ _ h => h) (fun s25 => ?_)
  · show XG X [.is (rSc K) i.1, .is (rL rI) d_1, .is (rL rS) names_here_2, .is rI base_3, .is (rK kS rI) spans_11, .res (oL (rT (wc rI (wc rS (wc rS (wc rI (w1 rI))))))) s25, .is rI many_20, .is rI x26, .any, .any, .any, .any] _ _ _ _ _
    refine xg_for C (fun s30 : (List (Int × Str × Str × Int × Int)) => [.is (rSc K) i.1, .is (rL rI) d_1, .is (rL rS) names_here_2, .is rI base_3, .is (rK kS rI) spans_11, .res (oL (rT (wc rI (wc rS (wc rS (wc rI (w1 rI))))))) s30, .is rI many_20, .is rI x26, .any, .any, .any, .any]) (s25) (JR := (JF (fun x : ((List Str) × (List (Str × Int)) × (List (Int × Str × Str × Int × Int)) × Str × Str × Int) => .is (rT (wc (rL rS) (wc (rK kS rI) (wc (rL (rT (wc rI (wc rS (wc rS (wc rI (w1 rI))))))) (wc rS (wc rS (w1 rI))))))) x) (fun _ => List.replicate N_ladder.length .any))) (inj := (fun r => Lo.out (r))) (bm := (ladder_b2 i.1 names_here_2 base_3 x26)) (q := (ladder_k3)) (xi_range1 C hf (xm_int (i := (2 : Int)))) (xtg_name C 8) (Wk.same (Wk.same (Wk.same (Wk.same (Wk.same (Wk.same (Wk.same (Wk.same (Wk.any (Wk.any (Wk.any (Wk.any Wk.nil)))))))))))) (fun s30 x31 => ?_) (Wk.toAny rfl) (fun _ _ _ h => h) (fun s30 => ?_)
    · show XG X [.is (rSc K) i.1, .is (rL rI) d_1, .is (rL rS) names_here_2, .is rI base_3, .is (rK kS rI) spans_11, .res (oL (rT (wc rI (wc rS (wc rS (wc rI (w1 rI))))))) s30, .is rI many_20, .is rI x26, .is rI x31, .any, .any, .any] _ _ _ _ _
      refine xg_asg C 9 (xm_eq (xm_call' C G_draws (xa_cons (ss := fun t : Int × Int × Unit => [Slot.is rI t.1, Slot.is rI t.2.1]) (xm_var C 0 (R := (rSc K)) (x := i.1)) (xa_cons (ss := fun t : Int × Unit => [Slot.is rI t.1]) (xm_eq (xm_binT o_add (xm_int (i := (1 : Int))) (xm_var C 7 (R := rI) (x := x26))) (rfl : _ = (Res.ok (((1 : Int) + x26)) : R0 Int))) (xa_cons (ss := fun t : Unit => []) (xm_int (i := (8 : Int))) xma_nil rfl (rfl : _ = (Res.ok (((8 : Int), ())) : R0 (Int × Unit)))) rfl (rfl : _ = (Res.ok ((((1 : Int) + x26), ((8 : Int), ()))) : R0 (Int × Int × Unit)))) rfl (rfl : _ = (Res.ok ((i.1, (((1 : Int) + x26), ((8 : Int), ())))) : R0 ((List Int) × Int × Int × Unit))))) (rfl : _ = (m_draws i.1 ((1 : Int) + x26) (8 : Int)))) (fun e_33 => ?_) (Wk.toAny rfl)
      show XG X [.is (rSc K) i.1, .is (rL rI) d_1, .is (rL rS) names_here_2, .is rI base_3, .is (rK kS rI) spans_11, .res (oL (rT (wc rI (wc rS (wc rS (wc rI (w1 rI))))))) s30, .is rI many_20, .is rI x26, .is rI x31, .is (rL rI) e_33, .any, .any] _ _ _ _ _
      refine xg_asg C 10 (xm_eq (xm_binT o_add (xm_eq (xm_binT o_add (xm_var C 3 (R := rI) (x := base_3)) (xm_eq (xm_binL o_mul (xm_int (i := (10 : Int))) (xm_var C 7 (R := rI) (x := x26)) (cmul_l (by decide))) (rfl : _ = (Res.ok (((10 : Int) * x26)) : R0 Int)))) (rfl : _ = (Res.ok ((base_3 + ((10 : Int) * x26))) : R0 Int))) (xm_eq (xm_binK o_mod (xm_eq (xm_ix i_list (xm_eq (xm_fb bfL (xm_var C 9 (R := (rL rI)) (x := e_33))) (rfl : _ = (Res.ok (e_33) : R0 (List Int)))) (xm_eq (xm_binL o_mul (xm_int (i := (4 : Int))) (xm_var C 8 (R := rI) (x := x31)) (cmul_l (by decide))) (rfl : _ = (Res.ok (((4 : Int) * x31)) : R0 Int)))) (rfl : _ = (gd (inR e_33 ((4 : Int) * x31)) (Res.ok ((ix e_33 ((4 : Int) * x31))))))) (xm_int (i := (3 : Int))) (cmod_r (by decide))) (rfl : _ = (Res.bind (gd (inR e_33 ((4 : Int) * x31)) (Res.ok ((ix e_33 ((4 : Int) * x31))))) fun v35 => Res.ok ((v35 % (3 : Int))))))) (rfl : _ = (Res.bind (Res.bind (gd (inR e_33 ((4 : Int) * x31)) (Res.ok ((ix e_33 ((4 : Int) * x31))))) fun v35 => Res.ok ((v35 % (3 : Int)))) fun v36 => Res.ok (((base_3 + ((10 : Int) * x26)) + v36))))) (fun leaves_34 => ?_) (Wk.toAny rfl)
      show XG X [.is (rSc K) i.1, .is (rL rI) d_1, .is (rL rS) names_here_2, .is rI base_3, .is (rK kS rI) spans_11, .res (oL (rT (wc rI (wc rS (wc rS (wc rI (w1 rI))))))) s30, .is rI many_20, .is rI x26, .is rI x31, .is (rL rI) e_33, .is rI leaves_34, .any] _ _ _ _ _
      refine xg_append C 5 (xm_eq (xm_tup (xr_c (xm_eq (xm_binT o_add (xm_eq (xm_binL o_mul (xm_int (i := (2 : Int))) (xm_var C 7 (R := rI) (x := x26)) (cmul_l (by decide))) (rfl : _ = (Res.ok (((2 : Int) * x26)) : R0 Int))) (xm_var C 8 (R := rI) (x := x31))) (rfl : _ = (Res.ok ((((2 : Int) * x26) + x31)) : R0 Int))) (xr_c (xm_eq (xm_ix i_list (xm_eq (xm_fb bfL (xm_var C 2 (R := (rL rS)) (x := names_here_2))) (rfl : _ = (Res.ok (names_here_2) : R0 (List Str)))) (xm_eq (xm_binK o_mod (xm_var C 7 (R := rI) (x := x26)) (xm_int (i := (3 : Int))) (cmod_r (by decide))) (rfl : _ = (Res.ok ((x26 % (3 : Int))) : R0 Int)))) (rfl : _ = (gd (inR names_here_2 (x26 % (3 : Int))) (Res.ok ((ix names_here_2 (x26 % (3 : Int)))))))) (xr_c (xm_eq (xm_ix i_list (xm_eq (xm_fb bfL (xm_var C 2 (R := (rL rS)) (x := names_here_2))) (rfl : _ = (Res.ok (names_here_2) : R0 (List Str)))) (xm_eq (xm_binK o_mod (xm_eq (xm_binT o_add (xm_var C 7 (R := rI) (x := x26)) (xm_int (i := (1 : Int)))) (rfl : _ = (Res.ok ((x26 + (1 : Int))) : R0 Int))) (xm_int (i := (3 : Int))) (cmod_r (by decide))) (rfl : _ = (Res.ok (((x26 + (1 : Int)) % (3 : Int))) : R0 Int)))) (rfl : _ = (gd (inR names_here_2 ((x26 + (1 : Int)) % (3 : Int))) (Res.ok ((ix names_here_2 ((x26 + (1 : Int)) % (3 : Int)))))))) (xr_c (xm_var C 10 (R := rI) (x := leaves_34)) (xmr_1 (xm_eq (xm_binT o_add (xm_eq (xm_binT o_add (xm_var C 10 (R := rI) (x := leaves_34)) (xm_int (i := (1 : Int)))) (rfl : _ = (Res.ok ((leaves_34 + (1 : Int))) : R0 Int))) (xm_eq (xm_binK o_mod (xm_eq (xm_ix i_list (xm_eq (xm_fb bfL (xm_var C 9 (R := (rL rI)) (x := e_33))) (rfl : _ = (Res.ok (e_33) : R0 (List Int)))) (xm_eq (xm_binT o_add (xm_eq (xm_binL o_mul (xm_int (i := (4 : Int))) (xm_var C 8 (R := rI) (x := x31)) (cmul_l (by decide))) (rfl : _ = (Res.ok (((4 : Int) * x31)) : R0 Int))) (xm_int (i := (1 : Int)))) (rfl : _ = (Res.ok ((((4 : Int) * x31) + (1 : Int))) : R0 Int)))) (rfl : _ = (gd (inR e_33 (((4 : Int) * x31) + (1 : Int))) (Res.ok ((ix e_33 (((4 : Int) * x31) + (1 : Int)))))))) (xm_int (i := (6 : Int))) (cmod_r (by decide))) (rfl : _ = (Res.bind (gd (inR e_33 (((4 : Int) * x31) + (1 : Int))) (Res.ok ((ix e_33 (((4 : Int) * x31) + (1 : Int)))))) fun v37 => Res.ok ((v37 % (6 : Int))))))) (rfl : _ = (Res.bind (Res.bind (gd (inR e_33 (((4 : Int) * x31) + (1 : Int))) (Res.ok ((ix e_33 (((4 : Int) * x31) + (1 : Int)))))) fun v37 => Res.ok ((v37 % (6 : Int)))) fun v38 => Res.ok (((leaves_34 + (1 : Int)) + v38)))))) (rfl : _ = (Res.bind (Res.bind (Res.bind (gd (inR e_33 (((4 : Int) * x31) + (1 : Int))) (Res.ok ((ix e_33 (((4 : Int) * x31) + (1 : Int)))))) fun v37 => Res.ok ((v37 % (6 : Int)))) fun v38 => Res.ok (((leaves_34 + (1 : Int)) + v38))) fun v39 => Res.ok ((leaves_34, v39)) : R0 (Int × Int)))) (rfl : _ = (Res.bind (gd (inR names_here_2 ((x26 + (1 : Int)) % (3 : Int))) (Res.ok ((ix names_here_2 ((x26 + (1 : Int)) % (3 : Int)))))) fun v40 => Res.bind (Res.bind (Res.bind (Res.bind (gd (inR e_33 (((4 : Int) * x31) + (1 : Int))) (Res.ok ((ix e_33 (((4 : Int) * x31) + (1 : Int)))))) fun v37 => Res.ok ((v37 % (6 : Int)))) fun v38 => Res.ok (((leaves_34 + (1 : Int)) + v38))) fun v39 => Res.ok ((leaves_34, v39)) : R0 (Int × Int)) fun v41 => Res.ok ((v40, v41)) : R0 (Str × Int × Int)))) (rfl : _ = (Res.bind (gd (inR names_here_2 (x26 % (3 : Int))) (Res.ok ((ix names_here_2 (x26 % (3 : Int)))))) fun v42 => Res.bind (Res.bind (gd (inR names_here_2 ((x26 + (1 : Int)) % (3 : Int))) (Res.ok ((ix names_here_2 ((x26 + (1 : Int)) % (3 : Int)))))) fun v40 => Res.bind (Res.bind (Res.bind (Res.bind (gd (inR e_33 (((4 : Int) * x31) + (1 : Int))) (Res.ok ((ix e_33 (((4 : Int) * x31) + (1 : Int)))))) fun v37 => Res.ok ((v37 % (6 : Int)))) fun v38 => Res.ok (((leaves_34 + (1 : Int)) + v38))) fun v39 => Res.ok ((leaves_34, v39)) : R0 (Int × Int)) fun v41 => Res.ok ((v40, v41)) : R0 (Str × Int × Int)) fun v43 => Res.ok ((v42, v43)) : R0 (Str × Str × Int × Int)))) (rfl : _ = (Res.bind (Res.bind (gd (inR names_here_2 (x26 % (3 : Int))) (Res.ok ((ix names_here_2 (x26 % (3 : Int)))))) fun v42 => Res.bind (Res.bind (gd (inR names_here_2 ((x26 + (1 : Int)) % (3 : Int))) (Res.ok ((ix names_here_2 ((x26 + (1 : Int)) % (3 : Int)))))) fun v40 => Res.bind (Res.bind (Res.bind (Res.bind (gd (inR e_33 (((4 : Int) * x31) + (1 : Int))) (Res.ok ((ix e_33 (((4 : Int) * x31) + (1 : Int)))))) fun v37 => Res.ok ((v37 % (6 : Int)))) fun v38 => Res.ok (((leaves_34 + (1 : Int)) + v38))) fun v39 => Res.ok ((leaves_34, v39)) : R0 (Int × Int)) fun v41 => Res.ok ((v40, v41)) : R0 (Str × Int × Int)) fun v43 => Res.ok ((v42, v43)) : R0 (Str × Str × Int × Int)) fun v44 => Res.ok (((((2 : Int) * x26) + x31), v44)) : R0 (Int × Str × Str × Int × Int))))) (rfl : _ = (Res.bind (Res.bind (gd (inR names_here_2 (x26 % (3 : Int))) (Res.ok ((ix names_here_2 (x26 % (3 : Int)))))) fun v42 => Res.bind (Res.bind (gd (inR names_here_2 ((x26 + (1 : Int)) % (3 : Int))) (Res.ok ((ix names_here_2 ((x26 + (1 : Int)) % (3 : Int)))))) fun v40 => Res.bind (Res.bind (Res.bind (Res.bind (gd (inR e_33 (((4 : Int) * x31) + (1 : Int))) (Res.ok ((ix e_33 (((4 : Int) * x31) + (1 : Int)))))) fun v37 => Res.ok ((v37 % (6 : Int)))) fun v38 => Res.ok (((leaves_34 + (1 : Int)) + v38))) fun v39 => Res.ok ((leaves_34, v39)) : R0 (Int × Int)) fun v41 => Res.ok ((v40, v41)) : R0 (Str × Int × Int)) fun v43 => Res.ok ((v42, v43)) : R0 (Str × Str × Int × Int)) fun v44 => Res.ok (((((2 : Int) * x26) + x31), v44)) : R0 (Int × Str × Str × Int × Int)))) (fun x45 => ?_) (Wk.toAny rfl)
      show XG X [.is (rSc K) i.1, .is (rL rI) d_1, .is (rL rS) names_here_2, .is rI base_3, .is (rK kS rI) spans_11, .res (oL (rT (wc rI (wc rS (wc rS (wc rI (w1 rI))))))) (s30 ++ [x45]), .is rI many_20, .is rI x26, .is rI x31, .is (rL rI) e_33, .is rI leaves_34, .any] _ _ _ _ _
      exact xg_nil ⟨_, Wk.refl _, Exists.intro ((s30 ++ [x45])) (And.intro rfl (Wk.same (Wk.same (Wk.same (Wk.same (Wk.same (Wk.same (Wk.same (Wk.same (Wk.any (Wk.any (Wk.any (Wk.any Wk.nil)))))))))))))⟩
    show XG X [.is (rSc K) i.1, .is (rL rI) d_1, .is (rL rS) names_here_2, .is rI base_3, .is (rK kS rI) spans_11, .res (oL (rT (wc rI (wc rS (wc rS (wc rI (w1 rI))))))) s30, .is rI many_20, .is rI x26, .any, .any, .any, .any] _ _ _ _ _
    exact xg_nil ⟨_, Wk.refl _, Exists.intro (s30) (And.intro rfl (Wk.same (Wk.same (Wk.same (Wk.same (Wk.same (Wk.same (Wk.same (Wk.any (Wk.any (Wk.any (Wk.any (Wk.any Wk.nil)))))))))))))⟩
  show XG X [.is (rSc K) i.1, .is (rL rI) d_1, .is (rL rS) names_here_2, .is rI base_3, .is (rK kS rI) spans_11, .res (oL (rT (wc rI (wc rS (wc rS (wc rI (w1 rI))))))) s25, .is rI many_20, .any, .any, .any, .any, .any] _ _ _ _ _
  refine xg_freeze 5 ?_
  show XG X [.is (rSc K) i.1, .is (rL rI) d_1, .is (rL rS) names_here_2, .is rI base_3, .is (rK kS rI) spans_11, .is (rL (rT (wc rI (wc rS (wc rS (wc rI (w1 rI))))))) s25, .is rI many_20, .any, .any, .any, .any, .any] _ _ _ _ _
  refine xg_if (Γ' := fun s50 : (List (Int × Str × Str × Int × Int)) => [.is (rSc K) i.1, .is (rL rI) d_1, .is (rL rS) names_here_2, .is rI base_3, .is (rK kS rI) spans_11, .is (rL (rT (wc rI (wc rS (wc rS (wc rI (w1 rI))))))) s50, .is rI many_20, .any, .any, .any, .any, .any]) (q := fun s50 : (List (Int × Str × Str × Int × Int)) => ladder_j4 d_1 names_here_2 base_3 spans_11 many_20 s50) (xmt_eq (xmt_cmp o_eqI (xm_eq (xm_binK o_mod (xm_eq (xm_ix i_list (xm_eq (xm_fb bfL (xm_var C 1 (R := (rL rI)) (x := d_1))) (rfl : _ = (Res.ok (d_1) : R0 (List Int)))) (xm_int (i := (19 : Int)))) (rfl : _ = (gd (inR d_1 (19 : Int)) (Res.ok ((ix d_1 (19 : Int))))))) (xm_int (i := (3 : Int))) (cmod_r (by decide))) (rfl : _ = (Res.bind (gd (inR d_1 (19 : Int)) (Res.ok ((ix d_1 (19 : Int))))) fun v47 => Res.ok ((v47 % (3 : Int)))))) (xm_int (i := (1 : Int)))) (rfl : _ = (Res.bind (Res.bind (gd (inR d_1 (19 : Int)) (Res.ok ((ix d_1 (19 : Int))))) fun v47 => Res.ok ((v47 % (3 : Int)))) fun v48 => Res.ok (decide (v48 = (1 : Int)))))) ?_ ?_ (fun s50 => ?_) (Wk.toAny rfl)
  · show XG X [.is (rSc K) i.1, .is (rL rI) d_1, .is (rL rS) names_here_2, .is rI base_3, .is (rK kS rI) spans_11, .is (rL (rT (wc rI (wc rS (wc rS (wc rI (w1 rI))))))) s25, .is rI many_20, .any, .any, .any, .any, .any] _ _ _ _ _
    refine xg_asg C 11 (xm_eq (xm_bin o_mod (xm_eq (xm_ix i_list (xm_eq (xm_fb bfL (xm_var C 1 (R := (rL rI)) (x := d_1))) (rfl : _ = (Res.ok (d_1) : R0 (List Int)))) (xm_int (i := (16 : Int)))) (rfl : _ = (gd (inR d_1 (16 : Int)) (Res.ok ((ix d_1 (16 : Int))))))) (xm_var C 6 (R := rI) (x := many_20))) (rfl : _ = (Res.bind (gd (inR d_1 (16 : Int)) (Res.ok ((ix d_1 (16 : Int))))) fun v52 => gd (CMod v52 many_20) (Res.ok ((v52 % many_20)))))) (fun gone_51 => ?_) (Wk.toAny rfl)
    show XG X [.is (rSc K) i.1, .is (rL rI) d_1, .is (rL rS) names_here_2, .is rI base_3, .is (rK kS rI) spans_11, .is (rL (rT (wc rI (wc rS (wc rS (wc rI (w1 rI))))))) s25, .is rI many_20, .any, .any, .any, .any, .is rI gone_51] _ _ _ _ _
    refine xg_asg C 5 (xm_eq (xm_ofO (xmo_eq (xmo_cat (xm_eq (xm_fb bfL (xm_eq (xm_ofO (xmo_eq (xmo_slice (xm_eq (xm_fb bfL (xm_var C 5 (R := (rL (rT (wc rI (wc rS (wc rS (wc rI (w1 rI)))))))) (x := s25))) (rfl : _ = (Res.ok (s25) : R0 (List (Int × Str × Str × Int × Int))))) xmp_none (xmp_some (xm_eq (xm_binL o_mul (xm_int (i := (2 : Int))) (xm_var C 11 (R := rI) (x := gone_51)) (cmul_l (by decide))) (rfl : _ = (Res.ok (((2 : Int) * gone_51)) : R0 Int))))) (rfl : _ = (Res.ok ((cut s25 none (some ((2 : Int) * gone_51)))) : R0 (List (Int × Str × Str × Int × Int)))))) (rfl : _ = (Res.ok ((cut s25 none (some ((2 : Int) * gone_51)))) : R0 (List (Int × Str × Str × Int × Int)))))) (rfl : _ = (Res.ok ((cut s25 none (some ((2 : Int) * gone_51)))) : R0 (List (Int × Str × Str × Int × Int))))) (xm_eq (xm_fb bfL (xm_eq (xm_ofO (xmo_eq (xmo_slice (xm_eq (xm_fb bfL (xm_var C 5 (R := (rL (rT (wc rI (wc rS (wc rS (wc rI (w1 rI)))))))) (x := s25))) (rfl : _ = (Res.ok (s25) : R0 (List (Int × Str × Str × Int × Int))))) (xmp_some (xm_eq (xm_binT o_add (xm_eq (xm_binL o_mul (xm_int (i := (2 : Int))) (xm_var C 11 (R := rI) (x := gone_51)) (cmul_l (by decide))) (rfl : _ = (Res.ok (((2 : Int) * gone_51)) : R0 Int))) (xm_int (i := (2 : Int)))) (rfl : _ = (Res.ok ((((2 : Int) * gone_51) + (2 : Int))) : R0 Int)))) xmp_none) (rfl : _ = (Res.ok ((cut s25 (some (((2 : Int) * gone_51) + (2 : Int))) none)) : R0 (List (Int × Str × Str × Int × Int)))))) (rfl : _ = (Res.ok ((cut s25 (some (((2 : Int) * gone_51) + (2 : Int))) none)) : R0 (List (Int × Str × Str × Int × Int)))))) (rfl : _ = (Res.ok ((cut s25 (some (((2 : Int) * gone_51) + (2 : Int))) none)) : R0 (List (Int × Str × Str × Int × Int)))))) (rfl : _ = (gd (CCat (cut s25 none (some ((2 : Int) * gone_51))) (cut s25 (some (((2 : Int) * gone_51) + (2 : Int))) none)) (Res.ok (((cut s25 none (some ((2 : Int) * gone_51))) ++ (cut s25 (some (((2 : Int) * gone_51) + (2 : Int))) none)))))))) (rfl : _ = (gd (CCat (cut s25 none (some ((2 : Int) * gone_51))) (cut s25 (some (((2 : Int) * gone_51) + (2 : Int))) none)) (Res.ok (((cut s25 none (some ((2 : Int) * gone_51))) ++ (cut s25 (some (((2 : Int) * gone_51) + (2 : Int))) none))))))) (fun rides_53 => ?_) (Wk.toAny rfl)
    show XG X [.is (rSc K) i.1, .is (rL rI) d_1, .is (rL rS) names_here_2, .is rI base_3, .is (rK kS rI) spans_11, .is (rL (rT (wc rI (wc rS (wc rS (wc rI (w1 rI))))))) rides_53, .is rI many_20, .any, .any, .any, .any, .is rI gone_51] _ _ _ _ _
    exact xg_nil ⟨_, Wk.refl _, Exists.intro (rides_53) (And.intro rfl (Wk.same (Wk.same (Wk.same (Wk.same (Wk.same (Wk.same (Wk.same (Wk.any (Wk.any (Wk.any (Wk.any (Wk.any Wk.nil)))))))))))))⟩
  · show XG X [.is (rSc K) i.1, .is (rL rI) d_1, .is (rL rS) names_here_2, .is rI base_3, .is (rK kS rI) spans_11, .is (rL (rT (wc rI (wc rS (wc rS (wc rI (w1 rI))))))) s25, .is rI many_20, .any, .any, .any, .any, .any] _ _ _ _ _
    exact xg_nil ⟨_, Wk.refl _, Exists.intro (s25) (And.intro rfl (Wk.same (Wk.same (Wk.same (Wk.same (Wk.same (Wk.same (Wk.same (Wk.any (Wk.any (Wk.any (Wk.any (Wk.any Wk.nil)))))))))))))⟩
  show XG X [.is (rSc K) i.1, .is (rL rI) d_1, .is (rL rS) names_here_2, .is rI base_3, .is (rK kS rI) spans_11, .is (rL (rT (wc rI (wc rS (wc rS (wc rI (w1 rI))))))) s50, .is rI many_20, .any, .any, .any, .any, .any] _ _ _ _ _
  refine xg_if (Γ' := fun s58 : (List (Int × Str × Str × Int × Int)) => [.is (rSc K) i.1, .is (rL rI) d_1, .is (rL rS) names_here_2, .is rI base_3, .is (rK kS rI) spans_11, .is (rL (rT (wc rI (wc rS (wc rS (wc rI (w1 rI))))))) s58, .is rI many_20, .any, .any, .any, .any, .any]) (q := fun s58 : (List (Int × Str × Str × Int × Int)) => ladder_j5 d_1 names_here_2 base_3 spans_11 many_20 s58) (xmt_eq (xmt_cmp o_eqI (xm_eq (xm_binK o_mod (xm_eq (xm_ix i_list (xm_eq (xm_fb bfL (xm_var C 1 (R := (rL rI)) (x := d_1))) (rfl : _ = (Res.ok (d_1) : R0 (List Int)))) (xm_int (i := (19 : Int)))) (rfl : _ = (gd (inR d_1 (19 : Int)) (Res.ok ((ix d_1 (19 : Int))))))) (xm_int (i := (2 : Int))) (cmod_r (by decide))) (rfl : _ = (Res.bind (gd (inR d_1 (19 : Int)) (Res.ok ((ix d_1 (19 : Int))))) fun v55 => Res.ok ((v55 % (2 : Int)))))) (xm_int (i := (1 : Int)))) (rfl : _ = (Res.bind (Res.bind (gd (inR d_1 (19 : Int)) (Res.ok ((ix d_1 (19 : Int))))) fun v55 => Res.ok ((v55 % (2 : Int)))) fun v56 => Res.ok (decide (v56 = (1 : Int)))))) ?_ ?_ (fun s58 => ?_) (Wk.toAny rfl)
  · show XG X [.is (rSc K) i.1, .is (rL rI) d_1, .is (rL rS) names_here_2, .is rI base_3, .is (rK kS rI) spans_11, .is (rL (rT (wc rI (wc rS (wc rS (wc rI (w1 rI))))))) s50, .is rI many_20, .any, .any, .any, .any, .any] _ _ _ _ _
    refine xg_asg C 5 (xm_eq (xm_ofO (xmo_eq (xmo_rev (xm_eq (xm_fb bfL (xm_var C 5 (R := (rL (rT (wc rI (wc rS (wc rS (wc rI (w1 rI)))))))) (x := s50))) (rfl : _ = (Res.ok (s50) : R0 (List (Int × Str × Str × Int × Int)))))) (rfl : _ = (Res.ok ((List.reverse s50)) : R0 (List (Int × Str × Str × Int × Int)))))) (rfl : _ = (Res.ok ((List.reverse s50)) : R0 (List (Int × Str × Str × Int × Int))))) (fun rides_59 => ?_) (Wk.toAny rfl)
    show XG X [.is (rSc K) i.1, .is (rL rI) d_1, .is (rL rS) names_here_2, .is rI base_3, .is (rK kS rI) spans_11, .is (rL (rT (wc rI (wc rS (wc rS (wc rI (w1 rI))))))) rides_59, .is rI many_20, .any, .any, .any, .any, .any] _ _ _ _ _
    exact xg_nil ⟨_, Wk.refl _, Exists.intro (rides_59) (And.intro rfl (Wk.same (Wk.same (Wk.same (Wk.same (Wk.same (Wk.same (Wk.same (Wk.any (Wk.any (Wk.any (Wk.any (Wk.any Wk.nil)))))))))))))⟩
  · show XG X [.is (rSc K) i.1, .is (rL rI) d_1, .is (rL rS) names_here_2, .is rI base_3, .is (rK kS rI) spans_11, .is (rL (rT (wc rI (wc rS (wc rS (wc rI (w1 rI))))))) s50, .is rI many_20, .any, .any, .any, .any, .any] _ _ _ _ _
    exact xg_nil ⟨_, Wk.refl _, Exists.intro (s50) (And.intro rfl (Wk.same (Wk.same (Wk.same (Wk.same (Wk.same (Wk.same (Wk.same (Wk.any (Wk.any (Wk.any (Wk.any (Wk.any Wk.nil)))))))))))))⟩
  show XG X [.is (rSc K) i.1, .is (rL rI) d_1, .is (rL rS) names_here_2, .is rI base_3, .is (rK kS rI) spans_11, .is (rL (rT (wc rI (wc rS (wc rS (wc rI (w1 rI))))))) s58, .is rI many_20, .any, .any, .any, .any, .any] _ _ _ _ _
  exact xg_ret (xm_eq (xm_tup (xr_c (xm_var C 2 (R := (rL rS)) (x := names_here_2)) (xr_c (xm_var C 4 (R := (rK kS rI)) (x := spans_11)) (xr_c (xm_var C 5 (R := (rL (rT (wc rI (wc rS (wc rS (wc rI (w1 rI)))))))) (x := s58)) (xr_c (xm_eq (xm_ix i_list (xm_eq (xm_fb bfL (xm_var C 2 (R := (rL rS)) (x := names_here_2))) (rfl : _ = (Res.ok (names_here_2) : R0 (List Str)))) (xm_int (i := (0 : Int)))) (rfl : _ = (gd (inR names_here_2 (0 : Int)) (Res.ok ((ix names_here_2 (0 : Int))))))) (xr_c (xm_eq (xm_ix i_list (xm_eq (xm_fb bfL (xm_var C 2 (R := (rL rS)) (x := names_here_2))) (rfl : _ = (Res.ok (names_here_2) : R0 (List Str)))) (xm_eq (xm_binK o_mod (xm_var C 6 (R := rI) (x := many_20)) (xm_int (i := (3 : Int))) (cmod_r (by decide))) (rfl : _ = (Res.ok ((many_20 % (3 : Int))) : R0 Int)))) (rfl : _ = (gd (inR names_here_2 (many_20 % (3 : Int))) (Res.ok ((ix names_here_2 (many_20 % (3 : Int)))))))) (xmr_1 (xm_eq (xm_binT o_sub (xm_var C 3 (R := rI) (x := base_3)) (xm_eq (xm_binK o_mod (xm_eq (xm_ix i_list (xm_eq (xm_fb bfL (xm_var C 1 (R := (rL rI)) (x := d_1))) (rfl : _ = (Res.ok (d_1) : R0 (List Int)))) (xm_int (i := (19 : Int)))) (rfl : _ = (gd (inR d_1 (19 : Int)) (Res.ok ((ix d_1 (19 : Int))))))) (xm_int (i := (4 : Int))) (cmod_r (by decide))) (rfl : _ = (Res.bind (gd (inR d_1 (19 : Int)) (Res.ok ((ix d_1 (19 : Int))))) fun v61 => Res.ok ((v61 % (4 : Int))))))) (rfl : _ = (Res.bind (Res.bind (gd (inR d_1 (19 : Int)) (Res.ok ((ix d_1 (19 : Int))))) fun v61 => Res.ok ((v61 % (4 : Int)))) fun v62 => Res.ok ((base_3 - v62)))))) (rfl : _ = (Res.bind (gd (inR names_here_2 (many_20 % (3 : Int))) (Res.ok ((ix names_here_2 (many_20 % (3 : Int)))))) fun v63 => Res.bind (Res.bind (Res.bind (gd (inR d_1 (19 : Int)) (Res.ok ((ix d_1 (19 : Int))))) fun v61 => Res.ok ((v61 % (4 : Int)))) fun v62 => Res.ok ((base_3 - v62))) fun v64 => Res.ok ((v63, v64)) : R0 (Str × Int)))) (rfl : _ = (Res.bind (gd (inR names_here_2 (0 : Int)) (Res.ok ((ix names_here_2 (0 : Int))))) fun v65 => Res.bind (Res.bind (gd (inR names_here_2 (many_20 % (3 : Int))) (Res.ok ((ix names_here_2 (many_20 % (3 : Int)))))) fun v63 => Res.bind (Res.bind (Res.bind (gd (inR d_1 (19 : Int)) (Res.ok ((ix d_1 (19 : Int))))) fun v61 => Res.ok ((v61 % (4 : Int)))) fun v62 => Res.ok ((base_3 - v62))) fun v64 => Res.ok ((v63, v64)) : R0 (Str × Int)) fun v66 => Res.ok ((v65, v66)) : R0 (Str × Str × Int)))) (rfl : _ = (Res.bind (Res.bind (gd (inR names_here_2 (0 : Int)) (Res.ok ((ix names_here_2 (0 : Int))))) fun v65 => Res.bind (Res.bind (gd (inR names_here_2 (many_20 % (3 : Int))) (Res.ok ((ix names_here_2 (many_20 % (3 : Int)))))) fun v63 => Res.bind (Res.bind (Res.bind (gd (inR d_1 (19 : Int)) (Res.ok ((ix d_1 (19 : Int))))) fun v61 => Res.ok ((v61 % (4 : Int)))) fun v62 => Res.ok ((base_3 - v62))) fun v64 => Res.ok ((v63, v64)) : R0 (Str × Int)) fun v66 => Res.ok ((v65, v66)) : R0 (Str × Str × Int)) fun v67 => Res.ok ((s58, v67)) : R0 ((List (Int × Str × Str × Int × Int)) × Str × Str × Int)))) (rfl : _ = (Res.bind (Res.bind (Res.bind (gd (inR names_here_2 (0 : Int)) (Res.ok ((ix names_here_2 (0 : Int))))) fun v65 => Res.bind (Res.bind (gd (inR names_here_2 (many_20 % (3 : Int))) (Res.ok ((ix names_here_2 (many_20 % (3 : Int)))))) fun v63 => Res.bind (Res.bind (Res.bind (gd (inR d_1 (19 : Int)) (Res.ok ((ix d_1 (19 : Int))))) fun v61 => Res.ok ((v61 % (4 : Int)))) fun v62 => Res.ok ((base_3 - v62))) fun v64 => Res.ok ((v63, v64)) : R0 (Str × Int)) fun v66 => Res.ok ((v65, v66)) : R0 (Str × Str × Int)) fun v67 => Res.ok ((s58, v67)) : R0 ((List (Int × Str × Str × Int × Int)) × Str × Str × Int)) fun v68 => Res.ok ((spans_11, v68)) : R0 ((List (Str × Int)) × (List (Int × Str × Str × Int × Int)) × Str × Str × Int)))) (rfl : _ = (Res.bind (Res.bind (Res.bind (Res.bind (gd (inR names_here_2 (0 : Int)) (Res.ok ((ix names_here_2 (0 : Int))))) fun v65 => Res.bind (Res.bind (gd (inR names_here_2 (many_20 % (3 : Int))) (Res.ok ((ix names_here_2 (many_20 % (3 : Int)))))) fun v63 => Res.bind (Res.bind (Res.bind (gd (inR d_1 (19 : Int)) (Res.ok ((ix d_1 (19 : Int))))) fun v61 => Res.ok ((v61 % (4 : Int)))) fun v62 => Res.ok ((base_3 - v62))) fun v64 => Res.ok ((v63, v64)) : R0 (Str × Int)) fun v66 => Res.ok ((v65, v66)) : R0 (Str × Str × Int)) fun v67 => Res.ok ((s58, v67)) : R0 ((List (Int × Str × Str × Int × Int)) × Str × Str × Int)) fun v68 => Res.ok ((spans_11, v68)) : R0 ((List (Str × Int)) × (List (Int × Str × Str × Int × Int)) × Str × Str × Int)) fun v69 => Res.ok ((names_here_2, v69)) : R0 ((List Str) × (List (Str × Int)) × (List (Int × Str × Str × Int × Int)) × Str × Str × Int))))) (rfl : _ = (Res.bind (Res.bind (Res.bind (Res.bind (gd (inR names_here_2 (0 : Int)) (Res.ok ((ix names_here_2 (0 : Int))))) fun v65 => Res.bind (Res.bind (gd (inR names_here_2 (many_20 % (3 : Int))) (Res.ok ((ix names_here_2 (many_20 % (3 : Int)))))) fun v63 => Res.bind (Res.bind (Res.bind (gd (inR d_1 (19 : Int)) (Res.ok ((ix d_1 (19 : Int))))) fun v61 => Res.ok ((v61 % (4 : Int)))) fun v62 => Res.ok ((base_3 - v62))) fun v64 => Res.ok ((v63, v64)) : R0 (Str × Int)) fun v66 => Res.ok ((v65, v66)) : R0 (Str × Str × Int)) fun v67 => Res.ok ((s58, v67)) : R0 ((List (Int × Str × Str × Int × Int)) × Str × Str × Int)) fun v68 => Res.ok ((spans_11, v68)) : R0 ((List (Str × Int)) × (List (Int × Str × Str × Int × Int)) × Str × Str × Int)) fun v69 => Res.ok ((names_here_2, v69)) : R0 ((List Str) × (List (Str × Int)) × (List (Int × Str × Str × Int × Int)) × Str × Str × Int)))) (fun r60 => r60) (fun _ => ⟨_, Wk.toAny rfl, And.intro rfl rfl⟩) (Wk.toAny rfl)
abbrev sp_lsoon (K : PySem.W.Frag) (mg : Str → Option Value) : Sp := spF K mg (fun i : (List (Int × Str × Str × Int × Int)) × (List (Str × Int)) × Str × Int × Unit => [.is (rL (rT (wc rI (wc rS (wc rS (wc rI (w1 rI))))))) i.1, .is (rK kS rI) i.2.1, .is rS i.2.2.1, .is rI i.2.2.2.1]) (fun i => m_lsoon i.1 i.2.1 i.2.2.1 i.2.2.2.1) (fun x : (List (Str × Int)) => .is (rL (rT (wc rS (w1 rI)))) x)
def N_lsoon : List Str := ["_law_rides", "_law_spans", "_law_start", "_law_since", "_law_found", "_law_ride", "_law_ready", "_law_site"]
theorem sc_lsoon : FnScope N_lsoon ["_law_rides", "_law_spans", "_law_start", "_law_since"] (defScope s_lsoon) := ⟨rfl, rfl, rfl, by decide +kernel, rfl, by decide +kernel, by decide +kernel⟩
theorem fk_lsoon {P : Program} {w : World} {K : PySem.W.Frag} {mg : Str → Option Value} {base : Heap} {fd : FuncData} (Fn : FnP K "_law_soon" "_law_soon" s_lsoon (He.fAd K ("_law_soon", none)) fd) (hm : mg "_law_soon" = some (.ref (He.fAd K ("_law_soon", none)))) (hf : Free mg) (TB : LamX.TabB base mg (He.cT K ("_law_soon", none)).1 (He.cT K ("_law_soon", none)).2) (HU : ∀ m ∈ lamDefs, (He.cT K (m, none)).2 = (He.cT K ("_law_soon", none)).2 → m = "_law_soon") : Fk P w K mg base 3 "_law_soon" ["_law_rides", "_law_spans", "_law_start", "_law_since"] (sp_lsoon K mg) := by
  refine fk_of Fn (fn_L (k := 2) Fn sc_lsoon (fun _ => rfl) (fun i X C hc hq => ?_)) hm (fun _ _ _ _ _ _ us hl => match us, hl with | [_, _, _, _], _ => rfl)
  have LA := lamAt_of C TB hc hq (by decide) HU (by decide +kernel)
  show XG X [.is (rL (rT (wc rI (wc rS (wc rS (wc rI (w1 rI))))))) i.1, .is (rK kS rI) i.2.1, .is rS i.2.2.1, .is rI i.2.2.2.1, .any, .any, .any, .any] _ _ _ _ _
  refine xg_asgO C 4 (xmo_eq (xmo_dict1 (A := kS) C (xm_var C 2 (R := rS) (x := i.2.2.1)) (xm_var C 3 (R := rI) (x := i.2.2.2.1))) (rfl : _ = (Res.ok ([(i.2.2.1, i.2.2.2.1)]) : R0 (List (Str × Int))))) (fun found_1 => ?_) (Wk.toAny rfl)
  show XG X [.is (rL (rT (wc rI (wc rS (wc rS (wc rI (w1 rI))))))) i.1, .is (rK kS rI) i.2.1, .is rS i.2.2.1, .is rI i.2.2.2.1, .res (oK kS rI) found_1, .any, .any, .any] _ _ _ _ _
  refine xg_for C (fun s3 : (List (Str × Int)) => [.is (rL (rT (wc rI (wc rS (wc rS (wc rI (w1 rI))))))) i.1, .is (rK kS rI) i.2.1, .is rS i.2.2.1, .is rI i.2.2.2.1, .res (oK kS rI) s3, .any, .any, .any]) (found_1) (JR := (JF (fun x : (List (Str × Int)) => .is (rL (rT (wc rS (w1 rI)))) x) (fun _ => List.replicate N_lsoon.length .any))) (inj := (fun r => r)) (bm := (lsoon_b0 i.2.1)) (q := (lsoon_k1)) (xi_list (xm_eq (xm_ofO (xmo_eq (xmo_sortKey C hf keyL3 (kk1 3) "_law_one" (xm_eq (xm_fb bfL (xm_var C 0 (R := (rL (rT (wc rI (wc rS (wc rS (wc rI (w1 rI)))))))) (x := i.1))) (rfl : _ = (Res.ok (i.1) : R0 (List (Int × Str × Str × Int × Int))))) LA (by decide +kernel) kr1 (fun F vs x its h v => keyL3_kk h v) keyL3_al (fun bs => PySem.W.Sortable.others fun b => ⟨(by simp [keyL3]), (by simp [keyL3])⟩) keyL3_dep (C.deep (by decide))) (rfl : _ = (Res.ok ((List.mergeSort i.1 (PySem.W.dataLe false keyL3))) : R0 (List (Int × Str × Str × Int × Int)))))) (rfl : _ = (Res.ok ((List.mergeSort i.1 (PySem.W.dataLe false keyL3))) : R0 (List (Int × Str × Str × Int × Int)))))) (xtg_name C 5) (Wk.same (Wk.same (Wk.same (Wk.same (Wk.same (Wk.any (Wk.any (Wk.any Wk.nil)))))))) (fun s3 x4 => ?_) (Wk.toAny rfl) (fun _ _ _ h => h) (fun s3 => ?_)
  · show XG X [.is (rL (rT (wc rI (wc rS (wc rS (wc rI (w1 rI))))))) i.1, .is (rK kS rI) i.2.1, .is rS i.2.2.1, .is rI i.2.2.2.1, .res (oK kS rI) s3, .is (rT (wc rI (wc rS (wc rS (wc rI (w1 rI)))))) x4, .any, .any] _ _ _ _ _
    refine xg_if (Γ' := fun s7 : (List (Str × Int)) => [.is (rL (rT (wc rI (wc rS (wc rS (wc rI (w1 rI))))))) i.1, .is (rK kS rI) i.2.1, .is rS i.2.2.1, .is rI i.2.2.2.1, .res (oK kS rI) s7, .is (rT (wc rI (wc rS (wc rS (wc rI (w1 rI)))))) x4, .any, .any]) (q := fun s7 : (List (Str × Int)) => lsoon_j2 s7) (xmt_eq (xmt_cmp o_le (xm_eq (xm_dgetX C (A := kS) (R := rI) (xm_bor C 4 (A := (oK kS rI)) (x := s3) bwK) (xm_eq (ma1 (xm_var C 5 (R := (rT (wc rI (wc rS (wc rS (wc rI (w1 rI))))))) (x := x4))) (rfl : _ = (Res.ok (x4.2.1) : R0 Str))) (xm_eq (xm_binT o_add (xm_eq (ma3 (xm_var C 5 (R := (rT (wc rI (wc rS (wc rS (wc rI (w1 rI))))))) (x := x4))) (rfl : _ = (Res.ok (x4.2.2.2.1) : R0 Int))) (xm_int (i := (1 : Int)))) (rfl : _ = (Res.ok ((x4.2.2.2.1 + (1 : Int))) : R0 Int)))) (rfl : _ = (Res.ok ((Option.getD (look s3 x4.2.1) (x4.2.2.2.1 + (1 : Int)))) : R0 Int))) (xm_eq (ma3 (xm_var C 5 (R := (rT (wc rI (wc rS (wc rS (wc rI (w1 rI))))))) (x := x4))) (rfl : _ = (Res.ok (x4.2.2.2.1) : R0 Int)))) (rfl : _ = (Res.ok (decide ((Option.getD (look s3 x4.2.1) (x4.2.2.2.1 + (1 : Int))) ≤ x4.2.2.2.1)) : R0 Bool))) ?_ ?_ (fun s7 => ?_) (Wk.toAny rfl)
    · show XG X [.is (rL (rT (wc rI (wc rS (wc rS (wc rI (w1 rI))))))) i.1, .is (rK kS rI) i.2.1, .is rS i.2.2.1, .is rI i.2.2.2.1, .res (oK kS rI) s3, .is (rT (wc rI (wc rS (wc rS (wc rI (w1 rI)))))) x4, .any, .any] _ _ _ _ _
      refine xg_asg C 6 (xm_eq (xm_binT o_add (xm_eq (ma4l (xm_var C 5 (R := (rT (wc rI (wc rS (wc rS (wc rI (w1 rI))))))) (x := x4))) (rfl : _ = (Res.ok (x4.2.2.2.2) : R0 Int))) (xm_eq (xm_dget C (A := kS) (R := rI) (xm_eq (xm_fb bfK (xm_var C 1 (R := (rK kS rI)) (x := i.2.1))) (rfl : _ = (Res.ok (i.2.1) : R0 (List (Str × Int))))) (xm_eq (ma2 (xm_var C 5 (R := (rT (wc rI (wc rS (wc rS (wc rI (w1 rI))))))) (x := x4))) (rfl : _ = (Res.ok (x4.2.2.1) : R0 Str)))) (rfl : _ = (gd (has i.2.1 x4.2.2.1 = true) (Res.ok ((Option.getD (look i.2.1 x4.2.2.1) default))))))) (rfl : _ = (Res.bind (gd (has i.2.1 x4.2.2.1 = true) (Res.ok ((Option.getD (look i.2.1 x4.2.2.1) default)))) fun v9 => Res.ok ((x4.2.2.2.2 + v9))))) (fun ready_8 => ?_) (Wk.toAny rfl)
      show XG X [.is (rL (rT (wc rI (wc rS (wc rS (wc rI (w1 rI))))))) i.1, .is (rK kS rI) i.2.1, .is rS i.2.2.1, .is rI i.2.2.2.1, .res (oK kS rI) s3, .is (rT (wc rI (wc rS (wc rS (wc rI (w1 rI)))))) x4, .is rI ready_8, .any] _ _ _ _ _
      refine xg_dput C 4 (A := kS) (R := rI) (d := s3) (xm_eq (xm_eq (xm_b2 C hf (c_min2 C) (xm_eq (xm_dgetX C (A := kS) (R := rI) (xm_bor C 4 (A := (oK kS rI)) (x := s3) bwK) (xm_eq (ma2 (xm_var C 5 (R := (rT (wc rI (wc rS (wc rS (wc rI (w1 rI))))))) (x := x4))) (rfl : _ = (Res.ok (x4.2.2.1) : R0 Str))) (xm_var C 6 (R := rI) (x := ready_8))) (rfl : _ = (Res.ok ((Option.getD (look s3 x4.2.2.1) ready_8)) : R0 Int))) (xm_var C 6 (R := rI) (x := ready_8)) boot_min) (alw2_eq _ _ _)) (rfl : _ = (Res.ok ((minI (Option.getD (look s3 x4.2.2.1) ready_8) ready_8)) : R0 Int))) (xm_eq (ma2 (xm_var C 5 (R := (rT (wc rI (wc rS (wc rS (wc rI (w1 rI))))))) (x := x4))) (rfl : _ = (Res.ok (x4.2.2.1) : R0 Str))) (fun x10 q11 => ?_) (Wk.toAny rfl)
      show XG X [.is (rL (rT (wc rI (wc rS (wc rS (wc rI (w1 rI))))))) i.1, .is (rK kS rI) i.2.1, .is rS i.2.2.1, .is rI i.2.2.2.1, .res (oK kS rI) (dput s3 q11 x10), .is (rT (wc rI (wc rS (wc rS (wc rI (w1 rI)))))) x4, .is rI ready_8, .any] _ _ _ _ _
      exact xg_nil ⟨_, Wk.refl _, Exists.intro ((dput s3 q11 x10)) (And.intro rfl (Wk.same (Wk.same (Wk.same (Wk.same (Wk.same (Wk.same (Wk.any (Wk.any Wk.nil)))))))))⟩
    · show XG X [.is (rL (rT (wc rI (wc rS (wc rS (wc rI (w1 rI))))))) i.1, .is (rK kS rI) i.2.1, .is rS i.2.2.1, .is rI i.2.2.2.1, .res (oK kS rI) s3, .is (rT (wc rI (wc rS (wc rS (wc rI (w1 rI)))))) x4, .any, .any] _ _ _ _ _
      exact xg_nil ⟨_, Wk.refl _, Exists.intro (s3) (And.intro rfl (Wk.same (Wk.same (Wk.same (Wk.same (Wk.same (Wk.same (Wk.any (Wk.any Wk.nil)))))))))⟩
    show XG X [.is (rL (rT (wc rI (wc rS (wc rS (wc rI (w1 rI))))))) i.1, .is (rK kS rI) i.2.1, .is rS i.2.2.1, .is rI i.2.2.2.1, .res (oK kS rI) s7, .is (rT (wc rI (wc rS (wc rS (wc rI (w1 rI)))))) x4, .any, .any] _ _ _ _ _
    exact xg_nil ⟨_, Wk.refl _, Exists.intro (s7) (And.intro rfl (Wk.same (Wk.same (Wk.same (Wk.same (Wk.same (Wk.any (Wk.any (Wk.any Wk.nil)))))))))⟩
  show XG X [.is (rL (rT (wc rI (wc rS (wc rS (wc rI (w1 rI))))))) i.1, .is (rK kS rI) i.2.1, .is rS i.2.2.1, .is rI i.2.2.2.1, .res (oK kS rI) s3, .any, .any, .any] _ _ _ _ _
  exact xg_ret (xm_eq (xm_ofO (xmo_eq (xmo_eq (xmo_b1 C hf (n_sorted C) (xm_eq (xm_fb bfL (xm_eq (xm_ofO (xmo_eq (xmo_lockV (A := kS) (R := rI) (d := s3) 4 (OwnG.is (OwnG.is (OwnG.is (OwnG.is (OwnG.res inferInstance (OwnG.any (OwnG.any (OwnG.any OwnG.nil)))))))) (xmo_eq (xmo_comp C [("_law_site", 7)] (xi_keys (xm_var C 4 (R := (rKl kS rI)) (x := s3))) (fun _ C' => (xtg_name C' 7)) (fun _ C' y13 => xmts_nil) (fun _ C' y13 => (xm_eq (xm_tup (xr_c (xm_var C' 7 (R := rS) (x := y13)) (xmr_1 (xm_eq (xm_dget C' (A := kS) (R := rI) (xm_eq (xm_fb bfKl (xm_var C' 4 (R := (rKl kS rI)) (x := s3))) (rfl : _ = (Res.ok (s3) : R0 (List (Str × Int))))) (xm_var C' 7 (R := rS) (x := y13))) (rfl : _ = (gd (has s3 y13 = true) (Res.ok ((Option.getD (look s3 y13) default))))))) (rfl : _ = (Res.bind (gd (has s3 y13 = true) (Res.ok ((Option.getD (look s3 y13) default)))) fun v14 => Res.ok ((y13, v14)) : R0 (Str × Int))))) (rfl : _ = (Res.bind (gd (has s3 y13 = true) (Res.ok ((Option.getD (look s3 y13) default)))) fun v14 => Res.ok ((y13, v14)) : R0 (Str × Int))))) (pm := (fun y13 : Str => (Res.ok true : R0 Bool))) (gm := (fun y13 : Str => (Res.bind (gd (has s3 y13 = true) (Res.ok ((Option.getD (look s3 y13) default)))) fun v14 => Res.ok ((y13, v14)) : R0 (Str × Int))))) (rfl : _ = (gd (List.length (List.map (fun z => z.1) s3) ≤ sizeLine) (compR (fun y13 : Str => (Res.ok true : R0 Bool)) (fun y13 : Str => (Res.bind (gd (has s3 y13 = true) (Res.ok ((Option.getD (look s3 y13) default)))) fun v14 => Res.ok ((y13, v14)) : R0 (Str × Int))) (List.map (fun z => z.1) s3)))))) (rfl : _ = (noEx (gd (List.length (List.map (fun z => z.1) s3) ≤ sizeLine) (compR (fun y13 : Str => (Res.ok true : R0 Bool)) (fun y13 : Str => (Res.bind (gd (has s3 y13 = true) (Res.ok ((Option.getD (look s3 y13) default)))) fun v14 => Res.ok ((y13, v14)) : R0 (Str × Int))) (List.map (fun z => z.1) s3))))))) (rfl : _ = (noEx (gd (List.length (List.map (fun z => z.1) s3) ≤ sizeLine) (compR (fun y13 : Str => (Res.ok true : R0 Bool)) (fun y13 : Str => (Res.bind (gd (has s3 y13 = true) (Res.ok ((Option.getD (look s3 y13) default)))) fun v14 => Res.ok ((y13, v14)) : R0 (Str × Int))) (List.map (fun z => z.1) s3))))))) (rfl : _ = (noEx (gd (List.length (List.map (fun z => z.1) s3) ≤ sizeLine) (compR (fun y13 : Str => (Res.ok true : R0 Bool)) (fun y13 : Str => (Res.bind (gd (has s3 y13 = true) (Res.ok ((Option.getD (look s3 y13) default)))) fun v14 => Res.ok ((y13, v14)) : R0 (Str × Int))) (List.map (fun z => z.1) s3)))))) boot_sorted) (alw_eq _ _)) (rfl : _ = (Res.bind (noEx (gd (List.length (List.map (fun z => z.1) s3) ≤ sizeLine) (compR (fun y13 : Str => (Res.ok true : R0 Bool)) (fun y13 : Str => (Res.bind (gd (has s3 y13 = true) (Res.ok ((Option.getD (look s3 y13) default)))) fun v14 => Res.ok ((y13, v14)) : R0 (Str × Int))) (List.map (fun z => z.1) s3)))) fun v15 => Res.ok ((srt (rT (wc rS (w1 rI))) v15)))))) (rfl : _ = (Res.bind (noEx (gd (List.length (List.map (fun z => z.1) s3) ≤ sizeLine) (compR (fun y13 : Str => (Res.ok true : R0 Bool)) (fun y13 : Str => (Res.bind (gd (has s3 y13 = true) (Res.ok ((Option.getD (look s3 y13) default)))) fun v14 => Res.ok ((y13, v14)) : R0 (Str × Int))) (List.map (fun z => z.1) s3)))) fun v15 => Res.ok ((srt (rT (wc rS (w1 rI))) v15))))) (fun r12 => r12) (fun _ => ⟨_, Wk.toAny rfl, And.intro rfl rfl⟩) (Wk.toAny rfl)
abbrev sp_law (K : PySem.W.Frag) (mg : Str → Option Value) : Sp := spF K mg (fun i : (List Int) × Unit => [.is (rSc K) i.1]) (fun i => m_law i.1) (fun x : Bool => .is rB x)
def N_law : List Str := ["_law_script", "_law_names_here", "_law_spans", "_law_rides", "_law_start", "_law_goal", "_law_since", "_law_d", "_law_e", "_law_kept", "_law_shared", "_law_due", "_law_paper", "_law_ride"]
theorem sc_law : FnScope N_law ["_law_script"] (defScope s_law) := ⟨rfl, rfl, rfl, by decide +kernel, rfl, by decide +kernel, by decide +kernel⟩
theorem ok_law {P : Program} {w : World} {K : PySem.W.Frag} {mg : Str → Option Value} {base : Heap} {f : Addr} {fd : FuncData} (Fn : FnP K "law" "law" s_law f fd) (hf : Free mg) (G_lbars : Fk P w K mg base 1 "_law_bars" ["_law_rides", "_law_spans", "_law_start", "_law_goal", "_law_since", "_law_paper"] (sp_lbars K mg)) (G_draws : Fk P w K mg base 1 "_law_draws" ["_law_script", "_law_at", "_law_many"] (sp_draws K mg)) (G_ladder : Fk P w K mg base 2 "_law_ladder" ["_law_script"] (sp_ladder K mg)) (G_plan : Fk P w K mg base 3 "_law_plan" ["_law_rides", "_law_spans", "_law_start", "_law_goal", "_law_since", "_law_kept", "_law_shared"] (sp_plan K mg)) (G_sameF : Fk P w K mg base 6 "_law_same" ["_law_found", "_law_due"] (sp_sameF K mg)) (G_lsoon : Fk P w K mg base 3 "_law_soon" ["_law_rides", "_law_spans", "_law_start", "_law_since"] (sp_lsoon K mg)) (G_bars : Fk P w K mg base 1 "bars" ["rides", "spans", "start", "goal", "since", "paper"] (sp_bars K mg)) (G_least : Fk P w K mg base 4 "least_change" ["rides", "spans", "start", "goal", "since", "kept", "shared"] (sp_least K mg)) (G_no_way : Fk P w K mg base 5 "no_way" ["rides", "spans", "start", "goal", "since"] (sp_no_way K mg)) (G_soonest : Fk P w K mg base 4 "soonest" ["rides", "spans", "start", "since"] (sp_soonest K mg)) : FnOk P w K mg base (L2.CX P w) 7 f fd ["_law_script"] (sp_law K mg) := by
  refine fn_F (k := 6) Fn sc_law (fun _ => rfl) (fun i X C => ?_)
  show XG X [.is (rSc K) i.1, .any, .any, .any, .any, .any, .any, .any, .any, .any, .any, .any, .any, .any] _ _ _ _ _
  refine xg_unpack (xm_eq (xm_call' C G_ladder (xa_cons (ss := fun t : Unit => []) (xm_var C 0 (R := (rSc K)) (x := i.1)) xma_nil rfl (rfl : _ = (Res.ok ((i.1, ())) : R0 ((List Int) × Unit))))) (rfl : _ = (m_ladder i.1))) (xtg_tup C (xtgs_c (xtg_name C 1) (xtgs_c (xtg_name C 2) (xtgs_c (xtg_name C 3) (xtgs_c (xtg_name C 4) (xtgs_c (xtg_name C 5) (xtgs_1 (xtg_name C 6)))))))) (fun u1 => ?_) (Wk.toAny rfl)
  show XG X [.is (rSc K) i.1, .is (rL rS) u1.1, .is (rK kS rI) u1.2.1, .is (rL (rT (wc rI (wc rS (wc rS (wc rI (w1 rI))))))) u1.2.2.1, .is rS u1.2.2.2.1, .is rS u1.2.2.2.2.1, .is rI u1.2.2.2.2.2, .any, .any, .any, .any, .any, .any, .any] _ _ _ _ _
  refine xg_asg C 7 (xm_eq (xm_call' C G_draws (xa_cons (ss := fun t : Int × Int × Unit => [Slot.is rI t.1, Slot.is rI t.2.1]) (xm_var C 0 (R := (rSc K)) (x := i.1)) (xa_cons (ss := fun t : Int × Unit => [Slot.is rI t.1]) (xm_int (i := (22 : Int))) (xa_cons (ss := fun t : Unit => []) (xm_int (i := (40 : Int))) xma_nil rfl (rfl : _ = (Res.ok (((40 : Int), ())) : R0 (Int × Unit)))) rfl (rfl : _ = (Res.ok (((22 : Int), ((40 : Int), ()))) : R0 (Int × Int × Unit)))) rfl (rfl : _ = (Res.ok ((i.1, ((22 : Int), ((40 : Int), ())))) : R0 ((List Int) × Int × Int × Unit))))) (rfl : _ = (m_draws i.1 (22 : Int) (40 : Int)))) (fun d_2 => ?_) (Wk.toAny rfl)
  show XG X [.is (rSc K) i.1, .is (rL rS) u1.1, .is (rK kS rI) u1.2.1, .is (rL (rT (wc rI (wc rS (wc rS (wc rI (w1 rI))))))) u1.2.2.1, .is rS u1.2.2.2.1, .is rS u1.2.2.2.2.1, .is rI u1.2.2.2.2.2, .is (rL rI) d_2, .any, .any, .any, .any, .any, .any] _ _ _ _ _
  refine xg_asg C 8 (xm_eq (xm_call' C G_draws (xa_cons (ss := fun t : Int × Int × Unit => [Slot.is rI t.1, Slot.is rI t.2.1]) (xm_var C 0 (R := (rSc K)) (x := i.1)) (xa_cons (ss := fun t : Int × Unit => [Slot.is rI t.1]) (xm_int (i := (23 : Int))) (xa_cons (ss := fun t : Unit => []) (xm_int (i := (40 : Int))) xma_nil rfl (rfl : _ = (Res.ok (((40 : Int), ())) : R0 (Int × Unit)))) rfl (rfl : _ = (Res.ok (((23 : Int), ((40 : Int), ()))) : R0 (Int × Int × Unit)))) rfl (rfl : _ = (Res.ok ((i.1, ((23 : Int), ((40 : Int), ())))) : R0 ((List Int) × Int × Int × Unit))))) (rfl : _ = (m_draws i.1 (23 : Int) (40 : Int)))) (fun e_3 => ?_) (Wk.toAny rfl)
  show XG X [.is (rSc K) i.1, .is (rL rS) u1.1, .is (rK kS rI) u1.2.1, .is (rL (rT (wc rI (wc rS (wc rS (wc rI (w1 rI))))))) u1.2.2.1, .is rS u1.2.2.2.1, .is rS u1.2.2.2.2.1, .is rI u1.2.2.2.2.2, .is (rL rI) d_2, .is (rL rI) e_3, .any, .any, .any, .any, .any] _ _ _ _ _
  refine xg_asgC C 9 [("_law_ride", 13)] (xi_list (xm_var C 3 (R := (rL (rT (wc rI (wc rS (wc rS (wc rI (w1 rI)))))))) (x := u1.2.2.1))) (fun _ C' => (xtg_name C' 13)) (fun _ C' y5 => (xmts_one (xmt_eq (xmt_cmp o_eqI (xm_eq (xm_binK o_mod (xm_eq (xm_ix i_list (xm_eq (xm_fb bfL (xm_var C' 7 (R := (rL rI)) (x := d_2))) (rfl : _ = (Res.ok (d_2) : R0 (List Int)))) (xm_eq (ma0 (xm_var C' 13 (R := (rT (wc rI (wc rS (wc rS (wc rI (w1 rI))))))) (x := y5))) (rfl : _ = (Res.ok (y5.1) : R0 Int)))) (rfl : _ = (gd (inR d_2 y5.1) (Res.ok ((ix d_2 y5.1)))))) (xm_int (i := (2 : Int))) (cmod_r (by decide))) (rfl : _ = (Res.bind (gd (inR d_2 y5.1) (Res.ok ((ix d_2 y5.1)))) fun v7 => Res.ok ((v7 % (2 : Int)))))) (xm_int (i := (1 : Int)))) (rfl : _ = (Res.bind (Res.bind (gd (inR d_2 y5.1) (Res.ok ((ix d_2 y5.1)))) fun v7 => Res.ok ((v7 % (2 : Int)))) fun v8 => Res.ok (decide (v8 = (1 : Int)))))))) (fun _ C' y5 => (xm_eq (ma0 (xm_var C' 13 (R := (rT (wc rI (wc rS (wc rS (wc rI (w1 rI))))))) (x := y5))) (rfl : _ = (Res.ok (y5.1) : R0 Int)))) (pm := (fun y5 : (Int × Str × Str × Int × Int) => (Res.bind (Res.bind (gd (inR d_2 y5.1) (Res.ok ((ix d_2 y5.1)))) fun v7 => Res.ok ((v7 % (2 : Int)))) fun v8 => Res.ok (decide (v8 = (1 : Int)))))) (gm := (fun y5 : (Int × Str × Str × Int × Int) => (Res.ok (y5.1) : R0 Int))) (fun kept_4 => ?_) (Wk.toAny rfl)
  show XG X [.is (rSc K) i.1, .is (rL rS) u1.1, .is (rK kS rI) u1.2.1, .is (rL (rT (wc rI (wc rS (wc rS (wc rI (w1 rI))))))) u1.2.2.1, .is rS u1.2.2.2.1, .is rS u1.2.2.2.2.1, .is rI u1.2.2.2.2.2, .is (rL rI) d_2, .is (rL rI) e_3, .res (oL rI) kept_4, .any, .any, .any, .any] _ _ _ _ _
  refine xg_freeze 9 ?_
  show XG X [.is (rSc K) i.1, .is (rL rS) u1.1, .is (rK kS rI) u1.2.1, .is (rL (rT (wc rI (wc rS (wc rS (wc rI (w1 rI))))))) u1.2.2.1, .is rS u1.2.2.2.1, .is rS u1.2.2.2.2.1, .is rI u1.2.2.2.2.2, .is (rL rI) d_2, .is (rL rI) e_3, .is (rL rI) kept_4, .any, .any, .any, .any] _ _ _ _ _
  refine xg_asgC C 10 [("_law_ride", 13)] (xi_list (xm_var C 3 (R := (rL (rT (wc rI (wc rS (wc rS (wc rI (w1 rI)))))))) (x := u1.2.2.1))) (fun _ C' => (xtg_name C' 13)) (fun _ C' y10 => (xmts_one (xmt_eq (xmt_cmp o_eqI (xm_eq (xm_binK o_mod (xm_eq (xm_ix i_list (xm_eq (xm_fb bfL (xm_var C' 8 (R := (rL rI)) (x := e_3))) (rfl : _ = (Res.ok (e_3) : R0 (List Int)))) (xm_eq (ma0 (xm_var C' 13 (R := (rT (wc rI (wc rS (wc rS (wc rI (w1 rI))))))) (x := y10))) (rfl : _ = (Res.ok (y10.1) : R0 Int)))) (rfl : _ = (gd (inR e_3 y10.1) (Res.ok ((ix e_3 y10.1)))))) (xm_int (i := (5 : Int))) (cmod_r (by decide))) (rfl : _ = (Res.bind (gd (inR e_3 y10.1) (Res.ok ((ix e_3 y10.1)))) fun v12 => Res.ok ((v12 % (5 : Int)))))) (xm_int (i := (1 : Int)))) (rfl : _ = (Res.bind (Res.bind (gd (inR e_3 y10.1) (Res.ok ((ix e_3 y10.1)))) fun v12 => Res.ok ((v12 % (5 : Int)))) fun v13 => Res.ok (decide (v13 = (1 : Int)))))))) (fun _ C' y10 => (xm_eq (ma0 (xm_var C' 13 (R := (rT (wc rI (wc rS (wc rS (wc rI (w1 rI))))))) (x := y10))) (rfl : _ = (Res.ok (y10.1) : R0 Int)))) (pm := (fun y10 : (Int × Str × Str × Int × Int) => (Res.bind (Res.bind (gd (inR e_3 y10.1) (Res.ok ((ix e_3 y10.1)))) fun v12 => Res.ok ((v12 % (5 : Int)))) fun v13 => Res.ok (decide (v13 = (1 : Int)))))) (gm := (fun y10 : (Int × Str × Str × Int × Int) => (Res.ok (y10.1) : R0 Int))) (fun shared_9 => ?_) (Wk.toAny rfl)
  show XG X [.is (rSc K) i.1, .is (rL rS) u1.1, .is (rK kS rI) u1.2.1, .is (rL (rT (wc rI (wc rS (wc rS (wc rI (w1 rI))))))) u1.2.2.1, .is rS u1.2.2.2.1, .is rS u1.2.2.2.2.1, .is rI u1.2.2.2.2.2, .is (rL rI) d_2, .is (rL rI) e_3, .is (rL rI) kept_4, .res (oL rI) shared_9, .any, .any, .any] _ _ _ _ _
  refine xg_freeze 10 ?_
  show XG X [.is (rSc K) i.1, .is (rL rS) u1.1, .is (rK kS rI) u1.2.1, .is (rL (rT (wc rI (wc rS (wc rS (wc rI (w1 rI))))))) u1.2.2.1, .is rS u1.2.2.2.1, .is rS u1.2.2.2.2.1, .is rI u1.2.2.2.2.2, .is (rL rI) d_2, .is (rL rI) e_3, .is (rL rI) kept_4, .is (rL rI) shared_9, .any, .any, .any] _ _ _ _ _
  refine xg_asg C 11 (xm_eq (xm_call' C G_plan (xa_cons (ss := fun t : (List (Str × Int)) × Str × Str × Int × (List Int) × (List Int) × Unit => [Slot.is (rK kS rI) t.1, Slot.is rS t.2.1, Slot.is rS t.2.2.1, Slot.is rI t.2.2.2.1, Slot.is (rL rI) t.2.2.2.2.1, Slot.is (rL rI) t.2.2.2.2.2.1]) (xm_var C 3 (R := (rL (rT (wc rI (wc rS (wc rS (wc rI (w1 rI)))))))) (x := u1.2.2.1)) (xa_cons (ss := fun t : Str × Str × Int × (List Int) × (List Int) × Unit => [Slot.is rS t.1, Slot.is rS t.2.1, Slot.is rI t.2.2.1, Slot.is (rL rI) t.2.2.2.1, Slot.is (rL rI) t.2.2.2.2.1]) (xm_var C 2 (R := (rK kS rI)) (x := u1.2.1)) (xa_cons (ss := fun t : Str × Int × (List Int) × (List Int) × Unit => [Slot.is rS t.1, Slot.is rI t.2.1, Slot.is (rL rI) t.2.2.1, Slot.is (rL rI) t.2.2.2.1]) (xm_var C 4 (R := rS) (x := u1.2.2.2.1)) (xa_cons (ss := fun t : Int × (List Int) × (List Int) × Unit => [Slot.is rI t.1, Slot.is (rL rI) t.2.1, Slot.is (rL rI) t.2.2.1]) (xm_var C 5 (R := rS) (x := u1.2.2.2.2.1)) (xa_cons (ss := fun t : (List Int) × (List Int) × Unit => [Slot.is (rL rI) t.1, Slot.is (rL rI) t.2.1]) (xm_var C 6 (R := rI) (x := u1.2.2.2.2.2)) (xa_cons (ss := fun t : (List Int) × Unit => [Slot.is (rL rI) t.1]) (xm_var C 9 (R := (rL rI)) (x := kept_4)) (xa_cons (ss := fun t : Unit => []) (xm_var C 10 (R := (rL rI)) (x := shared_9)) xma_nil rfl (rfl : _ = (Res.ok ((shared_9, ())) : R0 ((List Int) × Unit)))) rfl (rfl : _ = (Res.ok ((kept_4, (shared_9, ()))) : R0 ((List Int) × (List Int) × Unit)))) rfl (rfl : _ = (Res.ok ((u1.2.2.2.2.2, (kept_4, (shared_9, ())))) : R0 (Int × (List Int) × (List Int) × Unit)))) rfl (rfl : _ = (Res.ok ((u1.2.2.2.2.1, (u1.2.2.2.2.2, (kept_4, (shared_9, ()))))) : R0 (Str × Int × (List Int) × (List Int) × Unit)))) rfl (rfl : _ = (Res.ok ((u1.2.2.2.1, (u1.2.2.2.2.1, (u1.2.2.2.2.2, (kept_4, (shared_9, ())))))) : R0 (Str × Str × Int × (List Int) × (List Int) × Unit)))) rfl (rfl : _ = (Res.ok ((u1.2.1, (u1.2.2.2.1, (u1.2.2.2.2.1, (u1.2.2.2.2.2, (kept_4, (shared_9, ()))))))) : R0 ((List (Str × Int)) × Str × Str × Int × (List Int) × (List Int) × Unit)))) rfl (rfl : _ = (Res.ok ((u1.2.2.1, (u1.2.1, (u1.2.2.2.1, (u1.2.2.2.2.1, (u1.2.2.2.2.2, (kept_4, (shared_9, ())))))))) : R0 ((List (Int × Str × Str × Int × Int)) × (List (Str × Int)) × Str × Str × Int × (List Int) × (List Int) × Unit))))) (rfl : _ = (m_plan u1.2.2.1 u1.2.1 u1.2.2.2.1 u1.2.2.2.2.1 u1.2.2.2.2.2 kept_4 shared_9))) (fun due_14 => ?_) (Wk.toAny rfl)
  show XG X [.is (rSc K) i.1, .is (rL rS) u1.1, .is (rK kS rI) u1.2.1, .is (rL (rT (wc rI (wc rS (wc rS (wc rI (w1 rI))))))) u1.2.2.1, .is rS u1.2.2.2.1, .is rS u1.2.2.2.2.1, .is rI u1.2.2.2.2.2, .is (rL rI) d_2, .is (rL rI) e_3, .is (rL rI) kept_4, .is (rL rI) shared_9, .is (rO (rL rI)) due_14, .any, .any] _ _ _ _ _
  refine xg_if1 (xmt_eq (xmt_not (xmt_eq (xmt_val (xm_eq (xm_call' C G_sameF (xa_cons (ss := fun t : PyData × Unit => [Slot.is rP t.1]) (xm_eq (xm_lp (R := (rO (rL rI))) (xm_eq (xm_call' C G_least (xa_cons (ss := fun t : (List (Str × Int)) × Str × Str × Int × (List Int) × (List Int) × Unit => [Slot.is (rK kS rI) t.1, Slot.is rS t.2.1, Slot.is rS t.2.2.1, Slot.is rI t.2.2.2.1, Slot.is (rL rI) t.2.2.2.2.1, Slot.is (rL rI) t.2.2.2.2.2.1]) (xm_eq (xm_ofO (xmo_eq (xmo_eq (xmo_t1 C hf n_list (xm_eq (xm_fb bfL (xm_var C 3 (R := (rL (rT (wc rI (wc rS (wc rS (wc rI (w1 rI)))))))) (x := u1.2.2.1))) (rfl : _ = (Res.ok (u1.2.2.1) : R0 (List (Int × Str × Str × Int × Int))))) boot_list) (alw_eq _ _)) (rfl : _ = (Res.ok (u1.2.2.1) : R0 (List (Int × Str × Str × Int × Int)))))) (rfl : _ = (Res.ok (u1.2.2.1) : R0 (List (Int × Str × Str × Int × Int))))) (xa_cons (ss := fun t : Str × Str × Int × (List Int) × (List Int) × Unit => [Slot.is rS t.1, Slot.is rS t.2.1, Slot.is rI t.2.2.1, Slot.is (rL rI) t.2.2.2.1, Slot.is (rL rI) t.2.2.2.2.1]) (xm_eq (xm_ofO (xmo_eq (xmo_eq (xmo_t1 C hf n_dict (xm_eq (xm_fb bfK (xm_var C 2 (R := (rK kS rI)) (x := u1.2.1))) (rfl : _ = (Res.ok (u1.2.1) : R0 (List (Str × Int))))) boot_dict) (alw_eq _ _)) (rfl : _ = (Res.ok (u1.2.1) : R0 (List (Str × Int)))))) (rfl : _ = (Res.ok (u1.2.1) : R0 (List (Str × Int))))) (xa_cons (ss := fun t : Str × Int × (List Int) × (List Int) × Unit => [Slot.is rS t.1, Slot.is rI t.2.1, Slot.is (rL rI) t.2.2.1, Slot.is (rL rI) t.2.2.2.1]) (xm_var C 4 (R := rS) (x := u1.2.2.2.1)) (xa_cons (ss := fun t : Int × (List Int) × (List Int) × Unit => [Slot.is rI t.1, Slot.is (rL rI) t.2.1, Slot.is (rL rI) t.2.2.1]) (xm_var C 5 (R := rS) (x := u1.2.2.2.2.1)) (xa_cons (ss := fun t : (List Int) × (List Int) × Unit => [Slot.is (rL rI) t.1, Slot.is (rL rI) t.2.1]) (xm_var C 6 (R := rI) (x := u1.2.2.2.2.2)) (xa_cons (ss := fun t : (List Int) × Unit => [Slot.is (rL rI) t.1]) (xm_eq (xm_ofO (xmo_eq (xmo_eq (xmo_t1 C hf n_list (xm_eq (xm_fb bfL (xm_var C 9 (R := (rL rI)) (x := kept_4))) (rfl : _ = (Res.ok (kept_4) : R0 (List Int)))) boot_list) (alw_eq _ _)) (rfl : _ = (Res.ok (kept_4) : R0 (List Int))))) (rfl : _ = (Res.ok (kept_4) : R0 (List Int)))) (xa_cons (ss := fun t : Unit => []) (xm_eq (xm_ofO (xmo_eq (xmo_eq (xmo_t1 C hf n_list (xm_eq (xm_fb bfL (xm_var C 10 (R := (rL rI)) (x := shared_9))) (rfl : _ = (Res.ok (shared_9) : R0 (List Int)))) boot_list) (alw_eq _ _)) (rfl : _ = (Res.ok (shared_9) : R0 (List Int))))) (rfl : _ = (Res.ok (shared_9) : R0 (List Int)))) xma_nil rfl (rfl : _ = (Res.ok ((shared_9, ())) : R0 ((List Int) × Unit)))) rfl (rfl : _ = (Res.ok ((kept_4, (shared_9, ()))) : R0 ((List Int) × (List Int) × Unit)))) rfl (rfl : _ = (Res.ok ((u1.2.2.2.2.2, (kept_4, (shared_9, ())))) : R0 (Int × (List Int) × (List Int) × Unit)))) rfl (rfl : _ = (Res.ok ((u1.2.2.2.2.1, (u1.2.2.2.2.2, (kept_4, (shared_9, ()))))) : R0 (Str × Int × (List Int) × (List Int) × Unit)))) rfl (rfl : _ = (Res.ok ((u1.2.2.2.1, (u1.2.2.2.2.1, (u1.2.2.2.2.2, (kept_4, (shared_9, ())))))) : R0 (Str × Str × Int × (List Int) × (List Int) × Unit)))) rfl (rfl : _ = (Res.ok ((u1.2.1, (u1.2.2.2.1, (u1.2.2.2.2.1, (u1.2.2.2.2.2, (kept_4, (shared_9, ()))))))) : R0 ((List (Str × Int)) × Str × Str × Int × (List Int) × (List Int) × Unit)))) rfl (rfl : _ = (Res.ok ((u1.2.2.1, (u1.2.1, (u1.2.2.2.1, (u1.2.2.2.2.1, (u1.2.2.2.2.2, (kept_4, (shared_9, ())))))))) : R0 ((List (Int × Str × Str × Int × Int)) × (List (Str × Int)) × Str × Str × Int × (List Int) × (List Int) × Unit))))) (rfl : _ = (m_least u1.2.2.1 u1.2.1 u1.2.2.2.1 u1.2.2.2.2.1 u1.2.2.2.2.2 kept_4 shared_9)))) (rfl : _ = (Res.bind (m_least u1.2.2.1 u1.2.1 u1.2.2.2.1 u1.2.2.2.2.1 u1.2.2.2.2.2 kept_4 shared_9) fun v15 => Res.ok (Dat.enc (R := (rO (rL rI))) v15)))) (xa_cons (ss := fun t : Unit => []) (xm_eq (xm_lp (R := (rO (rL rI))) (xm_var C 11 (R := (rO (rL rI))) (x := due_14))) (rfl : _ = (Res.ok (Dat.enc (R := (rO (rL rI))) due_14) : R0 PyData))) xma_nil rfl (rfl : _ = (Res.ok ((Dat.enc (R := (rO (rL rI))) due_14, ())) : R0 (PyData × Unit)))) rfl (rfl : _ = (Res.bind (Res.bind (m_least u1.2.2.1 u1.2.1 u1.2.2.2.1 u1.2.2.2.2.1 u1.2.2.2.2.2 kept_4 shared_9) fun v15 => Res.ok (Dat.enc (R := (rO (rL rI))) v15)) fun v16 => Res.ok ((v16, (Dat.enc (R := (rO (rL rI))) due_14, ()))) : R0 (PyData × PyData × Unit))))) (rfl : _ = (Res.bind (Res.bind (Res.bind (m_least u1.2.2.1 u1.2.1 u1.2.2.2.1 u1.2.2.2.2.1 u1.2.2.2.2.2 kept_4 shared_9) fun v15 => Res.ok (Dat.enc (R := (rO (rL rI))) v15)) fun v16 => Res.ok ((v16, (Dat.enc (R := (rO (rL rI))) due_14, ()))) : R0 (PyData × PyData × Unit)) fun v17 => m_sameF v17.1 v17.2.1)))) (rfl : _ = (Res.bind (Res.bind (Res.bind (m_least u1.2.2.1 u1.2.1 u1.2.2.2.1 u1.2.2.2.2.1 u1.2.2.2.2.2 kept_4 shared_9) fun v15 => Res.ok (Dat.enc (R := (rO (rL rI))) v15)) fun v16 => Res.ok ((v16, (Dat.enc (R := (rO (rL rI))) due_14, ()))) : R0 (PyData × PyData × Unit)) fun v17 => m_sameF v17.1 v17.2.1)))) (rfl : _ = (Res.bind (Res.bind (Res.bind (Res.bind (m_least u1.2.2.1 u1.2.1 u1.2.2.2.1 u1.2.2.2.2.1 u1.2.2.2.2.2 kept_4 shared_9) fun v15 => Res.ok (Dat.enc (R := (rO (rL rI))) v15)) fun v16 => Res.ok ((v16, (Dat.enc (R := (rO (rL rI))) due_14, ()))) : R0 (PyData × PyData × Unit)) fun v17 => m_sameF v17.1 v17.2.1) fun v18 => Res.ok ((! v18))))) ?_ ?_ (Wk.toAny rfl)
  · show XG X [.is (rSc K) i.1, .is (rL rS) u1.1, .is (rK kS rI) u1.2.1, .is (rL (rT (wc rI (wc rS (wc rS (wc rI (w1 rI))))))) u1.2.2.1, .is rS u1.2.2.2.1, .is rS u1.2.2.2.2.1, .is rI u1.2.2.2.2.2, .is (rL rI) d_2, .is (rL rI) e_3, .is (rL rI) kept_4, .is (rL rI) shared_9, .is (rO (rL rI)) due_14, .any, .any] _ _ _ _ _
    exact xg_ret xm_bool (fun r20 => r20) (fun _ => ⟨_, Wk.toAny rfl, And.intro rfl rfl⟩) (Wk.toAny rfl)
  show XG X [.is (rSc K) i.1, .is (rL rS) u1.1, .is (rK kS rI) u1.2.1, .is (rL (rT (wc rI (wc rS (wc rS (wc rI (w1 rI))))))) u1.2.2.1, .is rS u1.2.2.2.1, .is rS u1.2.2.2.2.1, .is rI u1.2.2.2.2.2, .is (rL rI) d_2, .is (rL rI) e_3, .is (rL rI) kept_4, .is (rL rI) shared_9, .is (rO (rL rI)) due_14, .any, .any] _ _ _ _ _
  refine xg_if1 (xmt_eq (xmt_not (xmt_eq (xmt_val (xm_eq (xm_call' C G_sameF (xa_cons (ss := fun t : PyData × Unit => [Slot.is rP t.1]) (xm_eq (xm_lp (R := (rL (rT (wc rS (w1 rI))))) (xm_eq (xm_ofO (xmo_eq (xmo_call' C G_soonest (xa_cons (ss := fun t : (List (Str × Int)) × Str × Int × Unit => [Slot.is (rK kS rI) t.1, Slot.is rS t.2.1, Slot.is rI t.2.2.1]) (xm_eq (xm_ofO (xmo_eq (xmo_eq (xmo_t1 C hf n_list (xm_eq (xm_fb bfL (xm_var C 3 (R := (rL (rT (wc rI (wc rS (wc rS (wc rI (w1 rI)))))))) (x := u1.2.2.1))) (rfl : _ = (Res.ok (u1.2.2.1) : R0 (List (Int × Str × Str × Int × Int))))) boot_list) (alw_eq _ _)) (rfl : _ = (Res.ok (u1.2.2.1) : R0 (List (Int × Str × Str × Int × Int)))))) (rfl : _ = (Res.ok (u1.2.2.1) : R0 (List (Int × Str × Str × Int × Int))))) (xa_cons (ss := fun t : Str × Int × Unit => [Slot.is rS t.1, Slot.is rI t.2.1]) (xm_eq (xm_ofO (xmo_eq (xmo_eq (xmo_t1 C hf n_dict (xm_eq (xm_fb bfK (xm_var C 2 (R := (rK kS rI)) (x := u1.2.1))) (rfl : _ = (Res.ok (u1.2.1) : R0 (List (Str × Int))))) boot_dict) (alw_eq _ _)) (rfl : _ = (Res.ok (u1.2.1) : R0 (List (Str × Int)))))) (rfl : _ = (Res.ok (u1.2.1) : R0 (List (Str × Int))))) (xa_cons (ss := fun t : Int × Unit => [Slot.is rI t.1]) (xm_var C 4 (R := rS) (x := u1.2.2.2.1)) (xa_cons (ss := fun t : Unit => []) (xm_var C 6 (R := rI) (x := u1.2.2.2.2.2)) xma_nil rfl (rfl : _ = (Res.ok ((u1.2.2.2.2.2, ())) : R0 (Int × Unit)))) rfl (rfl : _ = (Res.ok ((u1.2.2.2.1, (u1.2.2.2.2.2, ()))) : R0 (Str × Int × Unit)))) rfl (rfl : _ = (Res.ok ((u1.2.1, (u1.2.2.2.1, (u1.2.2.2.2.2, ())))) : R0 ((List (Str × Int)) × Str × Int × Unit)))) rfl (rfl : _ = (Res.ok ((u1.2.2.1, (u1.2.1, (u1.2.2.2.1, (u1.2.2.2.2.2, ()))))) : R0 ((List (Int × Str × Str × Int × Int)) × (List (Str × Int)) × Str × Int × Unit))))) (rfl : _ = (m_soonest u1.2.2.1 u1.2.1 u1.2.2.2.1 u1.2.2.2.2.2)))) (rfl : _ = (m_soonest u1.2.2.1 u1.2.1 u1.2.2.2.1 u1.2.2.2.2.2)))) (rfl : _ = (Res.bind (m_soonest u1.2.2.1 u1.2.1 u1.2.2.2.1 u1.2.2.2.2.2) fun v21 => Res.ok (Dat.enc (R := (rL (rT (wc rS (w1 rI))))) v21)))) (xa_cons (ss := fun t : Unit => []) (xm_eq (xm_lp (R := (rL (rT (wc rS (w1 rI))))) (xm_eq (xm_call' C G_lsoon (xa_cons (ss := fun t : (List (Str × Int)) × Str × Int × Unit => [Slot.is (rK kS rI) t.1, Slot.is rS t.2.1, Slot.is rI t.2.2.1]) (xm_var C 3 (R := (rL (rT (wc rI (wc rS (wc rS (wc rI (w1 rI)))))))) (x := u1.2.2.1)) (xa_cons (ss := fun t : Str × Int × Unit => [Slot.is rS t.1, Slot.is rI t.2.1]) (xm_var C 2 (R := (rK kS rI)) (x := u1.2.1)) (xa_cons (ss := fun t : Int × Unit => [Slot.is rI t.1]) (xm_var C 4 (R := rS) (x := u1.2.2.2.1)) (xa_cons (ss := fun t : Unit => []) (xm_var C 6 (R := rI) (x := u1.2.2.2.2.2)) xma_nil rfl (rfl : _ = (Res.ok ((u1.2.2.2.2.2, ())) : R0 (Int × Unit)))) rfl (rfl : _ = (Res.ok ((u1.2.2.2.1, (u1.2.2.2.2.2, ()))) : R0 (Str × Int × Unit)))) rfl (rfl : _ = (Res.ok ((u1.2.1, (u1.2.2.2.1, (u1.2.2.2.2.2, ())))) : R0 ((List (Str × Int)) × Str × Int × Unit)))) rfl (rfl : _ = (Res.ok ((u1.2.2.1, (u1.2.1, (u1.2.2.2.1, (u1.2.2.2.2.2, ()))))) : R0 ((List (Int × Str × Str × Int × Int)) × (List (Str × Int)) × Str × Int × Unit))))) (rfl : _ = (m_lsoon u1.2.2.1 u1.2.1 u1.2.2.2.1 u1.2.2.2.2.2)))) (rfl : _ = (Res.bind (m_lsoon u1.2.2.1 u1.2.1 u1.2.2.2.1 u1.2.2.2.2.2) fun v22 => Res.ok (Dat.enc (R := (rL (rT (wc rS (w1 rI))))) v22)))) xma_nil rfl (rfl : _ = (Res.bind (Res.bind (m_lsoon u1.2.2.1 u1.2.1 u1.2.2.2.1 u1.2.2.2.2.2) fun v22 => Res.ok (Dat.enc (R := (rL (rT (wc rS (w1 rI))))) v22)) fun v23 => Res.ok ((v23, ())) : R0 (PyData × Unit)))) rfl (rfl : _ = (Res.bind (Res.bind (m_soonest u1.2.2.1 u1.2.1 u1.2.2.2.1 u1.2.2.2.2.2) fun v21 => Res.ok (Dat.enc (R := (rL (rT (wc rS (w1 rI))))) v21)) fun v24 => Res.bind (Res.bind (Res.bind (m_lsoon u1.2.2.1 u1.2.1 u1.2.2.2.1 u1.2.2.2.2.2) fun v22 => Res.ok (Dat.enc (R := (rL (rT (wc rS (w1 rI))))) v22)) fun v23 => Res.ok ((v23, ())) : R0 (PyData × Unit)) fun v25 => Res.ok ((v24, v25)) : R0 (PyData × PyData × Unit))))) (rfl : _ = (Res.bind (Res.bind (Res.bind (m_soonest u1.2.2.1 u1.2.1 u1.2.2.2.1 u1.2.2.2.2.2) fun v21 => Res.ok (Dat.enc (R := (rL (rT (wc rS (w1 rI))))) v21)) fun v24 => Res.bind (Res.bind (Res.bind (m_lsoon u1.2.2.1 u1.2.1 u1.2.2.2.1 u1.2.2.2.2.2) fun v22 => Res.ok (Dat.enc (R := (rL (rT (wc rS (w1 rI))))) v22)) fun v23 => Res.ok ((v23, ())) : R0 (PyData × Unit)) fun v25 => Res.ok ((v24, v25)) : R0 (PyData × PyData × Unit)) fun v26 => m_sameF v26.1 v26.2.1)))) (rfl : _ = (Res.bind (Res.bind (Res.bind (m_soonest u1.2.2.1 u1.2.1 u1.2.2.2.1 u1.2.2.2.2.2) fun v21 => Res.ok (Dat.enc (R := (rL (rT (wc rS (w1 rI))))) v21)) fun v24 => Res.bind (Res.bind (Res.bind (m_lsoon u1.2.2.1 u1.2.1 u1.2.2.2.1 u1.2.2.2.2.2) fun v22 => Res.ok (Dat.enc (R := (rL (rT (wc rS (w1 rI))))) v22)) fun v23 => Res.ok ((v23, ())) : R0 (PyData × Unit)) fun v25 => Res.ok ((v24, v25)) : R0 (PyData × PyData × Unit)) fun v26 => m_sameF v26.1 v26.2.1)))) (rfl : _ = (Res.bind (Res.bind (Res.bind (Res.bind (m_soonest u1.2.2.1 u1.2.1 u1.2.2.2.1 u1.2.2.2.2.2) fun v21 => Res.ok (Dat.enc (R := (rL (rT (wc rS (w1 rI))))) v21)) fun v24 => Res.bind (Res.bind (Res.bind (m_lsoon u1.2.2.1 u1.2.1 u1.2.2.2.1 u1.2.2.2.2.2) fun v22 => Res.ok (Dat.enc (R := (rL (rT (wc rS (w1 rI))))) v22)) fun v23 => Res.ok ((v23, ())) : R0 (PyData × Unit)) fun v25 => Res.ok ((v24, v25)) : R0 (PyData × PyData × Unit)) fun v26 => m_sameF v26.1 v26.2.1) fun v27 => Res.ok ((! v27))))) ?_ ?_ (Wk.toAny rfl)
  · show XG X [.is (rSc K) i.1, .is (rL rS) u1.1, .is (rK kS rI) u1.2.1, .is (rL (rT (wc rI (wc rS (wc rS (wc rI (w1 rI))))))) u1.2.2.1, .is rS u1.2.2.2.1, .is rS u1.2.2.2.2.1, .is rI u1.2.2.2.2.2, .is (rL rI) d_2, .is (rL rI) e_3, .is (rL rI) kept_4, .is (rL rI) shared_9, .is (rO (rL rI)) due_14, .any, .any] _ _ _ _ _
    exact xg_ret xm_bool (fun r29 => r29) (fun _ => ⟨_, Wk.toAny rfl, And.intro rfl rfl⟩) (Wk.toAny rfl)
  show XG X [.is (rSc K) i.1, .is (rL rS) u1.1, .is (rK kS rI) u1.2.1, .is (rL (rT (wc rI (wc rS (wc rS (wc rI (w1 rI))))))) u1.2.2.1, .is rS u1.2.2.2.1, .is rS u1.2.2.2.2.1, .is rI u1.2.2.2.2.2, .is (rL rI) d_2, .is (rL rI) e_3, .is (rL rI) kept_4, .is (rL rI) shared_9, .is (rO (rL rI)) due_14, .any, .any] _ _ _ _ _
  refine xg_asg C 12 (xm_eq (xm_call' C G_no_way (xa_cons (ss := fun t : (List (Str × Int)) × Str × Str × Int × Unit => [Slot.is (rK kS rI) t.1, Slot.is rS t.2.1, Slot.is rS t.2.2.1, Slot.is rI t.2.2.2.1]) (xm_eq (xm_ofO (xmo_eq (xmo_eq (xmo_t1 C hf n_list (xm_eq (xm_fb bfL (xm_var C 3 (R := (rL (rT (wc rI (wc rS (wc rS (wc rI (w1 rI)))))))) (x := u1.2.2.1))) (rfl : _ = (Res.ok (u1.2.2.1) : R0 (List (Int × Str × Str × Int × Int))))) boot_list) (alw_eq _ _)) (rfl : _ = (Res.ok (u1.2.2.1) : R0 (List (Int × Str × Str × Int × Int)))))) (rfl : _ = (Res.ok (u1.2.2.1) : R0 (List (Int × Str × Str × Int × Int))))) (xa_cons (ss := fun t : Str × Str × Int × Unit => [Slot.is rS t.1, Slot.is rS t.2.1, Slot.is rI t.2.2.1]) (xm_eq (xm_ofO (xmo_eq (xmo_eq (xmo_t1 C hf n_dict (xm_eq (xm_fb bfK (xm_var C 2 (R := (rK kS rI)) (x := u1.2.1))) (rfl : _ = (Res.ok (u1.2.1) : R0 (List (Str × Int))))) boot_dict) (alw_eq _ _)) (rfl : _ = (Res.ok (u1.2.1) : R0 (List (Str × Int)))))) (rfl : _ = (Res.ok (u1.2.1) : R0 (List (Str × Int))))) (xa_cons (ss := fun t : Str × Int × Unit => [Slot.is rS t.1, Slot.is rI t.2.1]) (xm_var C 4 (R := rS) (x := u1.2.2.2.1)) (xa_cons (ss := fun t : Int × Unit => [Slot.is rI t.1]) (xm_var C 5 (R := rS) (x := u1.2.2.2.2.1)) (xa_cons (ss := fun t : Unit => []) (xm_var C 6 (R := rI) (x := u1.2.2.2.2.2)) xma_nil rfl (rfl : _ = (Res.ok ((u1.2.2.2.2.2, ())) : R0 (Int × Unit)))) rfl (rfl : _ = (Res.ok ((u1.2.2.2.2.1, (u1.2.2.2.2.2, ()))) : R0 (Str × Int × Unit)))) rfl (rfl : _ = (Res.ok ((u1.2.2.2.1, (u1.2.2.2.2.1, (u1.2.2.2.2.2, ())))) : R0 (Str × Str × Int × Unit)))) rfl (rfl : _ = (Res.ok ((u1.2.1, (u1.2.2.2.1, (u1.2.2.2.2.1, (u1.2.2.2.2.2, ()))))) : R0 ((List (Str × Int)) × Str × Str × Int × Unit)))) rfl (rfl : _ = (Res.ok ((u1.2.2.1, (u1.2.1, (u1.2.2.2.1, (u1.2.2.2.2.1, (u1.2.2.2.2.2, ())))))) : R0 ((List (Int × Str × Str × Int × Int)) × (List (Str × Int)) × Str × Str × Int × Unit))))) (rfl : _ = (m_no_way u1.2.2.1 u1.2.1 u1.2.2.2.1 u1.2.2.2.2.1 u1.2.2.2.2.2))) (fun paper_30 => ?_) (Wk.toAny rfl)
  show XG X [.is (rSc K) i.1, .is (rL rS) u1.1, .is (rK kS rI) u1.2.1, .is (rL (rT (wc rI (wc rS (wc rS (wc rI (w1 rI))))))) u1.2.2.1, .is rS u1.2.2.2.1, .is rS u1.2.2.2.2.1, .is rI u1.2.2.2.2.2, .is (rL rI) d_2, .is (rL rI) e_3, .is (rL rI) kept_4, .is (rL rI) shared_9, .is (rO (rL rI)) due_14, .is (rO (rL (rT (wc rS (w1 rI))))) paper_30, .any] _ _ _ _ _
  refine xg_if1 (xmt_eq (xmt_cmp o_notN (xm_var C 11 (R := (rO (rL rI))) (x := due_14)) xm_unit) (rfl : _ = (Res.ok ((Option.isSome due_14)) : R0 Bool))) ?_ ?_ (Wk.toAny rfl)
  · show XG X [.is (rSc K) i.1, .is (rL rS) u1.1, .is (rK kS rI) u1.2.1, .is (rL (rT (wc rI (wc rS (wc rS (wc rI (w1 rI))))))) u1.2.2.1, .is rS u1.2.2.2.1, .is rS u1.2.2.2.2.1, .is rI u1.2.2.2.2.2, .is (rL rI) d_2, .is (rL rI) e_3, .is (rL rI) kept_4, .is (rL rI) shared_9, .is (rO (rL rI)) due_14, .is (rO (rL (rT (wc rS (w1 rI))))) paper_30, .any] _ _ _ _ _
    exact xg_ret (xm_eq (xm_and (xm_eq (xm_cmp o_isN (xm_var C 12 (R := (rO (rL (rT (wc rS (w1 rI)))))) (x := paper_30)) xm_unit) (rfl : _ = (Res.ok ((Option.isNone paper_30)) : R0 Bool))) (xm_eq (xm_one (xm_eq (xm_not (xm_eq (xm_call' C G_bars (xa_cons (ss := fun t : (List (Str × Int)) × Str × Str × Int × (List (Str × Int)) × Unit => [Slot.is (rK kS rI) t.1, Slot.is rS t.2.1, Slot.is rS t.2.2.1, Slot.is rI t.2.2.2.1, Slot.is (rL (rT (wc rS (w1 rI)))) t.2.2.2.2.1]) (xm_var C 3 (R := (rL (rT (wc rI (wc rS (wc rS (wc rI (w1 rI)))))))) (x := u1.2.2.1)) (xa_cons (ss := fun t : Str × Str × Int × (List (Str × Int)) × Unit => [Slot.is rS t.1, Slot.is rS t.2.1, Slot.is rI t.2.2.1, Slot.is (rL (rT (wc rS (w1 rI)))) t.2.2.2.1]) (xm_var C 2 (R := (rK kS rI)) (x := u1.2.1)) (xa_cons (ss := fun t : Str × Int × (List (Str × Int)) × Unit => [Slot.is rS t.1, Slot.is rI t.2.1, Slot.is (rL (rT (wc rS (w1 rI)))) t.2.2.1]) (xm_var C 4 (R := rS) (x := u1.2.2.2.1)) (xa_cons (ss := fun t : Int × (List (Str × Int)) × Unit => [Slot.is rI t.1, Slot.is (rL (rT (wc rS (w1 rI)))) t.2.1]) (xm_var C 5 (R := rS) (x := u1.2.2.2.2.1)) (xa_cons (ss := fun t : (List (Str × Int)) × Unit => [Slot.is (rL (rT (wc rS (w1 rI)))) t.1]) (xm_var C 6 (R := rI) (x := u1.2.2.2.2.2)) (xa_cons (ss := fun t : Unit => []) (xm_eq (xm_ofO (xmo_eq (xmo_newL (xl_c (xm_eq (xm_tup (xr_c (xm_var C 4 (R := rS) (x := u1.2.2.2.1)) (xmr_1 (xm_var C 6 (R := rI) (x := u1.2.2.2.2.2))) (rfl : _ = (Res.ok ((u1.2.2.2.1, u1.2.2.2.2.2)) : R0 (Str × Int))))) (rfl : _ = (Res.ok ((u1.2.2.2.1, u1.2.2.2.2.2)) : R0 (Str × Int)))) (xml_nil (R := (rT (wc rS (w1 rI))))) (rfl : _ = (Res.ok (((u1.2.2.2.1, u1.2.2.2.2.2) :: [])) : R0 (List (Str × Int)))))) (rfl : _ = (Res.ok (((u1.2.2.2.1, u1.2.2.2.2.2) :: [])) : R0 (List (Str × Int)))))) (rfl : _ = (Res.ok (((u1.2.2.2.1, u1.2.2.2.2.2) :: [])) : R0 (List (Str × Int))))) xma_nil rfl (rfl : _ = (Res.ok ((((u1.2.2.2.1, u1.2.2.2.2.2) :: []), ())) : R0 ((List (Str × Int)) × Unit)))) rfl (rfl : _ = (Res.ok ((u1.2.2.2.2.2, (((u1.2.2.2.1, u1.2.2.2.2.2) :: []), ()))) : R0 (Int × (List (Str × Int)) × Unit)))) rfl (rfl : _ = (Res.ok ((u1.2.2.2.2.1, (u1.2.2.2.2.2, (((u1.2.2.2.1, u1.2.2.2.2.2) :: []), ())))) : R0 (Str × Int × (List (Str × Int)) × Unit)))) rfl (rfl : _ = (Res.ok ((u1.2.2.2.1, (u1.2.2.2.2.1, (u1.2.2.2.2.2, (((u1.2.2.2.1, u1.2.2.2.2.2) :: []), ()))))) : R0 (Str × Str × Int × (List (Str × Int)) × Unit)))) rfl (rfl : _ = (Res.ok ((u1.2.1, (u1.2.2.2.1, (u1.2.2.2.2.1, (u1.2.2.2.2.2, (((u1.2.2.2.1, u1.2.2.2.2.2) :: []), ())))))) : R0 ((List (Str × Int)) × Str × Str × Int × (List (Str × Int)) × Unit)))) rfl (rfl : _ = (Res.ok ((u1.2.2.1, (u1.2.1, (u1.2.2.2.1, (u1.2.2.2.2.1, (u1.2.2.2.2.2, (((u1.2.2.2.1, u1.2.2.2.2.2) :: []), ()))))))) : R0 ((List (Int × Str × Str × Int × Int)) × (List (Str × Int)) × Str × Str × Int × (List (Str × Int)) × Unit))))) (rfl : _ = (m_bars u1.2.2.1 u1.2.1 u1.2.2.2.1 u1.2.2.2.2.1 u1.2.2.2.2.2 ((u1.2.2.2.1, u1.2.2.2.2.2) :: []))))) (rfl : _ = (Res.bind (m_bars u1.2.2.1 u1.2.1 u1.2.2.2.1 u1.2.2.2.2.1 u1.2.2.2.2.2 ((u1.2.2.2.1, u1.2.2.2.2.2) :: [])) fun v33 => Res.ok ((! v33)))))) (rfl : _ = (Res.bind (m_bars u1.2.2.1 u1.2.1 u1.2.2.2.1 u1.2.2.2.2.1 u1.2.2.2.2.2 ((u1.2.2.2.1, u1.2.2.2.2.2) :: [])) fun v33 => Res.ok ((! v33)))))) (rfl : _ = (bif (Option.isNone paper_30) then (Res.bind (m_bars u1.2.2.1 u1.2.1 u1.2.2.2.1 u1.2.2.2.2.1 u1.2.2.2.2.2 ((u1.2.2.2.1, u1.2.2.2.2.2) :: [])) fun v33 => Res.ok ((! v33))) else Res.ok false))) (fun r32 => r32) (fun _ => ⟨_, Wk.toAny rfl, And.intro rfl rfl⟩) (Wk.toAny rfl)
  show XG X [.is (rSc K) i.1, .is (rL rS) u1.1, .is (rK kS rI) u1.2.1, .is (rL (rT (wc rI (wc rS (wc rS (wc rI (w1 rI))))))) u1.2.2.1, .is rS u1.2.2.2.1, .is rS u1.2.2.2.2.1, .is rI u1.2.2.2.2.2, .is (rL rI) d_2, .is (rL rI) e_3, .is (rL rI) kept_4, .is (rL rI) shared_9, .is (rO (rL rI)) due_14, .is (rO (rL (rT (wc rS (w1 rI))))) paper_30, .any] _ _ _ _ _
  refine xg_if1 (xmt_eq (xmt_w (xmw_eq (xmw_or (xmt_eq (xmt_cmp o_isN (xm_var C 12 (R := (rO (rL (rT (wc rS (w1 rI)))))) (x := paper_30)) xm_unit) (rfl : _ = (Res.ok ((Option.isNone paper_30)) : R0 Bool))) (xmw_eq (xmw_or1 (xmt_eq (xmt_not (xmt_eq (xmt_val (xm_eq (xm_call' C G_lbars (xa_cons (ss := fun t : (List (Str × Int)) × Str × Str × Int × (List (Str × Int)) × Unit => [Slot.is (rK kS rI) t.1, Slot.is rS t.2.1, Slot.is rS t.2.2.1, Slot.is rI t.2.2.2.1, Slot.is (rL (rT (wc rS (w1 rI)))) t.2.2.2.2.1]) (xm_var C 3 (R := (rL (rT (wc rI (wc rS (wc rS (wc rI (w1 rI)))))))) (x := u1.2.2.1)) (xa_cons (ss := fun t : Str × Str × Int × (List (Str × Int)) × Unit => [Slot.is rS t.1, Slot.is rS t.2.1, Slot.is rI t.2.2.1, Slot.is (rL (rT (wc rS (w1 rI)))) t.2.2.2.1]) (xm_var C 2 (R := (rK kS rI)) (x := u1.2.1)) (xa_cons (ss := fun t : Str × Int × (List (Str × Int)) × Unit => [Slot.is rS t.1, Slot.is rI t.2.1, Slot.is (rL (rT (wc rS (w1 rI)))) t.2.2.1]) (xm_var C 4 (R := rS) (x := u1.2.2.2.1)) (xa_cons (ss := fun t : Int × (List (Str × Int)) × Unit => [Slot.is rI t.1, Slot.is (rL (rT (wc rS (w1 rI)))) t.2.1]) (xm_var C 5 (R := rS) (x := u1.2.2.2.2.1)) (xa_cons (ss := fun t : (List (Str × Int)) × Unit => [Slot.is (rL (rT (wc rS (w1 rI)))) t.1]) (xm_var C 6 (R := rI) (x := u1.2.2.2.2.2)) (xa_cons (ss := fun t : Unit => []) (xm_eq (xm_get (xm_var C 12 (R := (rO (rL (rT (wc rS (w1 rI)))))) (x := paper_30))) (rfl : _ = (getO paper_30))) xma_nil rfl (rfl : _ = (Res.bind (getO paper_30) fun v34 => Res.ok ((v34, ())) : R0 ((List (Str × Int)) × Unit)))) rfl (rfl : _ = (Res.bind (Res.bind (getO paper_30) fun v34 => Res.ok ((v34, ())) : R0 ((List (Str × Int)) × Unit)) fun v35 => Res.ok ((u1.2.2.2.2.2, v35)) : R0 (Int × (List (Str × Int)) × Unit)))) rfl (rfl : _ = (Res.bind (Res.bind (Res.bind (getO paper_30) fun v34 => Res.ok ((v34, ())) : R0 ((List (Str × Int)) × Unit)) fun v35 => Res.ok ((u1.2.2.2.2.2, v35)) : R0 (Int × (List (Str × Int)) × Unit)) fun v36 => Res.ok ((u1.2.2.2.2.1, v36)) : R0 (Str × Int × (List (Str × Int)) × Unit)))) rfl (rfl : _ = (Res.bind (Res.bind (Res.bind (Res.bind (getO paper_30) fun v34 => Res.ok ((v34, ())) : R0 ((List (Str × Int)) × Unit)) fun v35 => Res.ok ((u1.2.2.2.2.2, v35)) : R0 (Int × (List (Str × Int)) × Unit)) fun v36 => Res.ok ((u1.2.2.2.2.1, v36)) : R0 (Str × Int × (List (Str × Int)) × Unit)) fun v37 => Res.ok ((u1.2.2.2.1, v37)) : R0 (Str × Str × Int × (List (Str × Int)) × Unit)))) rfl (rfl : _ = (Res.bind (Res.bind (Res.bind (Res.bind (Res.bind (getO paper_30) fun v34 => Res.ok ((v34, ())) : R0 ((List (Str × Int)) × Unit)) fun v35 => Res.ok ((u1.2.2.2.2.2, v35)) : R0 (Int × (List (Str × Int)) × Unit)) fun v36 => Res.ok ((u1.2.2.2.2.1, v36)) : R0 (Str × Int × (List (Str × Int)) × Unit)) fun v37 => Res.ok ((u1.2.2.2.1, v37)) : R0 (Str × Str × Int × (List (Str × Int)) × Unit)) fun v38 => Res.ok ((u1.2.1, v38)) : R0 ((List (Str × Int)) × Str × Str × Int × (List (Str × Int)) × Unit)))) rfl (rfl : _ = (Res.bind (Res.bind (Res.bind (Res.bind (Res.bind (Res.bind (getO paper_30) fun v34 => Res.ok ((v34, ())) : R0 ((List (Str × Int)) × Unit)) fun v35 => Res.ok ((u1.2.2.2.2.2, v35)) : R0 (Int × (List (Str × Int)) × Unit)) fun v36 => Res.ok ((u1.2.2.2.2.1, v36)) : R0 (Str × Int × (List (Str × Int)) × Unit)) fun v37 => Res.ok ((u1.2.2.2.1, v37)) : R0 (Str × Str × Int × (List (Str × Int)) × Unit)) fun v38 => Res.ok ((u1.2.1, v38)) : R0 ((List (Str × Int)) × Str × Str × Int × (List (Str × Int)) × Unit)) fun v39 => Res.ok ((u1.2.2.1, v39)) : R0 ((List (Int × Str × Str × Int × Int)) × (List (Str × Int)) × Str × Str × Int × (List (Str × Int)) × Unit))))) (rfl : _ = (Res.bind (Res.bind (Res.bind (Res.bind (Res.bind (Res.bind (Res.bind (getO paper_30) fun v34 => Res.ok ((v34, ())) : R0 ((List (Str × Int)) × Unit)) fun v35 => Res.ok ((u1.2.2.2.2.2, v35)) : R0 (Int × (List (Str × Int)) × Unit)) fun v36 => Res.ok ((u1.2.2.2.2.1, v36)) : R0 (Str × Int × (List (Str × Int)) × Unit)) fun v37 => Res.ok ((u1.2.2.2.1, v37)) : R0 (Str × Str × Int × (List (Str × Int)) × Unit)) fun v38 => Res.ok ((u1.2.1, v38)) : R0 ((List (Str × Int)) × Str × Str × Int × (List (Str × Int)) × Unit)) fun v39 => Res.ok ((u1.2.2.1, v39)) : R0 ((List (Int × Str × Str × Int × Int)) × (List (Str × Int)) × Str × Str × Int × (List (Str × Int)) × Unit)) fun v40 => m_lbars v40.1 v40.2.1 v40.2.2.1 v40.2.2.2.1 v40.2.2.2.2.1 v40.2.2.2.2.2.1)))) (rfl : _ = (Res.bind (Res.bind (Res.bind (Res.bind (Res.bind (Res.bind (Res.bind (getO paper_30) fun v34 => Res.ok ((v34, ())) : R0 ((List (Str × Int)) × Unit)) fun v35 => Res.ok ((u1.2.2.2.2.2, v35)) : R0 (Int × (List (Str × Int)) × Unit)) fun v36 => Res.ok ((u1.2.2.2.2.1, v36)) : R0 (Str × Int × (List (Str × Int)) × Unit)) fun v37 => Res.ok ((u1.2.2.2.1, v37)) : R0 (Str × Str × Int × (List (Str × Int)) × Unit)) fun v38 => Res.ok ((u1.2.1, v38)) : R0 ((List (Str × Int)) × Str × Str × Int × (List (Str × Int)) × Unit)) fun v39 => Res.ok ((u1.2.2.1, v39)) : R0 ((List (Int × Str × Str × Int × Int)) × (List (Str × Int)) × Str × Str × Int × (List (Str × Int)) × Unit)) fun v40 => m_lbars v40.1 v40.2.1 v40.2.2.1 v40.2.2.2.1 v40.2.2.2.2.1 v40.2.2.2.2.2.1)))) (rfl : _ = (Res.bind (Res.bind (Res.bind (Res.bind (Res.bind (Res.bind (Res.bind (Res.bind (getO paper_30) fun v34 => Res.ok ((v34, ())) : R0 ((List (Str × Int)) × Unit)) fun v35 => Res.ok ((u1.2.2.2.2.2, v35)) : R0 (Int × (List (Str × Int)) × Unit)) fun v36 => Res.ok ((u1.2.2.2.2.1, v36)) : R0 (Str × Int × (List (Str × Int)) × Unit)) fun v37 => Res.ok ((u1.2.2.2.1, v37)) : R0 (Str × Str × Int × (List (Str × Int)) × Unit)) fun v38 => Res.ok ((u1.2.1, v38)) : R0 ((List (Str × Int)) × Str × Str × Int × (List (Str × Int)) × Unit)) fun v39 => Res.ok ((u1.2.2.1, v39)) : R0 ((List (Int × Str × Str × Int × Int)) × (List (Str × Int)) × Str × Str × Int × (List (Str × Int)) × Unit)) fun v40 => m_lbars v40.1 v40.2.1 v40.2.2.1 v40.2.2.2.1 v40.2.2.2.2.1 v40.2.2.2.2.2.1) fun v41 => Res.ok ((! v41)))))) (rfl : _ = (Res.bind (Res.bind (Res.bind (Res.bind (Res.bind (Res.bind (Res.bind (Res.bind (getO paper_30) fun v34 => Res.ok ((v34, ())) : R0 ((List (Str × Int)) × Unit)) fun v35 => Res.ok ((u1.2.2.2.2.2, v35)) : R0 (Int × (List (Str × Int)) × Unit)) fun v36 => Res.ok ((u1.2.2.2.2.1, v36)) : R0 (Str × Int × (List (Str × Int)) × Unit)) fun v37 => Res.ok ((u1.2.2.2.1, v37)) : R0 (Str × Str × Int × (List (Str × Int)) × Unit)) fun v38 => Res.ok ((u1.2.1, v38)) : R0 ((List (Str × Int)) × Str × Str × Int × (List (Str × Int)) × Unit)) fun v39 => Res.ok ((u1.2.2.1, v39)) : R0 ((List (Int × Str × Str × Int × Int)) × (List (Str × Int)) × Str × Str × Int × (List (Str × Int)) × Unit)) fun v40 => m_lbars v40.1 v40.2.1 v40.2.2.1 v40.2.2.2.1 v40.2.2.2.2.1 v40.2.2.2.2.2.1) fun v41 => Res.ok ((! v41)))))) (rfl : _ = (bif (Option.isNone paper_30) then Res.ok true else (Res.bind (Res.bind (Res.bind (Res.bind (Res.bind (Res.bind (Res.bind (Res.bind (getO paper_30) fun v34 => Res.ok ((v34, ())) : R0 ((List (Str × Int)) × Unit)) fun v35 => Res.ok ((u1.2.2.2.2.2, v35)) : R0 (Int × (List (Str × Int)) × Unit)) fun v36 => Res.ok ((u1.2.2.2.2.1, v36)) : R0 (Str × Int × (List (Str × Int)) × Unit)) fun v37 => Res.ok ((u1.2.2.2.1, v37)) : R0 (Str × Str × Int × (List (Str × Int)) × Unit)) fun v38 => Res.ok ((u1.2.1, v38)) : R0 ((List (Str × Int)) × Str × Str × Int × (List (Str × Int)) × Unit)) fun v39 => Res.ok ((u1.2.2.1, v39)) : R0 ((List (Int × Str × Str × Int × Int)) × (List (Str × Int)) × Str × Str × Int × (List (Str × Int)) × Unit)) fun v40 => m_lbars v40.1 v40.2.1 v40.2.2.1 v40.2.2.2.1 v40.2.2.2.2.1 v40.2.2.2.2.2.1) fun v41 => Res.ok ((! v41))))))) (rfl : _ = (bif (Option.isNone paper_30) then Res.ok true else (Res.bind (Res.bind (Res.bind (Res.bind (Res.bind (Res.bind (Res.bind (Res.bind (getO paper_30) fun v34 => Res.ok ((v34, ())) : R0 ((List (Str × Int)) × Unit)) fun v35 => Res.ok ((u1.2.2.2.2.2, v35)) : R0 (Int × (List (Str × Int)) × Unit)) fun v36 => Res.ok ((u1.2.2.2.2.1, v36)) : R0 (Str × Int × (List (Str × Int)) × Unit)) fun v37 => Res.ok ((u1.2.2.2.1, v37)) : R0 (Str × Str × Int × (List (Str × Int)) × Unit)) fun v38 => Res.ok ((u1.2.1, v38)) : R0 ((List (Str × Int)) × Str × Str × Int × (List (Str × Int)) × Unit)) fun v39 => Res.ok ((u1.2.2.1, v39)) : R0 ((List (Int × Str × Str × Int × Int)) × (List (Str × Int)) × Str × Str × Int × (List (Str × Int)) × Unit)) fun v40 => m_lbars v40.1 v40.2.1 v40.2.2.1 v40.2.2.2.1 v40.2.2.2.2.1 v40.2.2.2.2.2.1) fun v41 => Res.ok ((! v41)))))) ?_ ?_ (Wk.toAny rfl)
  · show XG X [.is (rSc K) i.1, .is (rL rS) u1.1, .is (rK kS rI) u1.2.1, .is (rL (rT (wc rI (wc rS (wc rS (wc rI (w1 rI))))))) u1.2.2.1, .is rS u1.2.2.2.1, .is rS u1.2.2.2.2.1, .is rI u1.2.2.2.2.2, .is (rL rI) d_2, .is (rL rI) e_3, .is (rL rI) kept_4, .is (rL rI) shared_9, .is (rO (rL rI)) due_14, .is (rO (rL (rT (wc rS (w1 rI))))) paper_30, .any] _ _ _ _ _
    exact xg_ret xm_bool (fun r43 => r43) (fun _ => ⟨_, Wk.toAny rfl, And.intro rfl rfl⟩) (Wk.toAny rfl)
  show XG X [.is (rSc K) i.1, .is (rL rS) u1.1, .is (rK kS rI) u1.2.1, .is (rL (rT (wc rI (wc rS (wc rS (wc rI (w1 rI))))))) u1.2.2.1, .is rS u1.2.2.2.1, .is rS u1.2.2.2.2.1, .is rI u1.2.2.2.2.2, .is (rL rI) d_2, .is (rL rI) e_3, .is (rL rI) kept_4, .is (rL rI) shared_9, .is (rO (rL rI)) due_14, .is (rO (rL (rT (wc rS (w1 rI))))) paper_30, .any] _ _ _ _ _
  exact xg_ret (xm_eq (xm_call' C G_sameF (xa_cons (ss := fun t : PyData × Unit => [Slot.is rP t.1]) (xm_eq (xm_lp (R := rB) (xm_eq (xm_call' C G_bars (xa_cons (ss := fun t : (List (Str × Int)) × Str × Str × Int × (List (Str × Int)) × Unit => [Slot.is (rK kS rI) t.1, Slot.is rS t.2.1, Slot.is rS t.2.2.1, Slot.is rI t.2.2.2.1, Slot.is (rL (rT (wc rS (w1 rI)))) t.2.2.2.2.1]) (xm_var C 3 (R := (rL (rT (wc rI (wc rS (wc rS (wc rI (w1 rI)))))))) (x := u1.2.2.1)) (xa_cons (ss := fun t : Str × Str × Int × (List (Str × Int)) × Unit => [Slot.is rS t.1, Slot.is rS t.2.1, Slot.is rI t.2.2.1, Slot.is (rL (rT (wc rS (w1 rI)))) t.2.2.2.1]) (xm_var C 2 (R := (rK kS rI)) (x := u1.2.1)) (xa_cons (ss := fun t : Str × Int × (List (Str × Int)) × Unit => [Slot.is rS t.1, Slot.is rI t.2.1, Slot.is (rL (rT (wc rS (w1 rI)))) t.2.2.1]) (xm_var C 4 (R := rS) (x := u1.2.2.2.1)) (xa_cons (ss := fun t : Int × (List (Str × Int)) × Unit => [Slot.is rI t.1, Slot.is (rL (rT (wc rS (w1 rI)))) t.2.1]) (xm_var C 5 (R := rS) (x := u1.2.2.2.2.1)) (xa_cons (ss := fun t : (List (Str × Int)) × Unit => [Slot.is (rL (rT (wc rS (w1 rI)))) t.1]) (xm_var C 6 (R := rI) (x := u1.2.2.2.2.2)) (xa_cons (ss := fun t : Unit => []) (xm_eq (xm_ofO (xmo_eq (xmo_eq (xmo_t1 C hf n_list (xm_eq (xm_fb bfL (xm_eq (xm_get (xm_var C 12 (R := (rO (rL (rT (wc rS (w1 rI)))))) (x := paper_30))) (rfl : _ = (getO paper_30)))) (rfl : _ = (getO paper_30))) boot_list) (alw_eq _ _)) (rfl : _ = (Res.bind (getO paper_30) fun v45 => Res.ok (v45))))) (rfl : _ = (Res.bind (getO paper_30) fun v45 => Res.ok (v45)))) xma_nil rfl (rfl : _ = (Res.bind (Res.bind (getO paper_30) fun v45 => Res.ok (v45)) fun v46 => Res.ok ((v46, ())) : R0 ((List (Str × Int)) × Unit)))) rfl (rfl : _ = (Res.bind (Res.bind (Res.bind (getO paper_30) fun v45 => Res.ok (v45)) fun v46 => Res.ok ((v46, ())) : R0 ((List (Str × Int)) × Unit)) fun v47 => Res.ok ((u1.2.2.2.2.2, v47)) : R0 (Int × (List (Str × Int)) × Unit)))) rfl (rfl : _ = (Res.bind (Res.bind (Res.bind (Res.bind (getO paper_30) fun v45 => Res.ok (v45)) fun v46 => Res.ok ((v46, ())) : R0 ((List (Str × Int)) × Unit)) fun v47 => Res.ok ((u1.2.2.2.2.2, v47)) : R0 (Int × (List (Str × Int)) × Unit)) fun v48 => Res.ok ((u1.2.2.2.2.1, v48)) : R0 (Str × Int × (List (Str × Int)) × Unit)))) rfl (rfl : _ = (Res.bind (Res.bind (Res.bind (Res.bind (Res.bind (getO paper_30) fun v45 => Res.ok (v45)) fun v46 => Res.ok ((v46, ())) : R0 ((List (Str × Int)) × Unit)) fun v47 => Res.ok ((u1.2.2.2.2.2, v47)) : R0 (Int × (List (Str × Int)) × Unit)) fun v48 => Res.ok ((u1.2.2.2.2.1, v48)) : R0 (Str × Int × (List (Str × Int)) × Unit)) fun v49 => Res.ok ((u1.2.2.2.1, v49)) : R0 (Str × Str × Int × (List (Str × Int)) × Unit)))) rfl (rfl : _ = (Res.bind (Res.bind (Res.bind (Res.bind (Res.bind (Res.bind (getO paper_30) fun v45 => Res.ok (v45)) fun v46 => Res.ok ((v46, ())) : R0 ((List (Str × Int)) × Unit)) fun v47 => Res.ok ((u1.2.2.2.2.2, v47)) : R0 (Int × (List (Str × Int)) × Unit)) fun v48 => Res.ok ((u1.2.2.2.2.1, v48)) : R0 (Str × Int × (List (Str × Int)) × Unit)) fun v49 => Res.ok ((u1.2.2.2.1, v49)) : R0 (Str × Str × Int × (List (Str × Int)) × Unit)) fun v50 => Res.ok ((u1.2.1, v50)) : R0 ((List (Str × Int)) × Str × Str × Int × (List (Str × Int)) × Unit)))) rfl (rfl : _ = (Res.bind (Res.bind (Res.bind (Res.bind (Res.bind (Res.bind (Res.bind (getO paper_30) fun v45 => Res.ok (v45)) fun v46 => Res.ok ((v46, ())) : R0 ((List (Str × Int)) × Unit)) fun v47 => Res.ok ((u1.2.2.2.2.2, v47)) : R0 (Int × (List (Str × Int)) × Unit)) fun v48 => Res.ok ((u1.2.2.2.2.1, v48)) : R0 (Str × Int × (List (Str × Int)) × Unit)) fun v49 => Res.ok ((u1.2.2.2.1, v49)) : R0 (Str × Str × Int × (List (Str × Int)) × Unit)) fun v50 => Res.ok ((u1.2.1, v50)) : R0 ((List (Str × Int)) × Str × Str × Int × (List (Str × Int)) × Unit)) fun v51 => Res.ok ((u1.2.2.1, v51)) : R0 ((List (Int × Str × Str × Int × Int)) × (List (Str × Int)) × Str × Str × Int × (List (Str × Int)) × Unit))))) (rfl : _ = (Res.bind (Res.bind (Res.bind (Res.bind (Res.bind (Res.bind (Res.bind (Res.bind (getO paper_30) fun v45 => Res.ok (v45)) fun v46 => Res.ok ((v46, ())) : R0 ((List (Str × Int)) × Unit)) fun v47 => Res.ok ((u1.2.2.2.2.2, v47)) : R0 (Int × (List (Str × Int)) × Unit)) fun v48 => Res.ok ((u1.2.2.2.2.1, v48)) : R0 (Str × Int × (List (Str × Int)) × Unit)) fun v49 => Res.ok ((u1.2.2.2.1, v49)) : R0 (Str × Str × Int × (List (Str × Int)) × Unit)) fun v50 => Res.ok ((u1.2.1, v50)) : R0 ((List (Str × Int)) × Str × Str × Int × (List (Str × Int)) × Unit)) fun v51 => Res.ok ((u1.2.2.1, v51)) : R0 ((List (Int × Str × Str × Int × Int)) × (List (Str × Int)) × Str × Str × Int × (List (Str × Int)) × Unit)) fun v52 => m_bars v52.1 v52.2.1 v52.2.2.1 v52.2.2.2.1 v52.2.2.2.2.1 v52.2.2.2.2.2.1)))) (rfl : _ = (Res.bind (Res.bind (Res.bind (Res.bind (Res.bind (Res.bind (Res.bind (Res.bind (Res.bind (getO paper_30) fun v45 => Res.ok (v45)) fun v46 => Res.ok ((v46, ())) : R0 ((List (Str × Int)) × Unit)) fun v47 => Res.ok ((u1.2.2.2.2.2, v47)) : R0 (Int × (List (Str × Int)) × Unit)) fun v48 => Res.ok ((u1.2.2.2.2.1, v48)) : R0 (Str × Int × (List (Str × Int)) × Unit)) fun v49 => Res.ok ((u1.2.2.2.1, v49)) : R0 (Str × Str × Int × (List (Str × Int)) × Unit)) fun v50 => Res.ok ((u1.2.1, v50)) : R0 ((List (Str × Int)) × Str × Str × Int × (List (Str × Int)) × Unit)) fun v51 => Res.ok ((u1.2.2.1, v51)) : R0 ((List (Int × Str × Str × Int × Int)) × (List (Str × Int)) × Str × Str × Int × (List (Str × Int)) × Unit)) fun v52 => m_bars v52.1 v52.2.1 v52.2.2.1 v52.2.2.2.1 v52.2.2.2.2.1 v52.2.2.2.2.2.1) fun v53 => Res.ok (Dat.enc (R := rB) v53)))) (xa_cons (ss := fun t : Unit => []) (xm_eq (xm_lp (R := rB) xm_bool) (rfl : _ = (Res.ok (Dat.enc (R := rB) true) : R0 PyData))) xma_nil rfl (rfl : _ = (Res.ok ((Dat.enc (R := rB) true, ())) : R0 (PyData × Unit)))) rfl (rfl : _ = (Res.bind (Res.bind (Res.bind (Res.bind (Res.bind (Res.bind (Res.bind (Res.bind (Res.bind (Res.bind (getO paper_30) fun v45 => Res.ok (v45)) fun v46 => Res.ok ((v46, ())) : R0 ((List (Str × Int)) × Unit)) fun v47 => Res.ok ((u1.2.2.2.2.2, v47)) : R0 (Int × (List (Str × Int)) × Unit)) fun v48 => Res.ok ((u1.2.2.2.2.1, v48)) : R0 (Str × Int × (List (Str × Int)) × Unit)) fun v49 => Res.ok ((u1.2.2.2.1, v49)) : R0 (Str × Str × Int × (List (Str × Int)) × Unit)) fun v50 => Res.ok ((u1.2.1, v50)) : R0 ((List (Str × Int)) × Str × Str × Int × (List (Str × Int)) × Unit)) fun v51 => Res.ok ((u1.2.2.1, v51)) : R0 ((List (Int × Str × Str × Int × Int)) × (List (Str × Int)) × Str × Str × Int × (List (Str × Int)) × Unit)) fun v52 => m_bars v52.1 v52.2.1 v52.2.2.1 v52.2.2.2.1 v52.2.2.2.2.1 v52.2.2.2.2.2.1) fun v53 => Res.ok (Dat.enc (R := rB) v53)) fun v54 => Res.ok ((v54, (Dat.enc (R := rB) true, ()))) : R0 (PyData × PyData × Unit))))) (rfl : _ = (Res.bind (Res.bind (Res.bind (Res.bind (Res.bind (Res.bind (Res.bind (Res.bind (Res.bind (Res.bind (Res.bind (getO paper_30) fun v45 => Res.ok (v45)) fun v46 => Res.ok ((v46, ())) : R0 ((List (Str × Int)) × Unit)) fun v47 => Res.ok ((u1.2.2.2.2.2, v47)) : R0 (Int × (List (Str × Int)) × Unit)) fun v48 => Res.ok ((u1.2.2.2.2.1, v48)) : R0 (Str × Int × (List (Str × Int)) × Unit)) fun v49 => Res.ok ((u1.2.2.2.1, v49)) : R0 (Str × Str × Int × (List (Str × Int)) × Unit)) fun v50 => Res.ok ((u1.2.1, v50)) : R0 ((List (Str × Int)) × Str × Str × Int × (List (Str × Int)) × Unit)) fun v51 => Res.ok ((u1.2.2.1, v51)) : R0 ((List (Int × Str × Str × Int × Int)) × (List (Str × Int)) × Str × Str × Int × (List (Str × Int)) × Unit)) fun v52 => m_bars v52.1 v52.2.1 v52.2.2.1 v52.2.2.2.1 v52.2.2.2.2.1 v52.2.2.2.2.2.1) fun v53 => Res.ok (Dat.enc (R := rB) v53)) fun v54 => Res.ok ((v54, (Dat.enc (R := rB) true, ()))) : R0 (PyData × PyData × Unit)) fun v55 => m_sameF v55.1 v55.2.1))) (fun r44 => r44) (fun _ => ⟨_, Wk.toAny rfl, And.intro rfl rfl⟩) (Wk.toAny rfl)
end Wf
set_option maxHeartbeats 0
namespace Hd
open PySem PySem.Spec PyProof.Rows L2 Wf
def dd (x : Str) (st : Stmt) : He.DefD :=
  ⟨(x, none), x, x, defArgs st, defBody st, defScope st, [], []⟩
def fn : List He.DefD :=
  [dd "hangs" s_hangs,
   dd "by_leaving" s_by_leaving,
   dd "soonest" s_soonest,
   dd "no_way" s_no_way,
   dd "bars" s_bars,
   dd "costs" s_costs,
   dd "least_change" s_least,
   dd "_law_draws" s_draws,
   dd "_law_same" s_same,
   dd "_law_names" s_names,
   dd "_law_hang" s_hang,
   dd "_law_bars" s_lbars,
   dd "_law_plan" s_plan,
   dd "_law_ladder" s_ladder,
   dd "_law_soon" s_lsoon,
   dd "law" s_law]
def fr : List He.Fa := bnames.map He.Fa.free
def fa : List He.Fa :=
  [.glo "hangs",
   .glo "by_leaving",
   .glo "soonest",
   .glo "no_way",
   .glo "bars",
   .glo "costs",
   .glo "least_change",
   .glo "_law_draws",
   .glo "_law_same",
   .glo "_law_names",
   .glo "_law_hang",
   .glo "_law_bars",
   .glo "_law_plan",
   .glo "_law_ladder",
   .glo "_law_soon",
   .glo "law"] ++ fr
abbrev rr : PySem.W.OpenRow :=
  PySem.W.OpenLaw.row
    PySem.Challenge.rw_wayhold_k42_whole_many_rides
def tf : List He.Defn := lamDefs.map fun n => (n, none)
def exq (K : PySem.W.Frag) : Bool :=
  lamDefs.all fun m => lamDefs.all fun n =>
    decide (m = n) || !decide ((He.cT K (m, none)).2 = (He.cT K (n, none)).2)
theorem hu_of {K : PySem.W.Frag} (h : exq K = true) {n : PySem.Str} (hn : n ∈ lamDefs) :
    ∀ m ∈ lamDefs, (He.cT K (m, none)).2 = (He.cT K (n, none)).2 → m = n := fun m hm e => by
  have h1 := List.all_eq_true.mp (List.all_eq_true.mp h m hm) n hn
  simp only [Bool.or_eq_true, decide_eq_true_eq, Bool.not_eq_true', decide_eq_false_iff_not] at h1
  exact h1.elim id fun z => absurd e z
abbrev hh : PySem.W.Hook :=
  He.hookX 4 fa fn [] tf exq
def oo (s : PySem.W.SharedT) : He.AlX :=
  He.obsX 4 fa fn [] tf exq (HandSHeadRun.getT s)
theorem oo_hh (s : PySem.W.SharedT) :
    oo s = hh.obs s.abs :=
  He.obsX_eq (HandSHeadRun.getT_eq s)
def ll : List PySem.Str :=
  (["hangs", "by_leaving", "soonest", "no_way", "bars", "costs", "least_change", "_law_draws", "_law_same", "_law_names", "_law_hang", "_law_bars", "_law_plan", "_law_ladder", "_law_soon"] : List PySem.Str)
theorem goes (w : World) :
    HandSHeadRun.RunEq rr (PySem.W.view rr.prog [19]) hh oo
      3000 ll w := by
  intro os
  kernel_rfl
theorem told {P : Program} {w : World} {K : PySem.W.Frag}
    {h : Heap} {mg : Str → Option Value} {f : Addr}
    (X : K.In h) (G : h.Ns mainGlobals mg)
    (hfa : mg ("law" : Str) = some (.ref f))
    (c : He.SaysD fa fn K) (hx : exq K = true) : ∃ fd : FuncData,
      (∀ (s : Shared) (v : Value),
        BindsTo s fd ⟨[v], []⟩ [("_law_script", v)]) ∧
      ∀ base : Heap, K.In base → base.Ns mainGlobals mg →
        (∀ p ∈ tf.map (He.cT K), LamX.TabB base mg p.1 p.2) →
        FnOk P w K mg base (L2.CX P w) 7 f fd ["_law_script"]
          (sp_law K mg) := by
  obtain ⟨fd0, F0⟩ := c.def_ 0 (d := dd "hangs" s_hangs) rfl
  have g0 := He.glo_ok X G (c.fact 0 (f := .glo "hangs") rfl)
  obtain ⟨fd1, F1⟩ := c.def_ 1 (d := dd "by_leaving" s_by_leaving) rfl
  have g1 := He.glo_ok X G (c.fact 1 (f := .glo "by_leaving") rfl)
  obtain ⟨fd2, F2⟩ := c.def_ 2 (d := dd "soonest" s_soonest) rfl
  have g2 := He.glo_ok X G (c.fact 2 (f := .glo "soonest") rfl)
  obtain ⟨fd3, F3⟩ := c.def_ 3 (d := dd "no_way" s_no_way) rfl
  have g3 := He.glo_ok X G (c.fact 3 (f := .glo "no_way") rfl)
  obtain ⟨fd4, F4⟩ := c.def_ 4 (d := dd "bars" s_bars) rfl
  have g4 := He.glo_ok X G (c.fact 4 (f := .glo "bars") rfl)
  obtain ⟨fd5, F5⟩ := c.def_ 5 (d := dd "costs" s_costs) rfl
  have g5 := He.glo_ok X G (c.fact 5 (f := .glo "costs") rfl)
  obtain ⟨fd6, F6⟩ := c.def_ 6 (d := dd "least_change" s_least) rfl
  have g6 := He.glo_ok X G (c.fact 6 (f := .glo "least_change") rfl)
  obtain ⟨fd7, F7⟩ := c.def_ 7 (d := dd "_law_draws" s_draws) rfl
  have g7 := He.glo_ok X G (c.fact 7 (f := .glo "_law_draws") rfl)
  obtain ⟨fd8, F8⟩ := c.def_ 8 (d := dd "_law_same" s_same) rfl
  have g8 := He.glo_ok X G (c.fact 8 (f := .glo "_law_same") rfl)
  obtain ⟨fd9, F9⟩ := c.def_ 9 (d := dd "_law_names" s_names) rfl
  have g9 := He.glo_ok X G (c.fact 9 (f := .glo "_law_names") rfl)
  obtain ⟨fd10, F10⟩ := c.def_ 10 (d := dd "_law_hang" s_hang) rfl
  have g10 := He.glo_ok X G (c.fact 10 (f := .glo "_law_hang") rfl)
  obtain ⟨fd11, F11⟩ := c.def_ 11 (d := dd "_law_bars" s_lbars) rfl
  have g11 := He.glo_ok X G (c.fact 11 (f := .glo "_law_bars") rfl)
  obtain ⟨fd12, F12⟩ := c.def_ 12 (d := dd "_law_plan" s_plan) rfl
  have g12 := He.glo_ok X G (c.fact 12 (f := .glo "_law_plan") rfl)
  obtain ⟨fd13, F13⟩ := c.def_ 13 (d := dd "_law_ladder" s_ladder) rfl
  have g13 := He.glo_ok X G (c.fact 13 (f := .glo "_law_ladder") rfl)
  obtain ⟨fd14, F14⟩ := c.def_ 14 (d := dd "_law_soon" s_lsoon) rfl
  have g14 := He.glo_ok X G (c.fact 14 (f := .glo "_law_soon") rfl)
  obtain ⟨fd15, F15⟩ := c.def_ 15 (d := dd "law" s_law) rfl
  have g15 := He.glo_ok X G (c.fact 15 (f := .glo "law") rfl)
  have hf : Free mg := fun x hx => by
    obtain ⟨i, hi⟩ := List.getElem?_of_mem hx
    refine He.free_ok X G (c.fact (i + 16) (f := .free x) ?_)
    show (([.glo "hangs", .glo "by_leaving", .glo "soonest", .glo "no_way", .glo "bars", .glo "costs", .glo "least_change", .glo "_law_draws", .glo "_law_same", .glo "_law_names", .glo "_law_hang", .glo "_law_bars", .glo "_law_plan", .glo "_law_ladder", .glo "_law_soon", .glo "law"] : List He.Fa) ++ fr)[i + 16]? = _
    rw [List.getElem?_append_right (by simp)]
    simp [fr, hi]
  have e := hfa.symm.trans g15
  cases e
  have b := FunD.bindsA (ps := ["_law_script"]) F15
    fun _ _ _ _ _ _ us hl => match us, hl with | [_], _ => rfl
  refine ⟨fd15, fun s v => b s [v] rfl, fun base _ _ TB => ?_⟩
  have T_by_leaving := TB (He.cT K ("by_leaving", none)) (List.mem_map.mpr ⟨_, (by decide : (("by_leaving", none) : He.Defn) ∈ tf), rfl⟩)
  have T__law_plan := TB (He.cT K ("_law_plan", none)) (List.mem_map.mpr ⟨_, (by decide : (("_law_plan", none) : He.Defn) ∈ tf), rfl⟩)
  have T__law_soon := TB (He.cT K ("_law_soon", none)) (List.mem_map.mpr ⟨_, (by decide : (("_law_soon", none) : He.Defn) ∈ tf), rfl⟩)
  have HU_by_leaving := hu_of hx (n := "by_leaving") (by decide)
  have HU__law_plan := hu_of hx (n := "_law_plan") (by decide)
  have HU__law_soon := hu_of hx (n := "_law_soon") (by decide)
  have G_hangs := fk_hangs (P := P) (w := w) (base := base) F0 g0 hf 
  have G_by_leaving := fk_by_leaving (P := P) (w := w) (base := base) F1 g1 hf T_by_leaving HU_by_leaving 
  have G_soonest := fk_soonest (P := P) (w := w) (base := base) F2 g2 hf G_by_leaving
  have G_no_way := fk_no_way (P := P) (w := w) (base := base) F3 g3 hf G_soonest
  have G_bars := fk_bars (P := P) (w := w) (base := base) F4 g4 hf 
  have G_costs := fk_costs (P := P) (w := w) (base := base) F5 g5 hf 
  have G_least := fk_least (P := P) (w := w) (base := base) F6 g6 hf G_by_leaving G_costs G_hangs
  have G_draws := fk_draws (P := P) (w := w) (base := base) F7 g7 hf 
  have G_sameF := fk_sameF (P := P) (w := w) (base := base) F8 g8 hf 
  have G_names := fk_names (P := P) (w := w) (base := base) F9 g9 hf 
  have G_hang := fk_hang (P := P) (w := w) (base := base) F10 g10 hf 
  have G_lbars := fk_lbars (P := P) (w := w) (base := base) F11 g11 hf 
  have G_plan := fk_plan (P := P) (w := w) (base := base) F12 g12 hf T__law_plan HU__law_plan G_hang
  have G_ladder := fk_ladder (P := P) (w := w) (base := base) F13 g13 hf G_draws G_names
  have G_lsoon := fk_lsoon (P := P) (w := w) (base := base) F14 g14 hf T__law_soon HU__law_soon 
  exact ok_law F15 hf G_lbars G_draws G_ladder G_plan G_sameF G_lsoon G_bars G_least G_no_way G_soonest
end Hd
open PySem PySem.W PySem.Calls PyProof.Rows
theorem PySem.Challenge.cw_wayhold_k42_whole_many_rides_holds : PySem.Challenge.rw_wayhold_k42_whole_many_rides.Holds := by
  w_on
  o_law
  refine HandSHeadRun.head_any (r := Hd.rr)
    (q := view Hd.rr.prog [19]) (H := Hd.hh) (ob := Hd.oo) (M := 3000)
    (loose := Hd.ll) (d := HandSHeadRun.topDef Hd.rr.prog 19) (kwd := [])
    Hd.oo_hh (by kernel_rfl) (fun s => by kernel_rfl) Hd.goes
    (by kernel_rfl) (by kernel_rfl) (by kernel_rfl) (by rfl)
    (by first | assumption | decide +kernel) (by decide +kernel)
    ⟨rfl, rfl, rfl, rfl, rfl, by decide +kernel⟩ ?hw ?hc
  case hw => w_witness2
  case hc =>
    refine LamX.walk_ofTsE (l := PySem.Challenge.rw_wayhold_k42_whole_many_rides)
      (n := 63) (k := 7) (x := "_law_script") (CX := fun w => L2.CX (PySem.Challenge.rw_wayhold_k42_whole_many_rides).prog w) rfl (by decide)
      (by kernel_rfl) ⟨rfl, by decide, by decide⟩ ?F
      fun _ _ _ _ _ ⟨_, _, _, _, _, _, _, _, _, _, _, _, z⟩ => z
    intro w mg f h Y G m0
    obtain ⟨K, KX, c⟩ := Y
    have m1 : mg ("law" : PySem.Str) = some (.ref f) := by
      have e : (HandSHeadRun.topDef Hd.rr.prog 19).name
          = ("law" : PySem.Str) := by kernel_rfl
      rw [← e]
      exact m0
    obtain ⟨fd, hb, hF⟩ := Hd.told
      (P := (PySem.Challenge.rw_wayhold_k42_whole_many_rides).prog) (w := w) KX G m1 c.t.d c.more
    refine ⟨K, KX, fd, Hd.tf.map (He.cT K), Wf.sp_law K mg, ?_, ?_, ?_, hb, ?_, hF⟩
    · intro p hp
      obtain ⟨q, hq, rfl⟩ := List.mem_map.mp hp
      exact c.empty q hq
    · intro p hp
      obtain ⟨q, hq, rfl⟩ := List.mem_map.mp hp
      exact c.out q hq
    · intro p hp
      obtain ⟨q, hq, rfl⟩ := List.mem_map.mp hp
      exact PySem.W.codeHd_of_K KX (c.hd q hq)
    · intro H a ns hl hbits hT hS
      refine Wf.sp_end (fun z hz => ?_) hS (Wf.law_true ns hl)
      obtain ⟨m, hm, rfl⟩ := List.mem_map.mp hz
      exact LamX.TabS.nil (hT _ (List.mem_map.mpr ⟨(m, none), List.mem_map.mpr ⟨m, hm, rfl⟩, rfl⟩))
