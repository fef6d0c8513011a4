import PyProof.Rows.All
import Wide.All
import OpenK.AllK
import Wide.FinOn
import HandS.Conv
import HandS.Deep
import HandS.Dict
import HandS.ExcOwn
import HandS.ForExc
import HandS.ForMost
import HandS.IsInst
import HandS.RaiseMore
import HandS.Small
import HandS.Style
import HandS.Text
import HandS.TupAny
import HandS.TupMul
import HandS.Walk
import HandS.Wide
import HandS.WordsExc
import HandS.Zip
import KE.SortData
import PyProof.Rows.RegReprOcc
import PyProof.StrLawsRepr
import PyProof.TupleIter
import PySem.Challenge.RW_rankrows_k45_whole_weights_of_coverings
set_option Elab.async false
set_option linter.all false
set_option maxRecDepth 100000
set_option maxHeartbeats 4000000
/-! Sm1: values as trees, the relation to the hand layer's heaps, the judgements. -/
namespace Sm
open PySem PySem.Spec PyProof.Rows L2

abbrev D := PyData

/-! ### extension of heaps -/
def Ex (H H' : Hp) : Prop := ∀ a o, H a = some o → H' a = some o
theorem Ex.refl (H : Hp) : Ex H H := fun _ _ h => h
theorem Ex.trans {H H1 H2 : Hp} (a : Ex H H1) (b : Ex H1 H2) : Ex H H2 := fun x o h => b x o (a x o h)
theorem Ex.upd {H : Hp} {p : Addr} {o : HO} (h : H p = none) : Ex H (upd H p o) := fun a u e => by
  rw [upd_ne (ne_of_none e h)]; exact e
theorem ex_rd {H H' : Hp} {a : Addr} {u : HO} (e : Ex H H') (h : Rd H a u) : Rd H' a u := by
  rcases h with h | ⟨o, h⟩
  · exact Or.inl (e a _ h)
  · exact Or.inr ⟨o, e a _ h⟩
theorem ex_l {K : PySem.W.Frag} {H H' : Hp} {a : Addr} {xs : List V} (e : Ex H H') (h : SqL K H a xs) : SqL K H' a xs := by
  rcases h with h | h
  · exact Or.inl (ex_rd e h)
  · exact Or.inr h
theorem ex_t {K : PySem.W.Frag} {H H' : Hp} {a : Addr} {xs : List V} (e : Ex H H') (h : SqT K H a xs) : SqT K H' a xs := by
  rcases h with h | h
  · exact Or.inl (ex_rd e h)
  · exact Or.inr h
/-- all but what stands at ah -/
def mask (ah : Addr) (H : Hp) : Hp := fun a => if a = ah then none else H a
theorem mask_ne {ah a : Addr} {H : Hp} (h : a ≠ ah) : mask ah H a = H a := if_neg h
theorem mask_at {ah : Addr} {H : Hp} : mask ah H ah = none := if_pos rfl
theorem mask_sub {ah : Addr} {H : Hp} : Ex (mask ah H) H := fun a o e => by
  by_cases h : a = ah
  · subst h; rw [mask_at] at e; cases e
  · rwa [mask_ne h] at e

/-! ### trees and what stands for them -/
mutual
inductive Rp (K : PySem.W.Frag) (F : Hp) : D → V → Prop
  | non : Rp K F .none .non
  | bl (b : Bool) : Rp K F (.bool b) (.bl b)
  | int (i : Int) : Rp K F (.int i) (.int i)
  | str (x : Str) : Rp K F (.str x) (.str x)
  | lst {a : Addr} {xs : List V} {ds : List D} : F a = some (.lst xs) → RpAll K F ds xs → Rp K F (.list ds) (.ref a)
  | tup {a : Addr} {xs : List V} {ds : List D} : SqT K F a xs → RpAll K F ds xs → Rp K F (.tuple ds) (.ref a)
  | emp {a : Addr} : F a = some (.dK []) → Rp K F (.dict []) (.ref a)
inductive RpAll (K : PySem.W.Frag) (F : Hp) : List D → List V → Prop
  | nil : RpAll K F [] []
  | cons {d : D} {ds : List D} {v : V} {vs : List V} : Rp K F d v → RpAll K F ds vs → RpAll K F (d :: ds) (v :: vs)
end
section
variable {K : PySem.W.Frag} {F F' : Hp}
mutual
theorem Rp.mono (e : Ex F F') : ∀ (d : D) (x : V), Rp K F d x → Rp K F' d x
  | .none, _, h => by cases h; exact .non
  | .bool b, _, h => by cases h; exact .bl b
  | .int i, _, h => by cases h; exact .int i
  | .str x, _, h => by cases h; exact .str x
  | .list ds, _, h => by
    cases h with
    | lst h1 h2 => exact .lst (e _ _ h1) (RpAll.mono e ds _ h2)
  | .tuple ds, _, h => by
    cases h with
    | tup h1 h2 => exact .tup (ex_t e h1) (RpAll.mono e ds _ h2)
  | .dict kvs, _, h => by
    cases h with
    | emp h1 => exact .emp (e _ _ h1)
theorem RpAll.mono (e : Ex F F') : ∀ (ds : List D) (xs : List V), RpAll K F ds xs → RpAll K F' ds xs
  | [], _, h => by cases h; exact .nil
  | d :: ds, _, h => by
    cases h with
    | cons h1 h2 => exact .cons (Rp.mono e d _ h1) (RpAll.mono e ds _ h2)
end
theorem RpAll.len {ds : List D} {xs : List V} (h : RpAll K F ds xs) : xs.length = ds.length := by
  induction ds generalizing xs with
  | nil => cases h; rfl
  | cons d ds ih => cases h with | cons _ h2 => simp [ih h2]
theorem RpAll.get {ds : List D} {xs : List V} (h : RpAll K F ds xs) : ∀ {i : Nat} {d : D}, ds[i]? = some d → ∃ x, xs[i]? = some x ∧ Rp K F d x := by
  induction ds generalizing xs with
  | nil => intro i d e; simp at e
  | cons d0 ds ih =>
    intro i d e
    cases h with
    | cons h1 h2 =>
      cases i with
      | zero => simp at e; subst e; exact ⟨_, rfl, h1⟩
      | succ i => obtain ⟨x, e1, e2⟩ := ih h2 (i := i) (d := d) (by simpa using e); exact ⟨x, by simpa using e1, e2⟩
theorem RpAll.get' {ds : List D} {xs : List V} (h : RpAll K F ds xs) {i : Nat} {x : V} (e : xs[i]? = some x) : ∃ d, ds[i]? = some d ∧ Rp K F d x := by
  have hl := h.len
  have hi : i < ds.length := by rw [← hl]; exact (List.getElem?_eq_some_iff.mp e).1
  obtain ⟨y, e1, r⟩ := h.get (List.getElem?_eq_getElem hi)
  rw [e] at e1; cases e1
  exact ⟨_, List.getElem?_eq_getElem hi, r⟩
theorem RpAll.append {ds ds' : List D} {xs xs' : List V} (h : RpAll K F ds xs) (h' : RpAll K F ds' xs') : RpAll K F (ds ++ ds') (xs ++ xs') := by
  induction ds generalizing xs with
  | nil => cases h; exact h'
  | cons d ds ih => cases h with | cons h1 h2 => exact .cons h1 (ih h2)
theorem RpAll.snoc {ds : List D} {xs : List V} {d : D} {x : V} (h : RpAll K F ds xs) (r : Rp K F d x) : RpAll K F (ds ++ [d]) (xs ++ [x]) := h.append (.cons r .nil)
theorem RpAll.take {ds : List D} {xs : List V} (h : RpAll K F ds xs) : ∀ n, RpAll K F (ds.take n) (xs.take n) := by
  induction ds generalizing xs with
  | nil => intro n; cases h; simp; exact .nil
  | cons d ds ih =>
    intro n
    cases h with
    | cons h1 h2 =>
      cases n with
      | zero => exact .nil
      | succ n => exact .cons h1 (ih h2 n)
theorem RpAll.drop {ds : List D} {xs : List V} (h : RpAll K F ds xs) : ∀ n, RpAll K F (ds.drop n) (xs.drop n) := by
  induction ds generalizing xs with
  | nil => intro n; cases h; simp; exact .nil
  | cons d ds ih =>
    intro n
    cases h with
    | cons h1 h2 =>
      cases n with
      | zero => exact .cons h1 h2
      | succ n => exact ih h2 n
theorem RpAll.set {ds : List D} {xs : List V} {d : D} {x : V} (h : RpAll K F ds xs) (r : Rp K F d x) : ∀ n, RpAll K F (ds.set n d) (xs.set n x) := by
  induction ds generalizing xs with
  | nil => intro n; cases h; exact .nil
  | cons d0 ds ih =>
    intro n
    cases h with
    | cons h1 h2 =>
      cases n with
      | zero => exact .cons r h2
      | succ n => exact .cons h1 (ih h2 n)
theorem RpAll.reverse {ds : List D} {xs : List V} (h : RpAll K F ds xs) : RpAll K F ds.reverse xs.reverse := by
  induction ds generalizing xs with
  | nil => cases h; exact .nil
  | cons d ds ih =>
    cases h with
    | cons h1 h2 =>
      rw [List.reverse_cons, List.reverse_cons]
      exact (ih h2).snoc h1
theorem RpAll.ints : ∀ {ns : List Int}, RpAll K F (ns.map .int) (ns.map V.int)
  | [] => .nil
  | _ :: _ => .cons (.int _) RpAll.ints
theorem RpAll.of_ints : ∀ {ns : List Int} {xs : List V}, RpAll K F (ns.map .int) xs → xs = ns.map V.int
  | [], _, h => by cases h; rfl
  | n :: ns, _, h => by
    have h : RpAll K F (.int n :: ns.map .int) _ := h
    cases h with
    | cons h1 h2 => cases h1; rw [RpAll.of_ints h2]; rfl
end

/-! ### the hand (the law's one list that changes under many defs) -/
structure Hand where
  cells : List Int
  ix : Int
  rest : Int
  acc : Int
  cnt : Int

def HandAt (K : PySem.W.Frag) (F H : Hp) (ah : Addr) (g : Hand) : Prop :=
  ∃ ca, H ah = some (.lst [.ref ca, .int g.ix, .int g.rest, .int g.acc, .int g.cnt]) ∧ F ca = some (.lst (g.cells.map V.int))

inductive Val where
  | dat (d : D)
  | hand
  | ref (v : V)

def VRep (K : PySem.W.Frag) (ah : Addr) (F : Hp) : Val → V → Prop
  | .dat d, x => Rp K F d x
  | .hand, x => x = .ref ah
  | .ref v, x => x = v

inductive VReps (K : PySem.W.Frag) (ah : Addr) (F : Hp) : List Val → List V → Prop
  | nil : VReps K ah F [] []
  | cons {v : Val} {vs : List Val} {x : V} {xs : List V} : VRep K ah F v x → VReps K ah F vs xs → VReps K ah F (v :: vs) (x :: xs)

/-- what a slot of a def may own: a list, a dict, that nothing else knows -/
inductive Cel where
  | lst (ds : List D)
  | dK (kvs : List (Key × D))
  | dT (kvs : List (List Key × D))

def KRp {κ : Type} (K : PySem.W.Frag) (F : Hp) (kvs : List (κ × D)) (ks : List (κ × V)) : Prop := Paired (fun (p : κ × D) (q : κ × V) => p.1 = q.1 ∧ Rp K F p.2 q.2) kvs ks

def CelAt (K : PySem.W.Frag) (F : Hp) : Cel → HO → Prop
  | .lst ds, .lst xs => RpAll K F ds xs
  | .dK kvs, .dK ks => KRp K F kvs ks
  | .dT kvs, .dT ks => KRp K F kvs ks
  | _, _ => False

inductive Slot where
  | no
  | val (v : Val)
  | own (c : Cel)

def SlotAt (K : PySem.W.Frag) (ah : Addr) (F H : Hp) : Slot → Option V → Prop
  | .no, _ => True
  | .val v, x => ∃ y, x = some y ∧ VRep K ah F v y
  | .own c, x => ∃ a o, x = some (.ref a) ∧ H a = some o ∧ CelAt K F c o ∧ F a = none ∧ a ≠ ah

abbrev SE := List Slot

def OwnAt (e : SE) (σ : L2.St) (i : Nat) (a : Addr) : Prop := (∃ c, e[i]? = some (.own c)) ∧ σ[i]? = some (some (.ref a))

structure EnvAt (K : PySem.W.Frag) (ah : Addr) (F H : Hp) (e : SE) (σ : L2.St) : Prop where
  len : σ.length = e.length
  at_ : ∀ (i : Nat) (s : Slot) (x : Option V), e[i]? = some s → σ[i]? = some x → SlotAt K ah F H s x
  apart : ∀ (i j : Nat) (a : Addr), i ≠ j → OwnAt e σ i a → OwnAt e σ j a → False

/-- the ground: F what stands still, H the heap; H0, F0 at the def's entry -/
structure Gd (K : PySem.W.Frag) (ah : Addr) (H0 F0 F : Hp) (g : Hand) (H : Hp) : Prop where
  sub : Ex F H
  fah : F ah = none
  hand : HandAt K F H ah g
  ext : Ex F0 F
  new : ∀ a o, F a = some o → F0 a = some o ∨ H0 a = none
  keep : ∀ a o, a ≠ ah → H0 a = some o → H a = some o

structure Rel (K : PySem.W.Frag) (ah : Addr) (H0 F0 F : Hp) (e : SE) (g : Hand) (σ : L2.St) (H : Hp) : Prop where
  gd : Gd K ah H0 F0 F g H
  env : EnvAt K ah F H e σ
  own : ∀ i a, OwnAt e σ i a → H0 a = none

structure Step (ah : Addr) (F F' H H' : Hp) : Prop where
  ext : Ex F F'
  new : ∀ a o, F' a = some o → F a = some o ∨ H a = none
  keep : ∀ a o, a ≠ ah → H a = some o → H' a = some o
  live : ∀ a, H' a = none → H a = none
theorem Step.refl {ah : Addr} {F H : Hp} : Step ah F F H H := ⟨Ex.refl F, fun _ _ e => .inl e, fun _ _ _ e => e, fun _ e => e⟩
theorem Step.trans {ah : Addr} {F F1 F2 H H1 H2 : Hp} (a : Step ah F F1 H H1) (b : Step ah F1 F2 H1 H2) : Step ah F F2 H H2 :=
  ⟨a.ext.trans b.ext, fun x o e => by
    rcases b.new x o e with h | h
    · exact a.new x o h
    · exact .inr (a.live x h),
  fun x o n e => b.keep x o n (a.keep x o n e), fun x e => a.live x (b.live x e)⟩
theorem Step.mask {ah : Addr} {F F' H H' : Hp} (s : Step ah F F' H H') : Ex (Sm.mask ah H) (Sm.mask ah H') := fun a o e => by
  by_cases h : a = ah
  · subst h; rw [mask_at] at e; cases e
  · rw [mask_ne h] at e ⊢; exact s.keep a o h e

/-- a value that is read at once: a list may be owned by a slot -/
def VSee (K : PySem.W.Frag) (ah : Addr) (F H : Hp) (v : Val) (x : V) : Prop :=
  VRep K ah F v x ∨ ∃ ds a xs, v = .dat (.list ds) ∧ x = .ref a ∧ mask ah H a = some (.lst xs) ∧ RpAll K F ds xs

section
variable {K : PySem.W.Frag} {ah : Addr} {H0 F0 F F' H H' : Hp} {e : SE} {g g' : Hand} {σ : L2.St} {v : Val} {x : V}
theorem VRep.mono (ex : Ex F F') (h : VRep K ah F v x) : VRep K ah F' v x := by
  cases v with
  | dat d => exact Rp.mono ex d x h
  | hand => exact h
  | ref w => exact h
theorem VReps.mono (ex : Ex F F') : ∀ {vs : List Val} {xs : List V}, VReps K ah F vs xs → VReps K ah F' vs xs
  | _, _, .nil => .nil
  | _, _, .cons h t => .cons (h.mono ex) (VReps.mono ex t)
theorem VReps.len : ∀ {vs : List Val} {xs : List V}, VReps K ah F vs xs → xs.length = vs.length
  | _, _, .nil => rfl
  | _, _, .cons _ t => by simp [VReps.len t]
theorem VRep.see (h : VRep K ah F v x) : VSee K ah F H v x := .inl h
theorem VSee.step (s : Step ah F F' H H') (h : VSee K ah F H v x) : VSee K ah F' H' v x := by
  rcases h with h | ⟨ds, a, xs, e1, e2, h1, h2⟩
  · exact .inl (h.mono s.ext)
  · exact .inr ⟨ds, a, xs, e1, e2, s.mask _ _ h1, RpAll.mono s.ext ds xs h2⟩
theorem Gd.fmask (G : Gd K ah H0 F0 F g H) : Ex F (mask ah H) := fun a o e => by
  have n : a ≠ ah := fun z => by subst z; rw [G.fah] at e; cases e
  rw [mask_ne n]; exact G.sub a o e
theorem VSee.list {ds : List D} (G : Gd K ah H0 F0 F g H) (h : VSee K ah F H (.dat (.list ds)) x) : ∃ a xs, x = .ref a ∧ H a = some (.lst xs) ∧ a ≠ ah ∧ RpAll K F ds xs := by
  rcases h with h | ⟨ds', a, xs, e1, e2, h1, h2⟩
  · have h : Rp K F (.list ds) x := h
    cases h with
    | lst h1 h2 => exact ⟨_, _, rfl, G.sub _ _ h1, (fun z => by rw [z, G.fah] at h1; cases h1), h2⟩
  · cases e1
    have n : a ≠ ah := fun z => by rw [z, mask_at] at h1; cases h1
    exact ⟨a, xs, e2, by rw [mask_ne n] at h1; exact h1, n, h2⟩
theorem VSee.tup {ds : List D} (h : VSee K ah F H (.dat (.tuple ds)) x) : ∃ a xs, x = .ref a ∧ SqT K F a xs ∧ RpAll K F ds xs := by
  rcases h with h | ⟨ds', a, xs, e1, e2, h1, h2⟩
  · have h : Rp K F (.tuple ds) x := h
    cases h with
    | tup h1 h2 => exact ⟨_, _, rfl, h1, h2⟩
  · cases e1
theorem VSee.int {i : Int} (h : VSee K ah F H (.dat (.int i)) x) : x = .int i := by
  rcases h with h | ⟨ds', a, xs, e1, e2, h1, h2⟩
  · have h : Rp K F (.int i) x := h
    cases h; rfl
  · cases e1
theorem VSee.str {z : Str} (h : VSee K ah F H (.dat (.str z)) x) : x = .str z := by
  rcases h with h | ⟨ds', a, xs, e1, e2, h1, h2⟩
  · have h : Rp K F (.str z) x := h
    cases h; rfl
  · cases e1
theorem VSee.bl {b : Bool} (h : VSee K ah F H (.dat (.bool b)) x) : x = .bl b := by
  rcases h with h | ⟨ds', a, xs, e1, e2, h1, h2⟩
  · have h : Rp K F (.bool b) x := h
    cases h; rfl
  · cases e1
theorem VSee.non (h : VSee K ah F H (.dat .none) x) : x = .non := by
  rcases h with h | ⟨ds', a, xs, e1, e2, h1, h2⟩
  · have h : Rp K F .none x := h
    cases h; rfl
  · cases e1
theorem Gd.hlive (G : Gd K ah H0 F0 F g H) : H ah ≠ none := by
  obtain ⟨ca, h, _⟩ := G.hand
  rw [h]; exact fun z => by cases z
theorem Gd.fresh_ne (G : Gd K ah H0 F0 F g H) {p : Addr} (h : H p = none) : p ≠ ah := fun z => G.hlive (z ▸ h)
theorem Gd.fresh0 (G : Gd K ah H0 F0 F g H) {p : Addr} (h : H p = none) : H0 p = none := by
  cases q : H0 p with
  | none => rfl
  | some o => rw [G.keep p o (G.fresh_ne h) q] at h; cases h
theorem Gd.freshF (G : Gd K ah H0 F0 F g H) {p : Addr} (h : H p = none) : F p = none := by
  cases q : F p with
  | none => rfl
  | some o => rw [G.sub p o q] at h; cases h
theorem HandAt.mono (ex : Ex F F') (hh : H' ah = H ah) (h : HandAt K F H ah g) : HandAt K F' H' ah g := by
  obtain ⟨ca, h1, h2⟩ := h
  exact ⟨ca, by rw [hh]; exact h1, ex _ _ h2⟩
theorem paired_imp {α β : Type} {P Q : α → β → Prop} (h : ∀ a b, P a b → Q a b) : ∀ {as : List α} {bs : List β}, Paired P as bs → Paired Q as bs
  | _, _, .nil => .nil
  | _, _, .cons r t => .cons (h _ _ r) (paired_imp h t)
theorem CelAt.mono (ex : Ex F F') {c : Cel} {o : HO} (h : CelAt K F c o) : CelAt K F' c o := by
  cases c with
  | lst ds =>
    cases o with
    | lst xs => exact RpAll.mono ex ds xs h
    | _ => exact h
  | dK kvs =>
    cases o with
    | dK ks => exact paired_imp (fun p q r => ⟨r.1, Rp.mono ex _ _ r.2⟩) h
    | _ => exact h
  | dT kvs =>
    cases o with
    | dT ks => exact paired_imp (fun p q r => ⟨r.1, Rp.mono ex _ _ r.2⟩) h
    | _ => exact h
/-- a new thing at p that stands still from now on -/
theorem Rel.froz {p : Addr} {o : HO} (R : Rel K ah H0 F0 F e g σ H) (hp : H p = none) : Rel K ah H0 F0 (upd F p o) e g σ (upd H p o) ∧ Step ah F (upd F p o) H (upd H p o) := by
  have G := R.gd
  have n := G.fresh_ne hp
  have fp := G.freshF hp
  have ex : Ex F (upd F p o) := Ex.upd fp
  refine ⟨⟨⟨fun a u h => ?_, ?_, G.hand.mono ex (upd_ne n.symm), G.ext.trans ex, fun a u h => ?_, fun a u na h => ?_⟩, ⟨R.env.len, fun i s x h1 h2 => ?_, R.env.apart⟩, R.own⟩, ⟨ex, fun a u h => ?_, fun a u na h => ?_, fun a h => ?_⟩⟩
  · by_cases z : a = p
    · subst z; rw [upd_same] at h ⊢; exact h
    · rw [upd_ne z] at h ⊢; exact G.sub a u h
  · rw [upd_ne n.symm]; exact G.fah
  · by_cases z : a = p
    · subst z; exact .inr (G.fresh0 hp)
    · rw [upd_ne z] at h; exact G.new a u h
  · rw [upd_ne (ne_of_none (G.keep a u na h) hp)]; exact G.keep a u na h
  · have q := R.env.at_ i s x h1 h2
    cases s with
    | no => trivial
    | val v => obtain ⟨y, e1, r⟩ := q; exact ⟨y, e1, r.mono ex⟩
    | own c =>
      obtain ⟨a, o', e1, e2, e3, e4, e5⟩ := q
      have na : a ≠ p := ne_of_none e2 hp
      exact ⟨a, o', e1, by rw [upd_ne na]; exact e2, e3.mono ex, by rw [upd_ne na]; exact e4, e5⟩
  · by_cases z : a = p
    · subst z; exact .inr hp
    · rw [upd_ne z] at h; exact .inl h
  · rw [upd_ne (ne_of_none h hp)]; exact h
  · by_cases z : a = p
    · subst z; exact hp
    · rw [upd_ne z] at h; exact h
/-- a new thing at p that nobody keeps -/
theorem Rel.waste {p : Addr} {o : HO} (R : Rel K ah H0 F0 F e g σ H) (hp : H p = none) : Rel K ah H0 F0 F e g σ (upd H p o) ∧ Step ah F F H (upd H p o) := by
  have G := R.gd
  have n := G.fresh_ne hp
  refine ⟨⟨⟨fun a u h => ?_, G.fah, G.hand.mono (Ex.refl F) (upd_ne n.symm), G.ext, G.new, fun a u na h => ?_⟩, ⟨R.env.len, fun i s x h1 h2 => ?_, R.env.apart⟩, R.own⟩, ⟨Ex.refl F, fun a u h => .inl h, fun a u na h => ?_, fun a h => ?_⟩⟩
  · rw [upd_ne (ne_of_none (G.sub a u h) hp)]; exact G.sub a u h
  · rw [upd_ne (ne_of_none (G.keep a u na h) hp)]; exact G.keep a u na h
  · have q := R.env.at_ i s x h1 h2
    cases s with
    | no => trivial
    | val v => exact q
    | own c =>
      obtain ⟨a, o', e1, e2, e3, e4, e5⟩ := q
      have na : a ≠ p := ne_of_none e2 hp
      exact ⟨a, o', e1, by rw [upd_ne na]; exact e2, e3, e4, e5⟩
  · rw [upd_ne (ne_of_none h hp)]; exact h
  · by_cases z : a = p
    · subst z; exact hp
    · rw [upd_ne z] at h; exact h
end

/-! ### results -/
structure Exc where
  name : Str
  arg : Option D
inductive Res (α : Type) where
  | ok (a : α) (g : Hand)
  | err (e : Exc) (g : Hand)
  | stuck
def Res.bind {α β : Type} (r : Res α) (f : α → Hand → Res β) : Res β := match r with
  | .ok a g => f a g
  | .err e g => .err e g
  | .stuck => .stuck
def Res.data {β : Type} (r : Res Val) (f : D → Hand → Res β) : Res β := match r with
  | .ok (.dat d) g => f d g
  | .ok _ _ => .stuck
  | .err e g => .err e g
  | .stuck => .stuck
def Res.ofO (o : Option D) (g : Hand) : Res Val := match o with
  | some d => .ok (.dat d) g
  | none => .stuck
inductive SR where
  | nx (e : SE) (g : Hand)
  | ret (v : Val) (g : Hand)
  | brk (e : SE) (g : Hand)
  | ct (e : SE) (g : Hand)
  | err (e : Exc) (g : Hand)
  | stuck
abbrev ME := SE → Hand → Res Val
abbrev MN := SE → Hand → Res (List D)
abbrev MT := SE → Hand → Res Bool
abbrev MA := SE → Hand → Res (List Val)
abbrev MS := SE → Hand → SR

def ExcAt (K : PySem.W.Frag) (mg : Str → Option Value) (F : Hp) (e : Exc) (c : Value) (d : Option Addr) (H : Hp) : Prop :=
  ∃ C, c = .ref C ∧ mg e.name = some (.ref C) ∧ match e.arg with
    | none => d = none
    | some v => ∃ dd x f, d = some dd ∧ H dd = some (.xd [(f, x)]) ∧ Rp K F v x

section
variable (K : PySem.W.Frag) (mg : Str → Option Value) (E : XK)
def PostX (ah : Addr) (H0 F0 : Hp) (e : Exc) (g : Hand) : Prop := ∀ F' H' c d, Gd K ah H0 F0 F' g H' → ExcAt K mg F' e c d H' → E c d H'
def PostE (ah : Addr) (H0 F0 F : Hp) (e : SE) (σ : L2.St) (H : Hp) (Q : VK) : Res Val → Prop
  | .ok v g' => ∀ F' H' x, Step ah F F' H H' → Rel K ah H0 F0 F' e g' σ H' → VRep K ah F' v x → Q x H'
  | .err ex g' => PostX K mg E ah H0 F0 ex g'
  | .stuck => False
def PostP (ah : Addr) (H0 F0 F : Hp) (e : SE) (σ : L2.St) (H : Hp) (Q : VK) : Res Val → Prop
  | .ok v g' => ∀ F' H' x, Step ah F F' H H' → Rel K ah H0 F0 F' e g' σ H' → VSee K ah F' H' v x → Q x H'
  | .err ex g' => PostX K mg E ah H0 F0 ex g'
  | .stuck => False
def PostT (ah : Addr) (H0 F0 F : Hp) (e : SE) (σ : L2.St) (H : Hp) (Q : Bool → Hp → Prop) : Res Bool → Prop
  | .ok b g' => ∀ F' H', Step ah F F' H H' → Rel K ah H0 F0 F' e g' σ H' → Q b H'
  | .err ex g' => PostX K mg E ah H0 F0 ex g'
  | .stuck => False
def PostA (ah : Addr) (H0 F0 F : Hp) (e : SE) (σ : L2.St) (H : Hp) (Q : List V → Hp → Prop) : Res (List Val) → Prop
  | .ok vs g' => ∀ F' H' xs, Step ah F F' H H' → Rel K ah H0 F0 F' e g' σ H' → VReps K ah F' vs xs → Q xs H'
  | .err ex g' => PostX K mg E ah H0 F0 ex g'
  | .stuck => False
def PostS (ah : Addr) (H0 F0 F : Hp) (Dn : Ends) : SR → Prop
  | .nx e' g' => ∀ F' H' σ', Ex F F' → Rel K ah H0 F0 F' e' g' σ' H' → Dn.nx σ' H'
  | .ret v g' => ∀ F' H' x, Gd K ah H0 F0 F' g' H' → VRep K ah F' v x → Dn.rt x H'
  | .brk e' g' => ∀ F' H' σ', Ex F F' → Rel K ah H0 F0 F' e' g' σ' H' → Dn.bk σ' H'
  | .ct e' g' => ∀ F' H' σ', Ex F F' → Rel K ah H0 F0 F' e' g' σ' H' → Dn.ct σ' H'
  | .err ex g' => PostX K mg E ah H0 F0 ex g'
  | .stuck => False
/-- a new list that nobody else knows -/
def PostN (ah : Addr) (H0 F0 F : Hp) (e : SE) (σ : L2.St) (H : Hp) (Q : VK) : Res (List D) → Prop
  | .ok ds g' => ∀ F' H' a xs, Step ah F F' H H' → Rel K ah H0 F0 F' e g' σ H' → H' a = some (.lst xs) → RpAll K F' ds xs → F' a = none → H a = none → Q (.ref a) H'
  | .err ex g' => PostX K mg E ah H0 F0 ex g'
  | .stuck => False
def trN (m : MN) : TE := fun σ H Q => ∃ ah H0 F0 F e g, Rel K ah H0 F0 F e g σ H ∧ PostN K mg E ah H0 F0 F e σ H Q (m e g)
def trE (m : ME) : TE := fun σ H Q => ∃ ah H0 F0 F e g, Rel K ah H0 F0 F e g σ H ∧ PostE K mg E ah H0 F0 F e σ H Q (m e g)
def trP (m : ME) : TE := fun σ H Q => ∃ ah H0 F0 F e g, Rel K ah H0 F0 F e g σ H ∧ PostP K mg E ah H0 F0 F e σ H Q (m e g)
def trT (m : MT) : TT := fun σ H Q => ∃ ah H0 F0 F e g, Rel K ah H0 F0 F e g σ H ∧ PostT K mg E ah H0 F0 F e σ H Q (m e g)
def trA (m : MA) : TA := fun σ H Q => ∃ ah H0 F0 F e g, Rel K ah H0 F0 F e g σ H ∧ PostA K mg E ah H0 F0 F e σ H Q (m e g)
def trS (m : MS) : TS := fun Dn σ H => ∃ ah H0 F0 F e g, Rel K ah H0 F0 F e g σ H ∧ PostS K mg E ah H0 F0 F Dn (m e g)
end

/-! ### the judgements -/
section
variable (X : Cx) (E : XK)
abbrev simE (e : Expr) (m : ME) : Prop := PE X e (trE X.K X.mg E m)
abbrev simN (e : Expr) (m : MN) : Prop := PE X e (trN X.K X.mg E m)
abbrev simP (e : Expr) (m : ME) : Prop := PE X e (trP X.K X.mg E m)
abbrev simT (e : Expr) (m : MT) : Prop := PT X e (trT X.K X.mg E m)
abbrev simW (e : Expr) (m : MT) : Prop := PW X e (trT X.K X.mg E m)
abbrev simA (es : List Expr) (m : MA) : Prop := PA X es (trA X.K X.mg E m)
abbrev simS (st : Stmt) (m : MS) : Prop := PS X st (trS X.K X.mg E m)
abbrev simB (sts : List Stmt) (m : MS) : Prop := PSs X sts (trS X.K X.mg E m)
end
section
variable {X : Cx}
theorem PE.imp {e : Expr} {t t' : TE} (h : PE X e t) (i : ∀ σ H Q, t' σ H Q → t σ H Q) : PE X e t' := ⟨fun pins s σ H Q I q => h.run pins s σ H Q I (i _ _ _ q)⟩
theorem PT.imp {e : Expr} {t t' : TT} (h : PT X e t) (i : ∀ σ H Q, t' σ H Q → t σ H Q) : PT X e t' := ⟨fun pins s σ H Q I q => h.run pins s σ H Q I (i _ _ _ q)⟩
theorem PW.imp {e : Expr} {t t' : TT} (h : PW X e t) (i : ∀ σ H Q, t' σ H Q → t σ H Q) : PW X e t' := ⟨fun wh pins s σ H Q I q => h.run wh pins s σ H Q I (i _ _ _ q)⟩
theorem PA.imp {es : List Expr} {t t' : TA} (h : PA X es t) (i : ∀ σ H Q, t' σ H Q → t σ H Q) : PA X es t' := ⟨fun pos pins s σ H Q I q => h.run pos pins s σ H Q I (i _ _ _ q)⟩
theorem PS.imp {st : Stmt} {t t' : TS} (h : PS X st t) (i : ∀ Dn σ H, t' Dn σ H → t Dn σ H) : PS X st t' := ⟨fun pins s σ H Dn I q => h.run pins s σ H Dn I (i _ _ _ q)⟩
theorem PSs.imp {st : List Stmt} {t t' : TS} (h : PSs X st t) (i : ∀ Dn σ H, t' Dn σ H → t Dn σ H) : PSs X st t' := ⟨fun pins s σ H Dn I q => h.run pins s σ H Dn I (i _ _ _ q)⟩
end
end Sm

/-! Sm2: binding, the simple expressions, tests, small statements. -/
namespace Sm
open PySem PySem.Spec PyProof.Rows L2

class Out (γ : Type) where
  err : Exc → Hand → γ
  stuck : γ
instance {β : Type} : Out (Res β) := ⟨Res.err, Res.stuck⟩
instance : Out SR := ⟨SR.err, SR.stuck⟩
def Res.bnd {α γ : Type} [Out γ] (r : Res α) (f : α → Hand → γ) : γ := match r with
  | .ok a g => f a g
  | .err e g => Out.err e g
  | .stuck => Out.stuck
def Res.dat {γ : Type} [Out γ] (r : Res Val) (f : D → Hand → γ) : γ := match r with
  | .ok (.dat d) g => f d g
  | .ok _ _ => Out.stuck
  | .err e g => Out.err e g
  | .stuck => Out.stuck
theorem bnd_ok {α γ : Type} [Out γ] (a : α) (g : Hand) (f : α → Hand → γ) : (Res.ok a g).bnd f = f a g := rfl
theorem dat_ok {γ : Type} [Out γ] (d : D) (g : Hand) (f : D → Hand → γ) : (Res.ok (.dat d) g).dat f = f d g := rfl

section
variable {K : PySem.W.Frag} {mg : Str → Option Value} {E : XK} {ah : Addr} {H0 F0 F F' H H' : Hp} {e : SE} {g g' : Hand} {σ : L2.St}
theorem postE_step {Q : VK} {r : Res Val} (s : Step ah F F' H H') (p : PostE K mg E ah H0 F0 F e σ H Q r) : PostE K mg E ah H0 F0 F' e σ H' Q r := by
  cases r with
  | ok v g => exact fun F2 H2 x st R v => p F2 H2 x (s.trans st) R v
  | err ex g => exact p
  | stuck => exact p
theorem postP_step {Q : VK} {r : Res Val} (s : Step ah F F' H H') (p : PostP K mg E ah H0 F0 F e σ H Q r) : PostP K mg E ah H0 F0 F' e σ H' Q r := by
  cases r with
  | ok v g => exact fun F2 H2 x st R v => p F2 H2 x (s.trans st) R v
  | err ex g => exact p
  | stuck => exact p
theorem postT_step {Q : Bool → Hp → Prop} {r : Res Bool} (s : Step ah F F' H H') (p : PostT K mg E ah H0 F0 F e σ H Q r) : PostT K mg E ah H0 F0 F' e σ H' Q r := by
  cases r with
  | ok v g => exact fun F2 H2 st R => p F2 H2 (s.trans st) R
  | err ex g => exact p
  | stuck => exact p
theorem postA_step {Q : List V → Hp → Prop} {r : Res (List Val)} (s : Step ah F F' H H') (p : PostA K mg E ah H0 F0 F e σ H Q r) : PostA K mg E ah H0 F0 F' e σ H' Q r := by
  cases r with
  | ok v g => exact fun F2 H2 x st R v => p F2 H2 x (s.trans st) R v
  | err ex g => exact p
  | stuck => exact p

/-- what a continuation's wish must be -/
structure Cont {γ : Type} [Out γ] (K : PySem.W.Frag) (mg : Str → Option Value) (E : XK) (ah : Addr) (H0 F0 : Hp) (W : Hp → Hp → γ → Prop) : Prop where
  err : ∀ {F H ex g}, W F H (Out.err ex g) → PostX K mg E ah H0 F0 ex g
  stuck : ∀ {F H}, ¬ W F H Out.stuck
  step : ∀ {F F' H H' r}, Step ah F F' H H' → W F H r → W F' H' r
theorem postN_step {Q : VK} {r : Res (List D)} (s : Step ah F F' H H') (p : PostN K mg E ah H0 F0 F e σ H Q r) : PostN K mg E ah H0 F0 F' e σ H' Q r := by
  cases r with
  | ok ds g => exact fun F2 H2 a xs st R h1 h2 h3 h4 => p F2 H2 a xs (s.trans st) R h1 h2 h3 (s.live a h4)
  | err ex g => exact p
  | stuck => exact p
theorem contN {Q : VK} : Cont K mg E ah H0 F0 (fun F H r => PostN K mg E ah H0 F0 F e σ H Q r) := ⟨fun p => p, fun p => p, postN_step⟩
theorem contE {Q : VK} : Cont K mg E ah H0 F0 (fun F H r => PostE K mg E ah H0 F0 F e σ H Q r) := ⟨fun p => p, fun p => p, postE_step⟩
theorem contP {Q : VK} : Cont K mg E ah H0 F0 (fun F H r => PostP K mg E ah H0 F0 F e σ H Q r) := ⟨fun p => p, fun p => p, postP_step⟩
theorem contT {Q : Bool → Hp → Prop} : Cont K mg E ah H0 F0 (fun F H r => PostT K mg E ah H0 F0 F e σ H Q r) := ⟨fun p => p, fun p => p, postT_step⟩
theorem contA {Q : List V → Hp → Prop} : Cont K mg E ah H0 F0 (fun F H r => PostA K mg E ah H0 F0 F e σ H Q r) := ⟨fun p => p, fun p => p, postA_step⟩
theorem postS_ex {Dn : Ends} {r : SR} (x : Ex F F') (p : PostS K mg E ah H0 F0 F Dn r) : PostS K mg E ah H0 F0 F' Dn r := by
  cases r with
  | nx e g => exact fun F2 H2 σ2 y R => p F2 H2 σ2 (x.trans y) R
  | brk e g => exact fun F2 H2 σ2 y R => p F2 H2 σ2 (x.trans y) R
  | ct e g => exact fun F2 H2 σ2 y R => p F2 H2 σ2 (x.trans y) R
  | ret v g => exact p
  | err ex g => exact p
  | stuck => exact p
theorem contS {Dn : Ends} : Cont K mg E ah H0 F0 (fun F _ r => PostS K mg E ah H0 F0 F Dn r) := ⟨fun p => p, fun p => p, fun s p => postS_ex s.ext p⟩

section
variable {γ : Type} [Out γ] {W : Hp → Hp → γ → Prop}
theorem bindE (c : Cont K mg E ah H0 F0 W) {r : Res Val} {f : Val → Hand → γ} {Q : VK} (p : W F H (r.bnd f))
    (k : ∀ {v g' F' H' x}, Step ah F F' H H' → Rel K ah H0 F0 F' e g' σ H' → VRep K ah F' v x → W F' H' (f v g') → Q x H') : PostE K mg E ah H0 F0 F e σ H Q r := by
  cases r with
  | ok v g => exact fun F2 H2 x st R s => k st R s (c.step st p)
  | err ex g => exact c.err p
  | stuck => exact c.stuck p
theorem bindED (c : Cont K mg E ah H0 F0 W) {r : Res Val} {f : D → Hand → γ} {Q : VK} (p : W F H (r.dat f))
    (k : ∀ {d g' F' H' x}, Step ah F F' H H' → Rel K ah H0 F0 F' e g' σ H' → Rp K F' d x → W F' H' (f d g') → Q x H') : PostE K mg E ah H0 F0 F e σ H Q r := by
  cases r with
  | ok v g =>
    cases v with
    | dat d => exact fun F2 H2 x st R s => k st R s (c.step st p)
    | hand => exact (c.stuck p).elim
    | ref w => exact (c.stuck p).elim
  | err ex g => exact c.err p
  | stuck => exact c.stuck p
theorem bindP (c : Cont K mg E ah H0 F0 W) {r : Res Val} {f : Val → Hand → γ} {Q : VK} (p : W F H (r.bnd f))
    (k : ∀ {v g' F' H' x}, Step ah F F' H H' → Rel K ah H0 F0 F' e g' σ H' → VSee K ah F' H' v x → W F' H' (f v g') → Q x H') : PostP K mg E ah H0 F0 F e σ H Q r := by
  cases r with
  | ok v g => exact fun F2 H2 x st R s => k st R s (c.step st p)
  | err ex g => exact c.err p
  | stuck => exact c.stuck p
theorem bindPD (c : Cont K mg E ah H0 F0 W) {r : Res Val} {f : D → Hand → γ} {Q : VK} (p : W F H (r.dat f))
    (k : ∀ {d g' F' H' x}, Step ah F F' H H' → Rel K ah H0 F0 F' e g' σ H' → VSee K ah F' H' (.dat d) x → W F' H' (f d g') → Q x H') : PostP K mg E ah H0 F0 F e σ H Q r := by
  cases r with
  | ok v g =>
    cases v with
    | dat d => exact fun F2 H2 x st R s => k st R s (c.step st p)
    | hand => exact (c.stuck p).elim
    | ref w => exact (c.stuck p).elim
  | err ex g => exact c.err p
  | stuck => exact c.stuck p
theorem bindN (c : Cont K mg E ah H0 F0 W) {r : Res (List D)} {f : List D → Hand → γ} {Q : VK} (p : W F H (r.bnd f))
    (k : ∀ {ds g' F' H' a xs}, Step ah F F' H H' → Rel K ah H0 F0 F' e g' σ H' → H' a = some (.lst xs) → RpAll K F' ds xs → F' a = none → H a = none → W F' H' (f ds g') → Q (.ref a) H') : PostN K mg E ah H0 F0 F e σ H Q r := by
  cases r with
  | ok v g => exact fun F2 H2 a xs st R h1 h2 h3 h4 => k st R h1 h2 h3 h4 (c.step st p)
  | err ex g => exact c.err p
  | stuck => exact c.stuck p
theorem bindT (c : Cont K mg E ah H0 F0 W) {r : Res Bool} {f : Bool → Hand → γ} {Q : Bool → Hp → Prop} (p : W F H (r.bnd f))
    (k : ∀ {b g' F' H'}, Step ah F F' H H' → Rel K ah H0 F0 F' e g' σ H' → W F' H' (f b g') → Q b H') : PostT K mg E ah H0 F0 F e σ H Q r := by
  cases r with
  | ok v g => exact fun F2 H2 st R => k st R (c.step st p)
  | err ex g => exact c.err p
  | stuck => exact c.stuck p
theorem bindA (c : Cont K mg E ah H0 F0 W) {r : Res (List Val)} {f : List Val → Hand → γ} {Q : List V → Hp → Prop} (p : W F H (r.bnd f))
    (k : ∀ {vs g' F' H' xs}, Step ah F F' H H' → Rel K ah H0 F0 F' e g' σ H' → VReps K ah F' vs xs → W F' H' (f vs g') → Q xs H') : PostA K mg E ah H0 F0 F e σ H Q r := by
  cases r with
  | ok v g => exact fun F2 H2 x st R s => k st R s (c.step st p)
  | err ex g => exact c.err p
  | stuck => exact c.stuck p
end
end

/-! ### names, constants -/
def mVar (i : Nat) : ME := fun e g => match e[i]? with
  | some (.val v) => .ok v g
  | _ => .stuck
def mPeek (i : Nat) : ME := fun e g => match e[i]? with
  | some (.val v) => .ok v g
  | some (.own (.lst ds)) => .ok (.dat (.list ds)) g
  | _ => .stuck
def mC (d : D) : ME := fun _ g => .ok (.dat d) g
def mV (v : Val) : ME := fun _ g => .ok v g

section
variable {X : Cx} {E : XK}
section
variable {K : PySem.W.Frag} {ah : Addr} {H0 F0 F H : Hp} {e : SE} {g : Hand} {σ : L2.St}
theorem EnvAt.slot {i : Nat} {s : Slot} (I : EnvAt K ah F H e σ) (h : e[i]? = some s) : ∃ x, σ[i]? = some x ∧ SlotAt K ah F H s x := by
  have hi : i < σ.length := by rw [I.len]; exact (List.getElem?_eq_some_iff.mp h).1
  exact ⟨_, List.getElem?_eq_getElem hi, I.at_ i s _ h (List.getElem?_eq_getElem hi)⟩
theorem Rel.val {i : Nat} {v : Val} (R : Rel K ah H0 F0 F e g σ H) (h : e[i]? = some (.val v)) : ∃ x, σ[i]? = some (some x) ∧ VRep K ah F v x := by
  obtain ⟨x, h1, y, rfl, r⟩ := R.env.slot h
  exact ⟨y, h1, r⟩
theorem Rel.owned {i : Nat} {c : Cel} (R : Rel K ah H0 F0 F e g σ H) (h : e[i]? = some (.own c)) : ∃ a o, σ[i]? = some (some (.ref a)) ∧ H a = some o ∧ CelAt K F c o ∧ F a = none ∧ a ≠ ah ∧ H0 a = none := by
  obtain ⟨x, h1, a, o, rfl, h2, h3, h4, h5⟩ := R.env.slot h
  exact ⟨a, o, h1, h2, h3, h4, h5, R.own i a ⟨⟨c, h⟩, h1⟩⟩
end
theorem eVar (i : Nat) {x : Str} {pos : Pos} (h : PE X (.Name x pos) (tVar i)) : simE X E (.Name x pos) (mVar i) := PE.imp h fun σ H Q p => by
  obtain ⟨ah, H0, F0, F, e, g, R, p⟩ := p
  unfold mVar at p
  split at p
  · rename_i v hv
    obtain ⟨x, hx, r⟩ := R.val hv
    exact ⟨x, hx, p F H x Step.refl R r⟩
  · exact p.elim
theorem pVar (i : Nat) {x : Str} {pos : Pos} (h : PE X (.Name x pos) (tVar i)) : simP X E (.Name x pos) (mPeek i) := PE.imp h fun σ H Q p => by
  obtain ⟨ah, H0, F0, F, e, g, R, p⟩ := p
  unfold mPeek at p
  split at p
  · rename_i v hv
    obtain ⟨x, hx, r⟩ := R.val hv
    exact ⟨x, hx, p F H x Step.refl R r.see⟩
  · rename_i ds hv
    obtain ⟨a, o, hx, h1, h2, h3, h4, h5⟩ := R.owned hv
    cases o with
    | lst xs => exact ⟨_, hx, p F H _ Step.refl R (.inr ⟨ds, a, xs, rfl, rfl, by rw [mask_ne h4]; exact h1, h2⟩)⟩
    | _ => exact h2.elim
  · exact p.elim
theorem eC {e : Expr} {d : D} {v : V} (h : PE X e (tC v)) (r : ∀ F, Rp X.K F d v) : simE X E e (mC d) := PE.imp h fun σ H Q p => by
  obtain ⟨ah, H0, F0, F, e, g, R, p⟩ := p
  exact p F H v Step.refl R (r F)
theorem eInt {i : Int} {j pos} : simE X E (.Constant (.int i) j pos) (mC (.int i)) := eC pe_int fun _ => .int i
theorem eBl {b : Bool} {j pos} : simE X E (.Constant (.bool b) j pos) (mC (.bool b)) := eC pe_bl fun _ => .bl b
theorem eNon {j pos} : simE X E (.Constant .none j pos) (mC .none) := eC pe_non fun _ => .non
theorem eStr {x : Str} {j pos} : simE X E (.Constant (.str x) j pos) (mC (.str x)) := eC pe_str fun _ => .str x
/-- a module's int, text; any thing that stands in the written part -/
theorem eGlob {x : Str} {v : V} {u : Value} {d : D} {pos : Pos} (hg : Gl X x) (hm : X.mg x = some u) (r : RelV v u) (hr : ∀ F, Rp X.K F d v) (hd : (x == ("__debug__" : Str)) = false := by decide) : simE X E (.Name x pos) (mC d) :=
  eC (pe_glob hg hm r hd) hr
theorem see {e : Expr} {m : ME} (h : simE X E e m) : simP X E e m := PE.imp h fun σ H Q p => by
  obtain ⟨ah, H0, F0, F, e, g, R, p⟩ := p
  refine ⟨ah, H0, F0, F, e, g, R, ?_⟩
  cases q : m e g with
  | ok v g' => rw [q] at p; exact fun F' H' x st R' r => p F' H' x st R' r.see
  | err ex g' => rw [q] at p; exact p
  | stuck => rw [q] at p; exact p

/-! ### operators -/
def mOp2 (f : D → D → Option D) (ma mb : ME) : ME := fun e g => (ma e g).dat fun a g => (mb e g).dat fun b g => Res.ofO (f a b) g
def mOp1 (f : D → Option D) (ma : ME) : ME := fun e g => (ma e g).dat fun a g => Res.ofO (f a) g
/-- what an operator's rule asks, answered by a plain function -/
structure OpS (K : PySem.W.Frag) (r : R2) (f : D → D → Option D) : Prop where
  run : ∀ {ah : Addr} {H0 F0 F : Hp} {e : SE} {g : Hand} {σ : L2.St} {H : Hp} {a b v : D} {x y : V} {Q : VK}, Rel K ah H0 F0 F e g σ H → VSee K ah F H (.dat a) x → VSee K ah F H (.dat b) y → f a b = some v →
  (∀ F' H' z, Step ah F F' H H' → Rel K ah H0 F0 F' e g σ H' → Rp K F' v z → Q z H') → r x y H Q
structure UnS (K : PySem.W.Frag) (r : V → Hp → VK → Prop) (f : D → Option D) : Prop where
  run : ∀ {ah : Addr} {H0 F0 F : Hp} {e : SE} {g : Hand} {σ : L2.St} {H : Hp} {a v : D} {x : V} {Q : VK}, Rel K ah H0 F0 F e g σ H → VSee K ah F H (.dat a) x → f a = some v →
  (∀ F' H' z, Step ah F F' H H' → Rel K ah H0 F0 F' e g σ H' → Rp K F' v z → Q z H') → r x H Q
theorem ofO_ok {K : PySem.W.Frag} {mg : Str → Option Value} {ah : Addr} {H0 F0 F : Hp} {e : SE} {g : Hand} {σ : L2.St} {H : Hp} {Q : VK} {o : Option D} (p : PostE K mg E ah H0 F0 F e σ H Q (Res.ofO o g)) :
    ∃ v, o = some v ∧ ∀ F' H' z, Step ah F F' H H' → Rel K ah H0 F0 F' e g σ H' → Rp K F' v z → Q z H' := by
  cases o with
  | none => exact p.elim
  | some v => exact ⟨v, rfl, p⟩
theorem tOpS {r : R2} {f : D → D → Option D} (hf : OpS X.K r f) {ma mb : ME} : ∀ σ H Q, trE X.K X.mg E (mOp2 f ma mb) σ H Q → tOp r (trP X.K X.mg E ma) (trP X.K X.mg E mb) σ H Q := fun σ H Q p => by
  obtain ⟨ah, H0, F0, F, e, g, R, p⟩ := p
  refine ⟨ah, H0, F0, F, e, g, R, bindPD contE p fun st R s p => ?_⟩
  refine ⟨ah, H0, F0, _, e, _, R, bindPD contE p fun st2 R2 s2 p2 => ?_⟩
  obtain ⟨v, hv, q⟩ := ofO_ok p2
  exact hf.run R2 (s.step st2) s2 hv q
theorem eOp2 {op : Operator} {a b : Expr} {pos : Pos} {r : R2} {f : D → D → Option D} {ma mb : ME} (ho : OpR X (binaryOp op) r) (hf : OpS X.K r f) (ha : simP X E a ma) (hb : simP X E b mb) : simE X E (.BinOp a op b pos) (mOp2 f ma mb) :=
  PE.imp (pe_op ho ha hb) (tOpS hf)
theorem eCmp {op : CmpOp} {a b : Expr} {pos : Pos} {r : R2} {f : D → D → Option D} {ma mb : ME} (ho : OpR X (compareOp op) r) (hf : OpS X.K r f) (ha : simP X E a ma) (hb : simP X E b mb) (hm : behindInMarks op b = false) : simE X E (.Compare a [op] [b] pos) (mOp2 f ma mb) :=
  PE.imp (pe_cmpR ho ha hb hm) (tOpS hf)
theorem eUn {op : UnaryOp} {a : Expr} {pos : Pos} {r : V → Hp → VK → Prop} {f : D → Option D} {ma : ME} (ho : UnR X (unaryOp op) r) (hf : UnS X.K r f) (ha : simP X E a ma) : simE X E (.UnaryOp op a pos) (mOp1 f ma) :=
  PE.imp (pe_un ho ha) fun σ H Q p => by
    obtain ⟨ah, H0, F0, F, e, g, R, p⟩ := p
    refine ⟨ah, H0, F0, F, e, g, R, bindPD contE p fun st R s p => ?_⟩
    obtain ⟨v, hv, q⟩ := ofO_ok p
    exact hf.run R s hv q

/-! ### tests -/
def mTest (ma : ME) : MT := fun e g => (ma e g).dat fun a g => match a with
  | .bool b => .ok b g
  | _ => .stuck
theorem bool_of {K : PySem.W.Frag} {mg : Str → Option Value} {ah : Addr} {H0 F0 F : Hp} {e : SE} {g : Hand} {σ : L2.St} {H : Hp} {Q : Bool → Hp → Prop} {d : D} {x : V}
    (p : PostT K mg E ah H0 F0 F e σ H Q (match d with | .bool b => .ok b g | _ => .stuck)) (R : Rel K ah H0 F0 F e g σ H) (s : VSee K ah F H (.dat d) x) : ∃ b, x = .bl b ∧ Q b H := by
  split at p
  · exact ⟨_, s.bl, p F H Step.refl R⟩
  · exact p.elim
theorem tVal {a : Expr} {ma : ME} (ha : simP X E a ma) (he : ∀ whole, isTrue a X.env whole = (do let v ← whole; standAt a.pos; holding [v] (truthy v)) := by intro _; rfl) : simT X E a (mTest ma) :=
  PT.imp (pt_val ha he) fun σ H Q p => by
    obtain ⟨ah, H0, F0, F, e, g, R, p⟩ := p
    exact ⟨ah, H0, F0, F, e, g, R, bindPD contT p fun st R s p => bool_of p R s⟩
theorem tCmp {op : CmpOp} {a b : Expr} {pos : Pos} {r : R2} {f : D → D → Option D} {ma mb : ME} (ho : OpR X (compareOp op) r) (hf : OpS X.K r f) (ha : simP X E a ma) (hb : simP X E b mb) (hm : behindInMarks op b = false) : simT X E (.Compare a [op] [b] pos) (mTest (mOp2 f ma mb)) :=
  PT.imp (pt_cmpR ho ha hb hm) fun σ H Q p => by
    obtain ⟨ah, H0, F0, F, e, g, R, p⟩ := p
    refine tOpS (E := E) (ma := ma) (mb := mb) hf σ H _ ⟨ah, H0, F0, F, e, g, R, bindED contT p fun st R s p => ?_⟩
    exact bool_of p R (.inl s)
def mAnd (t u : MT) : MT := fun e g => (t e g).bnd fun b g => if b then u e g else .ok false g
def mOr (t u : MT) : MT := fun e g => (t e g).bnd fun b g => if b then .ok true g else u e g
def mNot (t : MT) : MT := fun e g => (t e g).bnd fun b g => .ok (!b) g
section
variable {a b c : Expr} {rest : List Expr} {pos : Pos} {t u : MT} {ma mb : ME}
theorem wAnd1 (ha : simT X E a t) : simW X E (.BoolOp .And [a] pos) t := pw_and1 ha
theorem wOr1 (ha : simT X E a t) : simW X E (.BoolOp .Or [a] pos) t := pw_or1 ha
theorem wAnd (ha : simT X E a t) (hb : simW X E (.BoolOp .And (b :: rest) pos) u) : simW X E (.BoolOp .And (a :: b :: rest) pos) (mAnd t u) := PW.imp (pw_and ha hb) fun σ H Q p => by
  obtain ⟨ah, H0, F0, F, e, g, R, p⟩ := p
  refine ⟨ah, H0, F0, F, e, g, R, bindT contT p fun {b} {g'} {F'} {H'} st R p => ?_⟩
  cases b with
  | true => exact ⟨ah, H0, F0, _, e, _, R, p⟩
  | false => exact p _ _ Step.refl R
theorem wOr (ha : simT X E a t) (hb : simW X E (.BoolOp .Or (b :: rest) pos) u) : simW X E (.BoolOp .Or (a :: b :: rest) pos) (mOr t u) := PW.imp (pw_or ha hb) fun σ H Q p => by
  obtain ⟨ah, H0, F0, F, e, g, R, p⟩ := p
  refine ⟨ah, H0, F0, F, e, g, R, bindT contT p fun {b} {g'} {F'} {H'} st R p => ?_⟩
  cases b with
  | false => exact ⟨ah, H0, F0, _, e, _, R, p⟩
  | true => exact p _ _ Step.refl R
theorem wT (h : simW X E a t) : simT X E a t := h.pt
theorem tNot (ha : simT X E a t) : simT X E (.UnaryOp .Not a pos) (mNot t) := PT.imp (pt_not ha) fun σ H Q p => by
  obtain ⟨ah, H0, F0, F, e, g, R, p⟩ := p
  exact ⟨ah, H0, F0, F, e, g, R, bindT contT p fun st R p => p _ _ Step.refl R⟩
/-- as values -/
def mAndV (ma mb : ME) : ME := fun e g => (ma e g).dat fun a g => match a with
  | .bool true => mb e g
  | .bool false => .ok (.dat (.bool false)) g
  | _ => .stuck
def mOrV (ma mb : ME) : ME := fun e g => (ma e g).dat fun a g => match a with
  | .bool true => .ok (.dat (.bool true)) g
  | .bool false => mb e g
  | _ => .stuck
def mNotV (ma : ME) : ME := fun e g => (ma e g).dat fun a g => match a with
  | .bool b => .ok (.dat (.bool (!b))) g
  | _ => .stuck
theorem eOne {op} (h : simE X E a ma) : simE X E (.BoolOp op [a] pos) ma := pe_one h
theorem eAnd (ha : simP X E a ma) (hb : simE X E (.BoolOp .And (b :: rest) pos) mb) : simE X E (.BoolOp .And (a :: b :: rest) pos) (mAndV ma mb) := PE.imp (pe_and ha hb) fun σ H Q p => by
  obtain ⟨ah, H0, F0, F, e, g, R, p⟩ := p
  refine ⟨ah, H0, F0, F, e, g, R, bindPD contE p fun {d} {g'} {F'} {H'} {x} st R s p => ?_⟩
  cases d with
  | bool b =>
    refine ⟨b, s.bl, ?_⟩
    cases b with
    | true => exact ⟨ah, H0, F0, _, e, _, R, p⟩
    | false => exact p _ _ _ Step.refl R (Rp.bl false)
  | _ => exact p.elim
theorem eOr (ha : simP X E a ma) (hb : simE X E (.BoolOp .Or (b :: rest) pos) mb) : simE X E (.BoolOp .Or (a :: b :: rest) pos) (mOrV ma mb) := PE.imp (pe_or ha hb) fun σ H Q p => by
  obtain ⟨ah, H0, F0, F, e, g, R, p⟩ := p
  refine ⟨ah, H0, F0, F, e, g, R, bindPD contE p fun {d} {g'} {F'} {H'} {x} st R s p => ?_⟩
  cases d with
  | bool b =>
    refine ⟨b, s.bl, ?_⟩
    cases b with
    | false => exact ⟨ah, H0, F0, _, e, _, R, p⟩
    | true => exact p _ _ _ Step.refl R (Rp.bl true)
  | _ => exact p.elim
theorem eNot (ha : simP X E a ma) : simE X E (.UnaryOp .Not a pos) (mNotV ma) := PE.imp (pe_not ha) fun σ H Q p => by
  obtain ⟨ah, H0, F0, F, e, g, R, p⟩ := p
  refine ⟨ah, H0, F0, F, e, g, R, bindPD contE p fun {d} {g'} {F'} {H'} {x} st R s p => ?_⟩
  cases d with
  | bool b => exact ⟨b, s.bl, p _ _ _ Step.refl R (Rp.bl (!b))⟩
  | _ => exact p.elim
def mIf (t : MT) (ma mb : ME) : ME := fun e g => (t e g).bnd fun b g => if b then ma e g else mb e g
theorem eIf {c : Expr} (hc : simT X E c t) (ha : simE X E a ma) (hb : simE X E b mb) : simE X E (.IfExp c a b pos) (mIf t ma mb) := PE.imp (pe_ifExp hc ha hb) fun σ H Q p => by
  obtain ⟨ah, H0, F0, F, e, g, R, p⟩ := p
  refine ⟨ah, H0, F0, F, e, g, R, bindT contE p fun {b} {g'} {F'} {H'} st R p => ?_⟩
  cases b with
  | true => exact ⟨ah, H0, F0, _, e, _, R, p⟩
  | false => exact ⟨ah, H0, F0, _, e, _, R, p⟩
end
/-- a < b < c -/
def mChain (f f' : D → D → Option D) (ma mb mc : ME) : ME := fun e g => (ma e g).dat fun a g => (mb e g).dat fun b g => (Res.ofO (f a b) g).dat fun k g => match k with
  | .bool true => (mc e g).dat fun c g => Res.ofO (f' b c) g
  | .bool false => .ok (.dat (.bool false)) g
  | _ => .stuck
theorem tChainS {r r' : R2} {f f' : D → D → Option D} (hf : OpS X.K r f) (hf' : OpS X.K r' f') {ma mb mc : ME} : ∀ σ H Q, trE X.K X.mg E (mChain f f' ma mb mc) σ H Q → tChain r r' (trP X.K X.mg E ma) (trP X.K X.mg E mb) (trP X.K X.mg E mc) σ H Q := fun σ H Q p => by
  obtain ⟨ah, H0, F0, F, e, g, R, p⟩ := p
  refine ⟨ah, H0, F0, F, e, g, R, bindPD contE p fun {a} {g1} {F1} {H1} {x} st R s p => ?_⟩
  refine ⟨ah, H0, F0, _, e, _, R, bindPD contE p fun {b} {g2} {F2} {H2} {y} st2 R2 s2 p2 => ?_⟩
  cases q : f a b with
  | none => rw [q] at p2; exact p2.elim
  | some k =>
    rw [q] at p2
    refine hf.run R2 (s.step st2) s2 q fun F3 H3 z st3 R3 r3 => ?_
    cases k with
    | bool k =>
      cases r3
      refine ⟨k, rfl, ?_⟩
      cases k with
      | true =>
        refine ⟨ah, H0, F0, _, e, _, R3, bindPD contE (postE_step st3 p2) fun {c} {g4} {F4} {H4} {w} st4 R4 s4 p4 => ?_⟩
        obtain ⟨v, hv, q4⟩ := ofO_ok p4
        exact hf'.run R4 (s2.step (st3.trans st4)) s4 hv q4
      | false => exact p2 _ _ _ st3 R3 (Rp.bl false)
    | _ => exact p2.elim
theorem eChain {op op' : CmpOp} {a b c : Expr} {pos : Pos} {r r' : R2} {f f' : D → D → Option D} {ma mb mc : ME} (ho : OpR X (compareOp op) r) (ho' : OpR X (compareOp op') r') (hf : OpS X.K r f) (hf' : OpS X.K r' f') (ha : simP X E a ma) (hb : simP X E b mb) (hc : simP X E c mc)
    (hm : lastMarks [op, op'] [b, c] = false := by with_unfolding_all rfl) : simE X E (.Compare a [op, op'] [b, c] pos) (mChain f f' ma mb mc) := PE.imp (pe_chain ho ho' ha hb hc hm) (tChainS hf hf')
theorem tChainT {op op' : CmpOp} {a b c : Expr} {pos : Pos} {r r' : R2} {f f' : D → D → Option D} {ma mb mc : ME} (ho : OpR X (compareOp op) r) (ho' : OpR X (compareOp op') r') (hf : OpS X.K r f) (hf' : OpS X.K r' f') (ha : simP X E a ma) (hb : simP X E b mb) (hc : simP X E c mc)
    (hm : lastMarks [op, op'] [b, c] = false := by with_unfolding_all rfl) : simT X E (.Compare a [op, op'] [b, c] pos) (mTest (mChain f f' ma mb mc)) :=
  PT.imp (pt_chain ho ho' ha hb hc hm) fun σ H Q p => by
    obtain ⟨ah, H0, F0, F, e, g, R, p⟩ := p
    refine tChainS (E := E) (ma := ma) (mb := mb) (mc := mc) hf hf' σ H _ ⟨ah, H0, F0, F, e, g, R, bindED contT p fun st R s p => ?_⟩
    exact bool_of p R (.inl s)
end
end Sm

/-! Sm3: slots set, owned, changed; statements; loops; comprehensions; calls. -/
namespace Sm
open PySem PySem.Spec PyProof.Rows L2

section
variable {K : PySem.W.Frag} {ah : Addr} {H0 F0 F H : Hp} {e : SE} {g : Hand} {σ : L2.St}
theorem set_get {α : Type} {l : List α} {i j : Nat} {x y : α} (h : (l.set i x)[j]? = some y) : (j = i ∧ y = x ∧ i < l.length) ∨ (j ≠ i ∧ l[j]? = some y) := by
  by_cases z : j = i
  · subst z
    by_cases hl : j < l.length
    · rw [List.getElem?_set_self hl] at h; cases h; exact .inl ⟨rfl, rfl, hl⟩
    · rw [List.getElem?_eq_none (by simpa using hl)] at h; cases h
  · rw [List.getElem?_set_ne (Ne.symm z)] at h; exact .inr ⟨z, h⟩
theorem own_set {s : Slot} {x : Option V} {i j : Nat} {a : Addr} (h : OwnAt (e.set i s) (σ.set i x) j a) (n : ∀ c, s ≠ .own c) : j ≠ i ∧ OwnAt e σ j a := by
  obtain ⟨⟨c, h1⟩, h2⟩ := h
  rcases set_get h1 with ⟨_, e1, _⟩ | ⟨z, h1⟩
  · exact absurd e1.symm (n c)
  · rcases set_get h2 with ⟨z', _⟩ | ⟨_, h2⟩
    · exact absurd z' z
    · exact ⟨z, ⟨c, h1⟩, h2⟩
/-- a slot is given a value -/
theorem Rel.setSlot {s : Slot} {x : Option V} (i : Nat) (R : Rel K ah H0 F0 F e g σ H) (n : ∀ c, s ≠ .own c) (r : SlotAt K ah F H s x) : Rel K ah H0 F0 F (e.set i s) g (σ.set i x) H := by
  refine ⟨R.gd, ⟨by simp [R.env.len], fun j s' y h1 h2 => ?_, fun j k a hjk h1 h2 => ?_⟩, fun j a h => R.own j a (own_set h n).2⟩
  · rcases set_get h1 with ⟨e1, e2, _⟩ | ⟨z, h1⟩
    · subst e1 e2
      rcases set_get h2 with ⟨_, e3, _⟩ | ⟨z, _⟩
      · subst e3; exact r
      · exact absurd rfl z
    · rcases set_get h2 with ⟨e1, _⟩ | ⟨_, h2⟩
      · exact absurd e1 z
      · exact R.env.at_ j s' y h1 h2
  · exact R.env.apart j k a hjk (own_set h1 n).2 (own_set h2 n).2
theorem Rel.setVal {v : Val} {x : V} (i : Nat) (R : Rel K ah H0 F0 F e g σ H) (r : VRep K ah F v x) : Rel K ah H0 F0 F (e.set i (.val v)) g (σ.set i (some x)) H :=
  R.setSlot i (fun _ z => nomatch z) ⟨x, rfl, r⟩
/-- a slot is given a thing of its own -/
theorem Rel.setOwn {c : Cel} {a : Addr} {o : HO} (i : Nat) (R : Rel K ah H0 F0 F e g σ H) (h1 : H a = some o) (h2 : CelAt K F c o) (h3 : F a = none) (h4 : a ≠ ah) (h5 : H0 a = none) (h6 : ∀ j, ¬ OwnAt e σ j a) : Rel K ah H0 F0 F (e.set i (.own c)) g (σ.set i (some (.ref a))) H := by
  have own : ∀ j b, OwnAt (e.set i (.own c)) (σ.set i (some (.ref a))) j b → (j = i ∧ b = a) ∨ (j ≠ i ∧ OwnAt e σ j b) := fun j b ⟨⟨c', q1⟩, q2⟩ => by
    rcases set_get q1 with ⟨e1, _, _⟩ | ⟨z, q1⟩
    · rcases set_get q2 with ⟨_, e3, _⟩ | ⟨z, _⟩
      · cases e3; exact .inl ⟨e1, rfl⟩
      · exact absurd e1 z
    · rcases set_get q2 with ⟨z', _⟩ | ⟨_, q2⟩
      · exact absurd z' z
      · exact .inr ⟨z, ⟨c', q1⟩, q2⟩
  refine ⟨R.gd, ⟨by simp [R.env.len], fun j s' y q1 q2 => ?_, fun j k b hjk q1 q2 => ?_⟩, fun j b h => ?_⟩
  · rcases set_get q1 with ⟨e1, e2, _⟩ | ⟨z, q1⟩
    · subst e1 e2
      rcases set_get q2 with ⟨_, e3, _⟩ | ⟨z, _⟩
      · subst e3; exact ⟨a, o, rfl, h1, h2, h3, h4⟩
      · exact absurd rfl z
    · rcases set_get q2 with ⟨e1, _⟩ | ⟨_, q2⟩
      · exact absurd e1 z
      · exact R.env.at_ j s' y q1 q2
  · rcases own j b q1 with ⟨e1, e2⟩ | ⟨n1, o1⟩
    · rcases own k b q2 with ⟨e3, e4⟩ | ⟨n2, o2⟩
      · exact hjk (e1.trans e3.symm)
      · subst e2; exact h6 k o2
    · rcases own k b q2 with ⟨e3, e4⟩ | ⟨n2, o2⟩
      · subst e4; exact h6 j o1
      · exact R.env.apart j k b hjk o1 o2
  · rcases own j b h with ⟨_, e2⟩ | ⟨_, o1⟩
    · subst e2; exact h5
    · exact R.own j b o1
/-- what a slot owns changes -/
theorem Rel.upOwn {c c' : Cel} {a : Addr} {o' : HO} {i : Nat} (R : Rel K ah H0 F0 F e g σ H) (h1 : e[i]? = some (.own c)) (h2 : σ[i]? = some (some (.ref a))) (h3 : CelAt K F c' o') : Rel K ah H0 F0 F (e.set i (.own c')) g σ (upd H a o') := by
  have oi : OwnAt e σ i a := ⟨⟨c, h1⟩, h2⟩
  obtain ⟨a', o, q1, q2, q3, q4, q5, q6⟩ := R.owned h1
  rw [h2] at q1; cases q1
  have fa : F a = none := q4
  have ha : a ≠ ah := q5
  have h0 : H0 a = none := q6
  have G := R.gd
  have own : ∀ j b, OwnAt (e.set i (.own c')) σ j b → OwnAt e σ j b := fun j b ⟨⟨c2, z1⟩, z2⟩ => by
    rcases set_get z1 with ⟨e1, _, _⟩ | ⟨z, z1⟩
    · subst e1; exact ⟨⟨c, h1⟩, z2⟩
    · exact ⟨⟨c2, z1⟩, z2⟩
  refine ⟨⟨fun b u h => ?_, G.fah, G.hand.mono (Ex.refl F) (upd_ne ha.symm), G.ext, G.new, fun b u nb h => ?_⟩, ⟨by simp [R.env.len], fun j s' y z1 z2 => ?_, fun j k b hjk z1 z2 => R.env.apart j k b hjk (own j b z1) (own k b z2)⟩, fun j b h => R.own j b (own j b h)⟩
  · rw [upd_ne (fun z => by rw [z, fa] at h; cases h)]; exact G.sub b u h
  · rw [upd_ne (fun z => by rw [z, h0] at h; cases h)]; exact G.keep b u nb h
  · rcases set_get z1 with ⟨e1, e2, _⟩ | ⟨z, z1⟩
    · subst e1 e2
      rw [h2] at z2; cases z2
      exact ⟨a, o', rfl, upd_same, h3, fa, ha⟩
    · have q := R.env.at_ j s' y z1 z2
      cases s' with
      | no => trivial
      | val v => exact q
      | own c2 =>
        obtain ⟨b, ob, e1, e2, e3, e4, e5⟩ := q
        subst e1
        have nb : b ≠ a := fun w => R.env.apart j i a z ⟨⟨c2, z1⟩, by rw [← w]; exact z2⟩ oi
        exact ⟨b, ob, rfl, by rw [upd_ne nb]; exact e2, e3, e4, e5⟩
/-- what a slot owns stands still from now on -/
theorem Rel.frzOwn {ds : List D} {i : Nat} (R : Rel K ah H0 F0 F e g σ H) (h1 : e[i]? = some (.own (.lst ds))) : ∃ F', Ex F F' ∧ Rel K ah H0 F0 F' (e.set i (.val (.dat (.list ds)))) g σ H := by
  obtain ⟨a, o, h2, q2, q3, fa, ha, h0⟩ := R.owned h1
  have oi : OwnAt e σ i a := ⟨⟨_, h1⟩, h2⟩
  have G := R.gd
  cases o with
  | lst xs =>
    have ex : Ex F (upd F a (.lst xs)) := Ex.upd fa
    have own : ∀ j b, OwnAt (e.set i (.val (.dat (.list ds)))) σ j b → j ≠ i ∧ OwnAt e σ j b := fun j b ⟨⟨c2, z1⟩, z2⟩ => by
      rcases set_get z1 with ⟨e1, e2, _⟩ | ⟨z, z1⟩
      · cases e2
      · exact ⟨z, ⟨c2, z1⟩, z2⟩
    refine ⟨upd F a (.lst xs), ex, ⟨⟨fun b u h => ?_, ?_, G.hand.mono ex rfl, G.ext.trans ex, fun b u h => ?_, G.keep⟩, ⟨by simp [R.env.len], fun j s' y z1 z2 => ?_, fun j k b hjk z1 z2 => R.env.apart j k b hjk (own j b z1).2 (own k b z2).2⟩, fun j b h => R.own j b (own j b h).2⟩⟩
    · by_cases z : b = a
      · subst z; rw [upd_same] at h; cases h; exact q2
      · rw [upd_ne z] at h; exact G.sub b u h
    · rw [upd_ne ha.symm]; exact G.fah
    · by_cases z : b = a
      · subst z; exact .inr h0
      · rw [upd_ne z] at h; exact G.new b u h
    · rcases set_get z1 with ⟨e1, e2, _⟩ | ⟨z, z1⟩
      · subst e1 e2
        rw [h2] at z2; cases z2
        exact ⟨_, rfl, Rp.lst upd_same (RpAll.mono ex _ _ q3)⟩
      · have q := R.env.at_ j s' y z1 z2
        cases s' with
        | no => trivial
        | val v => obtain ⟨w, e1, r⟩ := q; exact ⟨w, e1, r.mono ex⟩
        | own c2 =>
          obtain ⟨b, ob, e1, e2, e3, e4, e5⟩ := q
          subst e1
          have nb : b ≠ a := fun w => R.env.apart j i a z ⟨⟨c2, z1⟩, by rw [← w]; exact z2⟩ oi
          exact ⟨b, ob, rfl, e2, e3.mono ex, by rw [upd_ne nb]; exact e4, e5⟩
  | _ => exact q3.elim
theorem Rel.notOwn {a : Addr} (R : Rel K ah H0 F0 F e g σ H) {H1 : Hp} (h : H1 a = none) (k : ∀ b o, b ≠ ah → H b = some o → H1 b = some o) : ∀ j, ¬ OwnAt e σ j a := fun j ⟨⟨c, z1⟩, z2⟩ => by
  obtain ⟨b, o, q1, q2, q3, q4, q5, q6⟩ := R.owned z1
  rw [z2] at q1; cases q1
  rw [k _ _ q5 q2] at h; cases h
/-- a new list becomes one that stands still -/
theorem Rel.frzNew {a : Addr} {xs : List V} {H1 : Hp} (R : Rel K ah H0 F0 F e g σ H) (h1 : H a = some (.lst xs)) (h2 : F a = none) (n : a ≠ ah) (h0 : H0 a = none) (no : ∀ j, ¬ OwnAt e σ j a) : Rel K ah H0 F0 (upd F a (.lst xs)) e g σ H := by
  have G := R.gd
  have ex : Ex F (upd F a (.lst xs)) := Ex.upd h2
  refine ⟨⟨fun b u h => ?_, ?_, G.hand.mono ex rfl, G.ext.trans ex, fun b u h => ?_, G.keep⟩, ⟨R.env.len, fun j s' y z1 z2 => ?_, R.env.apart⟩, R.own⟩
  · by_cases z : b = a
    · subst z; rw [upd_same] at h; cases h; exact h1
    · rw [upd_ne z] at h; exact G.sub b u h
  · rw [upd_ne n.symm]; exact G.fah
  · by_cases z : b = a
    · subst z; exact .inr h0
    · rw [upd_ne z] at h; exact G.new b u h
  · have q := R.env.at_ j s' y z1 z2
    cases s' with
    | no => trivial
    | val v => obtain ⟨w, e1, r⟩ := q; exact ⟨w, e1, r.mono ex⟩
    | own c2 =>
      obtain ⟨b, ob, e1, e2, e3, e4, e5⟩ := q
      subst e1
      have nb : b ≠ a := fun w => no j ⟨⟨c2, z1⟩, by rw [← w]; exact z2⟩
      exact ⟨b, ob, rfl, e2, e3.mono ex, by rw [upd_ne nb]; exact e4, e5⟩
end

section
variable {X : Cx} {E : XK}
/-- a new list, as a value that stands still -/
def mL (n : MN) : ME := fun e g => (n e g).bnd fun ds g => .ok (.dat (.list ds)) g
theorem impN {n : MN} : ∀ σ H Q, trE X.K X.mg E (mL n) σ H Q → trN X.K X.mg E n σ H Q := fun σ H Q p => by
  obtain ⟨ah, H0, F0, F, e, g, R, p⟩ := p
  refine ⟨ah, H0, F0, F, e, g, R, ?_⟩
  unfold mL at p
  cases q : n e g with
  | ok ds g' =>
    rw [q] at p
    intro F' H' a xs st R' h1 h2 h3 h4
    have na : a ≠ ah := R.gd.fresh_ne h4
    have no : ∀ j, ¬ OwnAt e σ j a := R.notOwn h4 (fun _ _ _ h => h)
    have ex : Ex F' (upd F' a (.lst xs)) := Ex.upd h3
    refine p (upd F' a (.lst xs)) H' _ ⟨st.ext.trans ex, fun b u h => ?_, st.keep, st.live⟩ (R'.frzNew (H1 := H) h1 h3 na (R.gd.fresh0 h4) no) (Rp.lst upd_same (RpAll.mono ex _ _ h2))
    by_cases z : b = a
    · subst z; exact .inr h4
    · rw [upd_ne z] at h; exact st.new b u h
  | err ex g' => rw [q] at p; exact p
  | stuck => rw [q] at p; exact p
theorem ofN {e : Expr} {n : MN} (h : simN X E e n) : simE X E e (mL n) := PE.imp h impN

/-! ### argument lists -/
def mANil : MA := fun _ g => .ok [] g
def mACons (m : ME) (ms : MA) : MA := fun e g => (m e g).bnd fun v g => (ms e g).bnd fun vs g => .ok (v :: vs) g
theorem aNil : simA X E [] mANil := PA.imp pa_nil fun σ H Q p => by
  obtain ⟨ah, H0, F0, F, e, g, R, p⟩ := p
  exact p F H [] Step.refl R .nil
theorem aCons {e : Expr} {es : List Expr} {m : ME} {ms : MA} (h : simE X E e m) (hr : simA X E es ms) (hs : starEach (e :: es) X.env = (false, eval e X.env) :: starEach es X.env := by rfl) : simA X E (e :: es) (mACons m ms) := PA.imp (pa_cons h hr hs) fun σ H Q p => by
  obtain ⟨ah, H0, F0, F, e, g, R, p⟩ := p
  refine ⟨ah, H0, F0, F, e, g, R, bindE contA p fun st R s p => ⟨ah, H0, F0, _, e, _, R, bindA contA p fun st2 R2 s2 p2 => ?_⟩⟩
  exact p2 _ _ _ Step.refl R2 (.cons (s.mono st2.ext) s2)
/-- .. that are read at once -/
inductive VSees (K : PySem.W.Frag) (ah : Addr) (F H : Hp) : List D → List V → Prop
  | nil : VSees K ah F H [] []
  | cons {d : D} {ds : List D} {x : V} {xs : List V} : VSee K ah F H (.dat d) x → VSees K ah F H ds xs → VSees K ah F H (d :: ds) (x :: xs)
def PostO (K : PySem.W.Frag) (mg : Str → Option Value) (E : XK) (ah : Addr) (H0 F0 F : Hp) (e : SE) (σ : L2.St) (H : Hp) (Q : List V → Hp → Prop) : Res (List D) → Prop
  | .ok vs g' => ∀ F' H' xs, Step ah F F' H H' → Rel K ah H0 F0 F' e g' σ H' → VSees K ah F' H' vs xs → Q xs H'
  | .err ex g' => PostX K mg E ah H0 F0 ex g'
  | .stuck => False
def trO (K : PySem.W.Frag) (mg : Str → Option Value) (E : XK) (m : MN) : TA := fun σ H Q => ∃ ah H0 F0 F e g, Rel K ah H0 F0 F e g σ H ∧ PostO K mg E ah H0 F0 F e σ H Q (m e g)
abbrev simO (X : Cx) (E : XK) (es : List Expr) (m : MN) : Prop := PA X es (trO X.K X.mg E m)
section
variable {K : PySem.W.Frag} {mg : Str → Option Value} {ah : Addr} {H0 F0 F F' H H' : Hp} {e : SE} {g g' : Hand} {σ : L2.St}
theorem postO_step {Q : List V → Hp → Prop} {r : Res (List D)} (s : Step ah F F' H H') (p : PostO K mg E ah H0 F0 F e σ H Q r) : PostO K mg E ah H0 F0 F' e σ H' Q r := by
  cases r with
  | ok v g => exact fun F2 H2 x st R v => p F2 H2 x (s.trans st) R v
  | err ex g => exact p
  | stuck => exact p
theorem contO {Q : List V → Hp → Prop} : Cont K mg E ah H0 F0 (fun F H r => PostO K mg E ah H0 F0 F e σ H Q r) := ⟨fun p => p, fun p => p, postO_step⟩
theorem bindO {γ : Type} [Out γ] {W : Hp → Hp → γ → Prop} (c : Cont K mg E ah H0 F0 W) {r : Res (List D)} {f : List D → Hand → γ} {Q : List V → Hp → Prop} (p : W F H (r.bnd f))
    (k : ∀ {vs g' F' H' xs}, Step ah F F' H H' → Rel K ah H0 F0 F' e g' σ H' → VSees K ah F' H' vs xs → W F' H' (f vs g') → Q xs H') : PostO K mg E ah H0 F0 F e σ H Q r := by
  cases r with
  | ok v g => exact fun F2 H2 x st R s => k st R s (c.step st p)
  | err ex g => exact c.err p
  | stuck => exact c.stuck p
end
def mONil : MN := fun _ g => .ok [] g
def mOCons (m : ME) (ms : MN) : MN := fun e g => (m e g).dat fun v g => (ms e g).bnd fun vs g => .ok (v :: vs) g
theorem oNil : simO X E [] mONil := PA.imp pa_nil fun σ H Q p => by
  obtain ⟨ah, H0, F0, F, e, g, R, p⟩ := p
  exact p F H [] Step.refl R .nil
theorem oCons {e : Expr} {es : List Expr} {m : ME} {ms : MN} (h : simP X E e m) (hr : simO X E es ms) (hs : starEach (e :: es) X.env = (false, eval e X.env) :: starEach es X.env := by rfl) : simO X E (e :: es) (mOCons m ms) := PA.imp (pa_cons h hr hs) fun σ H Q p => by
  obtain ⟨ah, H0, F0, F, e, g, R, p⟩ := p
  refine ⟨ah, H0, F0, F, e, g, R, bindPD contO p fun st R s p => ⟨ah, H0, F0, _, e, _, R, bindO contO p fun st2 R2 s2 p2 => ?_⟩⟩
  exact p2 _ _ _ Step.refl R2 (.cons (s.step st2) s2)

/-! ### displays -/
/-- the data of values -/
def datas : List Val → Option (List D)
  | [] => some []
  | .dat d :: vs => (datas vs).map (d :: ·)
  | _ :: _ => none
theorem datas_rp {K : PySem.W.Frag} {ah : Addr} {F : Hp} : ∀ {vs : List Val} {xs : List V} {ds : List D}, VReps K ah F vs xs → datas vs = some ds → RpAll K F ds xs
  | _, _, _, .nil, h => by cases h; exact .nil
  | .dat d :: vs, _, ds, .cons r t, h => by
    unfold datas at h
    cases q : datas vs with
    | none => rw [q] at h; cases h
    | some ds' => rw [q] at h; cases h; exact .cons r (datas_rp t q)
  | .hand :: _, _, _, .cons _ _, h => by cases h
  | .ref _ :: _, _, _, .cons _ _, h => by cases h
def mDisp (ms : MA) : MN := fun e g => (ms e g).bnd fun vs g => match datas vs with
  | some ds => if ds.length ≤ 1000000 then .ok ds g else .stuck
  | none => .stuck
theorem line_le {n : Nat} (h : n ≤ 1000000) : n ≤ sizeLine := Nat.le_trans h (by decide)
theorem line_lt {n : Nat} (h : n < 1000000) : n < sizeLine := Nat.lt_of_lt_of_le h (by decide)
theorem nList {es : List Expr} {pos : Pos} {ms : MA} (h : simA X E es ms) : simN X E (.List es pos) (mDisp ms) := PE.imp (pe_lst h) fun σ H Q p => by
  obtain ⟨ah, H0, F0, F, e, g, R, p⟩ := p
  refine ⟨ah, H0, F0, F, e, g, R, bindA contN p fun {vs} {g'} {F'} {H'} {xs} st R s p => ?_⟩
  split at p
  · rename_i ds hd
    split at p
    · rename_i hl
      have r := datas_rp s hd
      refine ⟨by rw [r.len]; exact line_le hl, fun a ha => ?_⟩
      obtain ⟨R2, st2⟩ := R.waste (o := .lst xs) ha
      exact p _ _ a xs st2 R2 upd_same r (R.gd.freshF ha) ha
    · exact p.elim
  · exact p.elim
def mTup (ms : MA) : ME := fun e g => (ms e g).bnd fun vs g => match datas vs with
  | some ds => if ds.length ≤ 1000000 then .ok (.dat (.tuple ds)) g else .stuck
  | none => .stuck
theorem eTup {es : List Expr} {k : Nat} {pos : Pos} {ms : MA} (h : simA X E es ms) : simE X E (.Tuple es k pos) (mTup ms) := PE.imp (pe_tup h) fun σ H Q p => by
  obtain ⟨ah, H0, F0, F, e, g, R, p⟩ := p
  refine ⟨ah, H0, F0, F, e, g, R, bindA contE p fun {vs} {g'} {F'} {H'} {xs} st R s p => ?_⟩
  split at p
  · rename_i ds hd
    split at p
    · rename_i hl
      have r := datas_rp s hd
      refine ⟨by rw [r.len]; exact line_le hl, fun a ha => ?_⟩
      obtain ⟨R2, st2⟩ := R.froz (o := .tup xs) ha
      exact p _ _ _ st2 R2 (Rp.tup (SqT.of upd_same) (RpAll.mono st2.ext _ _ r))
    · exact p.elim
  · exact p.elim

/-! ### calls of defs -/
/-- the promise of a def with the mirror mf -/
def spOf (K : PySem.W.Frag) (mg : Str → Option Value) (n : Nat) (mf : List Val → Hand → Res Val) : Sp := fun vs H Q Ex' => ∃ ah F g args, Ex F H ∧ F ah = none ∧ HandAt K F H ah g ∧ VReps K ah F args vs ∧ args.length = n ∧
  match mf args g with
  | .ok v g' => ∀ F' H' x, Gd K ah H F F' g' H' → VRep K ah F' v x → Q x H'
  | .err ex g' => ∀ F' H' c d, Gd K ah H F F' g' H' → ExcAt K mg F' ex c d H' → Ex' c d H'
  | .stuck => False
theorem spOf_len {K : PySem.W.Frag} {mg : Str → Option Value} {n : Nat} {mf : List Val → Hand → Res Val} : ∀ vs H Q E, spOf K mg n mf vs H Q E → vs.length = n := fun vs H Q E p => by
  obtain ⟨ah, F, g, args, _, _, _, r, hl, _⟩ := p
  rw [r.len]; exact hl
section
variable {K : PySem.W.Frag} {ah : Addr} {H0 F0 F F' H H' : Hp} {e : SE} {g g' : Hand} {σ : L2.St}
/-- behind a call -/
theorem Rel.called (R : Rel K ah H0 F0 F e g σ H) (G : Gd K ah H F F' g' H') : Rel K ah H0 F0 F' e g' σ H' ∧ Step ah F F' H H' := by
  have st : Step ah F F' H H' := ⟨G.ext, G.new, G.keep, fun a h => by
    cases q : H a with
    | none => rfl
    | some o =>
      by_cases z : a = ah
      · subst z; exact absurd h G.hlive
      · rw [G.keep a o z q] at h; cases h⟩
  refine ⟨⟨⟨G.sub, G.fah, G.hand, R.gd.ext.trans G.ext, fun a o h => ?_, fun a o n h => G.keep a o n (R.gd.keep a o n h)⟩, ⟨R.env.len, fun i s x h1 h2 => ?_, R.env.apart⟩, R.own⟩, st⟩
  · rcases G.new a o h with h | h
    · exact R.gd.new a o h
    · exact .inr (R.gd.fresh0 h)
  · have q := R.env.at_ i s x h1 h2
    cases s with
    | no => trivial
    | val v => obtain ⟨y, e1, r⟩ := q; exact ⟨y, e1, r.mono G.ext⟩
    | own c =>
      obtain ⟨a, o, e1, e2, e3, e4, e5⟩ := q
      refine ⟨a, o, e1, G.keep a o e5 e2, e3.mono G.ext, ?_, e5⟩
      cases z : F' a with
      | none => rfl
      | some u =>
        rcases G.new a u z with w | w
        · rw [e4] at w; cases w
        · rw [e2] at w; cases w
end
def mCall (mf : List Val → Hand → Res Val) (ms : MA) : ME := fun e g => (ms e g).bnd fun vs g => mf vs g
theorem callImp {n : Nat} {mf : List Val → Hand → Res Val} {ms : MA} (hlen : ∀ e g vs g', ms e g = .ok vs g' → vs.length = n) : ∀ σ H Q, trE X.K X.mg E (mCall mf ms) σ H Q → tCall (spOf X.K X.mg n mf) [] E (trA X.K X.mg E ms) σ H Q := fun σ H Q p => by
  obtain ⟨ah, H0, F0, F, e, g, R, p⟩ := p
  refine ⟨ah, H0, F0, F, e, g, R, ?_⟩
  unfold mCall at p
  cases q : ms e g with
  | ok vs g1 =>
    rw [q] at p
    intro F1 H1 xs st R1 s
    refine ⟨ah, F1, g1, vs, R1.gd.sub, R1.gd.fah, R1.gd.hand, by rw [List.append_nil]; exact s, hlen e g vs g1 q, ?_⟩
    have p : PostE X.K X.mg E ah H0 F0 F e σ H Q (mf vs g1) := p
    cases q2 : mf vs g1 with
    | ok v g2 =>
      rw [q2] at p
      intro F2 H2 x G r
      obtain ⟨R2, st2⟩ := R1.called G
      exact p F2 H2 x (st.trans st2) R2 r
    | err ex g2 =>
      rw [q2] at p
      intro F2 H2 c d G x
      obtain ⟨R2, st2⟩ := R1.called G
      exact p F2 H2 c d R2.gd x
    | stuck => rw [q2] at p; exact p
  | err ex g1 => rw [q] at p; exact p
  | stuck => rw [q] at p; exact p
theorem mANil_len : ∀ e g vs g', mANil e g = .ok vs g' → vs.length = 0 := fun e g vs g' h => by cases h; rfl
theorem mACons_len {m : ME} {ms : MA} {n : Nat} (h : ∀ e g vs g', ms e g = .ok vs g' → vs.length = n) : ∀ e g vs g', mACons m ms e g = .ok vs g' → vs.length = n + 1 := fun e g vs g' q => by
  unfold mACons at q
  cases q1 : m e g with
  | ok v g1 =>
    rw [q1] at q
    have q : ((ms e g1).bnd fun vs g => (Res.ok (v :: vs) g : Res (List Val))) = .ok vs g' := q
    cases q2 : ms e g1 with
    | ok ws g2 => rw [q2] at q; cases q; simp [h e g1 ws _ q2]
    | err ex g2 => rw [q2] at q; cases q
    | stuck => rw [q2] at q; cases q
  | err ex g1 => rw [q1] at q; cases q
  | stuck => rw [q1] at q; cases q
theorem eCall {f : Addr} {fd : FuncData} {ps : List Str} {k n : Nat} {mf : List Val → Hand → Res Val} {x : Str} {p pos : Pos} {e : Expr} {es : List Expr} {ms : MA} (G : FnOk X.prog X.w X.K X.mg X.base (L2.CX X.prog X.w) k f fd ps (spOf X.K X.mg n mf)) (hr : Room k X.A) (hg : Gl X x) (hm : X.mg x = some (.ref f))
    (hk : PySem.W.keepIn X.K (.ref f) = true) (hb : Binds X.K fd ps []) (hx : Passes (L2.CX X.prog X.w) X E) (ha : simA X E (e :: es) ms) (hn : ∀ e g vs g', ms e g = .ok vs g' → vs.length = n) (hdb : (x == ("__debug__" : Str)) = false := by decide)
    (he : starEach (e :: es) X.env = (false, eval e X.env) :: starEach es X.env := by rfl) (hpl : (backTo pos (starEach es X.env)).any (·.1) = false := by rfl) : simE X E (.Call (.Name x p) (e :: es) [] pos) (mCall mf ms) :=
  PE.imp (pe_call G hr hg hm hk hb .nil hx ha hdb he hpl) (callImp hn)

/-! ### built-in functions and types -/
/-- what a call's rule asks, answered by a plain function -/
structure CallS (K : PySem.W.Frag) (r : List V → Hp → VK → Prop) (f : List D → Option D) : Prop where
  run : ∀ {ah : Addr} {H0 F0 F : Hp} {e : SE} {g : Hand} {σ : L2.St} {H : Hp} {ds : List D} {v : D} {xs : List V} {Q : VK}, Rel K ah H0 F0 F e g σ H → VSees K ah F H ds xs → f ds = some v →
  (∀ F' H' z, Step ah F F' H H' → Rel K ah H0 F0 F' e g σ H' → Rp K F' v z → Q z H') → r xs H Q
/-- .. that makes a new list -/
structure CallNS (K : PySem.W.Frag) (r : List V → Hp → VK → Prop) (f : List D → Option (List D)) : Prop where
  run : ∀ {ah : Addr} {H0 F0 F : Hp} {e : SE} {g : Hand} {σ : L2.St} {H : Hp} {ds vs : List D} {xs : List V} {Q : VK}, Rel K ah H0 F0 F e g σ H → VSees K ah F H ds xs → f ds = some vs →
  (∀ F' H' a ys, Step ah F F' H H' → Rel K ah H0 F0 F' e g σ H' → H' a = some (.lst ys) → RpAll K F' vs ys → F' a = none → H a = none → Q (.ref a) H') → r xs H Q
def mCB (f : List D → Option D) (ms : MN) : ME := fun e g => (ms e g).bnd fun ds g => Res.ofO (f ds) g
def mCN (f : List D → Option (List D)) (ms : MN) : MN := fun e g => (ms e g).bnd fun ds g => match f ds with
  | some vs => .ok vs g
  | none => .stuck
theorem cbImp {r : List V → Hp → VK → Prop} {f : List D → Option D} {ms : MN} (hf : CallS X.K r f) : ∀ σ H Q, trE X.K X.mg E (mCB f ms) σ H Q → tCB r (trO X.K X.mg E ms) σ H Q := fun σ H Q p => by
  obtain ⟨ah, H0, F0, F, e, g, R, p⟩ := p
  refine ⟨ah, H0, F0, F, e, g, R, bindO contE p fun st R s p => ?_⟩
  obtain ⟨v, hv, q⟩ := ofO_ok p
  exact hf.run R s hv q
theorem cnImp {r : List V → Hp → VK → Prop} {f : List D → Option (List D)} {ms : MN} (hf : CallNS X.K r f) : ∀ σ H Q, trN X.K X.mg E (mCN f ms) σ H Q → tCB r (trO X.K X.mg E ms) σ H Q := fun σ H Q p => by
  obtain ⟨ah, H0, F0, F, e, g, R, p⟩ := p
  refine ⟨ah, H0, F0, F, e, g, R, bindO contN p fun st R s p => ?_⟩
  split at p
  · rename_i vs hv
    exact hf.run R s hv p
  · exact p.elim
section
variable {x : Str} {p pos : Pos} {e : Expr} {es : List Expr} {ms : MN} {id T : String} {r : List V → Hp → VK → Prop}
theorem eB {f : List D → Option D} (hc : CallR X (.builtin id) r) (hf : CallS X.K r f) (hg : Gl X x) (hm : X.mg x = none) (hv : bootBuiltins x = some (.builtin id)) (ha : simO X E (e :: es) ms) (hn : x ≠ "__name__" := by decide) (hdb : (x == ("__debug__" : Str)) = false := by decide)
    (he : starEach (e :: es) X.env = (false, eval e X.env) :: starEach es X.env := by rfl) (hpl : (backTo pos (starEach es X.env)).any (·.1) = false := by rfl) : simE X E (.Call (.Name x p) (e :: es) [] pos) (mCB f ms) :=
  PE.imp (pe_callB hc hg hm hv ha hn hdb he hpl) (cbImp hf)
theorem eTy {f : List D → Option D} (hc : CallR X (.type T) r) (hf : CallS X.K r f) (hg : Gl X x) (hm : X.mg x = none) (hv : bootBuiltins x = some (.type T)) (ha : simO X E (e :: es) ms) (hn : x ≠ "__name__" := by decide) (hdb : (x == ("__debug__" : Str)) = false := by decide)
    (he : starEach (e :: es) X.env = (false, eval e X.env) :: starEach es X.env := by rfl) (hpl : (backTo pos (starEach es X.env)).any (·.1) = false := by rfl) : simE X E (.Call (.Name x p) (e :: es) [] pos) (mCB f ms) :=
  PE.imp (pe_callTy hc hg hm hv ha hn hdb he hpl) (cbImp hf)
theorem nB {f : List D → Option (List D)} (hc : CallR X (.builtin id) r) (hf : CallNS X.K r f) (hg : Gl X x) (hm : X.mg x = none) (hv : bootBuiltins x = some (.builtin id)) (ha : simO X E (e :: es) ms) (hn : x ≠ "__name__" := by decide) (hdb : (x == ("__debug__" : Str)) = false := by decide)
    (he : starEach (e :: es) X.env = (false, eval e X.env) :: starEach es X.env := by rfl) (hpl : (backTo pos (starEach es X.env)).any (·.1) = false := by rfl) : simN X E (.Call (.Name x p) (e :: es) [] pos) (mCN f ms) :=
  PE.imp (pe_callB hc hg hm hv ha hn hdb he hpl) (cnImp hf)
theorem nTy {f : List D → Option (List D)} (hc : CallR X (.type T) r) (hf : CallNS X.K r f) (hg : Gl X x) (hm : X.mg x = none) (hv : bootBuiltins x = some (.type T)) (ha : simO X E (e :: es) ms) (hn : x ≠ "__name__" := by decide) (hdb : (x == ("__debug__" : Str)) = false := by decide)
    (he : starEach (e :: es) X.env = (false, eval e X.env) :: starEach es X.env := by rfl) (hpl : (backTo pos (starEach es X.env)).any (·.1) = false := by rfl) : simN X E (.Call (.Name x p) (e :: es) [] pos) (mCN f ms) :=
  PE.imp (pe_callTy hc hg hm hv ha hn hdb he hpl) (cnImp hf)
end
end
end Sm

/-! Sm4: statements, loops, comprehensions, defs. -/
namespace Sm
open PySem PySem.Spec PyProof.Rows L2

section
variable {X : Cx} {E : XK}
/-! ### statements -/
def mNext : MS := fun e g => .nx e g
def SR.seq (r : SR) (f : SE → Hand → SR) : SR := match r with
  | .nx e g => f e g
  | .ret v g => .ret v g
  | .brk e g => .brk e g
  | .ct e g => .ct e g
  | .err ex g => .err ex g
  | .stuck => .stuck
def mSeq (a b : MS) : MS := fun e g => (a e g).seq b
theorem postS_seq {K : PySem.W.Frag} {mg : Str → Option Value} {ah : Addr} {H0 F0 F : Hp} {Dn : Ends} {f : SE → Hand → SR} {n' : L2.St → Hp → Prop} {r : SR} (p : PostS K mg E ah H0 F0 F Dn (r.seq f))
    (k : ∀ {e' g' F' H' σ'}, Ex F F' → Rel K ah H0 F0 F' e' g' σ' H' → PostS K mg E ah H0 F0 F' Dn (f e' g') → n' σ' H') : PostS K mg E ah H0 F0 F { Dn with nx := n' } r := by
  cases r with
  | nx e g => exact fun F' H' σ' x R => k x R (postS_ex x p)
  | ret v g => exact p
  | brk e g => exact p
  | ct e g => exact p
  | err ex g => exact p
  | stuck => exact p
theorem bNil : simB X E [] mNext := PSs.imp pss_nil fun Dn σ H p => by
  obtain ⟨ah, H0, F0, F, e, g, R, p⟩ := p
  exact p F H σ (Ex.refl F) R
theorem bCons {st : Stmt} {rest : List Stmt} {m n : MS} (h : simS X E st m) (hr : simB X E rest n) : simB X E (st :: rest) (mSeq m n) := PSs.imp (pss_cons h hr) fun Dn σ H p => by
  obtain ⟨ah, H0, F0, F, e, g, R, p⟩ := p
  exact ⟨ah, H0, F0, F, e, g, R, postS_seq p fun x R p => ⟨ah, H0, F0, _, _, _, R, p⟩⟩
theorem bOne {st : Stmt} {m : MS} (h : simS X E st m) : simB X E [st] m := pss_one h
theorem sPass {pos : Pos} : simS X E (.Pass pos) mNext := PS.imp ps_pass fun Dn σ H p => by
  obtain ⟨ah, H0, F0, F, e, g, R, p⟩ := p
  exact p F H σ (Ex.refl F) R
def mBreak : MS := fun e g => .brk e g
theorem sBreak {pos : Pos} : simS X E (.Break pos) mBreak := PS.imp ps_break fun Dn σ H p => by
  obtain ⟨ah, H0, F0, F, e, g, R, p⟩ := p
  exact p F H σ (Ex.refl F) R
/-- a list that a slot owns stands still from here on (nothing runs) -/
def mFrz (i : Nat) (m : MS) : MS := fun e g => match e[i]? with
  | some (.own (.lst ds)) => m (e.set i (.val (.dat (.list ds)))) g
  | _ => m e g
theorem bFrz (i : Nat) {sts : List Stmt} {m : MS} (h : simB X E sts m) : simB X E sts (mFrz i m) := PSs.imp h fun Dn σ H p => by
  obtain ⟨ah, H0, F0, F, e, g, R, p⟩ := p
  unfold mFrz at p
  split at p
  · rename_i ds hi
    obtain ⟨F', x, R'⟩ := R.frzOwn hi
    exact ⟨ah, H0, F0, F', _, g, R', postS_ex x p⟩
  · exact ⟨ah, H0, F0, F, e, g, R, p⟩
theorem sFrz (i : Nat) {st : Stmt} {m : MS} (h : simS X E st m) : simS X E st (mFrz i m) := PS.imp h fun Dn σ H p => by
  obtain ⟨ah, H0, F0, F, e, g, R, p⟩ := p
  unfold mFrz at p
  split at p
  · rename_i ds hi
    obtain ⟨F', x, R'⟩ := R.frzOwn hi
    exact ⟨ah, H0, F0, F', _, g, R', postS_ex x p⟩
  · exact ⟨ah, H0, F0, F, e, g, R, p⟩
def mSet (i : Nat) (m : ME) : MS := fun e g => (m e g).bnd fun v g => .nx (e.set i (.val v)) g
theorem asgImp {i : Nat} {m : ME} : ∀ Dn σ H, trS X.K X.mg E (mSet i m) Dn σ H → tAsg (trE X.K X.mg E m) (gName i) Dn σ H := fun Dn σ H p => by
  obtain ⟨ah, H0, F0, F, e, g, R, p⟩ := p
  exact ⟨ah, H0, F0, F, e, g, R, bindE contS p fun st R s p => p _ _ _ (Ex.refl _) (R.setVal i s)⟩
theorem sSet {i : Nat} {x : Str} {e : Expr} {m : ME} {pos pos' : Pos} (hN : X.N.Nodup) (hi : X.N[i]? = some x) (hx : Loc X.env.scope x) (he : simE X E e m) (hs : swapsWith e (some (.Name x pos')) pos.line X.env = pure false := by rfl)
    (hf : X.fn x = true ∨ X.env.scope.names.lookup x = some .local := by first | exact .inl rfl | exact .inr rfl | assumption) : simS X E (.Assign [.Name x pos'] e pos) (mSet i m) := PS.imp (ps_set hN hi hx he hs hf) asgImp
/-- a new list, owned by the slot -/
def mOwn (i : Nat) (n : MN) : MS := fun e g => (n e g).bnd fun ds g => .nx (e.set i (.own (.lst ds))) g
theorem ownImp {i : Nat} {n : MN} : ∀ Dn σ H, trS X.K X.mg E (mOwn i n) Dn σ H → tAsg (trN X.K X.mg E n) (gName i) Dn σ H := fun Dn σ H p => by
  obtain ⟨ah, H0, F0, F, e, g, R, p⟩ := p
  refine ⟨ah, H0, F0, F, e, g, R, bindN contS p fun st R' h1 h2 h3 h4 p => ?_⟩
  exact p _ _ _ (Ex.refl _) (R'.setOwn (c := .lst _) i h1 h2 h3 (R.gd.fresh_ne h4) (R.gd.fresh0 h4) (R.notOwn h4 (fun _ _ _ h => h)))
theorem sOwn {i : Nat} {x : Str} {e : Expr} {n : MN} {pos pos' : Pos} (hN : X.N.Nodup) (hi : X.N[i]? = some x) (hx : Loc X.env.scope x) (he : simN X E e n) (hs : swapsWith e (some (.Name x pos')) pos.line X.env = pure false := by rfl)
    (hf : X.fn x = true ∨ X.env.scope.names.lookup x = some .local := by first | exact .inl rfl | exact .inr rfl | assumption) : simS X E (.Assign [.Name x pos'] e pos) (mOwn i n) := PS.imp (ps_set hN hi hx he hs hf) ownImp
def mRet (m : ME) : MS := fun e g => (m e g).bnd fun v g => .ret v g
theorem sRet {e : Expr} {m : ME} {pos : Pos} (h : simE X E e m) : simS X E (.Return (some e) pos) (mRet m) := PS.imp (ps_ret h) fun Dn σ H p => by
  obtain ⟨ah, H0, F0, F, e, g, R, p⟩ := p
  exact ⟨ah, H0, F0, F, e, g, R, bindE contS p fun st R s p => p _ _ _ R.gd s⟩
def mDrop (m : ME) : MS := fun e g => (m e g).bnd fun _ g => .nx e g
theorem sExpr {e : Expr} {m : ME} {pos : Pos} (h : simE X E e m) (hs : swapsWith e none pos.line X.env = pure false := by rfl) : simS X E (.Expr e pos) (mDrop m) := PS.imp (ps_expr h hs) fun Dn σ H p => by
  obtain ⟨ah, H0, F0, F, e, g, R, p⟩ := p
  exact ⟨ah, H0, F0, F, e, g, R, bindE contS p fun st R s p => p _ _ _ (Ex.refl _) R⟩
def mIfS (t : MT) (a b : MS) : MS := fun e g => (t e g).bnd fun c g => if c then a e g else b e g
theorem sIf {c : Expr} {a b : List Stmt} {pos : Pos} {t : MT} {m n : MS} (hc : simT X E c t) (ha : simB X E a m) (hb : simB X E b n) : simS X E (.If c a b pos) (mIfS t m n) := PS.imp (ps_if hc ha hb) fun Dn σ H p => by
  obtain ⟨ah, H0, F0, F, e, g, R, p⟩ := p
  refine ⟨ah, H0, F0, F, e, g, R, bindT contS p fun {c} {g'} {F'} {H'} st R p => ?_⟩
  cases c with
  | true => exact ⟨ah, H0, F0, _, e, _, R, p⟩
  | false => exact ⟨ah, H0, F0, _, e, _, R, p⟩
/-- a, b = x, y (plain local names) -/
def mPar (i j : Nat) (ms : MA) : MS := fun e g => (ms e g).bnd fun vs g => match vs with
  | [v, w] => .nx ((e.set i (.val v)).set j (.val w)) g
  | _ => .stuck
theorem sPar {i j : Nat} {x y : Str} {a b : Expr} {ms : MA} {px py pt pos : Pos} {kt k2 pt2} (hc : X.calm = true) (hN : X.N.Nodup) (hi : X.N[i]? = some x) (hj : X.N[j]? = some y) (hij : i ≠ j)
    (hx : X.env.scope.names.lookup x = some .local) (hy : X.env.scope.names.lookup y = some .local) (ha : simA X E [a, b] ms)
    (hw : swappedStores [.Tuple [.Name x px, .Name y py] kt pt] (.Tuple [a, b] k2 pt2) X.env = pure (some [x, y]))
    (hs : swapsWithSole [.Tuple [.Name x px, .Name y py] kt pt] (.Tuple [a, b] k2 pt2) pos.line X.env = pure false := by rfl) :
    simS X E (.Assign [.Tuple [.Name x px, .Name y py] kt pt] (.Tuple [a, b] k2 pt2) pos) (mPar i j ms) := PS.imp (ps_par hc hN hi hj hij hx hy ha hw hs) fun Dn σ H p => by
  obtain ⟨ah, H0, F0, F, e, g, R, p⟩ := p
  refine ⟨ah, H0, F0, F, e, g, R, bindA contS p fun {vs} {g'} {F'} {H'} {xs} st R s p => ?_⟩
  split at p
  · rename_i v w
    cases s with
    | cons r1 s => cases s with
      | cons r2 s =>
        cases s
        exact ⟨_, _, rfl, p _ _ _ (Ex.refl _) ((R.setVal i r1).setVal j r2)⟩
  · exact p.elim
def mPar3 (i j l : Nat) (ms : MA) : MS := fun e g => (ms e g).bnd fun vs g => match vs with
  | [u, v, w] => .nx (((e.set i (.val u)).set j (.val v)).set l (.val w)) g
  | _ => .stuck
theorem sPar3 {i j l : Nat} {x y z : Str} {a b c : Expr} {ms : MA} {px py pz pt pos : Pos} {kt k2 pt2} (hc : X.calm = true) (hN : X.N.Nodup) (hi : X.N[i]? = some x) (hj : X.N[j]? = some y) (hl : X.N[l]? = some z) (hij : i ≠ j) (hil : i ≠ l) (hjl : j ≠ l)
    (hx : X.env.scope.names.lookup x = some .local) (hy : X.env.scope.names.lookup y = some .local) (hz : X.env.scope.names.lookup z = some .local) (ha : simA X E [a, b, c] ms)
    (hw : swappedStores [.Tuple [.Name x px, .Name y py, .Name z pz] kt pt] (.Tuple [a, b, c] k2 pt2) X.env = pure (some [x, y, z]))
    (hs : swapsWithSole [.Tuple [.Name x px, .Name y py, .Name z pz] kt pt] (.Tuple [a, b, c] k2 pt2) pos.line X.env = pure false := by rfl) :
    simS X E (.Assign [.Tuple [.Name x px, .Name y py, .Name z pz] kt pt] (.Tuple [a, b, c] k2 pt2) pos) (mPar3 i j l ms) := PS.imp (ps_par3 hc hN hi hj hl hij hil hjl hx hy hz ha hw hs) fun Dn σ H p => by
  obtain ⟨ah, H0, F0, F, e, g, R, p⟩ := p
  refine ⟨ah, H0, F0, F, e, g, R, bindA contS p fun {vs} {g'} {F'} {H'} {xs} st R s p => ?_⟩
  split at p
  · rename_i v w
    cases s with
    | cons r1 s => cases s with
      | cons r2 s => cases s with
        | cons r3 s =>
          cases s
          exact ⟨_, _, _, rfl, p _ _ _ (Ex.refl _) (((R.setVal i r1).setVal j r2).setVal l r3)⟩
  · exact p.elim

/-! ### targets -/
abbrev MG := D → SE → Option SE
abbrev MGs := List D → SE → Option SE
/-- a target takes data -/
structure TgS (K : PySem.W.Frag) (g : TG) (t : MG) : Prop where
  run : ∀ {ah : Addr} {H0 F0 F H : Hp} {e e' : SE} {hd : Hand} {σ : L2.St} {d : D} {x : V} {Q : L2.St → Hp → Prop}, Rel K ah H0 F0 F e hd σ H → Rp K F d x → t d e = some e' → (∀ σ', Rel K ah H0 F0 F e' hd σ' H → Q σ' H) → g x σ H Q
structure TgsS (K : PySem.W.Frag) (g : TGs) (t : MGs) : Prop where
  run : ∀ {ah : Addr} {H0 F0 F H : Hp} {e e' : SE} {hd : Hand} {σ : L2.St} {ds : List D} {xs : List V} {Q : L2.St → Hp → Prop}, Rel K ah H0 F0 F e hd σ H → RpAll K F ds xs → t ds e = some e' → (∀ σ', Rel K ah H0 F0 F e' hd σ' H → Q σ' H) → g xs σ H Q
def kName (i : Nat) : MG := fun d e => some (e.set i (.val (.dat d)))
def kNil : MGs := fun ds e => match ds with
  | [] => some e
  | _ => none
def kCons (t : MG) (ts : MGs) : MGs := fun ds e => match ds with
  | d :: ds => (t d e).bind (ts ds)
  | [] => none
def kTup (n : Nat) (ts : MGs) : MG := fun d e => match d with
  | .tuple ds => if ds.length = n then ts ds e else none
  | _ => none
theorem gName_s {K : PySem.W.Frag} (i : Nat) : TgS K (gName i) (kName i) := ⟨fun R r h q => by
  cases h
  exact q _ (R.setVal (v := .dat _) i r)⟩
theorem gNil_s {K : PySem.W.Frag} : TgsS K gNil kNil := ⟨fun {ah H0 F0 F H e e' hd σ ds xs Q} R r h q => by
  cases ds with
  | nil => cases r; cases h; exact ⟨rfl, q _ R⟩
  | cons _ _ => cases h⟩
theorem gCons_s {K : PySem.W.Frag} {g : TG} {gs : TGs} {t : MG} {ts : MGs} (h1 : TgS K g t) (h2 : TgsS K gs ts) : TgsS K (gCons g gs) (kCons t ts) := ⟨fun {ah H0 F0 F H e e' hd σ ds xs Q} R r h q => by
  cases ds with
  | nil => cases h
  | cons d ds =>
    cases r with
    | cons r1 r2 =>
      have h : (t d e).bind (ts ds) = some e' := h
      cases z : t d e with
      | none => rw [z] at h; cases h
      | some e1 =>
        rw [z] at h
        exact ⟨_, _, rfl, h1.run R r1 z fun σ1 R1 => h2.run R1 r2 h q⟩⟩
theorem gTup_s {K : PySem.W.Frag} {n : Nat} {gs : TGs} {ts : MGs} (h1 : TgsS K gs ts) : TgS K (gTup K n gs) (kTup n ts) := ⟨fun {ah H0 F0 F H e e' hd σ d x Q} R r h q => by
  cases d with
  | tuple ds =>
    have h : (if ds.length = n then ts ds e else none) = some e' := h
    split at h
    · rename_i hl
      cases r with
      | tup r1 r2 => exact ⟨_, _, rfl, ex_t R.gd.sub r1, by rw [r2.len]; exact hl, h1.run R r2 h q⟩
    · cases h
  | _ => cases h⟩
/-- a, b = e -/
def mUnp (m : ME) (t : MG) : MS := fun e g => (m e g).dat fun d g => match t d e with
  | some e' => .nx e' g
  | none => .stuck
theorem sUnp {tg ex : Expr} {m : ME} {gt : TG} {t : MG} {pos : Pos} (he : simE X E ex m) (hg : PG X tg gt) (ht : TgS X.K gt t) (hs : swapsWithSole [tg] ex pos.line X.env = pure false := by rfl) (hw : swappedStores [tg] ex X.env = pure none := by rfl)
    (h1 : (assignEach [tg] X.env).map (·.2) = [assign tg X.env] := by rfl) : simS X E (.Assign [tg] ex pos) (mUnp m t) := PS.imp (ps_asg he hg hs hw h1) fun Dn σ H p => by
  obtain ⟨ah, H0, F0, F, e, g, R, p⟩ := p
  refine ⟨ah, H0, F0, F, e, g, R, bindED contS p fun st R s p => ?_⟩
  split at p
  · rename_i e' h
    exact ht.run R s h fun σ' R' => p _ _ _ (Ex.refl _) R'
  · exact p.elim

/-! ### what is walked -/
/-- an item at a turn: as it stands, or a new pair -/
def ItemD (K : PySem.W.Frag) (F : Hp) (d : D) (H : Hp) (x : V) (H' : Hp) : Prop :=
  (H' = H ∧ Rp K F d x) ∨ ∃ T x1 x2 d1 d2, x = .ref T ∧ H T = none ∧ H' = upd H T (.tup [x1, x2]) ∧ d = .tuple [d1, d2] ∧ Rp K F d1 x1 ∧ Rp K F d2 x2
/-- a walk over data: G holds where what stood (hold) still stands -/
structure WalkD (K : PySem.W.Frag) (F : Hp) (hold : Hp → Prop) (J : It) (ds : List D) : Prop where
  ex : ∃ G Y, Walk J ds.length G Y ∧ (∀ H, hold H → G H) ∧ ∀ i H x H', Y i H x H' → ∃ d, ds[i]? = some d ∧ ItemD K F d H x H'
/-- an iterator: to walk while nothing is stored (peek), or in a loop (strict) -/
def PostI (K : PySem.W.Frag) (mg : Str → Option Value) (E : XK) (strict : Bool) (ah : Addr) (H0 F0 F : Hp) (e : SE) (σ : L2.St) (H : Hp) (Q : It → Hp → Prop) : Res (List D) → Prop
  | .ok ds g' => ∀ F' H' J, Step ah F F' H H' → Rel K ah H0 F0 F' e g' σ H' → WalkD K F' (fun H2 => if strict then Ex F' H2 else ∀ a o, a ≠ ah → H' a = some o → H2 a = some o) J ds → Q J H'
  | .err ex g' => PostX K mg E ah H0 F0 ex g'
  | .stuck => False
def trI (K : PySem.W.Frag) (mg : Str → Option Value) (E : XK) (strict : Bool) (m : MN) : TI := fun σ H Q => ∃ ah H0 F0 F e g, Rel K ah H0 F0 F e g σ H ∧ PostI K mg E strict ah H0 F0 F e σ H Q (m e g)
abbrev simI (X : Cx) (E : XK) (s : Bool) (tg it : Expr) (m : MN) : Prop := PI X tg it (trI X.K X.mg E s m)
theorem PI.imp {tg it : Expr} {t t' : TI} (h : PI X tg it t) (i : ∀ σ H Q, t' σ H Q → t σ H Q) : PI X tg it t' := ⟨fun pins s σ H Q I q => h.run pins s σ H Q I (i _ _ _ q)⟩
section
variable {K : PySem.W.Frag} {mg : Str → Option Value} {ah : Addr} {H0 F0 F F' H H' : Hp} {e : SE} {g g' : Hand} {σ : L2.St}
theorem postI_step {b : Bool} {Q : It → Hp → Prop} {r : Res (List D)} (s : Step ah F F' H H') (p : PostI K mg E b ah H0 F0 F e σ H Q r) : PostI K mg E b ah H0 F0 F' e σ H' Q r := by
  cases r with
  | ok v g => exact fun F2 H2 x st R v => p F2 H2 x (s.trans st) R v
  | err ex g => exact p
  | stuck => exact p
theorem contI {b : Bool} {Q : It → Hp → Prop} : Cont K mg E ah H0 F0 (fun F H r => PostI K mg E b ah H0 F0 F e σ H Q r) := ⟨fun p => p, fun p => p, postI_step⟩
theorem bindI {b : Bool} {γ : Type} [Out γ] {W : Hp → Hp → γ → Prop} (c : Cont K mg E ah H0 F0 W) {r : Res (List D)} {f : List D → Hand → γ} {Q : It → Hp → Prop} (p : W F H (r.bnd f))
    (k : ∀ {ds g' F' H' J}, Step ah F F' H H' → Rel K ah H0 F0 F' e g' σ H' → WalkD K F' (fun H2 => if b then Ex F' H2 else ∀ a o, a ≠ ah → H' a = some o → H2 a = some o) J ds → W F' H' (f ds g') → Q J H') : PostI K mg E b ah H0 F0 F e σ H Q r := by
  cases r with
  | ok v g => exact fun F2 H2 x st R s => k st R s (c.step st p)
  | err ex g => exact c.err p
  | stuck => exact c.stuck p
end

/-! ### for -/
def SR.loop (r : SR) (f : SE → Hand → SR) : SR := match r with
  | .nx e g => f e g
  | .ct e g => f e g
  | .brk e g => .nx e g
  | .ret v g => .ret v g
  | .err ex g => .err ex g
  | .stuck => .stuck
theorem postS_loop {K : PySem.W.Frag} {mg : Str → Option Value} {ah : Addr} {H0 F0 F : Hp} {Dn : Ends} {f : SE → Hand → SR} {n' : L2.St → Hp → Prop} {r : SR} (p : PostS K mg E ah H0 F0 F Dn (r.loop f))
    (k : ∀ {e' g' F' H' σ'}, Ex F F' → Rel K ah H0 F0 F' e' g' σ' H' → PostS K mg E ah H0 F0 F' Dn (f e' g') → n' σ' H') : PostS K mg E ah H0 F0 F { Dn with nx := n', ct := n', bk := Dn.nx } r := by
  cases r with
  | nx e g => exact fun F' H' σ' x R => k x R (postS_ex x p)
  | ct e g => exact fun F' H' σ' x R => k x R (postS_ex x p)
  | brk e g => exact p
  | ret v g => exact p
  | err ex g => exact p
  | stuck => exact p
def mForL (t : MG) (b : MS) : List D → MS
  | [] => fun e g => .nx e g
  | d :: ds => fun e g => match t d e with
    | some e1 => (b e1 g).loop (mForL t b ds)
    | none => .stuck
def mFor (mi : MN) (t : MG) (b : MS) : MS := fun e g => (mi e g).bnd fun ds g => mForL t b ds e g
theorem item_rel {K : PySem.W.Frag} {ah : Addr} {H0 F0 F1 F H : Hp} {e : SE} {g : Hand} {σ : L2.St} {d : D} {x : V} {H' : Hp} (R : Rel K ah H0 F0 F e g σ H) (ex : Ex F1 F) (h : ItemD K F1 d H x H') :
    ∃ F', Step ah F F' H H' ∧ Rel K ah H0 F0 F' e g σ H' ∧ Rp K F' d x := by
  rcases h with ⟨rfl, r⟩ | ⟨T, x1, x2, d1, d2, rfl, hT, rfl, rfl, r1, r2⟩
  · exact ⟨F, Step.refl, R, Rp.mono ex _ _ r⟩
  · obtain ⟨R2, st⟩ := R.froz (o := .tup [x1, x2]) hT
    exact ⟨_, st, R2, Rp.tup (SqT.of upd_same) (.cons (Rp.mono (ex.trans st.ext) _ _ r1) (.cons (Rp.mono (ex.trans st.ext) _ _ r2) .nil))⟩
theorem sFor {tg it : Expr} {body : List Stmt} {mi : MN} {gt : TG} {t : MG} {b : MS} {pos : Pos} (hp : PassesOwn (model X.prog X.w) X.A X.env X.xe) (hc : X.calm = true) (hi : simI X E true tg it mi) (hg : PG X tg gt) (ht : TgS X.K gt t) (hb : simB X E body b)
    (hs : ∀ x, foldedSetIterable it X.env x = pure x := by intro _; rfl) : simS X E (.For tg it body [] pos) (mFor mi t b) := PS.imp (ps_for hp hc hi hg hb hs) fun Dn σ H p => by
  obtain ⟨ah, H0, F0, F, e, g, R, p⟩ := p
  refine ⟨ah, H0, F0, F, e, g, R, bindI contS p fun {ds} {g'} {F1} {H1} {J} st R1 w p => ?_⟩
  obtain ⟨G, Y, w, hG, hY⟩ := w.ex
  refine for_it w (fun i σ H => ∃ F e g, Ex F1 F ∧ Rel X.K ah H0 F0 F e g σ H ∧ PostS X.K X.mg E ah H0 F0 F Dn (mForL t b (ds.drop i) e g)) ⟨F1, e, g', Ex.refl _, R1, p⟩ (fun i σ H _ ⟨F, e, g, ex, R, _⟩ => hG H (ex.trans R.gd.sub)) (fun i x σ H H' hi ⟨F, e, g, ex, R, p⟩ y => ?_) (fun σ H ⟨F, e, g, ex, R, p⟩ => ?_)
  · obtain ⟨d, hd, it⟩ := hY i H x H' y
    have hdr : ds.drop i = d :: ds.drop (i + 1) := by
      rw [List.drop_eq_getElem_cons hi]
      rw [List.getElem?_eq_getElem hi] at hd
      cases hd; rfl
    rw [hdr] at p
    obtain ⟨F', st2, R2, r⟩ := item_rel R ex it
    have p : PostS X.K X.mg E ah H0 F0 F Dn (match t d e with | some e1 => (b e1 g).loop (mForL t b (ds.drop (i + 1))) | none => .stuck) := p
    split at p
    · rename_i e1 h1
      refine ht.run R2 r h1 fun σ2 R3 => ⟨ah, H0, F0, _, e1, g, R3, postS_loop (postS_ex st2.ext p) fun {e4} {g4} {F4} {H4} {σ4} x4 R4 p4 => ⟨_, _, _, (ex.trans st2.ext).trans x4, R4, p4⟩⟩
    · exact p.elim
  · rw [List.drop_length] at p
    exact p F H σ (Ex.refl F) R

/-! ### while -/
def mWhile (t : MT) (b : MS) : Nat → MS
  | 0 => fun _ _ => .stuck
  | n + 1 => fun e g => (t e g).bnd fun c g => if c then (b e g).loop (mWhile t b n) else .nx e g
theorem sWhile (n : Nat) {c : Expr} {body : List Stmt} {t : MT} {b : MS} {pos : Pos} (hp : PassesOwn (model X.prog X.w) X.A X.env X.xe) (hc : simT X E c t) (hb : simB X E body b) : simS X E (.While c body [] pos) (mWhile t b n) := PS.imp (ps_while hp hc hb) fun Dn σ H p => by
  obtain ⟨ah, H0, F0, F, e, g, R, p⟩ := p
  refine ⟨fun m σ H => ∃ F e g, Rel X.K ah H0 F0 F e g σ H ∧ PostS X.K X.mg E ah H0 F0 F Dn (mWhile t b m e g), ⟨n, F, e, g, R, p⟩, fun m σ H ⟨F, e, g, R, p⟩ => ?_⟩
  cases m with
  | zero => exact p.elim
  | succ m =>
    refine ⟨ah, H0, F0, F, e, g, R, bindT contS p fun {c} {g'} {F'} {H'} st R p => ?_⟩
    cases c with
    | true =>
      rw [if_pos rfl]
      refine ⟨fun σ' H' => ∃ F e g, Rel X.K ah H0 F0 F e g σ' H' ∧ PostS X.K X.mg E ah H0 F0 F Dn (mWhile t b m e g), fun σ' H' h => ⟨m, Nat.lt_succ_self m, h⟩, ah, H0, F0, F', e, g', R, postS_loop p fun {e4} {g4} {F4} {H4} {σ4} x4 R4 p4 => ⟨_, _, _, R4, p4⟩⟩
    | false =>
      rw [if_neg Bool.false_ne_true]
      exact p _ _ _ (Ex.refl _) R
end
end Sm

/-! Sm5: comprehensions, defs. -/
namespace Sm
open PySem PySem.Spec PyProof.Rows L2

def wipeE (e : SE) : List Nat → SE
  | [] => e
  | v :: vs => (wipeE e vs).set v .no
section
variable {K : PySem.W.Frag} {ah : Addr} {H0 F0 F F' H H' : Hp} {e : SE} {g g' : Hand} {σ : L2.St}
theorem Rel.wipe (R : Rel K ah H0 F0 F e g σ H) : ∀ vs, Rel K ah H0 F0 F (wipeE e vs) g (L2.wipe σ vs) H
  | [] => R
  | v :: vs => (R.wipe vs).setSlot v (fun _ z => nomatch z) trivial
/-- the slots as they were, behind steps of another frame's -/
theorem Rel.carry {e2 : SE} {σ2 : L2.St} (R : Rel K ah H0 F0 F e g σ H) (st : Step ah F F' H H') (R2 : Rel K ah H0 F0 F' e2 g' σ2 H') : Rel K ah H0 F0 F' e g' σ H' := by
  refine ⟨R2.gd, ⟨R.env.len, fun i s x h1 h2 => ?_, R.env.apart⟩, R.own⟩
  have q := R.env.at_ i s x h1 h2
  cases s with
  | no => trivial
  | val v => obtain ⟨y, e1, r⟩ := q; exact ⟨y, e1, r.mono st.ext⟩
  | own c =>
    obtain ⟨a, o, e1, e2, e3, e4, e5⟩ := q
    refine ⟨a, o, e1, st.keep a o e5 e2, e3.mono st.ext, ?_, e5⟩
    cases z : F' a with
    | none => rfl
    | some u =>
      rcases st.new a u z with w | w
      · rw [e4] at w; cases w
      · rw [e2] at w; cases w
/-- something that no slot knows changes -/
theorem Rel.updFree {p : Addr} {o : HO} (R : Rel K ah H0 F0 F e g σ H) (h1 : F p = none) (h2 : p ≠ ah) (h3 : H0 p = none) (h4 : ∀ j, ¬ OwnAt e σ j p) : Rel K ah H0 F0 F e g σ (upd H p o) := by
  have G := R.gd
  refine ⟨⟨fun a u h => ?_, G.fah, G.hand.mono (Ex.refl F) (upd_ne h2.symm), G.ext, G.new, fun a u na h => ?_⟩, ⟨R.env.len, fun i s x z1 z2 => ?_, R.env.apart⟩, R.own⟩
  · rw [upd_ne (fun z => by rw [z, h1] at h; cases h)]; exact G.sub a u h
  · rw [upd_ne (fun z => by rw [z, h3] at h; cases h)]; exact G.keep a u na h
  · have q := R.env.at_ i s x z1 z2
    cases s with
    | no => trivial
    | val v => exact q
    | own c =>
      obtain ⟨b, ob, e1, e2, e3, e4, e5⟩ := q
      subst e1
      have nb : b ≠ p := fun w => h4 i ⟨⟨c, z1⟩, by rw [← w]; exact z2⟩
      exact ⟨b, ob, rfl, by rw [upd_ne nb]; exact e2, e3, e4, e5⟩
end
theorem wipe_set {σ : L2.St} {i : Nat} {x : Option V} : ∀ {vs : List Nat}, i ∈ vs → L2.wipe (σ.set i x) vs = L2.wipe σ vs
  | [], h => by cases h
  | v :: vs, h => by
    unfold L2.wipe
    by_cases z : i ∈ vs
    · rw [wipe_set z]
    · have e : i = v := by
        rcases List.mem_cons.mp h with h | h
        · exact h
        · exact absurd h z
      subst e
      have out : ∀ {ws : List Nat} {τ : L2.St}, i ∉ ws → L2.wipe (τ.set i x) ws = (L2.wipe τ ws).set i x := by
        intro ws
        induction ws with
        | nil => intro τ _; rfl
        | cons w ws ih =>
          intro τ h
          unfold L2.wipe
          rw [ih (fun z => h (List.mem_cons_of_mem _ z)), List.set_comm _ _ (fun z => h (by rw [z]; exact List.mem_cons_self))]
      rw [out z, List.set_set]
theorem wipe_wipe {σ : L2.St} : ∀ (ws vs : List Nat), (∀ i ∈ ws, i ∈ vs) → L2.wipe (L2.wipe σ ws) vs = L2.wipe σ vs
  | [], _, _ => rfl
  | w :: ws, vs, h => by
    show L2.wipe ((L2.wipe σ ws).set w none) vs = _
    rw [wipe_set (h w List.mem_cons_self), wipe_wipe ws vs fun i hi => h i (List.mem_cons_of_mem _ hi)]

/-- a target that stores into the slots of vs alone -/
structure TgW (K : PySem.W.Frag) (g : TG) (t : MG) (vs : List Nat) : Prop where
  run : ∀ {ah : Addr} {H0 F0 F H : Hp} {e e' : SE} {hd : Hand} {σ : L2.St} {d : D} {x : V} {Q : L2.St → Hp → Prop}, Rel K ah H0 F0 F e hd σ H → Rp K F d x → t d e = some e' → (∀ σ', Rel K ah H0 F0 F e' hd σ' H → L2.wipe σ' vs = L2.wipe σ vs → Q σ' H) → g x σ H Q
structure TgsW (K : PySem.W.Frag) (g : TGs) (t : MGs) (vs : List Nat) : Prop where
  run : ∀ {ah : Addr} {H0 F0 F H : Hp} {e e' : SE} {hd : Hand} {σ : L2.St} {ds : List D} {xs : List V} {Q : L2.St → Hp → Prop}, Rel K ah H0 F0 F e hd σ H → RpAll K F ds xs → t ds e = some e' → (∀ σ', Rel K ah H0 F0 F e' hd σ' H → L2.wipe σ' vs = L2.wipe σ vs → Q σ' H) → g xs σ H Q
theorem gName_w {K : PySem.W.Frag} (i : Nat) {vs : List Nat} (h : i ∈ vs) : TgW K (gName i) (kName i) vs := ⟨fun R r h' q => by
  cases h'
  exact q _ (R.setVal (v := .dat _) i r) (wipe_set h)⟩
theorem gNil_w {K : PySem.W.Frag} {vs : List Nat} : TgsW K gNil kNil vs := ⟨fun {ah H0 F0 F H e e' hd σ ds xs Q} R r h q => by
  cases ds with
  | nil => cases r; cases h; exact ⟨rfl, q _ R rfl⟩
  | cons _ _ => cases h⟩
theorem gCons_w {K : PySem.W.Frag} {g : TG} {gs : TGs} {t : MG} {ts : MGs} {vs : List Nat} (h1 : TgW K g t vs) (h2 : TgsW K gs ts vs) : TgsW K (gCons g gs) (kCons t ts) vs := ⟨fun {ah H0 F0 F H e e' hd σ ds xs Q} R r h q => by
  cases ds with
  | nil => cases h
  | cons d ds =>
    cases r with
    | cons r1 r2 =>
      have h : (t d e).bind (ts ds) = some e' := h
      cases z : t d e with
      | none => rw [z] at h; cases h
      | some e1 =>
        rw [z] at h
        exact ⟨_, _, rfl, h1.run R r1 z fun σ1 R1 w1 => h2.run R1 r2 h fun σ2 R2 w2 => q σ2 R2 (w2.trans w1)⟩⟩
theorem gTup_w {K : PySem.W.Frag} {n : Nat} {gs : TGs} {ts : MGs} {vs : List Nat} (h1 : TgsW K gs ts vs) : TgW K (gTup K n gs) (kTup n ts) vs := ⟨fun {ah H0 F0 F H e e' hd σ d x Q} R r h q => by
  cases d with
  | tuple ds =>
    have h : (if ds.length = n then ts ds e else none) = some e' := h
    split at h
    · rename_i hl
      cases r with
      | tup r1 r2 => exact ⟨_, _, rfl, ex_t R.gd.sub r1, by rw [r2.len]; exact hl, h1.run R r2 h q⟩
    · cases h
  | _ => cases h⟩

/-! ### comprehensions -/
def Res.calm {α : Type} (r : Res α) : Res α := match r with
  | .err _ _ => .stuck
  | r => r
def mLcL (t : MG) (c : MT) (el : ME) (vs : List Nat) : List D → MN
  | [] => fun _ g => .ok [] g
  | d :: ds => fun e g => match t d (wipeE e vs) with
    | some e1 => (c e1 g).calm.bnd fun b g => if b then (el e1 g).calm.dat fun y g => (mLcL t c el vs ds e g).bnd fun ys g => .ok (y :: ys) g else mLcL t c el vs ds e g
    | none => .stuck
def mLc (mi : MN) (t : MG) (c : MT) (el : ME) (vs : List Nat) : MN := fun e g => (mi e g).bnd fun ds g => if ds.length < 1000000 then mLcL t c el vs ds e g else .stuck
def mYes : MT := fun _ g => .ok true g
section
variable {X : Cx} {E : XK}
theorem yesImp {K : PySem.W.Frag} {mg : Str → Option Value} : ∀ σ H Q, trT K mg E mYes σ H Q → tYes σ H Q := fun σ H Q p => by
  obtain ⟨ah, H0, F0, F, e, g, R, p⟩ := p
  exact p F H Step.refl R
abbrev simTs (X : Cx) (E : XK) (cs : List Expr) (m : MT) : Prop := PTs X cs (trT X.K X.mg E m)
theorem PTs.imp {cs : List Expr} {t t' : TT} (h : PTs X cs t) (i : ∀ σ H Q, t' σ H Q → t σ H Q) : PTs X cs t' := ⟨fun pins s σ H Q I q => h.run pins s σ H Q I (i _ _ _ q)⟩
theorem tsNil : simTs X E [] mYes := PTs.imp pts_nil yesImp
theorem tsOne {c : Expr} {m : MT} (h : simT X E c m) : simTs X E [c] m := pts_one h
theorem bindT0 {K : PySem.W.Frag} {mg : Str → Option Value} {ah : Addr} {H0 F0 F H : Hp} {e : SE} {σ : L2.St} {γ : Type} [Out γ] {W : γ → Prop} (ws : ¬ W Out.stuck) {r : Res Bool} {f : Bool → Hand → γ} {Q : Bool → Hp → Prop} (p : W (r.calm.bnd f))
    (k : ∀ {b g' F' H'}, Step ah F F' H H' → Rel K ah H0 F0 F' e g' σ H' → W (f b g') → Q b H') : PostT K mg E0 ah H0 F0 F e σ H Q r := by
  cases r with
  | ok v g => exact fun F2 H2 st R => k st R p
  | err ex g => exact (ws p).elim
  | stuck => exact (ws p).elim
theorem bindED0 {K : PySem.W.Frag} {mg : Str → Option Value} {ah : Addr} {H0 F0 F H : Hp} {e : SE} {σ : L2.St} {γ : Type} [Out γ] {W : γ → Prop} (ws : ¬ W Out.stuck) {r : Res Val} {f : D → Hand → γ} {Q : VK} (p : W (r.calm.dat f))
    (k : ∀ {d g' F' H' x}, Step ah F F' H H' → Rel K ah H0 F0 F' e g' σ H' → Rp K F' d x → W (f d g') → Q x H') : PostE K mg E0 ah H0 F0 F e σ H Q r := by
  cases r with
  | ok v g =>
    cases v with
    | dat d => exact fun F2 H2 x st R s => k st R s p
    | _ => exact (ws p).elim
  | err ex g => exact (ws p).elim
  | stuck => exact (ws p).elim
theorem bnd_assoc {α β γ : Type} [Out γ] (r : Res α) (f : α → Hand → Res β) (h : β → Hand → γ) (he : ∀ ex g, (Res.err ex g : Res β).bnd h = Out.err ex g) : (r.bnd f).bnd h = r.bnd fun a g => (f a g).bnd h := by
  cases r with
  | ok a g => rfl
  | err ex g => rfl
  | stuck => rfl
theorem lcImp {mi : MN} {gt : TG} {t : MG} {c : MT} {el : ME} {vs : List Nat} {b : Bool} (ht : TgW X.K gt t vs) :
    ∀ σ H Q, trN X.K X.mg E (mLc mi t c el vs) σ H Q → tLc (trI X.K X.mg E false mi) gt (trT X.K X.mg E0 c) (trE X.K X.mg E0 el) vs σ H Q := fun σ H Q p => by
  obtain ⟨ah, H0, F0, F, e, g, R, p⟩ := p
  refine ⟨ah, H0, F0, F, e, g, R, bindI contN p fun {ds} {g'} {F1} {H1} {J} st R1 w p => ?_⟩
  intro L hL
  obtain ⟨G, Y, w, hG, hY⟩ := w.ex
  have nL : L ≠ ah := R1.gd.fresh_ne hL
  have fL := R1.gd.freshF hL
  have h0L := R1.gd.fresh0 hL
  have oL : ∀ j, ¬ OwnAt e σ j L := R1.notOwn hL (fun _ _ _ h => h)
  split at p
  · rename_i hlen
    refine lc_it w (fun i H => ∃ F g acc ads, Rel X.K ah H0 F0 F e g σ H ∧ Step ah F1 F H1 H ∧ H L = some (.lst acc) ∧ RpAll X.K F ads acc ∧ ads.length ≤ i ∧ F L = none ∧
      PostN X.K X.mg E ah H0 F0 F1 e σ H1 Q ((mLcL t c el vs (ds.drop i) e g).bnd fun ys g => .ok (ads ++ ys) g)) ?_ (fun i H _ ⟨F, g, acc, ads, R, st, _⟩ => hG H fun a o n h => st.keep a o n h) (fun i x H H' hi ⟨F, g, acc, ads, R, st, hacc, ra, hl, fL', p⟩ y => ?_) (fun H ⟨F, g, acc, ads, R, st, hacc, ra, hl, fL', p⟩ => ?_)
    · obtain ⟨R2, st2⟩ := R1.waste (o := .lst []) hL
      refine ⟨F1, g', [], [], R2, st2, upd_same, .nil, Nat.zero_le _, fL, ?_⟩
      rw [List.drop_zero]
      cases q : mLcL t c el vs ds e g' with
      | ok ys g2 => rw [q] at p; exact p
      | err ex g2 => rw [q] at p; exact p
      | stuck => rw [q] at p; exact p
    · obtain ⟨d, hd, it⟩ := hY i H x H' y
      have hdr : ds.drop i = d :: ds.drop (i + 1) := by
        rw [List.drop_eq_getElem_cons hi]
        rw [List.getElem?_eq_getElem hi] at hd
        cases hd; rfl
      rw [hdr] at p
      obtain ⟨F2, st2, R2, r⟩ := item_rel R st.ext it
      have p : PostN X.K X.mg E ah H0 F0 F1 e σ H1 Q ((match t d (wipeE e vs) with
        | some e1 => (c e1 g).calm.bnd fun b g => if b then (el e1 g).calm.dat fun y g => (mLcL t c el vs (ds.drop (i + 1)) e g).bnd fun ys g => (Res.ok (y :: ys) g : Res (List D)) else mLcL t c el vs (ds.drop (i + 1)) e g
        | none => .stuck).bnd fun ys g => .ok (ads ++ ys) g) := p
      split at p
      · rename_i e1 h1
        have ns : ¬ PostN X.K X.mg E ah H0 F0 F1 e σ H1 Q (Out.stuck) := fun z => z
        refine ht.run (R2.wipe vs) r h1 fun σ2 R3 hw => ⟨by rw [hw, wipe_wipe vs vs fun _ h => h], ah, H0, F0, F2, e1, g, R3, ?_⟩
        rw [bnd_assoc _ _ _ (fun _ _ => rfl)] at p
        refine bindT0 ns p fun {b} {g4} {F4} {H4} st4 R4 p4 => ?_
        have R4o := (R.carry st2 R2).carry st4 R4
        have st14 := (st.trans st2).trans st4
        have k4 : H4 L = some (.lst acc) := st4.keep L _ nL (st2.keep L _ nL hacc)
        have f4 : F4 L = none := by
          cases z : F4 L with
          | none => rfl
          | some u =>
            rcases (st2.trans st4).new L u z with w | w
            · rw [fL'] at w; cases w
            · rw [hacc] at w; cases w
        cases b with
        | false =>
          simp only [Bool.false_eq_true, if_false] at p4 ⊢
          exact ⟨F4, g4, acc, ads, R4o, st14, k4, RpAll.mono (st2.trans st4).ext _ _ ra, by omega, f4, p4⟩
        | true =>
          simp only [if_true] at p4 ⊢
          refine ⟨ah, H0, F0, F4, e1, g4, R4, ?_⟩
          have p4 : PostN X.K X.mg E ah H0 F0 F1 e σ H1 Q ((el e1 g4).calm.dat fun y g => (mLcL t c el vs (ds.drop (i + 1)) e g).bnd fun ys g => (Res.ok (ads ++ y :: ys) g : Res (List D))) := by
            cases q : el e1 g4 with
            | ok v g5 =>
              rw [q] at p4
              cases v with
              | dat y =>
                have p4 : PostN X.K X.mg E ah H0 F0 F1 e σ H1 Q (((mLcL t c el vs (ds.drop (i + 1)) e g5).bnd fun ys g => (Res.ok (y :: ys) g : Res (List D))).bnd fun ys g => (Res.ok (ads ++ ys) g : Res (List D))) := p4
                rw [bnd_assoc _ _ _ (fun _ _ => rfl)] at p4
                exact p4
              | _ => exact p4
            | err ex g5 => rw [q] at p4; exact p4
            | stuck => rw [q] at p4; exact p4
          refine bindED0 ns p4 fun {y} {g5} {F5} {H5} {z} st5 R5 r5 p5 => ?_
          have R5o := R4o.carry st5 R5
          have k5 : H5 L = some (.lst acc) := st5.keep L _ nL k4
          have f5 : F5 L = none := by
            cases z : F5 L with
            | none => rfl
            | some u =>
              rcases st5.new L u z with w | w
              · rw [f4] at w; cases w
              · rw [k4] at w; cases w
          have ex5 := (st2.trans st4).trans st5
          have ra5 := RpAll.mono ex5.ext _ _ ra
          have st15 := st14.trans st5
          refine ⟨acc, k5, ?_, F5, g5, acc ++ [z], ads ++ [y], R5o.updFree f5 nL h0L oL, ⟨st15.ext, st15.new, fun a o n h => ?_, fun a h => ?_⟩, upd_same, ra5.snoc r5, by rw [List.length_append, List.length_singleton]; omega, f5, ?_⟩
          · rw [ra.len]; exact line_lt (by omega)
          · rw [upd_ne (ne_of_none h hL)]; exact st15.keep a o n h
          · by_cases z : a = L
            · subst z; exact hL
            · rw [upd_ne z] at h; exact st15.live a h
          · have e5 : (fun ys g => (Res.ok (ads ++ y :: ys) g : Res (List D))) = fun ys g => Res.ok (ads ++ [y] ++ ys) g := by
              funext ys g; simp
            rw [e5] at p5
            exact p5
      · exact p.elim
    · rw [List.drop_length] at p
      have p : PostN X.K X.mg E ah H0 F0 F1 e σ H1 Q (.ok (ads ++ []) g) := p
      rw [List.append_nil] at p
      exact p F H L acc st R hacc ra fL' hL
  · exact p.elim
section
variable {elt tg iter : Expr} {ifs : List Expr} {scope : Scope} {own : List (Str × Nat)} {pos : Pos} {mi : MN} {gt : TG} {t : MG} {c : MT} {el : ME}
/-- [elt for tg in iter if ..] -/
theorem nLc (hc : X.calm = true) (hN : X.N.Nodup) (hi : simI X E false tg iter mi) (ok : BlkOk X.N X.env.scope scope own)
    (hg : ∀ (s : Shared) (H : Hp) (C : Addr) (cl : List (Str × Addr)) (fp : List Addr), PG (X.blk s H scope (compEnvC scope cl C X.env) fp) tg gt) (ht : TgW X.K gt t (own.map (·.2)))
    (hts : ∀ (s : Shared) (H : Hp) (C : Addr) (cl : List (Str × Addr)) (fp : List Addr), simTs (X.blk s H scope (compEnvC scope cl C X.env) fp) E0 ifs c)
    (he : ∀ (s : Shared) (H : Hp) (C : Addr) (cl : List (Str × Addr)) (fp : List Addr), simE (X.blk s H scope (compEnvC scope cl C X.env) fp) E0 elt el) (hs : ∀ x, foldedSetIterable iter X.env x = pure x := by intro _; rfl) :
    simN X E (.ListComp elt [⟨tg, iter, ifs, 0⟩] scope pos) (mLc mi t c el (own.map (·.2))) := PE.imp (pe_lc hc hN hi ok hg hts he hs) (lcImp (b := false) ht)
/-- name = [..] -/
theorem sOwnLc {i : Nat} {y : Str} {py spos : Pos} (hc : X.calm = true) (hN : X.N.Nodup) (hy : X.N[i]? = some y) (hyl : X.env.scope.names.lookup y = some .local)
    (hsw : swapsWith (.ListComp elt [⟨tg, iter, ifs, 0⟩] scope pos) (some (.Name y py)) spos.line X.env = pure true) (hi : simI X E false tg iter mi) (ok : BlkOk X.N X.env.scope scope own)
    (hg : ∀ (s : Shared) (H : Hp) (C : Addr) (cl : List (Str × Addr)) (fp : List Addr), PG (X.blk s H scope (compEnvC scope cl C X.env) fp) tg gt) (ht : TgW X.K gt t (own.map (·.2)))
    (hts : ∀ (s : Shared) (H : Hp) (C : Addr) (cl : List (Str × Addr)) (fp : List Addr), simTs (X.blk s H scope (compEnvC scope cl C X.env) fp) E0 ifs c)
    (he : ∀ (s : Shared) (H : Hp) (C : Addr) (cl : List (Str × Addr)) (fp : List Addr), simE (X.blk s H scope (compEnvC scope cl C X.env) fp) E0 elt el) (hs : ∀ x, foldedSetIterable iter X.env x = pure x := by intro _; rfl) :
    simS X E (.Assign [.Name y py] (.ListComp elt [⟨tg, iter, ifs, 0⟩] scope pos) spos) (mOwn i (mLc mi t c el (own.map (·.2)))) :=
  PS.imp (ps_setLc hc hN hy hyl hsw hi ok hg hts he hs) fun Dn σ H p => lcImp (b := false) ht σ H _ (ownImp Dn σ H p)
theorem sSetLc {i : Nat} {y : Str} {py spos : Pos} (hc : X.calm = true) (hN : X.N.Nodup) (hy : X.N[i]? = some y) (hyl : X.env.scope.names.lookup y = some .local)
    (hsw : swapsWith (.ListComp elt [⟨tg, iter, ifs, 0⟩] scope pos) (some (.Name y py)) spos.line X.env = pure true) (hi : simI X E false tg iter mi) (ok : BlkOk X.N X.env.scope scope own)
    (hg : ∀ (s : Shared) (H : Hp) (C : Addr) (cl : List (Str × Addr)) (fp : List Addr), PG (X.blk s H scope (compEnvC scope cl C X.env) fp) tg gt) (ht : TgW X.K gt t (own.map (·.2)))
    (hts : ∀ (s : Shared) (H : Hp) (C : Addr) (cl : List (Str × Addr)) (fp : List Addr), simTs (X.blk s H scope (compEnvC scope cl C X.env) fp) E0 ifs c)
    (he : ∀ (s : Shared) (H : Hp) (C : Addr) (cl : List (Str × Addr)) (fp : List Addr), simE (X.blk s H scope (compEnvC scope cl C X.env) fp) E0 elt el) (hs : ∀ x, foldedSetIterable iter X.env x = pure x := by intro _; rfl) :
    simS X E (.Assign [.Name y py] (.ListComp elt [⟨tg, iter, ifs, 0⟩] scope pos) spos) (mSet i (mL (mLc mi t c el (own.map (·.2))))) :=
  PS.imp (ps_setLc hc hN hy hyl hsw hi ok hg hts he hs) fun Dn σ H p => lcImp (b := false) ht σ H _ (impN (X := X) σ H _ (asgImp Dn σ H p))
end
end

/-! ### defs -/
def fnM (N : Nat) (b : MS) (args : List Val) (g : Hand) : Res Val := match b (args.map Slot.val ++ List.replicate (N - args.length) Slot.no) g with
  | .ret v g => .ok v g
  | .nx _ g => .ok (.dat .none) g
  | .err ex g => .err ex g
  | _ => .stuck
theorem vreps_get {K : PySem.W.Frag} {ah : Addr} {F : Hp} : ∀ {vs : List Val} {xs : List V}, VReps K ah F vs xs → ∀ {i : Nat} {v : Val}, vs[i]? = some v → ∃ x, xs[i]? = some x ∧ VRep K ah F v x
  | _, _, .nil, i, v, h => by simp at h
  | _, _, .cons r t, 0, v, h => by simp at h; subst h; exact ⟨_, rfl, r⟩
  | _, _, .cons r t, i + 1, v, h => by
    obtain ⟨x, e1, e2⟩ := vreps_get t (i := i) (v := v) (by simpa using h)
    exact ⟨x, by simpa using e1, e2⟩
theorem rel_start {K : PySem.W.Frag} {ah : Addr} {F H : Hp} {g : Hand} {args : List Val} {xs : List V} {N : List Str} (h1 : Ex F H) (h2 : F ah = none) (h3 : HandAt K F H ah g) (r : VReps K ah F args xs) :
    Rel K ah H F F (args.map Slot.val ++ List.replicate (N.length - args.length) Slot.no) g (start N xs) H := by
  have noOwn : ∀ i c, (args.map Slot.val ++ List.replicate (N.length - args.length) Slot.no)[i]? ≠ some (Slot.own c) := fun i c z => by
    by_cases hi : i < args.length
    · rw [List.getElem?_append_left (by simpa using hi), List.getElem?_map, List.getElem?_eq_getElem hi] at z; cases z
    · rw [List.getElem?_append_right (by simpa using hi), List.getElem?_replicate] at z
      split at z <;> cases z
  refine ⟨⟨h1, h2, h3, Ex.refl F, fun a o h => .inl h, fun a o _ h => h⟩, ⟨?_, fun i s x z1 z2 => ?_, fun i j a _ ⟨⟨c, z⟩, _⟩ _ => absurd z (noOwn i c)⟩, fun i a ⟨⟨c, z⟩, _⟩ => absurd z (noOwn i c)⟩
  · unfold L2.start
    simp [r.len]
  · unfold L2.start at z2
    have hl := r.len
    by_cases hi : i < args.length
    · rw [List.getElem?_append_left (by simpa using hi), List.getElem?_map, List.getElem?_eq_getElem hi] at z1
      obtain ⟨y, e1, e2⟩ := vreps_get r (List.getElem?_eq_getElem hi)
      rw [List.getElem?_append_left (by simpa [hl] using hi), List.getElem?_map, e1] at z2
      cases z1; cases z2
      exact ⟨y, rfl, e2⟩
    · rw [List.getElem?_append_right (by simpa using hi), List.getElem?_replicate] at z1
      split at z1
      · cases z1; trivial
      · cases z1
/-- THE RULE for a def: its body's mirror is its promise -/
theorem fnOk {P : Program} {w : World} {K : PySem.W.Frag} {mg : Str → Option Value} {base : Heap} {x qual : Str} {st : Stmt} {f : Addr} {fd : FuncData} {N ps : List Str} {k : Nat} {b : MS} (T : Fun K x qual st f fd) (S : FnScope N ps (defScope st))
    (hb : ∀ (cdv : Value) (A : Around) (outer : List Env) (s : Shared) (H : Hp) (E : XK), Room k (A.deeper (envOfC qual (defScope st) s.heap.objs.size f cdv)) → simB (cxOf (L2.CX P w) P w K mg base N qual (defScope st) f cdv A outer s H E) E (defBody st) b) :
    FnOk P w K mg base (L2.CX P w) (k + 1) f fd ps (spOf K mg ps.length (fnM N.length b)) := by
  refine T.okX S spOf_len fun cdv A outer s H vs Q E hr h => ?_
  refine ⟨_, hb cdv A outer s H E hr, ?_⟩
  obtain ⟨ah, F, g, args, h1, h2, h3, r, hl, p⟩ := h
  refine ⟨ah, H, F, F, _, g, rel_start h1 h2 h3 r, ?_⟩
  unfold fnM at p
  cases q : b (args.map Slot.val ++ List.replicate (N.length - args.length) Slot.no) g with
  | ret v g' => rw [q] at p; exact p
  | nx e' g' => rw [q] at p; exact fun F' H' σ' _ R => p F' H' _ R.gd (Rp.non)
  | err ex g' => rw [q] at p; exact p
  | brk e' g' => rw [q] at p; exact p.elim
  | ct e' g' => rw [q] at p; exact p.elim
  | stuck => rw [q] at p; exact p.elim
end Sm

/-! Sm6: operators and built-in functions over trees. -/
namespace Sm
open PySem PySem.Spec PyProof.Rows L2

/-! ### reading trees as the layer's data -/
section
variable {K : PySem.W.Frag} {F H : Hp}
mutual
theorem rp_dp (ex : Ex F H) : ∀ (d : D) (x : V), d.canLay0 = true → Rp K F d x → Dp K H x d
  | .none, _, _, r => by cases r; exact .non
  | .bool b, _, _, r => by cases r; exact .bl b
  | .int i, _, _, r => by cases r; exact .int i
  | .str s, _, _, r => by cases r; exact .str s
  | .list ds, _, h, r => by
    cases r with
    | lst h1 h2 => exact .lst (SqL.of (ex _ _ h1)) (rps_dp ex ds _ (by simpa only [PyData.canLay0] using h) h2)
  | .tuple ds, _, h, r => by
    cases r with
    | tup h1 h2 => exact .tup (ex_t ex h1) (rps_dp ex ds _ (by simpa only [PyData.canLay0] using h) h2)
  | .dict kvs, _, h, _ => by simp [PyData.canLay0] at h
theorem rps_dp (ex : Ex F H) : ∀ (ds : List D) (xs : List V), PyData.canLayAll0 ds = true → RpAll K F ds xs → DpAll K H xs ds
  | [], _, _, r => by cases r; exact .nil
  | d :: ds, _, h, r => by
    have h : d.canLay0 = true ∧ PyData.canLayAll0 ds = true := by simpa [PyData.canLayAll0] using h
    cases r with
    | cons r1 r2 => exact .cons (rp_dp ex d _ h.1 r1) (rps_dp ex ds _ h.2 r2)
end
theorem see_dp {ah : Addr} {H0 F0 : Hp} {e : SE} {g : Hand} {σ : L2.St} (R : Rel K ah H0 F0 F e g σ H) {d : D} {x : V} (h : d.canLay0 = true) (s : VSee K ah F H (.dat d) x) : Dp K H x d := by
  rcases s with s | ⟨ds, a, xs, e1, e2, h1, h2⟩
  · exact rp_dp R.gd.sub d x h s
  · cases e1; subst e2
    exact .lst (SqL.of (mask_sub _ _ h1)) (rps_dp R.gd.sub ds xs (by simpa only [PyData.canLay0] using h) h2)
end

/-! ### plain functions -/
def fAdd : D → D → Option D
  | .int i, .int j => some (.int (i + j))
  | .str x, .str y => if x.length + y.length ≤ 1000000 then some (.str (x ++ y)) else none
  | .list xs, .list ys => if xs.length + ys.length ≤ 1000000 then some (.list (xs ++ ys)) else none
  | .tuple xs, .tuple ys => if xs.length + ys.length ≤ 1000000 then some (.tuple (xs ++ ys)) else none
  | _, _ => none
def fSub : D → D → Option D
  | .int i, .int j => some (.int (i - j))
  | _, _ => none
def mulOk (i j : Int) : Bool := (decide (-(2 ^ 64) < i) && decide (i < 2 ^ 64)) || (decide (-(2 ^ 64) < j) && decide (j < 2 ^ 64)) || decide (i.natAbs.log2 + j.natAbs.log2 < 1000000)
def fMul : D → D → Option D
  | .int i, .int j => if mulOk i j then some (.int (i * j)) else none
  | .list xs, .int k => if k ≤ 1000000 ∧ xs.length * k.toNat ≤ 1000000 ∧ -1000000 ≤ k then some (.list (List.replicate k.toNat xs).flatten) else none
  | .str x, .int k => if 0 ≤ k ∧ k ≤ 1000 ∧ x.length ≤ 1000 then some (.str (Txt.mul x k)) else none
  | _, _ => none
def fDiv : D → D → Option D
  | .int i, .int j => if 0 < j ∧ j.natAbs.log2 < 9000 then some (.int (i / j)) else none
  | _, _ => none
def fMod : D → D → Option D
  | .int i, .int j => if 0 < j then some (.int (i % j)) else if j < 0 then some (.int (i.fmod j)) else none
  | _, _ => none
def fPow : D → D → Option D
  | .int i, .int j => if 0 ≤ j ∧ j ≤ 1000000 ∧ i.natAbs < 2 ^ 64 then some (.int (i ^ j.toNat)) else none
  | _, _ => none
def fNeg : D → Option D
  | .int i => some (.int (-i))
  | _ => none
def fLt : D → D → Option D
  | .int i, .int j => some (.bool (decide (i < j)))
  | _, _ => none
def fLe : D → D → Option D
  | .int i, .int j => some (.bool (decide (i ≤ j)))
  | .str x, .str y => some (.bool (!decide (y.cps.toList < x.cps.toList)))
  | _, _ => none
def fGt : D → D → Option D
  | .int i, .int j => some (.bool (decide (j < i)))
  | _, _ => none
def fGe : D → D → Option D
  | .int i, .int j => some (.bool (decide (j ≤ i)))
  | _, _ => none
def fEq : D → D → Option D
  | .str x, .str y => some (.bool (decide (x = y)))
  | a, b => if SeqAt.shaped a && SeqAt.shaped b then some (.bool (PyData.eqv a b)) else none
def fNe : D → D → Option D
  | .str x, .str y => some (.bool (!decide (x = y)))
  | a, b => if SeqAt.shaped a && SeqAt.shaped b then some (.bool (!PyData.eqv a b)) else none
def fIs : D → D → Option D
  | .bool a, .bool b => some (.bool (decide (a = b)))
  | .none, .none => some (.bool true)
  | _, .none => some (.bool false)
  | _, _ => none
def fIsNot : D → D → Option D
  | .bool a, .bool b => some (.bool (!decide (a = b)))
  | .none, .none => some (.bool false)
  | _, .none => some (.bool true)
  | _, _ => none
def flatD : D → Bool
  | .none | .bool _ | .int _ | .str _ => true
  | _ => false
def fIn : D → D → Option D
  | a, .list ds => if flatD a && ds.all flatD then some (.bool (ds.any fun z => PyData.eqv z a)) else if SeqAt.shaped a && SeqAt.shaped (.list ds) then some (.bool (ds.any fun z => PyData.eqv z a)) else none
  | a, .tuple ds => if flatD a && ds.all flatD then some (.bool (ds.any fun z => PyData.eqv z a)) else none
  | .str x, .str y => some (.bool (!(Builtin.Str.occurrences y x 0 y.length 1).isEmpty))
  | _, _ => none
def fNotIn : D → D → Option D
  | a, .list ds => if flatD a && ds.all flatD then some (.bool (!ds.any fun z => PyData.eqv z a)) else if SeqAt.shaped a && SeqAt.shaped (.list ds) then some (.bool (!ds.any fun z => PyData.eqv z a)) else none
  | a, .tuple ds => if flatD a && ds.all flatD then some (.bool (!ds.any fun z => PyData.eqv z a)) else none
  | .str x, .str y => some (.bool (!(!(Builtin.Str.occurrences y x 0 y.length 1).isEmpty)))
  | _, _ => none
def fIx : D → D → Option D
  | .list ds, .int i => atI ds i
  | .tuple ds, .int i => atI ds i
  | .str z, .int i => if z.length ≤ 1000000 then (atI z.cps.toList i).map fun c => .str ⟨#[c]⟩ else none
  | _, _ => none
def cutL {α : Type} (xs : List α) (lo hi : Option Int) : List α := (xs.drop (HT.sIx xs.length 0 lo)).take (HT.sIx xs.length xs.length hi - HT.sIx xs.length 0 lo)

section
variable {K : PySem.W.Frag}
/-- the parts of an «or» answer where they can -/
structure OpP (K : PySem.W.Frag) (r : R2) (C : D → D → Bool) (f : D → D → Option D) : Prop where
  run : ∀ {ah : Addr} {H0 F0 F : Hp} {e : SE} {g : Hand} {σ : L2.St} {H : Hp} {a b v : D} {x y : V} {Q : VK}, C a b = true → Rel K ah H0 F0 F e g σ H → VSee K ah F H (.dat a) x → VSee K ah F H (.dat b) y → f a b = some v →
  (∀ F' H' z, Step ah F F' H H' → Rel K ah H0 F0 F' e g σ H' → Rp K F' v z → Q z H') → r x y H Q
theorem OpP.or {r r' : R2} {C C' : D → D → Bool} {f : D → D → Option D} (h : OpP K r C f) (h' : OpP K r' C' f) : OpP K (fun x y H Q => r x y H Q ∨ r' x y H Q) (fun a b => C a b || C' a b) f := ⟨fun {ah H0 F0 F e g σ H a b v x y Q} c R s1 s2 q k => by
  cases z : C a b with
  | true => exact .inl (h.run z R s1 s2 q k)
  | false => rw [z] at c; exact .inr (h'.run c R s1 s2 q k)⟩
theorem OpP.all {r : R2} {C : D → D → Bool} {f : D → D → Option D} (h : OpP K r C f) (hc : ∀ a b v, f a b = some v → C a b = true) : OpS K r f := ⟨fun R s1 s2 q k => h.run (hc _ _ _ q) R s1 s2 q k⟩
def cI (a b : D) : Bool := match a, b with | .int _, .int _ => true | _, _ => false
def cS (a b : D) : Bool := match a, b with | .str _, .str _ => true | _, _ => false
def cL (a b : D) : Bool := match a, b with | .list _, .list _ => true | _, _ => false
def cT (a b : D) : Bool := match a, b with | .tuple _, .tuple _ => true | _, _ => false
theorem opI0_p {g : Int → Int → V} {f : D → D → Option D} (hf : ∀ i j v, f (.int i) (.int j) = some v → ∀ F, Rp K F v (g i j)) : OpP K (rI0 g) cI f := ⟨fun {ah H0 F0 F e gg σ H a b v x y Q} c R s1 s2 q k => by
  cases a <;> cases b <;> simp [cI] at c
  exact ⟨_, _, s1.int, s2.int, k F H _ Step.refl R (hf _ _ _ q F)⟩⟩
theorem opI_p {C : Int → Int → Prop} {g : Int → Int → V} {f : D → D → Option D} (hf : ∀ i j v, f (.int i) (.int j) = some v → C i j ∧ ∀ F, Rp K F v (g i j)) : OpP K (rI C g) cI f := ⟨fun {ah H0 F0 F e gg σ H a b v x y Q} c R s1 s2 q k => by
  cases a <;> cases b <;> simp [cI] at c
  obtain ⟨h1, h2⟩ := hf _ _ _ q
  exact ⟨_, _, s1.int, s2.int, h1, k F H _ Step.refl R (h2 F)⟩⟩
end

section
variable {X : Cx}
/-! ### + - * // % ** - -/
abbrev rAddAll (K : PySem.W.Frag) : R2 := fun x y H Q => (rI0 fun i j => .int (i + j)) x y H Q ∨ ((fun x y H Q => ∃ i j, x = .str i ∧ y = .str j ∧ i.length + j.length ≤ sizeLine ∧ Q (.str (i ++ j)) H : R2) x y H Q ∨ (rCat x y H Q ∨ rCatA K x y H Q))
theorem op_addAll : OpR X (binaryOp .Add) (rAddAll X.K) := op_add.or (op_add_str.or (op_cat.or op_catA))
theorem add_s {K : PySem.W.Frag} : OpS K (rAddAll K) fAdd := by
  have hI : OpP K (rI0 fun i j => .int (i + j)) cI fAdd := opI0_p fun i j v h F => by cases h; exact .int _
  have hS : OpP K (fun x y H Q => ∃ i j, x = .str i ∧ y = .str j ∧ i.length + j.length ≤ sizeLine ∧ Q (.str (i ++ j)) H) cS fAdd := ⟨fun {ah H0 F0 F e gg σ H a b v x y Q} c R s1 s2 q k => by
    cases a <;> cases b <;> simp [cS] at c
    rename_i p r
    have q : (if p.length + r.length ≤ 1000000 then some (.str (p ++ r)) else none) = some v := q
    split at q
    · rename_i hl
      cases q
      exact ⟨p, r, s1.str, s2.str, line_le hl, k F H _ Step.refl R (.str _)⟩
    · cases q⟩
  have hL : OpP K rCat cL fAdd := ⟨fun {ah H0 F0 F e gg σ H a b v x y Q} c R s1 s2 q k => by
    cases a <;> cases b <;> simp [cL] at c
    rename_i ds es
    have q : (if ds.length + es.length ≤ 1000000 then some (.list (ds ++ es)) else none) = some v := q
    split at q
    · rename_i hl
      cases q
      obtain ⟨a, xs, rfl, h1, n1, r1⟩ := s1.list R.gd
      obtain ⟨b, ys, rfl, h2, n2, r2⟩ := s2.list R.gd
      refine ⟨a, b, xs, ys, rfl, rfl, h1, h2, by rw [r1.len, r2.len]; exact line_le hl, fun p hp => ?_⟩
      obtain ⟨R2, st⟩ := R.froz (o := .lst (xs ++ ys)) hp
      exact k _ _ _ st R2 (.lst upd_same (RpAll.mono st.ext _ _ (r1.append r2)))
    · cases q⟩
  have hT : OpP K (rCatA K) cT fAdd := ⟨fun {ah H0 F0 F e gg σ H a b v x y Q} c R s1 s2 q k => by
    cases a <;> cases b <;> simp [cT] at c
    rename_i ds es
    have q : (if ds.length + es.length ≤ 1000000 then some (.tuple (ds ++ es)) else none) = some v := q
    split at q
    · rename_i hl
      cases q
      obtain ⟨a, xs, rfl, h1, r1⟩ := s1.tup
      obtain ⟨b, ys, rfl, h2, r2⟩ := s2.tup
      refine ⟨a, b, xs, ys, rfl, rfl, ex_t R.gd.sub h1, ex_t R.gd.sub h2, by rw [r1.len, r2.len]; exact line_le hl, fun z => ?_, fun z z2 => ?_, fun _ _ p hp => ?_⟩
      · subst z
        have e0 : ds = [] := by have := r1.len; simpa using this.symm
        subst e0
        exact k F H _ Step.refl R (.tup h2 r2)
      · subst z2
        have e0 : es = [] := by have := r2.len; simpa using this.symm
        subst e0
        rw [List.append_nil] at k
        exact k F H _ Step.refl R (.tup h1 r1)
      · obtain ⟨R2, st⟩ := R.froz (o := .tup (xs ++ ys)) hp
        exact k _ _ _ st R2 (.tup (SqT.of upd_same) (RpAll.mono st.ext _ _ (r1.append r2)))
    · cases q⟩
  refine (hI.or (hS.or (hL.or hT))).all fun a b v h => ?_
  cases a <;> cases b <;> first | rfl | cases h
theorem sub_s {K : PySem.W.Frag} : OpS K (rI0 fun i j => .int (i - j)) fSub := by
  have h : OpP K (rI0 fun i j => .int (i - j)) cI fSub := opI0_p fun i j v h F => by cases h; exact .int _
  exact h.all fun a b v h => by cases a <;> cases b <;> first | rfl | cases h
def CMulA (i j : Int) : Prop := mulOk i j = true
theorem op_mulA : OpR X (binaryOp .Mult) (rI CMulA fun i j => .int (i * j)) := opI fun i j _ _ _ _ _ hc q => by
  have hc : mulOk i j = true := hc
  unfold mulOk at hc
  simp only [Bool.or_eq_true, Bool.and_eq_true, decide_eq_true_eq] at hc
  refine mul_int q ?_
  rcases hc with (hc | hc) | hc
  · exact CMul.ok (.inl hc)
  · exact CMul.ok (.inr hc)
  · exact CMulW.ok hc
def rMulS : R2 := fun x y H Q => ∃ z k, x = .str z ∧ y = .int k ∧ 0 ≤ k ∧ k ≤ 1000 ∧ z.length ≤ 1000 ∧ Q (.str (Txt.mul z k)) H
theorem op_mulS : OpR X (binaryOp .Mult) rMulS := by
  intro pins s σ H x y v u Q I rx ry h
  obtain ⟨z, k, rfl, rfl, h0, h1, h2, q⟩ := h
  obtain ⟨t, rfl⟩ := rx
  obtain ⟨t', rfl⟩ := ry
  refine SB.mul ⟨?_, fun hk _ => ?_, fun hk _ => ?_⟩ fun t2 k2 => ⟨.str _, H, I.tok k2, ⟨t2, rfl⟩, q⟩
  · rw [Bool.or_eq_false_iff]
    exact ⟨decide_eq_false (by omega), decide_eq_false (by omega)⟩
  · have hk : 1 ≤ k := by omega
    have e : (1000 : Int) ≤ (2 ^ 63 - 1) / k := (Int.le_ediv_iff_mul_le (by omega)).mpr (by
      have : (1000 : Int) * k ≤ 1000 * 1000 := Int.mul_le_mul_of_nonneg_left h1 (by decide)
      exact Int.le_trans this (by decide))
    omega
  · have e : z.length * k.toNat ≤ 1000 * 1000 := Nat.mul_le_mul h2 (by omega)
    unfold Builtin.Str.tooLong
    exact decide_eq_false (by have : (sizeLine : Nat) = 16777216 := sizeLine_eq; omega)
abbrev rMulAll (K : PySem.W.Frag) : R2 := fun x y H Q => (rI CMulA fun i j => .int (i * j)) x y H Q ∨ (rRep x y H Q ∨ rMulS x y H Q)
theorem op_mulAll : OpR X (binaryOp .Mult) (rMulAll X.K) := op_mulA.or (op_rep.or op_mulS)
def cLI (a b : D) : Bool := match a, b with | .list _, .int _ => true | _, _ => false
def cSI (a b : D) : Bool := match a, b with | .str _, .int _ => true | _, _ => false
theorem rp_rep {K : PySem.W.Frag} {F : Hp} {ds : List D} {xs : List V} (r : RpAll K F ds xs) : ∀ n : Nat, RpAll K F (List.replicate n ds).flatten (List.replicate n xs).flatten
  | 0 => .nil
  | n + 1 => by rw [List.replicate_succ, List.replicate_succ, List.flatten_cons, List.flatten_cons]; exact r.append (rp_rep r n)
theorem mul_s {K : PySem.W.Frag} : OpS K (rMulAll K) fMul := by
  have hI : OpP K (rI CMulA fun i j => .int (i * j)) cI fMul := opI_p fun i j v h => by
    have h : (if mulOk i j then some (.int (i * j)) else none) = some v := h
    split at h
    · rename_i hc; cases h; exact ⟨hc, fun F => .int _⟩
    · cases h
  have hL : OpP K rRep cLI fMul := ⟨fun {ah H0 F0 F e gg σ H a b v x y Q} c R s1 s2 q k => by
    cases a <;> cases b <;> simp [cLI] at c
    rename_i ds n
    have q : (if n ≤ 1000000 ∧ ds.length * n.toNat ≤ 1000000 ∧ -1000000 ≤ n then some (.list (List.replicate n.toNat ds).flatten) else none) = some v := q
    split at q
    · rename_i hl
      cases q
      obtain ⟨a, xs, rfl, h1, n1, r1⟩ := s1.list R.gd
      refine ⟨a, n, xs, rfl, s2.int, h1, by omega, by omega, by rw [r1.len]; exact line_le hl.2.1, fun p hp => ?_⟩
      obtain ⟨R2, st⟩ := R.froz (o := .lst (List.replicate n.toNat xs).flatten) hp
      exact k _ _ _ st R2 (.lst upd_same (RpAll.mono st.ext _ _ (rp_rep r1 _)))
    · cases q⟩
  have hS : OpP K rMulS cSI fMul := ⟨fun {ah H0 F0 F e gg σ H a b v x y Q} c R s1 s2 q k => by
    cases a <;> cases b <;> simp [cSI] at c
    rename_i z n
    have q : (if 0 ≤ n ∧ n ≤ 1000 ∧ z.length ≤ 1000 then some (.str (Txt.mul z n)) else none) = some v := q
    split at q
    · rename_i hl
      cases q
      exact ⟨z, n, s1.str, s2.int, hl.1, hl.2.1, hl.2.2, k F H _ Step.refl R (.str _)⟩
    · cases q⟩
  refine (hI.or (hL.or hS)).all fun a b v h => ?_
  cases a <;> cases b <;> first | rfl | cases h
theorem div_s {K : PySem.W.Frag} : OpS K (rI CDivW fun i j => .int (i / j)) fDiv := by
  have h : OpP K (rI CDivW fun i j => .int (i / j)) cI fDiv := opI_p fun i j v h => by
    have h : (if 0 < j ∧ j.natAbs.log2 < 9000 then some (.int (i / j)) else none) = some v := h
    split at h
    · rename_i hc; cases h; exact ⟨hc, fun F => .int _⟩
    · cases h
  exact h.all fun a b v h => by cases a <;> cases b <;> first | rfl | cases h
theorem mod_s {K : PySem.W.Frag} : OpS K (rI (fun _ j => j ≠ 0) fun i j => .int (i.fmod j)) fMod := by
  have h : OpP K (rI (fun _ j => j ≠ 0) fun i j => .int (i.fmod j)) cI fMod := opI_p fun i j v h => by
    have h : (if 0 < j then some (.int (i % j)) else if j < 0 then some (.int (i.fmod j)) else none) = some v := h
    split at h
    · rename_i hc; cases h; exact ⟨by omega, fun F => by rw [Int.fmod_eq_emod_of_nonneg _ (by omega)]; exact .int _⟩
    · split at h
      · cases h; exact ⟨by omega, fun F => .int _⟩
      · cases h
  exact h.all fun a b v h => by cases a <;> cases b <;> first | rfl | cases h
theorem pow_s {K : PySem.W.Frag} : OpS K (rI CPow fun i j => .int (i ^ j.toNat)) fPow := by
  have h : OpP K (rI CPow fun i j => .int (i ^ j.toNat)) cI fPow := opI_p fun i j v h => by
    have h : (if 0 ≤ j ∧ j ≤ 1000000 ∧ i.natAbs < 2 ^ 64 then some (.int (i ^ j.toNat)) else none) = some v := h
    split at h
    · rename_i hc; cases h; exact ⟨hc, fun F => .int _⟩
    · cases h
  exact h.all fun a b v h => by cases a <;> cases b <;> first | rfl | cases h
theorem neg_s {K : PySem.W.Frag} : UnS K (rU fun i => .int (-i)) fNeg := ⟨fun {ah H0 F0 F e g σ H a v x Q} R s q k => by
  cases a with
  | int i => cases q; exact ⟨i, s.int, k F H _ Step.refl R (.int _)⟩
  | _ => cases q⟩
/-! ### comparisons -/
theorem lt_s {K : PySem.W.Frag} : OpS K (rI0 fun i j => .bl (decide (i < j))) fLt := by
  have h : OpP K (rI0 fun i j => .bl (decide (i < j))) cI fLt := opI0_p fun i j v h F => by cases h; exact .bl _
  exact h.all fun a b v h => by cases a <;> cases b <;> first | rfl | cases h
theorem gt_s {K : PySem.W.Frag} : OpS K (rI0 fun i j => .bl (decide (j < i))) fGt := by
  have h : OpP K (rI0 fun i j => .bl (decide (j < i))) cI fGt := opI0_p fun i j v h F => by cases h; exact .bl _
  exact h.all fun a b v h => by cases a <;> cases b <;> first | rfl | cases h
theorem ge_s {K : PySem.W.Frag} : OpS K (rI0 fun i j => .bl (decide (j ≤ i))) fGe := by
  have h : OpP K (rI0 fun i j => .bl (decide (j ≤ i))) cI fGe := opI0_p fun i j v h F => by cases h; exact .bl _
  exact h.all fun a b v h => by cases a <;> cases b <;> first | rfl | cases h
abbrev rLeAll : R2 := fun x y H Q => (rI0 fun i j => .bl (decide (i ≤ j))) x y H Q ∨ (fun x y H Q => ∃ i j, x = .str i ∧ y = .str j ∧ Q (.bl (!decide (j.cps.toList < i.cps.toList))) H : R2) x y H Q
theorem op_leAll : OpR X (compareOp .LtE) rLeAll := op_le.or op_le_str
theorem le_s {K : PySem.W.Frag} : OpS K rLeAll fLe := by
  have hI : OpP K (rI0 fun i j => .bl (decide (i ≤ j))) cI fLe := opI0_p fun i j v h F => by cases h; exact .bl _
  have hS : OpP K (fun x y H Q => ∃ i j, x = .str i ∧ y = .str j ∧ Q (.bl (!decide (j.cps.toList < i.cps.toList))) H) cS fLe := ⟨fun {ah H0 F0 F e gg σ H a b v x y Q} c R s1 s2 q k => by
    cases a <;> cases b <;> simp [cS] at c
    cases q
    exact ⟨_, _, s1.str, s2.str, k F H _ Step.refl R (.bl _)⟩⟩
  exact (hI.or hS).all fun a b v h => by cases a <;> cases b <;> first | rfl | cases h
abbrev rEqAll (K : PySem.W.Frag) : R2 := fun x y H Q => rEq x y H Q ∨ rEqD K x y H Q
theorem op_eqAll (hu : X.A.units + 64 < cLine) : OpR X (compareOp .Eq) (rEqAll X.K) := op_eq.or (op_eqD hu)
theorem eq_s {K : PySem.W.Frag} : OpS K (rEqAll K) fEq := ⟨fun {ah H0 F0 F e g σ H a b v x y Q} R s1 s2 q k => by
  by_cases z : cS a b = true
  · cases a <;> cases b <;> simp [cS] at z
    cases q
    rw [s1.str, s2.str]
    refine .inl ⟨rfl, ?_⟩
    have e : ∀ p r : Str, decide (V.str p = V.str r) = decide (p = r) := fun p r => by by_cases h : p = r <;> simp [h]
    rw [e]
    exact k F H _ Step.refl R (.bl _)
  · have q : (if SeqAt.shaped a && SeqAt.shaped b then some (.bool (PyData.eqv a b)) else none) = some v := by
      cases a <;> cases b <;> first | exact q | exact absurd rfl z
    split at q
    · rename_i hc
      rw [Bool.and_eq_true] at hc
      cases q
      exact .inr ⟨a, b, see_dp R (SeqAt.canLay_of_shaped hc.1) s1, see_dp R (SeqAt.canLay_of_shaped hc.2) s2, hc.1, hc.2, k F H _ Step.refl R (.bl _)⟩
    · cases q⟩
abbrev rNeAll (K : PySem.W.Frag) : R2 := fun x y H Q => rNe x y H Q ∨ rNeD K x y H Q
theorem op_neAll (hu : X.A.units + 64 < cLine) : OpR X (compareOp .NotEq) (rNeAll X.K) := op_ne.or (op_neD hu)
theorem ne_s {K : PySem.W.Frag} : OpS K (rNeAll K) fNe := ⟨fun {ah H0 F0 F e g σ H a b v x y Q} R s1 s2 q k => by
  by_cases z : cS a b = true
  · cases a <;> cases b <;> simp [cS] at z
    cases q
    rw [s1.str, s2.str]
    refine .inl ⟨rfl, ?_⟩
    have e : ∀ p r : Str, decide (V.str p = V.str r) = decide (p = r) := fun p r => by by_cases h : p = r <;> simp [h]
    rw [e]
    exact k F H _ Step.refl R (.bl _)
  · have q : (if SeqAt.shaped a && SeqAt.shaped b then some (.bool (!PyData.eqv a b)) else none) = some v := by
      cases a <;> cases b <;> first | exact q | exact absurd rfl z
    split at q
    · rename_i hc
      rw [Bool.and_eq_true] at hc
      cases q
      exact .inr ⟨a, b, see_dp R (SeqAt.canLay_of_shaped hc.1) s1, see_dp R (SeqAt.canLay_of_shaped hc.2) s2, hc.1, hc.2, k F H _ Step.refl R (.bl _)⟩
    · cases q⟩
abbrev rIsAll : R2 := fun x y H Q => rIsB x y H Q ∨ (fun x y H Q => y = .non ∧ Q (.bl (decide (x = .non))) H : R2) x y H Q
theorem op_isAll : OpR X (compareOp .Is) rIsAll := op_isBl.or op_isN
theorem see_notNone {K : PySem.W.Frag} {ah : Addr} {F H : Hp} {d : D} {x : V} (s : VSee K ah F H (.dat d) x) (h : d ≠ .none) : x ≠ .non := fun z => by
  subst z
  rcases s with s | ⟨ds, a, xs, e1, e2, h1, h2⟩
  · cases d with
    | none => exact h rfl
    | _ => cases (show Rp K F _ V.non from s)
  · cases e2
theorem is_s {K : PySem.W.Frag} : OpS K rIsAll fIs := ⟨fun {ah H0 F0 F e g σ H a b v x y Q} R s1 s2 q k => by
  cases b with
  | none =>
    refine .inr ⟨s2.non, ?_⟩
    by_cases z : a = .none
    · subst z; cases q; rw [s1.non]; exact k F H _ Step.refl R (.bl true)
    · rw [decide_eq_false (see_notNone s1 z)]
      have q : some (.bool false) = some v := by cases a <;> first | exact q | exact absurd rfl z
      cases q
      exact k F H _ Step.refl R (.bl false)
  | bool b =>
    cases a with
    | bool a => cases q; exact .inl ⟨a, b, s1.bl, s2.bl, k F H _ Step.refl R (.bl _)⟩
    | _ => cases q
  | _ => cases a <;> cases q⟩
abbrev rIsNotAll : R2 := fun x y H Q => rNotB x y H Q ∨ (fun x y H Q => y = .non ∧ Q (.bl (!decide (x = .non))) H : R2) x y H Q
theorem op_isNotAll : OpR X (compareOp .IsNot) rIsNotAll := op_notBl.or op_notN
theorem isNot_s {K : PySem.W.Frag} : OpS K rIsNotAll fIsNot := ⟨fun {ah H0 F0 F e g σ H a b v x y Q} R s1 s2 q k => by
  cases b with
  | none =>
    refine .inr ⟨s2.non, ?_⟩
    by_cases z : a = .none
    · subst z; cases q; rw [s1.non]; exact k F H _ Step.refl R (.bl false)
    · rw [decide_eq_false (see_notNone s1 z)]
      have q : some (.bool true) = some v := by cases a <;> first | exact q | exact absurd rfl z
      cases q
      exact k F H _ Step.refl R (.bl true)
  | bool b =>
    cases a with
    | bool a => cases q; exact .inl ⟨a, b, s1.bl, s2.bl, k F H _ Step.refl R (.bl _)⟩
    | _ => cases q
  | _ => cases a <;> cases q⟩
end
end Sm

/-! Sm7: in, subscripts, slices, built-in functions, methods, what is walked. -/
namespace Sm
open PySem PySem.Spec PyProof.Rows L2

section
variable {K : PySem.W.Frag} {F H : Hp}
theorem rp_flat : ∀ {d : D} {x : V}, flatD d = true → Rp K F d x → flatV x = true
  | .none, _, _, r => by cases r; rfl
  | .bool _, _, _, r => by cases r; rfl
  | .int _, _, _, r => by cases r; rfl
  | .str _, _, _, r => by cases r; rfl
  | .list _, _, h, _ => by cases h
  | .tuple _, _, h, _ => by cases h
  | .dict _, _, h, _ => by cases h
theorem rps_flat : ∀ {ds : List D} {xs : List V}, ds.all flatD = true → RpAll K F ds xs → xs.all flatV = true
  | [], _, _, r => by cases r; rfl
  | d :: ds, _, h, r => by
    rw [List.all_cons, Bool.and_eq_true] at h
    cases r with
    | cons r1 r2 => rw [List.all_cons, rp_flat h.1 r1, rps_flat h.2 r2]; rfl
theorem eqV_eqv {a b : D} {x y : V} (ha : flatD a = true) (hb : flatD b = true) (r1 : Rp K F a x) (r2 : Rp K F b y) : eqV x y = PyData.eqv a b := by
  cases a with
  | list _ => cases ha
  | tuple _ => cases ha
  | dict _ => cases ha
  | none => cases b <;> first | (cases hb; done) | (cases r1; cases r2; rfl)
  | bool i => cases b <;> first | (cases hb; done) | (cases r1; cases r2; rfl)
  | int i => cases b <;> first | (cases hb; done) | (cases r1; cases r2; rfl)
  | str i => cases b <;> first | (cases hb; done) | (cases r1; cases r2; rfl)
theorem inV_any {a : D} {x : V} (ha : flatD a = true) (r1 : Rp K F a x) : ∀ {ds : List D} {xs : List V}, ds.all flatD = true → RpAll K F ds xs → inV x xs = ds.any fun z => PyData.eqv z a
  | [], _, _, r => by cases r; rfl
  | d :: ds, _, h, r => by
    rw [List.all_cons, Bool.and_eq_true] at h
    cases r with
    | cons r2 r3 =>
      have ih := inV_any ha r1 h.2 r3
      unfold inV at ih ⊢
      rw [List.any_cons, List.any_cons, eqV_eqv h.1 ha r2 r1, ih]
theorem see_rp {ah : Addr} {d : D} {x : V} (h : ∀ ds, d ≠ .list ds) (s : VSee K ah F H (.dat d) x) : Rp K F d x := by
  rcases s with s | ⟨ds, a, xs, e1, e2, h1, h2⟩
  · exact s
  · cases e1; exact absurd rfl (h ds)
theorem flat_not_list {d : D} (h : flatD d = true) : ∀ ds, d ≠ .list ds := fun ds z => by subst z; cases h
theorem rp_atI {ds : List D} {xs : List V} (r : RpAll K F ds xs) {i : Int} {d : D} (h : atI ds i = some d) : ∃ x, atI xs i = some x ∧ Rp K F d x := by
  unfold atI at h ⊢
  rw [r.len]
  cases q : ixN ds.length i with
  | none => rw [q] at h; cases h
  | some j => rw [q] at h; exact r.get h
theorem rp_cut {ds : List D} {xs : List V} (r : RpAll K F ds xs) (lo hi : Option Int) : RpAll K F (cutL ds lo hi) (cutV xs lo hi) := by
  unfold cutL cutV
  rw [r.len]
  exact (r.drop _).take _
end

section
variable {X : Cx} {E : XK}
/-! ### in -/
abbrev rInAll (K : PySem.W.Frag) : R2 := fun x y H Q => rIn K false x y H Q ∨ (rInD K x y H Q ∨ (fun x y H Q => ∃ i j, x = .str i ∧ y = .str j ∧ Q (.bl (!(Builtin.Str.occurrences j i 0 j.length 1).isEmpty)) H : R2) x y H Q)
theorem op_inAll (hu : X.A.units + 65 < cLine) : OpR X (compareOp .In) (rInAll X.K) := op_in_seq.or ((op_inD hu).or op_in_str)
abbrev rNotInAll (K : PySem.W.Frag) : R2 := fun x y H Q => rIn K true x y H Q ∨ (rNotInD K x y H Q ∨ (fun x y H Q => ∃ i j, x = .str i ∧ y = .str j ∧ Q (.bl (!(!(Builtin.Str.occurrences j i 0 j.length 1).isEmpty))) H : R2) x y H Q)
theorem op_notInAll (hu : X.A.units + 65 < cLine) : OpR X (compareOp .NotIn) (rNotInAll X.K) := op_notIn_seq.or ((op_notInD hu).or op_notin_str)
theorem in_s {K : PySem.W.Frag} : OpS K (rInAll K) fIn := ⟨fun {ah H0 F0 F e g σ H a b v x y Q} R s1 s2 q k => by
  cases b with
  | list ds =>
    have q : (if flatD a && ds.all flatD then some (.bool (ds.any fun z => PyData.eqv z a)) else if SeqAt.shaped a && SeqAt.shaped (.list ds) then some (.bool (ds.any fun z => PyData.eqv z a)) else none) = some v := by cases a <;> exact q
    split at q
    · rename_i hc
      rw [Bool.and_eq_true] at hc
      cases q
      obtain ⟨p, ys, rfl, h1, n1, r1⟩ := s2.list R.gd
      have r0 := see_rp (flat_not_list hc.1) s1
      refine .inl ⟨p, ys, rfl, .inl (SqL.of h1), rp_flat hc.1 r0, rps_flat hc.2 r1, ?_⟩
      show Q (.bl (inV x ys)) H
      rw [inV_any hc.1 r0 hc.2 r1]
      exact k F H _ Step.refl R (.bl _)
    · split at q
      · rename_i hc
        rw [Bool.and_eq_true] at hc
        cases q
        exact .inr (.inl ⟨a, ds, see_dp R (SeqAt.canLay_of_shaped hc.1) s1, see_dp R (SeqAt.canLay_of_shaped hc.2) s2, hc.1, hc.2, k F H _ Step.refl R (.bl _)⟩)
      · cases q
  | tuple ds =>
    have q : (if flatD a && ds.all flatD then some (.bool (ds.any fun z => PyData.eqv z a)) else none) = some v := by cases a <;> exact q
    split at q
    · rename_i hc
      rw [Bool.and_eq_true] at hc
      cases q
      obtain ⟨p, ys, rfl, h1, r1⟩ := s2.tup
      have r0 := see_rp (flat_not_list hc.1) s1
      refine .inl ⟨p, ys, rfl, .inr (ex_t R.gd.sub h1), rp_flat hc.1 r0, rps_flat hc.2 r1, ?_⟩
      show Q (.bl (inV x ys)) H
      rw [inV_any hc.1 r0 hc.2 r1]
      exact k F H _ Step.refl R (.bl _)
    · cases q
  | str y =>
    cases a with
    | str z => cases q; exact .inr (.inr ⟨z, y, s1.str, s2.str, k F H _ Step.refl R (.bl _)⟩)
    | _ => cases q
  | _ => cases a <;> cases q⟩
theorem notIn_s {K : PySem.W.Frag} : OpS K (rNotInAll K) fNotIn := ⟨fun {ah H0 F0 F e g σ H a b v x y Q} R s1 s2 q k => by
  cases b with
  | list ds =>
    have q : (if flatD a && ds.all flatD then some (.bool (!ds.any fun z => PyData.eqv z a)) else if SeqAt.shaped a && SeqAt.shaped (.list ds) then some (.bool (!ds.any fun z => PyData.eqv z a)) else none) = some v := by cases a <;> exact q
    split at q
    · rename_i hc
      rw [Bool.and_eq_true] at hc
      cases q
      obtain ⟨p, ys, rfl, h1, n1, r1⟩ := s2.list R.gd
      have r0 := see_rp (flat_not_list hc.1) s1
      refine .inl ⟨p, ys, rfl, .inl (SqL.of h1), rp_flat hc.1 r0, rps_flat hc.2 r1, ?_⟩
      show Q (.bl (!inV x ys)) H
      rw [inV_any hc.1 r0 hc.2 r1]
      exact k F H _ Step.refl R (.bl _)
    · split at q
      · rename_i hc
        rw [Bool.and_eq_true] at hc
        cases q
        exact .inr (.inl ⟨a, ds, see_dp R (SeqAt.canLay_of_shaped hc.1) s1, see_dp R (SeqAt.canLay_of_shaped hc.2) s2, hc.1, hc.2, k F H _ Step.refl R (.bl _)⟩)
      · cases q
  | tuple ds =>
    have q : (if flatD a && ds.all flatD then some (.bool (!ds.any fun z => PyData.eqv z a)) else none) = some v := by cases a <;> exact q
    split at q
    · rename_i hc
      rw [Bool.and_eq_true] at hc
      cases q
      obtain ⟨p, ys, rfl, h1, r1⟩ := s2.tup
      have r0 := see_rp (flat_not_list hc.1) s1
      refine .inl ⟨p, ys, rfl, .inr (ex_t R.gd.sub h1), rp_flat hc.1 r0, rps_flat hc.2 r1, ?_⟩
      show Q (.bl (!inV x ys)) H
      rw [inV_any hc.1 r0 hc.2 r1]
      exact k F H _ Step.refl R (.bl _)
    · cases q
  | str y =>
    cases a with
    | str z => cases q; exact .inr (.inr ⟨z, y, s1.str, s2.str, k F H _ Step.refl R (.bl _)⟩)
    | _ => cases q
  | _ => cases a <;> cases q⟩

/-! ### subscripts, slices -/
theorem ix_s {K : PySem.W.Frag} : OpS K (rIx K) fIx := ⟨fun {ah H0 F0 F e g σ H a b v x y Q} R s1 s2 q k => by
  cases b with
  | int i =>
    cases a with
    | list ds =>
      have q : atI ds i = some v := q
      obtain ⟨p, xs, rfl, h1, n1, r1⟩ := s1.list R.gd
      obtain ⟨z, hz, rz⟩ := rp_atI r1 q
      exact .inl ⟨p, xs, i, z, rfl, s2.int, SqL.of h1, hz, k F H _ Step.refl R rz⟩
    | tuple ds =>
      have q : atI ds i = some v := q
      obtain ⟨p, xs, rfl, h1, r1⟩ := s1.tup
      obtain ⟨z, hz, rz⟩ := rp_atI r1 q
      exact .inr (.inl ⟨p, xs, i, z, rfl, s2.int, ex_t R.gd.sub h1, hz, k F H _ Step.refl R rz⟩)
    | str z =>
      have q : (if z.length ≤ 1000000 then (atI z.cps.toList i).map fun c => .str ⟨#[c]⟩ else none) = some v := q
      split at q
      · rename_i hl
        obtain ⟨c, hc, e⟩ := Option.map_eq_some_iff.mp q
        subst e
        exact .inr (.inr ⟨z, i, c, s1.str, s2.int, line_le hl, hc, k F H _ Step.refl R (.str _)⟩)
      · cases q
    | _ => cases q
  | _ => cases a <;> cases q⟩
theorem eIx {a b : Expr} {pos : Pos} {ma mb : ME} (ha : simP X E a ma) (hb : simP X E b mb) (hs : PlainIx b) : simE X E (.Subscript a b pos) (mOp2 fIx ma mb) := PE.imp (pe_ix ix_seq ha hb hs) (tOpS ix_s)
/-- a part of a slice -/
abbrev MO := SE → Hand → Res (Option Int)
def PostQ (K : PySem.W.Frag) (mg : Str → Option Value) (E : XK) (ah : Addr) (H0 F0 F : Hp) (e : SE) (σ : L2.St) (H : Hp) (Q : Option Int → Hp → Prop) : Res (Option Int) → Prop
  | .ok o g' => ∀ F' H', Step ah F F' H H' → Rel K ah H0 F0 F' e g' σ H' → Q o H'
  | .err ex g' => PostX K mg E ah H0 F0 ex g'
  | .stuck => False
def trQ (K : PySem.W.Frag) (mg : Str → Option Value) (E : XK) (m : MO) : TO := fun σ H Q => ∃ ah H0 F0 F e g, Rel K ah H0 F0 F e g σ H ∧ PostQ K mg E ah H0 F0 F e σ H Q (m e g)
abbrev simQ (X : Cx) (E : XK) (e : Option Expr) (m : MO) : Prop := PO X e (trQ X.K X.mg E m)
theorem PO.imp {e : Option Expr} {t t' : TO} (h : PO X e t) (i : ∀ σ H Q, t' σ H Q → t σ H Q) : PO X e t' := ⟨fun pins s σ H Q I q => h.run pins s σ H Q I (i _ _ _ q)⟩
theorem postQ_step {K : PySem.W.Frag} {mg : Str → Option Value} {ah : Addr} {H0 F0 F F' H H' : Hp} {e : SE} {σ : L2.St} {Q : Option Int → Hp → Prop} {r : Res (Option Int)} (s : Step ah F F' H H') (p : PostQ K mg E ah H0 F0 F e σ H Q r) : PostQ K mg E ah H0 F0 F' e σ H' Q r := by
  cases r with
  | ok v g => exact fun F2 H2 st R => p F2 H2 (s.trans st) R
  | err ex g => exact p
  | stuck => exact p
theorem contQ {K : PySem.W.Frag} {mg : Str → Option Value} {ah : Addr} {H0 F0 : Hp} {e : SE} {σ : L2.St} {Q : Option Int → Hp → Prop} : Cont K mg E ah H0 F0 (fun F H r => PostQ K mg E ah H0 F0 F e σ H Q r) := ⟨fun p => p, fun p => p, postQ_step⟩
theorem bindQ {K : PySem.W.Frag} {mg : Str → Option Value} {ah : Addr} {H0 F0 F H : Hp} {e : SE} {σ : L2.St} {γ : Type} [Out γ] {W : Hp → Hp → γ → Prop} (c : Cont K mg E ah H0 F0 W) {r : Res (Option Int)} {f : Option Int → Hand → γ} {Q : Option Int → Hp → Prop} (p : W F H (r.bnd f))
    (k : ∀ {o g' F' H'}, Step ah F F' H H' → Rel K ah H0 F0 F' e g' σ H' → W F' H' (f o g') → Q o H') : PostQ K mg E ah H0 F0 F e σ H Q r := by
  cases r with
  | ok v g => exact fun F2 H2 st R => k st R (c.step st p)
  | err ex g => exact c.err p
  | stuck => exact c.stuck p
def mNoPart : MO := fun _ g => .ok none g
def mPart (m : ME) : MO := fun e g => (m e g).dat fun d g => match d with
  | .int i => .ok (some i) g
  | _ => .stuck
theorem qNone : simQ X E none mNoPart := PO.imp po_none fun σ H Q p => by
  obtain ⟨ah, H0, F0, F, e, g, R, p⟩ := p
  exact p F H Step.refl R
theorem qSome {e : Expr} {m : ME} (h : simP X E e m) : simQ X E (some e) (mPart m) := PO.imp (po_some h) fun σ H Q p => by
  obtain ⟨ah, H0, F0, F, e, g, R, p⟩ := p
  refine ⟨ah, H0, F0, F, e, g, R, bindPD contQ p fun {d} {g'} {F'} {H'} {x} st R s p => ?_⟩
  cases d with
  | int i => exact ⟨i, s.int, p _ _ Step.refl R⟩
  | _ => exact p.elim
def fSl : D → Option Int → Option Int → Option D
  | .list ds, lo, hi => some (.list (cutL ds lo hi))
  | .tuple ds, lo, hi => some (.tuple (cutL ds lo hi))
  | .str z, lo, hi => if z.length ≤ 1000000 then some (.str (cutS z lo hi)) else none
  | _, _, _ => none
def mSl (m : ME) (lo hi : MO) : ME := fun e g => (m e g).dat fun d g => (lo e g).bnd fun l g => (hi e g).bnd fun h g => Res.ofO (fSl d l h) g
abbrev rSlAll (K : PySem.W.Frag) : V → Option Int → Option Int → Hp → VK → Prop := fun x lo hi H Q => rSlL K x lo hi H Q ∨ (rSlA K x lo hi H Q ∨ rSlS x lo hi H Q)
theorem sl_all : SlR X (rSlAll X.K) := sl_list.or (sl_tupA.or sl_str)
theorem cut_whole {α : Type} {xs : List α} {lo hi : Option Int} (h : HT.sIx xs.length 0 lo = 0 ∧ HT.sIx xs.length xs.length hi = xs.length) : cutL xs lo hi = xs := by
  unfold cutL
  rw [h.1, h.2]
  simp
theorem eSl {a : Expr} {lo hi : Option Expr} {pos p2 : Pos} {m : ME} {ml mh : MO} (ha : simP X E a m) (hl : simQ X E lo ml) (hh : simQ X E hi mh) : simE X E (.Subscript a (.Slice lo hi none p2) pos) (mSl m ml mh) := PE.imp (pe_slice sl_all ha hl hh) fun σ H Q p => by
  obtain ⟨ah, H0, F0, F, e, g, R, p⟩ := p
  refine ⟨ah, H0, F0, F, e, g, R, bindPD contE p fun {d} {g1} {F1} {H1} {x} st R s p => ?_⟩
  refine ⟨ah, H0, F0, _, e, _, R, bindQ contE p fun {l} {g2} {F2} {H2} st2 R2 p2 => ?_⟩
  refine ⟨ah, H0, F0, _, e, _, R2, bindQ contE p2 fun {h} {g3} {F3} {H3} st3 R3 p3 => ?_⟩
  obtain ⟨v, hv, q⟩ := ofO_ok p3
  have s := s.step (st2.trans st3)
  cases d with
  | list ds =>
    cases hv
    obtain ⟨p, xs, rfl, h1, n1, r1⟩ := s.list R3.gd
    refine .inl ⟨p, xs, rfl, SqL.of h1, fun a ha => ?_⟩
    obtain ⟨R4, st4⟩ := R3.froz (o := .lst (cutV xs l h)) ha
    exact q _ _ _ st4 R4 (.lst upd_same (RpAll.mono st4.ext _ _ (rp_cut r1 l h)))
  | tuple ds =>
    cases hv
    obtain ⟨p, xs, rfl, h1, r1⟩ := s.tup
    refine .inr (.inl ⟨p, xs, rfl, ex_t R3.gd.sub h1, fun w => ?_, fun w a ha => ?_⟩)
    · rw [r1.len] at w
      have q := q F3 H3 (.ref p) Step.refl R3
      rw [cut_whole w] at q
      exact q (.tup h1 r1)
    · obtain ⟨R4, st4⟩ := R3.froz (o := .tup (cutV xs l h)) ha
      exact q _ _ _ st4 R4 (.tup (SqT.of upd_same) (RpAll.mono st4.ext _ _ (rp_cut r1 l h)))
  | str z =>
    have hv : (if z.length ≤ 1000000 then some (.str (cutS z l h)) else none) = some v := hv
    split at hv
    · rename_i hl
      cases hv
      exact .inr (.inr ⟨z, s.str, line_le hl, q F3 H3 _ Step.refl R3 (.str _)⟩)
    · cases hv
  | _ => cases hv

/-! ### len, all, any, tuple, list, abs, int, min -/
def fLen : List D → Option D
  | [.list ds] => some (.int ds.length)
  | [.tuple ds] => some (.int ds.length)
  | [.str z] => if z.length ≤ 1000000 then some (.int z.length) else none
  | _ => none
theorem sees1 {K : PySem.W.Frag} {ah : Addr} {F H : Hp} {d : D} {xs : List V} (s : VSees K ah F H [d] xs) : ∃ x, xs = [x] ∧ VSee K ah F H (.dat d) x := by
  cases s with
  | cons r t => cases t; exact ⟨_, rfl, r⟩
theorem sees2 {K : PySem.W.Frag} {ah : Addr} {F H : Hp} {d d' : D} {xs : List V} (s : VSees K ah F H [d, d'] xs) : ∃ x y, xs = [x, y] ∧ VSee K ah F H (.dat d) x ∧ VSee K ah F H (.dat d') y := by
  cases s with
  | cons r t => cases t with
    | cons r' t => cases t; exact ⟨_, _, rfl, r, r'⟩
theorem len_s {K : PySem.W.Frag} : CallS K (fun xs H Q => ∃ x n, xs = [x] ∧ LenV K x H n ∧ Q (.int n) H) fLen := ⟨fun {ah H0 F0 F e g σ H ds v xs Q} R s q k => by
  match ds, q with
  | [.list ds], q =>
    cases q
    obtain ⟨x, rfl, t⟩ := sees1 s
    obtain ⟨p, xs, rfl, h1, n1, r1⟩ := t.list R.gd
    exact ⟨_, ds.length, rfl, .inl ⟨xs, SqL.of h1, r1.len.symm⟩, k F H _ Step.refl R (.int _)⟩
  | [.tuple ds], q =>
    cases q
    obtain ⟨x, rfl, t⟩ := sees1 s
    obtain ⟨p, xs, rfl, h1, r1⟩ := t.tup
    exact ⟨_, ds.length, rfl, .inr ⟨xs, ex_t R.gd.sub h1, r1.len.symm⟩, k F H _ Step.refl R (.int _)⟩
  | [.str z], q =>
    have q : (if z.length ≤ 1000000 then some (.int z.length) else none) = some v := q
    split at q
    · rename_i hl
      cases q
      obtain ⟨x, rfl, t⟩ := sees1 s
      cases t.str
      exact ⟨_, z.length, rfl, ⟨line_le hl, rfl⟩, k F H _ Step.refl R (.int _)⟩
    · cases q
  | [], q => cases q
  | [.none], q => cases q
  | [.bool _], q => cases q
  | [.int _], q => cases q
  | [.dict _], q => cases q
  | a :: b :: r, q => simp [fLen] at q⟩
def bools : List D → Option (List Bool)
  | [] => some []
  | .bool b :: ds => (bools ds).map (b :: ·)
  | _ :: _ => none
theorem bools_rp {K : PySem.W.Frag} {F : Hp} : ∀ {ds : List D} {xs : List V} {bs : List Bool}, RpAll K F ds xs → bools ds = some bs → xs = bs.map V.bl
  | [], _, _, r, h => by cases r; cases h; rfl
  | d :: ds, _, bs, r, h => by
    cases r with
    | cons r1 r2 =>
      cases d with
      | bool b =>
        have h : (bools ds).map (b :: ·) = some bs := h
        obtain ⟨bs', h1, rfl⟩ := Option.map_eq_some_iff.mp h
        cases r1
        rw [bools_rp r2 h1]; rfl
      | _ => cases h
def fAll : List D → Option D
  | [.list ds] => (bools ds).map fun bs => .bool (bs.all id)
  | _ => none
def fAny : List D → Option D
  | [.list ds] => (bools ds).map fun bs => .bool (bs.any id)
  | _ => none
theorem all_s {K : PySem.W.Frag} : CallS K (rAll K) fAll := ⟨fun {ah H0 F0 F e g σ H ds v xs Q} R s q k => by
  match ds, q with
  | [.list ds], q =>
    obtain ⟨bs, hb, e⟩ := Option.map_eq_some_iff.mp (show (bools ds).map _ = some v from q)
    subst e
    obtain ⟨x, rfl, t⟩ := sees1 s
    obtain ⟨p, xs, rfl, h1, n1, r1⟩ := t.list R.gd
    have e := bools_rp r1 hb
    subst e
    exact ⟨p, bs, rfl, SqL.of h1, k F H _ Step.refl R (.bl _)⟩
  | [], q => cases q
  | [.none], q => cases q
  | [.bool _], q => cases q
  | [.int _], q => cases q
  | [.str _], q => cases q
  | [.tuple _], q => cases q
  | [.dict _], q => cases q
  | a :: b :: r, q => simp [fAll] at q⟩
theorem any_s {K : PySem.W.Frag} : CallS K (rAny K) fAny := ⟨fun {ah H0 F0 F e g σ H ds v xs Q} R s q k => by
  match ds, q with
  | [.list ds], q =>
    obtain ⟨bs, hb, e⟩ := Option.map_eq_some_iff.mp (show (bools ds).map _ = some v from q)
    subst e
    obtain ⟨x, rfl, t⟩ := sees1 s
    obtain ⟨p, xs, rfl, h1, n1, r1⟩ := t.list R.gd
    have e := bools_rp r1 hb
    subst e
    exact ⟨p, bs, rfl, SqL.of h1, k F H _ Step.refl R (.bl _)⟩
  | [], q => cases q
  | [.none], q => cases q
  | [.bool _], q => cases q
  | [.int _], q => cases q
  | [.str _], q => cases q
  | [.tuple _], q => cases q
  | [.dict _], q => cases q
  | a :: b :: r, q => simp [fAny] at q⟩
def fTuple : List D → Option D
  | [.list ds] => some (.tuple ds)
  | [.tuple ds] => some (.tuple ds)
  | _ => none
theorem tuple_s {K : PySem.W.Frag} : CallS K (fun xs H Q => ∃ p ys, xs = [.ref p] ∧ ((SqL K H p ys ∧ ∀ l, H l = none → Q (.ref l) (upd H l (.tup ys))) ∨ (SqT K H p ys ∧ Q (.ref p) H))) fTuple := ⟨fun {ah H0 F0 F e g σ H ds v xs Q} R s q k => by
  match ds, q with
  | [.list ds], q =>
    cases q
    obtain ⟨x, rfl, t⟩ := sees1 s
    obtain ⟨p, xs, rfl, h1, n1, r1⟩ := t.list R.gd
    refine ⟨p, xs, rfl, .inl ⟨SqL.of h1, fun a ha => ?_⟩⟩
    obtain ⟨R2, st⟩ := R.froz (o := .tup xs) ha
    exact k _ _ _ st R2 (.tup (SqT.of upd_same) (RpAll.mono st.ext _ _ r1))
  | [.tuple ds], q =>
    cases q
    obtain ⟨x, rfl, t⟩ := sees1 s
    obtain ⟨p, xs, rfl, h1, r1⟩ := t.tup
    exact ⟨p, xs, rfl, .inr ⟨ex_t R.gd.sub h1, k F H _ Step.refl R (.tup h1 r1)⟩⟩
  | [], q => cases q
  | [.none], q => cases q
  | [.bool _], q => cases q
  | [.int _], q => cases q
  | [.str _], q => cases q
  | [.dict _], q => cases q
  | a :: b :: r, q => simp [fTuple] at q⟩
def fList : List D → Option (List D)
  | [.list ds] => some ds
  | [.tuple ds] => some ds
  | _ => none
theorem list_s {K : PySem.W.Frag} : CallNS K (fun xs H Q => ∃ p ys, xs = [.ref p] ∧ (SqL K H p ys ∨ SqT K H p ys) ∧ ∀ l, H l = none → Q (.ref l) (upd H l (.lst ys))) fList := ⟨fun {ah H0 F0 F e g σ H ds vs xs Q} R s q k => by
  match ds, q with
  | [.list ds], q =>
    cases q
    obtain ⟨x, rfl, t⟩ := sees1 s
    obtain ⟨p, xs, rfl, h1, n1, r1⟩ := t.list R.gd
    refine ⟨p, xs, rfl, .inl (SqL.of h1), fun a ha => ?_⟩
    obtain ⟨R2, st⟩ := R.waste (o := .lst xs) ha
    exact k _ _ a xs st R2 upd_same r1 (R.gd.freshF ha) ha
  | [.tuple ds], q =>
    cases q
    obtain ⟨x, rfl, t⟩ := sees1 s
    obtain ⟨p, xs, rfl, h1, r1⟩ := t.tup
    refine ⟨p, xs, rfl, .inr (ex_t R.gd.sub h1), fun a ha => ?_⟩
    obtain ⟨R2, st⟩ := R.waste (o := .lst xs) ha
    exact k _ _ a xs st R2 upd_same r1 (R.gd.freshF ha) ha
  | [], q => cases q
  | [.none], q => cases q
  | [.bool _], q => cases q
  | [.int _], q => cases q
  | [.str _], q => cases q
  | [.dict _], q => cases q
  | a :: b :: r, q => simp [fList] at q⟩
def fAbs : List D → Option D
  | [.int i] => some (.int (if i < 0 then -i else i))
  | _ => none
theorem abs_s {K : PySem.W.Frag} : CallS K (fun xs H Q => ∃ i, xs = [.int i] ∧ Q (.int (if i < 0 then -i else i)) H) fAbs := ⟨fun {ah H0 F0 F e g σ H ds v xs Q} R s q k => by
  unfold fAbs at q
  split at q
  · cases q
    obtain ⟨x, rfl, t⟩ := sees1 s
    exact ⟨_, by rw [t.int], k F H _ Step.refl R (.int _)⟩
  · cases q⟩
def fInt : List D → Option D
  | [.int i] => some (.int i)
  | _ => none
theorem int_s {K : PySem.W.Frag} : CallS K (fun xs H Q => (∃ i, xs = [.int i] ∧ Q (.int i) H) ∨ ∃ k, xs = [.bl k] ∧ Q (.int (if k then 1 else 0)) H) fInt := ⟨fun {ah H0 F0 F e g σ H ds v xs Q} R s q k => by
  unfold fInt at q
  split at q
  · cases q
    obtain ⟨x, rfl, t⟩ := sees1 s
    exact .inl ⟨_, by rw [t.int], k F H _ Step.refl R (.int _)⟩
  · cases q⟩
def fMin2 : List D → Option D
  | [.int i, .int j] => some (.int (if j < i then j else i))
  | _ => none
theorem min_s {K : PySem.W.Frag} : CallS K (fun xs H Q => ∃ i j, xs = [.int i, .int j] ∧ Q (.int (if j < i then j else i)) H) fMin2 := ⟨fun {ah H0 F0 F e g σ H ds v xs Q} R s q k => by
  unfold fMin2 at q
  split at q
  · cases q
    obtain ⟨x, y, rfl, t, t'⟩ := sees2 s
    exact ⟨_, _, by rw [t.int, t'.int], k F H _ Step.refl R (.int _)⟩
  · cases q⟩
def intsD : List D → Option (List Int)
  | [] => some []
  | .int b :: ds => (intsD ds).map (b :: ·)
  | _ :: _ => none
theorem intsD_rp {K : PySem.W.Frag} {F : Hp} : ∀ {ds : List D} {xs : List V} {bs : List Int}, RpAll K F ds xs → intsD ds = some bs → xs = bs.map V.int
  | [], _, _, r, h => by cases r; cases h; rfl
  | d :: ds, _, bs, r, h => by
    cases r with
    | cons r1 r2 =>
      cases d with
      | int b =>
        have h : (intsD ds).map (b :: ·) = some bs := h
        obtain ⟨bs', h1, rfl⟩ := Option.map_eq_some_iff.mp h
        cases r1
        rw [intsD_rp r2 h1]; rfl
      | _ => cases h
def fSum : List D → Option D
  | [.list ds] => (intsD ds).map fun ns => .int ns.sum
  | _ => none
theorem sum_s {K : PySem.W.Frag} : CallS K (rSum K) fSum := ⟨fun {ah H0 F0 F e g σ H ds v xs Q} R s q k => by
  unfold fSum at q
  split at q
  · obtain ⟨bs, hb, e⟩ := Option.map_eq_some_iff.mp q
    subst e
    obtain ⟨x, rfl, t⟩ := sees1 s
    obtain ⟨p, xs, rfl, h1, n1, r1⟩ := t.list R.gd
    have e := intsD_rp r1 hb
    subst e
    exact ⟨p, bs, rfl, SqL.of h1, k F H _ Step.refl R (.int _)⟩
  · cases q⟩

/-! ### isinstance -/
def tyN : D → String
  | .none => "NoneType"
  | .bool _ => "bool"
  | .int _ => "int"
  | .str _ => "str"
  | .list _ => "list"
  | .tuple _ => "tuple"
  | .dict _ => "dict"
def isiB (a b : String) : Bool := a == b || (a == "bool" && b == "int")
def isiD (ts : List String) (d : D) : Bool := ts.any fun t => isiB (tyN d) t
/-- the built-in classes that are asked for -/
inductive AskTy : String → Prop
  | int : AskTy "int" | bool : AskTy "bool" | str : AskTy "str" | tuple : AskTy "tuple" | list : AskTy "list"
theorem kitTab : ∀ a ∈ ["NoneType", "bool", "int", "str", "list", "tuple", "dict"], ∀ t ∈ ["int", "bool", "str", "tuple", "list"], kitB a t = some (isiB a t) := by decide +kernel
theorem kit_isi {K : PySem.W.Frag} {t : String} (h : AskTy t) (d : D) : PySem.W.kitOne K (.type (tyN d)) (.type t) = some (isiB (tyN d) t) := by
  refine kit_ty (kitTab _ ?_ _ ?_)
  · cases d <;> simp [tyN]
  · cases h <;> simp
theorem kit_any {K : PySem.W.Frag} (d : D) : ∀ {ts : List String}, (∀ t ∈ ts, AskTy t) → PySem.W.kitAny K (.type (tyN d)) (ts.map Value.type) = some (isiD ts d)
  | [], _ => rfl
  | t :: ts, h => by
    refine kitAny_cons (kit_isi (h t List.mem_cons_self) d) (fun z => ?_) fun z => ?_
    · rw [kit_any d fun t ht => h t (List.mem_cons_of_mem _ ht)]
      unfold isiD
      rw [List.any_cons, z, Bool.false_or]
    · unfold isiD
      rw [List.any_cons, z, Bool.true_or]
theorem see_ty {K : PySem.W.Frag} {ah : Addr} {H0 F0 F H : Hp} {e : SE} {g : Hand} {σ : L2.St} (R : Rel K ah H0 F0 F e g σ H) : ∀ {d : D} {x : V}, VSee K ah F H (.dat d) x → TyX K H x (.type (tyN d))
  | .none, _, s => by rw [s.non]; exact .base .non
  | .bool b, _, s => by rw [s.bl]; exact .base (.bl b)
  | .int i, _, s => by rw [s.int]; exact .base (.int i)
  | .str z, _, s => by rw [s.str]; exact .base (.str z)
  | .list ds, _, s => by obtain ⟨a, xs, rfl, h1, _, _⟩ := s.list R.gd; exact .base (.lst h1)
  | .tuple ds, _, s => by
    obtain ⟨a, xs, rfl, h1, _⟩ := s.tup
    rcases h1 with (h1 | ⟨o, h1⟩) | ⟨o, its, n, h1, h2, _⟩
    · exact .base (.tup (R.gd.sub _ _ h1))
    · exact .fTuple (R.gd.sub _ _ h1)
    · exact .kTuple h1 h2
  | .dict kvs, x, s => by
    have s : Rp K F (.dict kvs) x := see_rp (fun ds => nofun) s
    cases s with
    | emp h => exact .base (.dK (R.gd.sub _ _ h))
def mIsi (ts : List String) (m : ME) : ME := fun e g => (m e g).dat fun d g => .ok (.dat (.bool (isiD ts d))) g
theorem eIsi {t : Str} {T : String} {p p2 pos : Pos} {a : Expr} {m : ME} (hT : AskTy T) (hg : Gl X "isinstance") (hm : X.mg "isinstance" = none) (hgt : Gl X t) (hmt : X.mg t = none) (hvt : bootBuiltins t = some (.type T)) (ha : simP X E a m) (hnt : t ≠ "__name__" := by decide) (hdt : (t == ("__debug__" : Str)) = false := by decide)
    (he : starEach (a :: [.Name t p2]) X.env = (false, eval a X.env) :: starEach [.Name t p2] X.env := by rfl) (hpl : (backTo pos (starEach [.Name t p2] X.env)).any (·.1) = false := by rfl) : simE X E (.Call (.Name "isinstance" p) [a, .Name t p2] [] pos) (mIsi [T] m) :=
  PE.imp (pe_callB call_isi hg hm (by decide +kernel) (pa_cons ha (pa_cons (pe_bltn (v := .ty T) hgt hmt hvt rfl hnt hdt) pa_nil) he) (by decide) (by decide) he hpl) fun σ H Q p => by
    obtain ⟨ah, H0, F0, F, e, g, R, p⟩ := p
    refine ⟨ah, H0, F0, F, e, g, R, bindPD contE p fun {d} {g1} {F1} {H1} {x} st R s p => ?_⟩
    refine ⟨x, .ty T, .type (tyN d), .type T, isiD [T] d, rfl, .ty T, see_ty R s, ?_, p _ _ _ Step.refl R (Rp.bl _)⟩
    rw [kit_isi hT d]
    simp [isiD]
theorem eIsiT {t1 t2 : Str} {T1 T2 : String} {p p2 p3 p4 pos : Pos} {k : Nat} {a : Expr} {m : ME} (hT1 : AskTy T1) (hT2 : AskTy T2) (hg : Gl X "isinstance") (hm : X.mg "isinstance" = none) (hg1 : Gl X t1) (hm1 : X.mg t1 = none) (hv1 : bootBuiltins t1 = some (.type T1)) (hg2 : Gl X t2) (hm2 : X.mg t2 = none) (hv2 : bootBuiltins t2 = some (.type T2)) (ha : simP X E a m)
    (hn1 : t1 ≠ "__name__" := by decide) (hd1 : (t1 == ("__debug__" : Str)) = false := by decide) (hn2 : t2 ≠ "__name__" := by decide) (hd2 : (t2 == ("__debug__" : Str)) = false := by decide)
    (hes : starEach (.Name t1 p2 :: [.Name t2 p3]) X.env = (false, eval (.Name t1 p2) X.env) :: starEach [.Name t2 p3] X.env := by rfl)
    (he : starEach (a :: [.Tuple [.Name t1 p2, .Name t2 p3] k p4]) X.env = (false, eval a X.env) :: starEach [.Tuple [.Name t1 p2, .Name t2 p3] k p4] X.env := by rfl) (hpl : (backTo pos (starEach [.Tuple [.Name t1 p2, .Name t2 p3] k p4] X.env)).any (·.1) = false := by rfl) :
    simE X E (.Call (.Name "isinstance" p) [a, .Tuple [.Name t1 p2, .Name t2 p3] k p4] [] pos) (mIsi [T1, T2] m) :=
  PE.imp (pe_callB call_isiT hg hm (by decide +kernel) (pa_cons ha (pa_cons (pe_tup (pa_cons (pe_bltn (v := .ty T1) hg1 hm1 hv1 rfl hn1 hd1) (pa_cons (pe_bltn (v := .ty T2) hg2 hm2 hv2 rfl hn2 hd2) pa_nil) hes)) pa_nil) he) (by decide) (by decide) he hpl) fun σ H Q p => by
    obtain ⟨ah, H0, F0, F, e, g, R, p⟩ := p
    refine ⟨ah, H0, F0, F, e, g, R, bindPD contE p fun {d} {g1} {F1} {H1} {x} st R s p => ?_⟩
    refine ⟨by show 2 ≤ sizeLine; decide, fun q hq => ?_⟩
    obtain ⟨R2, st2⟩ := R.waste (o := .tup [.ty T1, .ty T2]) hq
    refine ⟨x, q, [.ty T1, .ty T2], .type (tyN d), [.type T1, .type T2], isiD [T1, T2] d, rfl, upd_same, .cons (.ty T1) (.cons (.ty T2) .nil), see_ty R2 (s.step st2), ?_, p _ _ _ st2 R2 (Rp.bl _)⟩
    exact kit_any (ts := [T1, T2]) d fun t ht => by
      rcases List.mem_cons.mp ht with rfl | ht
      · exact hT1
      · rcases List.mem_cons.mp ht with rfl | ht
        · exact hT2
        · cases ht
end
end Sm

/-! Sm8: what is walked; methods; lists changed; dicts; errors raised. -/
namespace Sm
open PySem PySem.Spec PyProof.Rows L2
open RZ (ItzT pi_zipA)

section
variable {X : Cx} {E : XK}
/-! ### what is walked -/
def itemsOf : D → Option (List D)
  | .list ds => some ds
  | .tuple ds => some ds
  | .str z => some (z.cps.toList.map fun c => .str ⟨#[c]⟩)
  | _ => none
def mItems (m : ME) : MN := fun e g => (m e g).dat fun d g => match itemsOf d with
  | some ds => .ok ds g
  | none => .stuck
theorem pi_or {tg it : Expr} {w w' : TI} (h : PI X tg it w) (h' : PI X tg it w') : PI X tg it (fun σ H R => w σ H R ∨ w' σ H R) := ⟨fun pins s σ H R I q => by
  rcases q with q | q
  · exact h.run pins s σ H R I q
  · exact h'.run pins s σ H R I q⟩
section
variable {K : PySem.W.Frag} {mg : Str → Option Value} {ah : Addr} {H0 F0 F H : Hp} {e : SE} {g : Hand} {σ : L2.St}
theorem walkD_list {a : Addr} {ds : List D} {xs : List V} {hold : Hp → Prop} (hh : ∀ H2, hold H2 → H2 a = some (.lst xs)) (r : RpAll K F ds xs) : WalkD K F hold (Itl K a) ds := by
  refine ⟨_, _, by rw [← r.len]; exact walk_list, fun H h => SqL.of (hh H h), fun i H x H' y => ?_⟩
  obtain ⟨e1, e2⟩ := y
  obtain ⟨d, hd, rd⟩ := r.get' e2
  exact ⟨d, hd, .inl ⟨e1, rd⟩⟩
theorem walkD_tup {a : Addr} {ds : List D} {xs : List V} {hold : Hp → Prop} (hh : ∀ H2, hold H2 → SqT K H2 a xs) (r : RpAll K F ds xs) : WalkD K F hold (Itt K a) ds := by
  refine ⟨_, _, by rw [← r.len]; exact walk_tup, fun H h => hh H h, fun i H x H' y => ?_⟩
  obtain ⟨e1, e2⟩ := y
  obtain ⟨d, hd, rd⟩ := r.get' e2
  exact ⟨d, hd, .inl ⟨e1, rd⟩⟩
theorem walkD_str {z : Str} {hold : Hp → Prop} : WalkD K F hold (Its z) (z.cps.toList.map fun c => .str ⟨#[c]⟩) := by
  refine ⟨_, _, by rw [List.length_map, Array.length_toList]; exact walk_str, fun H h => trivial, fun i H x H' y => ?_⟩
  obtain ⟨e1, c, hc, e2⟩ := y
  subst e2
  exact ⟨.str ⟨#[c]⟩, by rw [List.getElem?_map, Array.getElem?_toList, hc]; rfl, .inl ⟨e1, .str _⟩⟩
end
theorem items_imp {b : Bool} {m : ME} (tr : TE) (htr : ∀ σ H Q ah H0 F0 F e g, Rel X.K ah H0 F0 F e g σ H → (match m e g with
    | .ok v g' => ∀ F' H' x, Step ah F F' H H' → Rel X.K ah H0 F0 F' e g' σ H' → (if b then VRep X.K ah F' v x else VSee X.K ah F' H' v x) → Q x H'
    | .err ex g' => PostX X.K X.mg E ah H0 F0 ex g'
    | .stuck => False) → tr σ H Q) : ∀ σ H R, trI X.K X.mg E b (mItems m) σ H R → (iList X.K tr σ H R ∨ (iTup X.K tr σ H R ∨ iStr tr σ H R)) := fun σ H Rq p => by
  obtain ⟨ah, H0, F0, F, e, g, R, p⟩ := p
  unfold mItems at p
  have hsee : ∀ {F' H' : Hp} {v : Val} {x : V}, (if b then VRep X.K ah F' v x else VSee X.K ah F' H' v x) → VSee X.K ah F' H' v x := fun {F' H' v x} h => by
    cases b with
    | true => exact VRep.see h
    | false => exact h
  cases q : m e g with
  | ok v g' =>
    rw [q] at p
    cases v with
    | dat d =>
      have p : PostI X.K X.mg E b ah H0 F0 F e σ H Rq (match itemsOf d with | some ds => .ok ds g' | none => .stuck) := p
      cases d with
      | list ds =>
        refine .inl (htr σ H _ ah H0 F0 F e g R ?_)
        rw [q]
        intro F' H' x st R' s
        obtain ⟨a, xs, rfl, h1, n1, r1⟩ := (hsee s).list R'.gd
        refine ⟨a, rfl, ⟨xs, SqL.of h1⟩, p F' H' _ st R' (walkD_list (xs := xs) (fun H2 h => ?_) r1)⟩
        cases b with
        | false => exact h a _ n1 h1
        | true =>
          have s : Rp X.K F' (.list ds) (.ref a) := s
          cases s with
          | lst z1 z2 =>
            have z3 := R'.gd.sub _ _ z1
            rw [h1] at z3; cases z3
            exact h _ _ z1
      | tuple ds =>
        refine .inr (.inl (htr σ H _ ah H0 F0 F e g R ?_))
        rw [q]
        intro F' H' x st R' s
        obtain ⟨a, xs, rfl, h1, r1⟩ := (hsee s).tup
        refine ⟨a, rfl, ⟨xs, ex_t R'.gd.sub h1⟩, p F' H' _ st R' (walkD_tup (xs := xs) (fun H2 h => ?_) r1)⟩
        cases b with
        | true => exact ex_t h h1
        | false => exact ex_t (K := X.K) (fun c o z => h c o (fun w => by rw [w, R'.gd.fah] at z; cases z) (R'.gd.sub _ _ z)) h1
      | str z =>
        refine .inr (.inr (htr σ H _ ah H0 F0 F e g R ?_))
        rw [q]
        intro F' H' x st R' s
        exact ⟨z, (hsee s).str, p F' H' _ st R' walkD_str⟩
      | _ => exact p.elim
    | _ => exact p.elim
  | err ex g' =>
    refine .inl (htr σ H _ ah H0 F0 F e g R ?_)
    rw [q] at p ⊢
    exact p
  | stuck => rw [q] at p; exact p.elim
/-- for x in e: a list, a tuple, a text -/
theorem iVal {tg a : Expr} {m : ME} (h : simE X E a m) : simI X E true tg a (mItems m) := PI.imp (pi_or (pi_list h) (pi_or (pi_tup h) (pi_str h))) (items_imp (b := true) _ fun σ H Q ah H0 F0 F e g R p => ⟨ah, H0, F0, F, e, g, R, by
  cases q : m e g with
  | ok v g' => rw [q] at p; exact p
  | err ex g' => rw [q] at p; exact p
  | stuck => rw [q] at p; exact p⟩)
theorem iValP {tg a : Expr} {m : ME} (h : simP X E a m) : simI X E false tg a (mItems m) := PI.imp (pi_or (pi_list h) (pi_or (pi_tup h) (pi_str h))) (items_imp (b := false) _ fun σ H Q ah H0 F0 F e g R p => ⟨ah, H0, F0, F, e, g, R, by
  cases q : m e g with
  | ok v g' => rw [q] at p; exact p
  | err ex g' => rw [q] at p; exact p
  | stuck => rw [q] at p; exact p⟩)
def rangeD (lo : Int) (n : Nat) : List D := (List.range n).map fun i => .int (lo + (i : Nat))
theorem walkD_range {K : PySem.W.Frag} {F : Hp} {lo : Int} {n : Nat} {hold : Hp → Prop} : WalkD K F hold (Itr lo n) (rangeD lo n) := by
  have w : Walk (Itr lo n) n (fun _ => True) (fun i H x H' => i < n ∧ YFn (fun i => .int (lo + i)) i H x H') := ⟨walk_range.goes, walk_range.stops, fun i H x H' hi h y => ⟨hi, walk_range.yields i H x H' hi h y⟩⟩
  refine ⟨_, _, by unfold rangeD; rw [List.length_map, List.length_range]; exact w, fun H h => trivial, fun i H x H' y => ?_⟩
  obtain ⟨hi, e1, e2⟩ := y
  refine ⟨.int (lo + (i : Nat)), ?_, .inl ⟨e1, by rw [e2]; exact .int _⟩⟩
  unfold rangeD
  rw [List.getElem?_map, List.getElem?_range hi]
  rfl
def r62 (i : Int) : Bool := decide (-(2 ^ 62) ≤ i) && decide (i < 2 ^ 62)
def mRng1 (ms : MN) : MN := fun e g => (ms e g).bnd fun ds g => match ds with
  | [.int j] => if r62 j then .ok (rangeD 0 j.toNat) g else .stuck
  | _ => .stuck
def mRng2 (ms : MN) : MN := fun e g => (ms e g).bnd fun ds g => match ds with
  | [.int i, .int j] => if r62 i && r62 j then .ok (rangeD i (j - i).toNat) g else .stuck
  | _ => .stuck
theorem iRange1 {b : Bool} {tg a : Expr} {ms : MN} {p pos : Pos} (hg : Gl X "range") (hm : X.mg "range" = none) (ha : simO X E [a] ms) (hs : starEach [a] X.env = [(false, eval a X.env)] := by rfl) : simI X E b tg (.Call (.Name "range" p) [a] [] pos) (mRng1 ms) :=
  PI.imp (pi_range1 hg hm ha hs) fun σ H Rq p => by
    obtain ⟨ah, H0, F0, F, e, g, R, p⟩ := p
    refine ⟨ah, H0, F0, F, e, g, R, bindO contI p fun {vs} {g'} {F'} {H'} {xs} st R s p => ?_⟩
    split at p
    · rename_i j
      split at p
      · rename_i hj
        unfold r62 at hj
        rw [Bool.and_eq_true, decide_eq_true_eq, decide_eq_true_eq] at hj
        obtain ⟨x, rfl, t⟩ := sees1 s
        rw [t.int]
        exact ⟨j, rfl, hj.1, hj.2, p _ _ _ Step.refl R walkD_range⟩
      · exact p.elim
    · exact p.elim
theorem iRange2 {b : Bool} {tg a a2 : Expr} {ms : MN} {p pos : Pos} (hg : Gl X "range") (hm : X.mg "range" = none) (ha : simO X E [a, a2] ms) (hs : starEach [a, a2] X.env = [(false, eval a X.env), (false, eval a2 X.env)] := by rfl) (hs2 : starEach [a2] X.env = [(false, eval a2 X.env)] := by rfl) :
    simI X E b tg (.Call (.Name "range" p) [a, a2] [] pos) (mRng2 ms) :=
  PI.imp (pi_range2 hg hm ha hs hs2) fun σ H Rq p => by
    obtain ⟨ah, H0, F0, F, e, g, R, p⟩ := p
    refine ⟨ah, H0, F0, F, e, g, R, bindO contI p fun {vs} {g'} {F'} {H'} {xs} st R s p => ?_⟩
    split at p
    · rename_i i j
      split at p
      · rename_i hj
        unfold r62 at hj
        simp only [Bool.and_eq_true, decide_eq_true_eq] at hj
        obtain ⟨x, y, rfl, t, t'⟩ := sees2 s
        rw [t.int, t'.int]
        exact ⟨i, j, rfl, ⟨hj.1.1, hj.1.2, hj.2.1, hj.2.2⟩, p _ _ _ Step.refl R walkD_range⟩
      · exact p.elim
    · exact p.elim
/-- zip of two lists, of two tuples -/
def zipD (ds es : List D) : List D := List.zipWith (fun a b => .tuple [a, b]) ds es
def mZip (ms : MN) : MN := fun e g => (ms e g).bnd fun ds g => match ds with
  | [.list xs, .list ys] => .ok (zipD xs ys) g
  | [.tuple xs, .tuple ys] => .ok (zipD xs ys) g
  | _ => .stuck
theorem walk_zipT {K : PySem.W.Frag} {a b : Addr} {xs ys : List V} {n : Nat} (hn : n = min xs.length ys.length) : Walk (ItzT K a b) n (fun H => SqT K H a xs ∧ SqT K H b ys) (YPair (fun i => xs[i]?) (fun i => ys[i]?)) := by
  subst hn
  refine ⟨fun i _ hi q => ?_, fun _ q => ⟨xs, ys, q.1, q.2, by omega⟩, fun i H v H' _ q y => ?_⟩
  · have h1 : i < xs.length := by omega
    have h2 : i < ys.length := by omega
    exact ⟨xs, ys, xs[i], ys[i], q.1, q.2, by simp [h1], by simp [h2]⟩
  · obtain ⟨T, x, z, h1, h2, h3, h4, h5⟩ := y
    exact ⟨T, x, z, h1, h2, h3, h4 xs q.1, h5 ys q.2⟩
theorem zip_item {K : PySem.W.Frag} {F : Hp} {ds es : List D} {xs ys : List V} (r1 : RpAll K F ds xs) (r2 : RpAll K F es ys) {i : Nat} {H H' : Hp} {x : V} (y : YPair (fun i => xs[i]?) (fun i => ys[i]?) i H x H') : ∃ d, (zipD ds es)[i]? = some d ∧ ItemD K F d H x H' := by
  obtain ⟨T, x1, x2, e1, e2, e3, h1, h2⟩ := y
  obtain ⟨d1, hd1, q1⟩ := r1.get' h1
  obtain ⟨d2, hd2, q2⟩ := r2.get' h2
  refine ⟨.tuple [d1, d2], ?_, .inr ⟨T, x1, x2, d1, d2, e1, e2, e3, rfl, q1, q2⟩⟩
  unfold zipD
  rw [List.getElem?_zipWith, hd1, hd2]
theorem zip_len {K : PySem.W.Frag} {F : Hp} {ds es : List D} {xs ys : List V} (r1 : RpAll K F ds xs) (r2 : RpAll K F es ys) : (zipD ds es).length = min xs.length ys.length := by
  unfold zipD
  rw [List.length_zipWith, r1.len, r2.len]
theorem iZip {elts : List Expr} {kk : Nat} {a a2 : Expr} {ms : MN} {p pos tpos : Pos} (hg : Gl X "zip") (hm : X.mg "zip" = none) (ha : simO X E [a, a2] ms)
    (hs : starEach [a, a2] X.env = (false, eval a X.env) :: starEach [a2] X.env := by rfl) (hpl : (backTo pos (starEach [a2] X.env)).any (·.1) = false := by rfl) :
    simI X E false (.Tuple elts kk tpos) (.Call (.Name "zip" p) [a, a2] [] pos) (mZip ms) := PI.imp (pi_zipA hg hm ha hs hpl) fun σ H Rq p => by
  obtain ⟨ah, H0, F0, F, e, g, R, p⟩ := p
  refine ⟨ah, H0, F0, F, e, g, R, bindO contI p fun {vs} {g'} {F'} {H'} {xs} st R s p => ?_⟩
  split at p
  · rename_i ds es
    obtain ⟨x, y, rfl, t, t'⟩ := sees2 s
    obtain ⟨a, xs, rfl, h1, n1, r1⟩ := t.list R.gd
    obtain ⟨b, ys, rfl, h2, n2, r2⟩ := t'.list R.gd
    refine ⟨a, b, xs, ys, rfl, .inl ⟨SqL.of h1, SqL.of h2, p _ _ _ Step.refl R ⟨_, _, walk_zip (zip_len r1 r2), fun H2 h => ?_, fun i H x H' y => zip_item r1 r2 y⟩⟩⟩
    exact ⟨SqL.of (h _ _ n1 h1), SqL.of (h _ _ n2 h2)⟩
  · rename_i ds es
    obtain ⟨x, y, rfl, t, t'⟩ := sees2 s
    obtain ⟨a, xs, rfl, h1, r1⟩ := t.tup
    obtain ⟨b, ys, rfl, h2, r2⟩ := t'.tup
    have up : ∀ {H2 : Hp}, (∀ c o, c ≠ ah → H' c = some o → H2 c = some o) → Ex F' H2 := fun {H2} h c o z => h c o (fun w => by rw [w, R.gd.fah] at z; cases z) (R.gd.sub _ _ z)
    refine ⟨a, b, xs, ys, rfl, .inr ⟨ex_t R.gd.sub h1, ex_t R.gd.sub h2, p _ _ _ Step.refl R ⟨_, _, walk_zipT (zip_len r1 r2), fun H2 h => ?_, fun i H x H' y => zip_item r1 r2 y⟩⟩⟩
    exact ⟨ex_t (up h) h1, ex_t (up h) h2⟩
  · exact p.elim

/-! ### methods of texts -/
def mM1 (f : Str → D → Option D) (mo me : ME) : ME := fun e g => (mo e g).dat fun a g => match a with
  | .str z => (me e g).dat fun b g => Res.ofO (f z b) g
  | _ => .stuck
/-- what a method's rule asks -/
structure MtS (K : PySem.W.Frag) (r : V → List V → Hp → VK → Prop) (f : Str → D → Option D) : Prop where
  run : ∀ {ah : Addr} {H0 F0 F : Hp} {e : SE} {g : Hand} {σ : L2.St} {H : Hp} {z : Str} {b v : D} {y : V} {Q : VK}, Rel K ah H0 F0 F e g σ H → VSee K ah F H (.dat b) y → f z b = some v →
    (∀ F' H' w, Step ah F F' H H' → Rel K ah H0 F0 F' e g σ H' → Rp K F' v w → Q w H') → r (.str z) [y] H Q
theorem eM1 {id : String} {name : Str} {o a : Expr} {apos pos : Pos} {r : V → List V → Hp → VK → Prop} {f : Str → D → Option D} {mo me : ME} (slot : PySem.Slot "str" name id) (ty : typeOf (.builtin id) = pure (.type "method_descriptor")) (rule : MtR X id r) (hf : MtS X.K r f) (ho : simP X E o mo) (ha : simP X E a me)
    (hs : starEach [a] X.env = [(false, eval a X.env)] := by rfl) (hbase : attributeBase o name X.env (eval o X.env) = eval o X.env := by rfl) (hline : (apos.endLine == pos.line) = true := by rfl) : simE X E (.Call (.Attribute o name apos) [a] [] pos) (mM1 f mo me) :=
  PE.imp (pe_m1 slot ty rule ho ha hs hbase hline) fun σ H Q p => by
    obtain ⟨ah, H0, F0, F, e, g, R, p⟩ := p
    refine ⟨ah, H0, F0, F, e, g, R, bindPD contE p fun {d} {g1} {F1} {H1} {x} st R s p => ?_⟩
    cases d with
    | str z =>
      rw [s.str]
      refine ⟨⟨z, rfl⟩, ah, H0, F0, F1, e, g1, R, bindPD contE p fun {d2} {g2} {F2} {H2} {y} st2 R2 s2 p2 => ?_⟩
      obtain ⟨v, hv, q⟩ := ofO_ok p2
      exact hf.run R2 s2 hv q
    | _ => exact p.elim
def fCount (z : Str) : D → Option D
  | .str y => some (.int (Txt.count z y))
  | _ => none
theorem count_s {K : PySem.W.Frag} : MtS K (fun x xs H Q => ∃ a b, x = .str a ∧ xs = [.str b] ∧ Q (.int (Txt.count a b)) H) fCount := ⟨fun {ah H0 F0 F e g σ H z b v y Q} R s q k => by
  cases b with
  | str w => cases q; exact ⟨z, w, rfl, by rw [s.str], k F H _ Step.refl R (.int _)⟩
  | _ => cases q⟩
def strsD : List D → Option (List Str)
  | [] => some []
  | .str b :: ds => (strsD ds).map (b :: ·)
  | _ :: _ => none
theorem strsD_rp {K : PySem.W.Frag} {F : Hp} : ∀ {ds : List D} {xs : List V} {bs : List Str}, RpAll K F ds xs → strsD ds = some bs → xs = bs.map V.str
  | [], _, _, r, h => by cases r; cases h; rfl
  | d :: ds, _, bs, r, h => by
    cases r with
    | cons r1 r2 =>
      cases d with
      | str b =>
        have h : (strsD ds).map (b :: ·) = some bs := h
        obtain ⟨bs', h1, rfl⟩ := Option.map_eq_some_iff.mp h
        cases r1
        rw [strsD_rp r2 h1]; rfl
      | _ => cases h
def fJoin (z : Str) : D → Option D
  | .list ds => (strsD ds).bind fun ys => if (ys.map (·.length)).sum + ys.length * z.length ≤ 1000000 then some (.str (Txt.join z ys)) else none
  | _ => none
theorem join_s {K : PySem.W.Frag} : MtS K (fun x xs H Q => ∃ a p, ∃ ys : List Str, x = .str a ∧ xs = [.ref p] ∧ (SqL K H p (ys.map V.str) ∨ SqT K H p (ys.map V.str)) ∧
    (ys.map (·.length)).sum + ys.length * a.length ≤ 16777216 ∧ Q (.str (Txt.join a ys)) H) fJoin := ⟨fun {ah H0 F0 F e g σ H z b v y Q} R s q k => by
  cases b with
  | list ds =>
    obtain ⟨ys, hy, q⟩ := Option.bind_eq_some_iff.mp (show (strsD ds).bind _ = some v from q)
    split at q
    · rename_i hl
      cases q
      obtain ⟨p, xs, rfl, h1, n1, r1⟩ := s.list R.gd
      have e := strsD_rp r1 hy
      subst e
      exact ⟨z, p, ys, rfl, rfl, .inl (SqL.of h1), by omega, k F H _ Step.refl R (.str _)⟩
    · cases q
  | _ => cases q⟩
def mM0 (f : Str → Option D) (mo : ME) : ME := fun e g => (mo e g).dat fun a g => match a with
  | .str z => Res.ofO (f z) g
  | _ => .stuck
structure Mt0S (K : PySem.W.Frag) (r : V → List V → Hp → VK → Prop) (f : Str → Option D) : Prop where
  run : ∀ {ah : Addr} {H0 F0 F : Hp} {e : SE} {g : Hand} {σ : L2.St} {H : Hp} {z : Str} {v : D} {Q : VK}, Rel K ah H0 F0 F e g σ H → f z = some v →
    (∀ F' H' w, Step ah F F' H H' → Rel K ah H0 F0 F' e g σ H' → Rp K F' v w → Q w H') → r (.str z) [] H Q
theorem eM0 {id : String} {name : Str} {o : Expr} {apos pos : Pos} {r : V → List V → Hp → VK → Prop} {f : Str → Option D} {mo : ME} (slot : PySem.Slot "str" name id) (ty : typeOf (.builtin id) = pure (.type "method_descriptor")) (rule : MtR X id r) (hf : Mt0S X.K r f) (ho : simP X E o mo)
    (hbase : attributeBase o name X.env (eval o X.env) = eval o X.env := by rfl) (hline : (apos.endLine == pos.line) = true := by rfl) : simE X E (.Call (.Attribute o name apos) [] [] pos) (mM0 f mo) :=
  PE.imp (pe_m0 slot ty rule ho hbase hline) fun σ H Q p => by
    obtain ⟨ah, H0, F0, F, e, g, R, p⟩ := p
    refine ⟨ah, H0, F0, F, e, g, R, bindPD contE p fun {d} {g1} {F1} {H1} {x} st R s p => ?_⟩
    cases d with
    | str z =>
      rw [s.str]
      obtain ⟨v, hv, q⟩ := ofO_ok p
      exact ⟨⟨z, rfl⟩, hf.run R hv q⟩
    | _ => exact p.elim
def fUpper (z : Str) : Option D := if z.length ≤ 1000000 then some (.str (Txt.upper z)) else none
theorem upper_s {K : PySem.W.Frag} : Mt0S K (fun x xs H Q => ∃ a, x = .str a ∧ xs = [] ∧ a.length ≤ 5592405 ∧ Q (.str (Txt.upper a)) H) fUpper := ⟨fun {ah H0 F0 F e g σ H z v Q} R q k => by
  unfold fUpper at q
  split at q
  · rename_i hl
    cases q
    exact ⟨z, rfl, rfl, by omega, k F H _ Step.refl R (.str _)⟩
  · cases q⟩

/-! ### a list that a slot owns, changed -/
theorem tyL {K : PySem.W.Frag} {H : Hp} {a : Addr} {xs : List V} (h : H a = some (.lst xs)) : tyV K "list" (.ref a) H := .inl ⟨rfl, _, SqL.of h⟩
def mApp (i : Nat) (m : ME) : MS := fun e g => match e[i]? with
  | some (.own (.lst ds)) => (m e g).dat fun d g => if ds.length < 1000000 then .nx (e.set i (.own (.lst (ds ++ [d])))) g else .stuck
  | _ => .stuck
theorem sApp (i : Nat) {x : Str} {a : Expr} {m : ME} {p apos cpos pos : Pos} (hx : PE X (.Name x p) (tVar i)) (ha : simE X E a m)
    (hbase : attributeBase (.Name x p) "append" X.env (eval (.Name x p) X.env) = eval (.Name x p) X.env := by rfl)
    (hfew : ((backTo cpos (starEach (a :: []) X.env)).all (fun x => !x.1) && (backToKw cpos (keywordEach [] X.env)).all (fun x => x.1.isSome)
      && decide ((a :: []).length + ([] : List Keyword).length + (if ([] : List Keyword).isEmpty then 0 else 1) < 30)) = true := by rfl)
    (hline : (apos.endLine == cpos.line) = true := by rfl) (hs : starEach (a :: []) X.env = (false, eval a X.env) :: starEach [] X.env := by rfl) (hplain : (backTo cpos (starEach [] X.env)).any (·.1) = false := by rfl)
    (hsw : swapsWith (.Call (.Attribute (.Name x p) "append" apos) [a] [] cpos) none pos.line X.env = pure false := by rfl) :
    simS X E (.Expr (.Call (.Attribute (.Name x p) "append" apos) [a] [] cpos) pos) (mApp i m) :=
  PS.imp (ps_expr (pe_bm PySem.F.plainAttrs_list PySem.F.slot_list_append PySem.F.type_list_append mt_append hx (pa_cons ha pa_nil hs) hbase hfew hline hs hplain) hsw) fun Dn σ H p => by
    obtain ⟨ah, H0, F0, F, e, g, R, p⟩ := p
    unfold mApp at p
    split at p
    · rename_i ds hi
      obtain ⟨b, o, h2, q2, q3, fa, ha', h0⟩ := R.owned hi
      cases o with
      | lst xs =>
        refine ⟨.ref b, h2, tyL q2, ah, H0, F0, F, e, g, R, bindED contS p fun {d} {g1} {F1} {H1} {y} st R1 r1 p => ?_⟩
        split at p
        · rename_i hl
          have q3' : RpAll X.K F1 ds xs := RpAll.mono st.ext _ _ q3
          exact ⟨b, xs, y, rfl, rfl, st.keep b _ ha' q2, by rw [q3'.len]; exact line_lt hl, p _ _ _ (Ex.refl _) (R1.upOwn (c' := .lst (ds ++ [d])) hi h2 (q3'.snoc r1))⟩
        · exact p.elim
      | _ => exact q3.elim
    · exact p.elim
def mExt (i : Nat) (m : ME) : MS := fun e g => match e[i]? with
  | some (.own (.lst ds)) => (m e g).dat fun d g => match d with
    | .list es => if ds.length + es.length ≤ 1000000 then .nx (e.set i (.own (.lst (ds ++ es)))) g else .stuck
    | _ => .stuck
  | _ => .stuck
theorem sExt (i : Nat) {x : Str} {a : Expr} {m : ME} {p apos cpos pos : Pos} (hx : PE X (.Name x p) (tVar i)) (ha : simE X E a m)
    (hbase : attributeBase (.Name x p) "extend" X.env (eval (.Name x p) X.env) = eval (.Name x p) X.env := by rfl)
    (hfew : ((backTo cpos (starEach (a :: []) X.env)).all (fun x => !x.1) && (backToKw cpos (keywordEach [] X.env)).all (fun x => x.1.isSome)
      && decide ((a :: []).length + ([] : List Keyword).length + (if ([] : List Keyword).isEmpty then 0 else 1) < 30)) = true := by rfl)
    (hline : (apos.endLine == cpos.line) = true := by rfl) (hs : starEach (a :: []) X.env = (false, eval a X.env) :: starEach [] X.env := by rfl) (hplain : (backTo cpos (starEach [] X.env)).any (·.1) = false := by rfl)
    (hsw : swapsWith (.Call (.Attribute (.Name x p) "extend" apos) [a] [] cpos) none pos.line X.env = pure false := by rfl) :
    simS X E (.Expr (.Call (.Attribute (.Name x p) "extend" apos) [a] [] cpos) pos) (mExt i m) :=
  PS.imp (ps_expr (pe_bm PySem.F.plainAttrs_list PySem.F.slot_list_extend PySem.F.type_list_extend mt_extend hx (pa_cons ha pa_nil hs) hbase hfew hline hs hplain) hsw) fun Dn σ H p => by
    obtain ⟨ah, H0, F0, F, e, g, R, p⟩ := p
    unfold mExt at p
    split at p
    · rename_i ds hi
      obtain ⟨b, o, h2, q2, q3, fa, ha', h0⟩ := R.owned hi
      cases o with
      | lst xs =>
        refine ⟨.ref b, h2, tyL q2, ah, H0, F0, F, e, g, R, bindED contS p fun {d} {g1} {F1} {H1} {y} st R1 r1 p => ?_⟩
        cases d with
        | list es =>
          have p : PostS X.K X.mg E ah H0 F0 F1 Dn (if ds.length + es.length ≤ 1000000 then .nx (e.set i (.own (.lst (ds ++ es)))) g1 else .stuck) := p
          split at p
          · rename_i hl
            have q3' : RpAll X.K F1 ds xs := RpAll.mono st.ext _ _ q3
            cases r1 with
            | lst z1 z2 =>
              exact ⟨b, _, xs, _, rfl, rfl, st.keep b _ ha' q2, R1.gd.sub _ _ z1, by rw [q3'.len, z2.len]; exact line_le hl, p _ _ _ (Ex.refl _) (R1.upOwn (c' := .lst (ds ++ es)) hi h2 (q3'.append z2))⟩
          · exact p.elim
        | _ => exact p.elim
      | _ => exact q3.elim
    · exact p.elim
/-- x[k] = v -/
def mSetIx (i : Nat) (mk mv : ME) : MS := fun e g => (mv e g).dat fun v g => match e[i]? with
  | some (.own (.lst ds)) => (mk e g).dat fun k g => match k with
    | .int k => match ixN ds.length k with
      | some j => .nx (e.set i (.own (.lst (ds.set j v)))) g
      | none => .stuck
    | _ => .stuck
  | _ => .stuck
theorem sSetIx (i : Nat) {x : Str} {k v : Expr} {mk mv : ME} {p p2 pos : Pos} (hx : PE X (.Name x p) (tVar i)) (hk : simP X E k mk) (hv : simE X E v mv)
    (ha : ∀ w, assign (.Subscript (.Name x p) k p2) X.env w = (do
      let ov ← holding [w] (eval (.Name x p) X.env)
      let iv ← holding [w, ov] (eval k X.env)
      standAt p2
      holding [w, ov, iv] (setItem ov iv w)
      release [w, ov, iv] []) := by intro _; rfl)
    (hs : swapsWithSole [.Subscript (.Name x p) k p2] v pos.line X.env = pure false := by rfl) (hw : swappedStores [.Subscript (.Name x p) k p2] v X.env = pure none := by rfl)
    (h1 : (assignEach [.Subscript (.Name x p) k p2] X.env).map (·.2) = [assign (.Subscript (.Name x p) k p2) X.env] := by rfl) :
    simS X E (.Assign [.Subscript (.Name x p) k p2] v pos) (mSetIx i mk mv) := PS.imp (ps_asg hv (pg_sub hx hk set_list ha) hs hw h1) fun Dn σ H p => by
  obtain ⟨ah, H0, F0, F, e, g, R, p⟩ := p
  refine ⟨ah, H0, F0, F, e, g, R, bindED contS p fun {d} {g1} {F1} {H1} {y} st R1 r1 p => ?_⟩
  split at p
  · rename_i ds hi
    obtain ⟨b, o, h2, q2, q3, fa, ha', h0⟩ := R1.owned hi
    cases o with
    | lst xs =>
      refine ⟨.ref b, h2, ah, H0, F0, F1, e, g1, R1, bindPD contS p fun {d2} {g2} {F2} {H2} {z} st2 R2 s2 p2 => ?_⟩
      cases d2 with
      | int k =>
        have p2 : PostS X.K X.mg E ah H0 F0 F2 Dn (match ixN ds.length k with | some j => .nx (e.set i (.own (.lst (ds.set j d)))) g2 | none => .stuck) := p2
        split at p2
        · rename_i j hj
          have q3' : RpAll X.K F2 ds xs := RpAll.mono st2.ext _ _ q3
          exact ⟨b, xs, k, j, rfl, s2.int, st2.keep b _ ha' q2, by rw [q3'.len]; exact hj, p2 _ _ _ (Ex.refl _) (R2.upOwn (c' := .lst (ds.set j d)) hi h2 (q3'.set (Rp.mono st2.ext _ _ r1) j))⟩
        · exact p2.elim
      | _ => exact p2.elim
    | _ => exact q3.elim
  · exact p.elim
/-- x op= v, ints -/
def mAug (i : Nat) (f : Int → Int → Int) (m : ME) : MS := fun e g => match e[i]? with
  | some (.val (.dat (.int a))) => (m e g).dat fun b g => match b with
    | .int b => .nx (e.set i (.val (.dat (.int (f a b))))) g
    | _ => .stuck
  | _ => .stuck
theorem sAug {i : Nat} {x : Str} {a : Expr} {op : Operator} {f : Int → Int → Int} {m : ME} {pos' pos : Pos} (hN : X.N.Nodup) (hi : X.N[i]? = some x) (hx : Loc X.env.scope x) (ha : simP X E a m) (ho : PIp X op (ipI f)) (hf : X.fn x = true ∨ X.env.scope.names.lookup x = some .local := by first | exact .inl rfl | exact .inr rfl | assumption) :
    simS X E (.AugAssign (.Name x pos') op a pos) (mAug i f m) := PS.imp (ps_aug hN hi hx ha ho hf) fun Dn σ H p => by
  obtain ⟨ah, H0, F0, F, e, g, R, p⟩ := p
  unfold mAug at p
  split at p
  · rename_i a hi
    obtain ⟨y, hy, r⟩ := R.val hi
    cases (show Rp X.K F (.int a) y from r)
    refine ⟨_, hy, ah, H0, F0, F, e, g, R, bindPD contS p fun {d} {g1} {F1} {H1} {z} st R1 s1 p => ?_⟩
    cases d with
    | int b => exact ⟨a, b, rfl, s1.int, p _ _ _ (Ex.refl _) (R1.setVal (v := .dat _) i (Rp.int _))⟩
    | _ => exact p.elim
  · exact p.elim

/-! ### errors raised -/
theorem pmk_own0 {C : Addr} {bmB : List Value} {B newId initId : String} {x : Str} {p pos : Pos} (F : ExcBaseFacts B newId initId bmB) (q : PySem.W.excIn X.K C bmB newId = true) (gC : X.mg x = some (.ref C))
    (kC : PySem.W.keepIn X.K (.ref C) = true) (r : Raises X (.ref C)) (hg : Gl X x) (hdb : (x == ("__debug__" : Str)) = false := by decide) :
    PMk X (.Call (.Name x p) [] [] pos) (fun _ H Q => Q (.ref C) none H) := by
  intro pins s σ H Q I h
  refine wpAny_Call_Name_kw (ld_glob I hg gC ?_ hdb)
  refine PySem.W.callWith_K0 I.kIn kC ?_
  obtain ⟨bm, N, nm, qn, bs, hdct, sn, sub, ab, col, dd, k0, k1, k2, k3, k5, mN, hC, hN, hni, T⟩ := exc_obj I.kIn q
  refine wpAny_call_exc_subT F T hC hN hni (fun h' e hm => ?_) (by show 0 ≤ sizeLine; exact Nat.zero_le _)
  exact mk_of I hm r h (I.hok.gone hm.new)
/-- what the written part says of an own error class without __init__ -/
structure ErrC (K : PySem.W.Frag) (mg : Str → Option Value) (x : Str) : Prop where
  ex : ∃ C, mg x = some (.ref C) ∧ PySem.W.excIn K C [.type "ValueError", .type "Exception", .type "BaseException", .type "object"] "ValueError.__new__" = true ∧ PySem.W.keepIn K (.ref C) = true ∧
    PySem.W.subIn K (.ref C) (.type "BaseException") = some true ∧ PySem.W.typeIn K (.ref C) = some (.type "type")
def mRaise (x : Str) : MS := fun _ g => .err ⟨x, none⟩ g
theorem sRaise {x : Str} {p pos pos2 : Pos} (hc : X.calm = true) (tk : Takes X fun cls d _ H => E cls d H) (T : ErrC X.K X.mg x) (hg : Gl X x) (hdb : (x == ("__debug__" : Str)) = false := by decide) : simS X E (.Raise (some (.Call (.Name x p) [] [] pos)) none pos2) (mRaise x) := by
  obtain ⟨C, gC, xC, kC, bC, tC⟩ := T.ex
  refine PS.imp (ps_raise hc tk (pmk_own0 PySem.F.excBase_ValueError xC gC kC (raises_own bC tC) hg hdb)) fun Dn σ H p => ?_
  obtain ⟨ah, H0, F0, F, e, g, R, p⟩ := p
  exact p F H (.ref C) none R.gd ⟨C, rfl, gC, rfl⟩
end
end Sm

/-! Sm9: repr of flat things, sorted, list(text), dicts, the hand. -/
namespace Sm
open PySem PySem.Spec PyProof.Rows L2

section
variable {X : Cx} {E : XK}
/-! ### repr of what is flat -/
def fRepr : List D → Option D
  | [.none] => some (.str "None")
  | [.bool b] => some (.str (if b then "True" else "False"))
  | [.int i] => if i.natAbs.log2 < 1920 then some (.str (toString i)) else none
  | [.str z] => if (reprText z).length ≤ 1000000 then some (.str (reprText z)) else none
  | _ => none
def rRepr : List V → Hp → VK → Prop := fun xs H Q => (xs = [.non] ∧ Q (.str "None") H) ∨ (∃ b, xs = [.bl b] ∧ Q (.str (if b then "True" else "False")) H) ∨
  (∃ i, xs = [.int i] ∧ i.natAbs.log2 < 1920 ∧ Q (.str (toString i)) H) ∨ ∃ z, xs = [.str z] ∧ (reprText z).length ≤ 1000000 ∧ Q (.str (reprText z)) H
theorem call_repr : CallR X (.builtin "repr") rRepr := by
  intro pins s σ H xs us Q I r h
  rcases h with ⟨rfl, q⟩ | ⟨b, rfl, q⟩ | ⟨i, rfl, hz, q⟩ | ⟨z, rfl, hz, q⟩
  · obtain ⟨u, rfl, t⟩ := vals1 r
    cases t
    exact PySem.P.repr_of_none ⟨.str _, H, I.tok _, ⟨_, rfl⟩, q⟩
  · obtain ⟨u, rfl, t⟩ := vals1 r
    cases t
    exact PySem.P.repr_of_bool ⟨.str _, H, I.tok _, ⟨_, rfl⟩, q⟩
  · obtain ⟨u, rfl, t, rfl⟩ := vals1 r
    exact PySem.P.repr_of_int hz ⟨.str _, H, I.tok _, ⟨_, rfl⟩, q⟩
  · obtain ⟨u, rfl, t, rfl⟩ := vals1 r
    exact PySem.P.repr_of_str ⟨.str _, H, I.tok _, ⟨_, rfl⟩, q⟩ (line_le hz)
theorem repr_s {K : PySem.W.Frag} : CallS K rRepr fRepr := ⟨fun {ah H0 F0 F e g σ H ds v xs Q} R s q k => by
  match ds, q with
  | [.none], q =>
    cases q
    obtain ⟨x, rfl, t⟩ := sees1 s
    exact .inl ⟨by rw [t.non], k F H _ Step.refl R (.str _)⟩
  | [.bool b], q =>
    cases q
    obtain ⟨x, rfl, t⟩ := sees1 s
    exact .inr (.inl ⟨b, by rw [t.bl], k F H _ Step.refl R (.str _)⟩)
  | [.int i], q =>
    have q : (if i.natAbs.log2 < 1920 then some (.str (toString i)) else none) = some v := q
    split at q
    · rename_i hl
      cases q
      obtain ⟨x, rfl, t⟩ := sees1 s
      exact .inr (.inr (.inl ⟨i, by rw [t.int], hl, k F H _ Step.refl R (.str _)⟩))
    · cases q
  | [.str z], q =>
    have q : (if (reprText z).length ≤ 1000000 then some (.str (reprText z)) else none) = some v := q
    split at q
    · rename_i hl
      cases q
      obtain ⟨x, rfl, t⟩ := sees1 s
      exact .inr (.inr (.inr ⟨z, by rw [t.str], hl, k F H _ Step.refl R (.str _)⟩))
    · cases q
  | [], q => cases q
  | [.list _], q => cases q
  | [.tuple _], q => cases q
  | [.dict _], q => cases q
  | a :: b :: r, q => simp [fRepr] at q⟩

/-! ### sorted -/
def alikeB (ds : List D) : Bool := ds.all fun a => ds.all fun b => PySem.W.alike a b
def sortB (ds : List D) : Bool := (ds.all fun d => match d with | .tuple (_ :: _) => true | _ => false) || ds.all fun d => match d with | .none => false | .tuple _ => false | _ => true
def srt (ds : List D) : List D := ds.mergeSort (PySem.W.dataLe false id)
def fSorted : List D → Option (List D)
  | [.list ds] => if alikeB ds && sortB ds && ds.all (fun d => d.canLay0 && decide (d.depth ≤ 40)) && decide (ds.length ≤ 1000000) then some (srt ds) else none
  | _ => none
def rSrt (K : PySem.W.Frag) : List V → Hp → VK → Prop := fun xs H Q => ∃ (a : Addr) (ys : List V) (ds : List D), xs = [.ref a] ∧ SqL K H a ys ∧ DpAll K H ys ds ∧ PySem.W.AllAlike ds ∧ PySem.W.Sortable ds ∧ (∀ d ∈ ds, d.depth ≤ 40) ∧ ds.length ≤ 1000000 ∧
  ∀ p, H p = none → Q (.ref p) (upd H p (.lst (((ds.zip ys).mergeSort (PySem.W.dataLe false Prod.fst)).map Prod.snd)))
theorem each_zip {P : Value → D × V → Prop} {X : Cx} {pins : List (Addr × Obj)} {σ : L2.St} {H : Hp} {s : Shared} (I : Inv X pins σ H s) (hP : ∀ u d y, RelV y u → (∃ as, Reads s.heap u d as) → P u (d, y)) : ∀ {ds : List D} {ys : List V} {us : List Value}, Vals ys us → DpAll X.K H ys ds → PySem.W.EachIs P us (ds.zip ys)
  | [], _, _, r, h => by cases h; cases r; exact .nil
  | d :: ds, _, _, r, h => by
    cases h with
    | cons h1 h2 =>
      cases r with
      | cons r1 r2 => exact .cons (hP _ _ _ r1 (Dp.reads I d _ _ h1 r1)) (each_zip I hP r2 h2)
theorem zip_fst {ds : List D} {ys : List V} (h : ys.length = ds.length) : (ds.zip ys).map Prod.fst = ds := by
  rw [List.map_fst_zip]; omega
theorem dpAll_len {K : PySem.W.Frag} {H : Hp} : ∀ {ys : List V} {ds : List D}, DpAll K H ys ds → ys.length = ds.length
  | _, [], h => by cases h; rfl
  | _, _ :: _, h => by cases h with | cons _ h2 => simp [dpAll_len h2]
theorem vals_out : ∀ {out : List Value} {bs : List (D × V)}, PySem.W.EachIs (fun u b => RelV b.2 u) out bs → Vals (bs.map Prod.snd) out
  | _, _, .nil => .nil
  | _, _, .cons h t => .cons h (vals_out t)
theorem cr_sortedAny (hu : X.A.units + 64 < cLine) : CallR X (.builtin "sorted") (rSrt X.K) := by
  intro pins s σ H vs us Q I r h
  obtain ⟨a, ys, ds, rfl, hs, hd, hal, hk, hdep, hlen, q⟩ := h
  obtain ⟨its, rv, hl, _⟩ := I.list hs
  rw [Vals.ref1 r]
  have el := dpAll_len hd
  have er := each_zip (P := fun u b => ∃ as, Reads s.heap u b.1 as) I (fun _ _ _ _ h => h) rv hd
  have e := each_zip (P := fun u b => RelV b.2 u) I (fun _ _ _ h _ => h) rv hd
  have ez : (ds.zip ys).length = ds.length := by simp [el]
  refine PySem.W.sorted_data (enc := Prod.fst) (R := fun u b => RelV b.2 u) hl.isList e er (by rw [zip_fst el]; exact hal) (by rw [zip_fst el]; exact hk) (by rw [ez]; exact line_le hlen) (fun b hb => ?_) fun out ho eo => ?_
  · have : b.1 ∈ ds := by rw [← zip_fst el]; exact List.mem_map_of_mem hb
    have := hdep _ this
    omega
  · obtain ⟨ep, he'⟩ := PyProof.Rows.sortedAll_at s.heap its out.toArray
    have hz : (((ds.zip ys).mergeSort (PySem.W.dataLe false Prod.fst)).map Prod.snd).length ≤ sizeLine := by rw [List.length_map, List.length_mergeSort, ez]; exact line_le hlen
    exact ⟨.ref _, upd H (s.heap.objs.size + 1) (.lst _), I.laid (t' := s.toks) (fun _ _ => PyProof.Rows.sortedAll_old) (Nat.le_succ _) ⟨hz, out, ep, vals_out eo, he'⟩, rfl, q _ (I.hok.fresh (Nat.le_succ _))⟩
theorem rp_zip {K : PySem.W.Frag} {F : Hp} : ∀ {ds : List D} {ys : List V}, RpAll K F ds ys → ∀ b ∈ ds.zip ys, Rp K F b.1 b.2
  | [], _, _, b, hb => by simp at hb
  | d :: ds, _, h, b, hb => by
    cases h with
    | cons h1 h2 =>
      rw [List.zip_cons_cons] at hb
      rcases List.mem_cons.mp hb with rfl | hb
      · exact h1
      · exact rp_zip h2 b hb
theorem rp_unzip {K : PySem.W.Frag} {F : Hp} : ∀ {bs : List (D × V)}, (∀ b ∈ bs, Rp K F b.1 b.2) → RpAll K F (bs.map Prod.fst) (bs.map Prod.snd)
  | [], _ => .nil
  | _ :: _, h => .cons (h _ List.mem_cons_self) (rp_unzip fun b hb => h b (List.mem_cons_of_mem _ hb))
theorem sort_fst (bs : List (D × V)) : (bs.mergeSort (PySem.W.dataLe false Prod.fst)).map Prod.fst = srt (bs.map Prod.fst) := by
  unfold srt
  exact List.map_mergeSort (fun _ _ _ _ => rfl)
theorem canLay_all {ds : List D} (h : ds.all (fun d => d.canLay0 && decide (d.depth ≤ 40)) = true) : PyData.canLayAll0 ds = true ∧ ∀ d ∈ ds, d.depth ≤ 40 := by
  refine ⟨?_, fun d hd => ?_⟩
  · induction ds with
    | nil => simp [PyData.canLayAll0]
    | cons d ds ih =>
      rw [List.all_cons, Bool.and_eq_true] at h
      simp only [PyData.canLayAll0, Bool.and_eq_true]
      exact ⟨by simpa using (Bool.and_eq_true _ _ ▸ h.1).1, ih h.2⟩
  · have := List.all_eq_true.mp h d hd
    simp at this
    exact this.2
theorem sorted_s {K : PySem.W.Frag} : CallNS K (rSrt K) fSorted := ⟨fun {ah H0 F0 F e g σ H ds vs xs Q} R s q k => by
  match ds, q with
  | [.list ds], q =>
    have q : (if alikeB ds && sortB ds && ds.all (fun d => d.canLay0 && decide (d.depth ≤ 40)) && decide (ds.length ≤ 1000000) then some (srt ds) else none) = some vs := q
    split at q
    · rename_i hc
      cases q
      simp only [Bool.and_eq_true, decide_eq_true_eq] at hc
      obtain ⟨⟨⟨c1, c2⟩, c3⟩, c4⟩ := hc
      obtain ⟨c5, c6⟩ := canLay_all c3
      obtain ⟨x, rfl, t⟩ := sees1 s
      obtain ⟨a, ys, rfl, h1, n1, r1⟩ := t.list R.gd
      refine ⟨a, ys, ds, rfl, SqL.of h1, rps_dp R.gd.sub ds ys c5 r1, fun d hd d' hd' => List.all_eq_true.mp (List.all_eq_true.mp c1 d hd) d' hd', ?_, c6, c4, fun p hp => ?_⟩
      · rcases Bool.or_eq_true _ _ ▸ c2 with c | c
        · refine .inl fun d hd => ?_
          have := List.all_eq_true.mp c d hd
          split at this
          · exact ⟨_, _, rfl⟩
          · cases this
        · refine .inr fun d hd => ?_
          have := List.all_eq_true.mp c d hd
          refine ⟨fun z => ?_, fun xs z => ?_⟩
          · subst z; cases this
          · subst z; cases this
      · obtain ⟨R2, st⟩ := R.waste (o := .lst _) hp
        refine k _ _ p _ st R2 upd_same ?_ (R.gd.freshF hp) hp
        have := rp_unzip (bs := (ds.zip ys).mergeSort (PySem.W.dataLe false Prod.fst)) fun b hb => rp_zip r1 b ((List.mergeSort_perm _ _).mem_iff.mp hb)
        rw [sort_fst, zip_fst r1.len] at this
        exact this
    · cases q
  | [], q => cases q
  | [.none], q => cases q
  | [.bool _], q => cases q
  | [.int _], q => cases q
  | [.str _], q => cases q
  | [.tuple _], q => cases q
  | [.dict _], q => cases q
  | a :: b :: r, q => simp [fSorted] at q⟩

/-! ### list(text) -/
def fListS : List D → Option (List D)
  | [.str z] => if z.cps.size ≤ 1000000 then some (z.cps.toList.map fun c => .str ⟨#[c]⟩) else none
  | [.list ds] => some ds
  | [.tuple ds] => some ds
  | _ => none
def rListS : List V → Hp → VK → Prop := fun xs H Q => ∃ z : Str, xs = [.str z] ∧ z.cps.size ≤ 1000000 ∧ ∀ l, H l = none → Q (.ref l) (upd H l (.lst (z.cps.toList.map fun c => .str ⟨#[c]⟩)))
theorem paired_of_get {α β : Type} {P : α → β → Prop} : ∀ {as : List α} {bs : List β}, as.length = bs.length → (∀ (i : Nat) a b, as[i]? = some a → bs[i]? = some b → P a b) → Paired P as bs
  | [], [], _, _ => .nil
  | [], _ :: _, h, _ => by simp at h
  | _ :: _, [], h, _ => by simp at h
  | a :: as, b :: bs, h, g => .cons (g 0 a b rfl rfl) (paired_of_get (by simpa using h) fun i x y h1 h2 => g (i + 1) x y (by simpa using h1) (by simpa using h2))
theorem call_list_strR (hc : X.calm = true) : CallR X (.type "list") rListS := by
  intro pins s σ H xs us Q I r h
  obtain ⟨z, rfl, hz, q⟩ := h
  obtain ⟨u, rfl, t, rfl⟩ := vals1 r
  refine PySem.call_list_str (I.ok.hd hc) z t (fun h' tk acc' c' hk hS' hacc => ?_) (line_le hz)
  refine ⟨.ref _, _, I.laid hk (Nat.le_refl _) (show ObjOk X.prog X.w _ h' _ (.lst (z.cps.toList.map fun c => V.str ⟨#[c]⟩)) from ⟨by simp; exact line_le hz, acc'.toList, c', ?_, hS'⟩), rfl, q _ (I.hok.fresh (Nat.le_refl _))⟩
  refine paired_of_get (by simp [hacc.1]) fun i x u h1 h2 => ?_
  obtain ⟨c, u', e1, e2⟩ := hacc.2 i u (by simpa using h2)
  rw [List.getElem?_map] at h1
  have e1' : z.cps.toList[i]? = some c := by simpa using e1
  rw [e1'] at h1
  cases h1
  exact ⟨u', e2⟩
def rListAll (K : PySem.W.Frag) : List V → Hp → VK → Prop := fun xs H Q => rListS xs H Q ∨ ∃ p ys, xs = [.ref p] ∧ (SqL K H p ys ∨ SqT K H p ys) ∧ ∀ l, H l = none → Q (.ref l) (upd H l (.lst ys))
theorem call_listAll (hc : X.calm = true) : CallR X (.type "list") (rListAll X.K) := by
  intro pins s σ H xs us Q I r h
  rcases h with h | h
  · exact call_list_strR hc pins s σ H xs us Q I r h
  · exact call_list_of pins s σ H xs us Q I r h
theorem rps_signs {K : PySem.W.Frag} {F : Hp} : ∀ cs : List Nat, RpAll K F (cs.map fun c => .str ⟨#[c]⟩) (cs.map fun c => V.str ⟨#[c]⟩)
  | [] => .nil
  | _ :: cs => .cons (.str _) (rps_signs cs)
theorem listAll_s {K : PySem.W.Frag} : CallNS K (rListAll K) fListS := ⟨fun {ah H0 F0 F e g σ H ds vs xs Q} R s q k => by
  match ds, q with
  | [.str z], q =>
    have q : (if z.cps.size ≤ 1000000 then some (z.cps.toList.map fun c => .str ⟨#[c]⟩) else none) = some vs := q
    split at q
    · rename_i hz
      cases q
      obtain ⟨x, rfl, t⟩ := sees1 s
      refine .inl ⟨z, by rw [t.str], hz, fun a ha => ?_⟩
      obtain ⟨R2, st⟩ := R.waste (o := .lst (z.cps.toList.map fun c => V.str ⟨#[c]⟩)) ha
      exact k _ _ a _ st R2 upd_same (rps_signs _) (R.gd.freshF ha) ha
    · cases q
  | [.list ds], q => exact .inr (list_s.run R s (show fList [.list ds] = some vs from q) k)
  | [.tuple ds], q => exact .inr (list_s.run R s (show fList [.tuple ds] = some vs from q) k)
  | [], q => cases q
  | [.none], q => cases q
  | [.bool _], q => cases q
  | [.int _], q => cases q
  | [.dict _], q => cases q
  | a :: b :: r, q => simp [fListS] at q⟩

/-! ### dicts that a slot owns (keys ints, texts) -/
def keyD : D → Option Key
  | .int i => some (.inl i)
  | .str z => some (.inr z)
  | _ => none
def valD (kvs : List (Key × D)) (k : Key) : Option D := (kvs.find? fun kv => decide (kv.1 = k)).map (·.2)
def putD (kvs : List (Key × D)) (k : Key) (v : D) : List (Key × D) :=
  if (kvs.any fun kv => decide (kv.1 = k)) = true then kvs.map (fun kv => if kv.1 = k then (kv.1, v) else kv) else kvs ++ [(k, v)]
def mergeD (kvs more : List (Key × D)) : List (Key × D) := more.foldl (fun acc kv => putD acc kv.1 kv.2) kvs
section
variable {K : PySem.W.Frag} {F : Hp}
theorem krp_len {κ : Type} {kvs : List (κ × D)} {ks : List (κ × V)} (h : KRp K F kvs ks) : ks.length = kvs.length := by
  unfold KRp at h
  induction h with
  | nil => rfl
  | cons _ _ ih => simp [ih]
theorem krp_val {kvs : List (Key × D)} {ks : List (Key × V)} (h : KRp K F kvs ks) (k : Key) : (∀ d, valD kvs k = some d → ∃ x, valV ks k = some x ∧ Rp K F d x) ∧ (valD kvs k = none → valV ks k = none) := by
  unfold KRp at h
  induction h with
  | nil => exact ⟨fun d z => by simp [valD] at z, fun _ => rfl⟩
  | @cons p q ps qs h t ih =>
    by_cases e : p.1 = k
    · have e1 : valD (p :: ps) k = some p.2 := by simp [valD, List.find?_cons, e]
      rw [e1, valV_pos (h.1 ▸ e)]
      exact ⟨fun d z => by cases z; exact ⟨_, rfl, h.2⟩, fun z => by cases z⟩
    · have e1 : valD (p :: ps) k = valD ps k := by simp [valD, List.find?_cons, e]
      rw [e1, valV_neg (fun z => e (h.1.trans z))]
      exact ih
theorem krp_any {kvs : List (Key × D)} {ks : List (Key × V)} (h : KRp K F kvs ks) (k : Key) : (ks.any fun kv => decide (kv.1 = k)) = kvs.any fun kv => decide (kv.1 = k) := by
  unfold KRp at h
  induction h with
  | nil => rfl
  | cons h t ih => rw [List.any_cons, List.any_cons, ih, h.1]
theorem krp_snoc {κ : Type} {kvs : List (κ × D)} {ks : List (κ × V)} (h : KRp K F kvs ks) {k : κ} {d : D} {x : V} (r : Rp K F d x) : KRp K F (kvs ++ [(k, d)]) (ks ++ [(k, x)]) := PySem.Paired.snoc h ⟨rfl, r⟩
theorem krp_repl {kvs : List (Key × D)} {ks : List (Key × V)} (h : KRp K F kvs ks) (k : Key) {d : D} {x : V} (r : Rp K F d x) :
    KRp K F (kvs.map fun kv => if kv.1 = k then (kv.1, d) else kv) (ks.map fun kv => if kv.1 = k then (kv.1, x) else kv) := by
  unfold KRp at h ⊢
  induction h with
  | nil => exact .nil
  | @cons p q ps qs h t ih =>
    rw [List.map_cons, List.map_cons]
    refine .cons ?_ ih
    by_cases e : p.1 = k
    · rw [if_pos e, if_pos (h.1 ▸ e)]; exact ⟨h.1, r⟩
    · rw [if_neg e, if_neg (fun z => e (h.1.trans z))]; exact h
theorem krp_put {kvs : List (Key × D)} {ks : List (Key × V)} (h : KRp K F kvs ks) (k : Key) {d : D} {x : V} (r : Rp K F d x) : KRp K F (putD kvs k d) (putK ks k x) := by
  unfold putD putK
  rw [krp_any h]
  split
  · exact krp_repl h k r
  · exact krp_snoc h r
theorem krp_merge : ∀ {more : List (Key × D)} {ms : List (Key × V)} {kvs : List (Key × D)} {ks : List (Key × V)}, KRp K F more ms → KRp K F kvs ks → KRp K F (mergeD kvs more) (mergeK ks ms) := by
  intro more ms kvs ks h
  unfold KRp at h
  induction h generalizing kvs ks with
  | nil => intro q; exact q
  | @cons p q ps qs h t ih =>
    intro r0
    have e : KRp K F (putD kvs p.1 p.2) (putK ks q.1 q.2) := by
      have := krp_put r0 p.1 h.2
      rw [← h.1]; exact this
    exact ih e
theorem see_key {ah : Addr} {H : Hp} {d : D} {k : Key} {x : V} (h : keyD d = some k) (s : VSee K ah F H (.dat d) x) : x = kV k := by
  cases d with
  | int i => cases h; exact s.int
  | str z => cases h; exact s.str
  | _ => cases h
theorem KRp.mono {κ : Type} {F' : Hp} {kvs : List (κ × D)} {ks : List (κ × V)} (ex : Ex F F') (h : KRp K F kvs ks) : KRp K F' kvs ks := paired_imp (fun p q r => ⟨r.1, Rp.mono ex _ _ r.2⟩) h
end
/-- the pairs of a display -/
abbrev MKV := SE → Hand → Res (List (Key × D))
def PostKV (K : PySem.W.Frag) (mg : Str → Option Value) (E : XK) (ah : Addr) (H0 F0 F : Hp) (e : SE) (σ : L2.St) (H : Hp) (Q : List (V × V) → Hp → Prop) : Res (List (Key × D)) → Prop
  | .ok kvs g' => ∀ F' H' ks, Step ah F F' H H' → Rel K ah H0 F0 F' e g' σ H' → KRp K F' kvs ks → Q (ks.map fun kv => (kV kv.1, kv.2)) H'
  | .err ex g' => PostX K mg E ah H0 F0 ex g'
  | .stuck => False
structure SimKV (X : Cx) (E : XK) (pos : Pos) (ks : List (Option Expr)) (vs : List Expr) (m : MKV) : Prop where
  ex : ∃ trs, PPs X pos ks vs trs ∧ ∀ ah H0 F0 F e g σ H Q, Rel X.K ah H0 F0 F e g σ H → PostKV X.K X.mg E ah H0 F0 F e σ H Q (m e g) → tPairs trs σ H Q
def mKvNil : MKV := fun _ g => .ok [] g
def mKvCons (mk mv : ME) (ms : MKV) : MKV := fun e g => (mk e g).dat fun k g => (mv e g).dat fun v g => (ms e g).bnd fun kvs g => match keyD k with
  | some k => .ok ((k, v) :: kvs) g
  | none => .stuck
section
variable {K : PySem.W.Frag} {mg : Str → Option Value} {ah : Addr} {H0 F0 F F' H H' : Hp} {e : SE} {g g' : Hand} {σ : L2.St}
theorem postKV_step {Q : List (V × V) → Hp → Prop} {r : Res (List (Key × D))} (s : Step ah F F' H H') (p : PostKV K mg E ah H0 F0 F e σ H Q r) : PostKV K mg E ah H0 F0 F' e σ H' Q r := by
  cases r with
  | ok v g => exact fun F2 H2 x st R v => p F2 H2 x (s.trans st) R v
  | err ex g => exact p
  | stuck => exact p
theorem contKV {Q : List (V × V) → Hp → Prop} : Cont K mg E ah H0 F0 (fun F H r => PostKV K mg E ah H0 F0 F e σ H Q r) := ⟨fun p => p, fun p => p, postKV_step⟩
theorem bindKV {γ : Type} [Out γ] {W : Hp → Hp → γ → Prop} (c : Cont K mg E ah H0 F0 W) {r : Res (List (Key × D))} {f : List (Key × D) → Hand → γ} {Q : List (V × V) → Hp → Prop} (p : W F H (r.bnd f))
    (k : ∀ {kvs g' F' H' ks}, Step ah F F' H H' → Rel K ah H0 F0 F' e g' σ H' → KRp K F' kvs ks → W F' H' (f kvs g') → Q (ks.map fun kv => (kV kv.1, kv.2)) H') : PostKV K mg E ah H0 F0 F e σ H Q r := by
  cases r with
  | ok v g => exact fun F2 H2 x st R s => k st R s (c.step st p)
  | err ex g => exact c.err p
  | stuck => exact c.stuck p
end
theorem kvNil {pos : Pos} : SimKV X E pos [] [] mKvNil := ⟨[], pps_nil, fun ah H0 F0 F e g σ H Q R p => p F H [] Step.refl R .nil⟩
theorem kvCons {pos : Pos} {k v : Expr} {ks : List (Option Expr)} {vs : List Expr} {mk mv : ME} {ms : MKV} (hk : simE X E k mk) (hv : simE X E v mv) (hr : SimKV X E pos ks vs ms) : SimKV X E pos (some k :: ks) (v :: vs) (mKvCons mk mv ms) := by
  obtain ⟨trs, pp, hs⟩ := hr.ex
  refine ⟨_, pps_cons hk hv pp, fun ah H0 F0 F e g σ H Q R p => ?_⟩
  refine ⟨ah, H0, F0, F, e, g, R, bindED contKV p fun st R s p => ⟨ah, H0, F0, _, e, _, R, bindED contKV p fun {d2} {g2} {F2} {H2} {y2} st2 R2 s2 p2 => hs ah H0 F0 F2 e g2 σ H2 _ R2 (bindKV contKV p2 fun {kvs} {g3} {F3} {H3} {ks3} st3 R3 s3 p3 => ?_)⟩⟩
  split at p3
  · rename_i k' hk'
    have e1 := see_key (ah := ah) (H := H3) hk' (VRep.see (v := .dat _) (Rp.mono (st2.ext.trans st3.ext) _ _ s))
    have := p3 F3 H3 ((k', y2) :: ks3) Step.refl R3 (.cons ⟨rfl, Rp.mono st3.ext _ _ s2⟩ s3)
    rw [e1]
    exact this
  · exact p3.elim
def mOwnD (i : Nat) (m : MKV) : MS := fun e g => (m e g).bnd fun kvs g => if kvs.length ≤ 15 then .nx (e.set i (.own (.dK (mergeD [] kvs)))) g else .stuck
theorem sOwnD {i : Nat} {x : Str} {ks : List (Option Expr)} {vs : List Expr} {m : MKV} {p2 pos pos' : Pos} (hN : X.N.Nodup) (hi : X.N[i]? = some x) (hx : Loc X.env.scope x) (he : SimKV X E p2 ks vs m) (hall : ks.all (·.isSome) = true := by rfl) (hl : ks.length = vs.length := by rfl) (h0 : ks ≠ [] := by exact fun z => by cases z) (h15 : ks.length ≤ 15 := by decide)
    (hs : swapsWith (.Dict ks vs p2) (some (.Name x pos')) pos.line X.env = pure false := by rfl)
    (hf : X.fn x = true ∨ X.env.scope.names.lookup x = some .local := by first | exact .inl rfl | exact .inr rfl | assumption) : simS X E (.Assign [.Name x pos'] (.Dict ks vs p2) pos) (mOwnD i m) := by
  obtain ⟨trs, pp, hs'⟩ := he.ex
  refine PS.imp (ps_set hN hi hx (pe_disp pp hall hl h0 h15) hs hf) fun Dn σ H p => ?_
  obtain ⟨ah, H0, F0, F, e, g, R, p⟩ := p
  intro b hb
  obtain ⟨R1, st1⟩ := R.waste (o := .dK []) hb
  have nb := R.gd.fresh_ne hb
  have no : ∀ j, ¬ OwnAt e σ j b := R.notOwn hb (fun _ _ _ h => h)
  refine hs' ah H0 F0 F e g σ _ _ R1 (bindKV contS p fun {kvs} {g2} {F2} {H2} {ks2} st2 R2 s2 p2 => ?_)
  split at p2
  · rename_i hlen
    have hb2 : H2 b = some (.dK []) := st2.keep b _ nb upd_same
    refine ⟨hb2, ks2, rfl, by rw [krp_len s2]; exact hlen, ?_⟩
    have fb : F2 b = none := by
      cases z : F2 b with
      | none => rfl
      | some u =>
        rcases st2.new b u z with w | w
        · rw [R.gd.freshF hb] at w; cases w
        · rw [upd_same] at w; cases w
    exact p2 _ _ _ (Ex.refl _) ((R2.updFree fb nb (R.gd.fresh0 hb) no).setOwn (c := .dK _) (o := .dK (mergeK [] ks2)) i upd_same (krp_merge (K := X.K) (F := F2) (kvs := []) (ks := []) s2 Paired.nil) fb nb (R.gd.fresh0 hb) no)
  · exact p2.elim
/-- name = {} -/
def mOwnD0 (i : Nat) : MS := fun e g => .nx (e.set i (.own (.dK []))) g
theorem sOwnD0 {i : Nat} {x : Str} {p2 pos pos' : Pos} (hN : X.N.Nodup) (hi : X.N[i]? = some x) (hx : Loc X.env.scope x)
    (hs : swapsWith (.Dict [] [] p2) (some (.Name x pos')) pos.line X.env = pure false := by rfl)
    (hf : X.fn x = true ∨ X.env.scope.names.lookup x = some .local := by first | exact .inl rfl | exact .inr rfl | assumption) : simS X E (.Assign [.Name x pos'] (.Dict [] [] p2) pos) (mOwnD0 i) := PS.imp (ps_set hN hi hx pe_dnewK hs hf) fun Dn σ H p => by
  obtain ⟨ah, H0, F0, F, e, g, R, p⟩ := p
  intro b hb
  obtain ⟨R1, st1⟩ := R.waste (o := .dK []) hb
  exact p _ _ _ (Ex.refl _) (R1.setOwn (c := .dK []) (o := .dK []) i upd_same Paired.nil (R.gd.freshF hb) (R.gd.fresh_ne hb) (R.gd.fresh0 hb) (R.notOwn hb (fun _ _ _ h => h)))
/-- {} as data that stands still -/
theorem eEmp {pos : Pos} : simE X E (.Dict [] [] pos) (mC (.dict [])) := PE.imp pe_dnewK fun σ H Q p => by
  obtain ⟨ah, H0, F0, F, e, g, R, p⟩ := p
  intro b hb
  obtain ⟨R1, st1⟩ := R.froz (o := .dK []) hb
  exact p _ _ _ st1 R1 (Rp.emp upd_same)
/-- d[k] -/
def mDGet (i : Nat) (mk : ME) : ME := fun e g => match e[i]? with
  | some (.own (.dK kvs)) => (mk e g).dat fun k g => match keyD k with
    | some k => Res.ofO (valD kvs k) g
    | none => .stuck
  | _ => .stuck
theorem eDGet (i : Nat) {x : Str} {k : Expr} {mk : ME} {p pos : Pos} (hu : X.A.units + 64 < cLine) (hx : PE X (.Name x p) (tVar i)) (hk : simP X E k mk) (hs : NoSl k) : simE X E (.Subscript (.Name x p) k pos) (mDGet i mk) := PE.imp (pe_dget (by omega) hx hk hs) fun σ H Q p => by
  obtain ⟨ah, H0, F0, F, e, g, R, p⟩ := p
  unfold mDGet at p
  split at p
  · rename_i kvs hi
    obtain ⟨b, o, h2, q2, q3, fa, ha', h0⟩ := R.owned hi
    cases o with
    | dK ks =>
      refine ⟨.ref b, h2, ah, H0, F0, F, e, g, R, bindPD contE p fun {d} {g1} {F1} {H1} {y} st R1 s1 p1 => ?_⟩
      split at p1
      · rename_i k' hk'
        obtain ⟨v, hv, q⟩ := ofO_ok p1
        obtain ⟨z, hz, rz⟩ := (krp_val (KRp.mono st.ext q3) k').1 v hv
        rw [see_key hk' s1]
        exact ⟨b, z, rfl, hz ▸ DGet.k (st.keep b _ ha' q2), q F1 H1 z Step.refl R1 rz⟩
      · exact p1.elim
    | _ => exact q3.elim
  · exact p.elim
/-- d[k] = v -/
def mDSet (i : Nat) (mk mv : ME) : MS := fun e g => (mv e g).dat fun v g => match e[i]? with
  | some (.own (.dK kvs)) => (mk e g).dat fun k g => match keyD k with
    | some k => if kvs.length < 1000000 then .nx (e.set i (.own (.dK (putD kvs k v)))) g else .stuck
    | none => .stuck
  | _ => .stuck
theorem sDSet (i : Nat) {x : Str} {k v : Expr} {mk mv : ME} {p p2 pos : Pos} (hu : X.A.units + 64 < cLine) (hx : PE X (.Name x p) (tVar i)) (hk : simP X E k mk) (hv : simE X E v mv)
    (hs : swapsWith v (some (.Subscript (.Name x p) k p2)) pos.line X.env = pure false := by rfl) : simS X E (.Assign [.Subscript (.Name x p) k p2] v pos) (mDSet i mk mv) := PS.imp (ps_dput (by omega) hx hk hv hs) fun Dn σ H p => by
  obtain ⟨ah, H0, F0, F, e, g, R, p⟩ := p
  refine ⟨ah, H0, F0, F, e, g, R, bindED contS p fun {d} {g1} {F1} {H1} {y} st R1 r1 p => ?_⟩
  split at p
  · rename_i kvs hi
    obtain ⟨b, o, h2, q2, q3, fa, ha', h0⟩ := R1.owned hi
    cases o with
    | dK ks =>
      refine ⟨.ref b, h2, ah, H0, F0, F1, e, g1, R1, bindPD contS p fun {d2} {g2} {F2} {H2} {z} st2 R2 s2 p2 => ?_⟩
      split at p2
      · rename_i k' hk'
        split at p2
        · rename_i hl
          rw [see_key hk' s2]
          have q4 := KRp.mono st2.ext q3
          exact ⟨b, _, rfl, DPut.k (st2.keep b _ ha' q2) (by rw [krp_len q4]; exact line_lt hl), p2 _ _ _ (Ex.refl _) (R2.upOwn (c' := .dK (putD kvs k' d)) (o' := .dK (putK ks k' y)) hi h2 (krp_put q4 k' (Rp.mono st2.ext _ _ r1)))⟩
        · exact p2.elim
      · exact p2.elim
    | _ => exact q3.elim
  · exact p.elim

/-! ### the hand -/
def hGet (g : Hand) : Nat → Option D
  | 0 => some (.list (g.cells.map .int))
  | 1 => some (.int g.ix)
  | 2 => some (.int g.rest)
  | 3 => some (.int g.acc)
  | 4 => some (.int g.cnt)
  | _ => none
def hSet (g : Hand) (v : Int) : Nat → Option Hand
  | 1 => some { g with ix := v }
  | 2 => some { g with rest := v }
  | 3 => some { g with acc := v }
  | 4 => some { g with cnt := v }
  | _ => none
def mHix (i k : Nat) : ME := fun e g => match e[i]? with
  | some (.val .hand) => Res.ofO (hGet g k) g
  | _ => .stuck
theorem eHix (i k : Nat) {x : Str} {j : Nat} {p p2 pos : Pos} {z : Int} (hx : PE X (.Name x p) (tVar i)) (hz : z = (k : Int) := by rfl) (hs : PlainIx (.Constant (.int z) j p2) := by exact fun _ _ => rfl) : simE X E (.Subscript (.Name x p) (.Constant (.int z) j p2) pos) (mHix i k) := PE.imp (pe_ix ix_list hx pe_int hs) fun σ H Q p => by
  obtain ⟨ah, H0, F0, F, e, g, R, p⟩ := p
  unfold mHix at p
  split at p
  · rename_i hi
    obtain ⟨y, hy, r⟩ := R.val hi
    have r : y = .ref ah := r
    subst r
    obtain ⟨v, hv, q⟩ := ofO_ok p
    obtain ⟨ca, h1, h2⟩ := R.gd.hand
    subst hz
    refine ⟨_, hy, ah, [.ref ca, .int g.ix, .int g.rest, .int g.acc, .int g.cnt], (k : Int), ?_⟩
    match k, hv with
    | 0, hv => cases hv; exact ⟨_, rfl, rfl, SqL.of h1, atI_nat (j := 0) rfl, q F H _ Step.refl R (Rp.lst h2 RpAll.ints)⟩
    | 1, hv => cases hv; exact ⟨_, rfl, rfl, SqL.of h1, atI_nat (j := 1) rfl, q F H _ Step.refl R (.int _)⟩
    | 2, hv => cases hv; exact ⟨_, rfl, rfl, SqL.of h1, atI_nat (j := 2) rfl, q F H _ Step.refl R (.int _)⟩
    | 3, hv => cases hv; exact ⟨_, rfl, rfl, SqL.of h1, atI_nat (j := 3) rfl, q F H _ Step.refl R (.int _)⟩
    | 4, hv => cases hv; exact ⟨_, rfl, rfl, SqL.of h1, atI_nat (j := 4) rfl, q F H _ Step.refl R (.int _)⟩
    | n + 5, hv => cases hv
  · exact p.elim
theorem Rel.updHand {K : PySem.W.Frag} {ah : Addr} {H0 F0 F H : Hp} {e : SE} {g g' : Hand} {σ : L2.St} {o : HO} (R : Rel K ah H0 F0 F e g σ H) (h : HandAt K F (upd H ah o) ah g') : Rel K ah H0 F0 F e g' σ (upd H ah o) := by
  have G := R.gd
  refine ⟨⟨fun a u h => ?_, G.fah, h, G.ext, G.new, fun a u na h => ?_⟩, ⟨R.env.len, fun i s x z1 z2 => ?_, R.env.apart⟩, R.own⟩
  · rw [upd_ne (fun z => by rw [z, G.fah] at h; cases h)]; exact G.sub a u h
  · rw [upd_ne na]; exact G.keep a u na h
  · have q := R.env.at_ i s x z1 z2
    cases s with
    | no => trivial
    | val v => exact q
    | own c =>
      obtain ⟨b, ob, e1, e2, e3, e4, e5⟩ := q
      exact ⟨b, ob, e1, by rw [upd_ne e5]; exact e2, e3, e4, e5⟩
/-- hand[k] = v -/
def mHSet (i k : Nat) (m : ME) : MS := fun e g => (m e g).dat fun d g => match d with
  | .int v => match e[i]? with
    | some (.val .hand) => match hSet g v k with
      | some g' => .nx e g'
      | none => .stuck
    | _ => .stuck
  | _ => .stuck
theorem sHSet (i k : Nat) {x : Str} {j : Nat} {v : Expr} {m : ME} {z : Int} {p p2 p3 pos : Pos} (hx : PE X (.Name x p) (tVar i)) (hv : simE X E v m) (hz : z = (k : Int) := by rfl)
    (ha : ∀ w, assign (.Subscript (.Name x p) (.Constant (.int z) j p3) p2) X.env w = (do
      let ov ← holding [w] (eval (.Name x p) X.env)
      let iv ← holding [w, ov] (eval (.Constant (.int z) j p3) X.env)
      standAt p2
      holding [w, ov, iv] (setItem ov iv w)
      release [w, ov, iv] []) := by intro _; rfl)
    (hs : swapsWithSole [.Subscript (.Name x p) (.Constant (.int z) j p3) p2] v pos.line X.env = pure false := by rfl) (hw : swappedStores [.Subscript (.Name x p) (.Constant (.int z) j p3) p2] v X.env = pure none := by rfl)
    (h1 : (assignEach [.Subscript (.Name x p) (.Constant (.int z) j p3) p2] X.env).map (·.2) = [assign (.Subscript (.Name x p) (.Constant (.int z) j p3) p2) X.env] := by rfl) :
    simS X E (.Assign [.Subscript (.Name x p) (.Constant (.int z) j p3) p2] v pos) (mHSet i k m) := PS.imp (ps_asg hv (pg_sub hx pe_int set_list ha) hs hw h1) fun Dn σ H p => by
  obtain ⟨ah, H0, F0, F, e, g, R, p⟩ := p
  refine ⟨ah, H0, F0, F, e, g, R, bindED contS p fun {d} {g1} {F1} {H1} {y} st R1 r1 p => ?_⟩
  cases d with
  | int w =>
    cases (show Rp X.K F1 (.int w) y from r1)
    have p : PostS X.K X.mg E ah H0 F0 F1 Dn (match e[i]? with | some (.val .hand) => (match hSet g1 w k with | some g' => .nx e g' | none => .stuck) | _ => .stuck) := p
    split at p
    · rename_i hi
      obtain ⟨y, hy, r⟩ := R1.val hi
      have r : y = .ref ah := r
      subst r
      obtain ⟨ca, hh1, h2⟩ := R1.gd.hand
      subst hz
      split at p
      · rename_i g' hg'
        refine ⟨_, hy, ah, _, (k : Int), k, rfl, rfl, hh1, ?_⟩
        match k, hg' with
        | 1, hg' => cases hg'; exact ⟨rfl, p _ _ _ (Ex.refl _) (R1.updHand ⟨ca, upd_same, h2⟩)⟩
        | 2, hg' => cases hg'; exact ⟨rfl, p _ _ _ (Ex.refl _) (R1.updHand ⟨ca, upd_same, h2⟩)⟩
        | 3, hg' => cases hg'; exact ⟨rfl, p _ _ _ (Ex.refl _) (R1.updHand ⟨ca, upd_same, h2⟩)⟩
        | 4, hg' => cases hg'; exact ⟨rfl, p _ _ _ (Ex.refl _) (R1.updHand ⟨ca, upd_same, h2⟩)⟩
        | 0, hg' => cases hg'
        | n + 5, hg' => cases hg'
      · exact p.elim
    · exact p.elim
  | _ => exact p.elim
end
end Sm

/-! Sm10: facts of the text, the hand's maker, the law's top. -/
namespace Sm
open PySem PySem.Spec PyProof.Rows L2

/-! ### facts of the text -/
structure Txf (K : PySem.W.Frag) (mg : Str → Option Value) (x : Str) (st : Stmt) (ps : List Str) : Prop where
  ex : ∃ f fd, mg x = some (.ref f) ∧ Fun K x x st f fd ∧ Binds K fd ps []
/-- a def and its promise -/
structure Ok (P : Program) (w : World) (K : PySem.W.Frag) (mg : Str → Option Value) (base : Heap) (x : Str) (k n : Nat) (mf : List Val → Hand → Res Val) : Prop where
  ex : ∃ f fd ps, mg x = some (.ref f) ∧ PySem.W.keepIn K (.ref f) = true ∧ Binds K fd ps [] ∧ FnOk P w K mg base (L2.CX P w) k f fd ps (spOf K mg n mf)
section
variable {P : Program} {w : World} {K : PySem.W.Frag} {mg : Str → Option Value} {base : Heap}
theorem okOf {x : Str} {st : Stmt} {N ps : List Str} {k n np : Nat} {b : MS} (T : Txf K mg x st ps) (S : FnScope N ps (defScope st)) (hN : N.length = n) (hp : ps.length = np)
    (hb : ∀ (f : Addr) (cdv : Value) (A : Around) (outer : List Env) (s : Shared) (H : Hp) (E : XK), Room k (A.deeper (envOfC x (defScope st) s.heap.objs.size f cdv)) → simB (cxOf (L2.CX P w) P w K mg base N x (defScope st) f cdv A outer s H E) E (defBody st) b) :
    Ok P w K mg base x (k + 1) np (fnM n b) := by
  obtain ⟨f, fd, h1, h2, h3⟩ := T.ex
  subst hN; subst hp
  exact ⟨f, fd, ps, h1, h2.kp, h3, fnOk h2 S fun cdv A outer s H E hr => hb f cdv A outer s H E hr⟩
/-- a def that is never called so (for the ground of a recursion) -/
def fnNo (_ : List Val) (_ : Hand) : Res Val := .stuck
theorem okNo {x : Str} {st : Stmt} {N ps : List Str} {k np : Nat} (T : Txf K mg x st ps) (S : FnScope N ps (defScope st)) (hp : ps.length = np) : Ok P w K mg base x (k + 1) np fnNo := by
  obtain ⟨f, fd, h1, h2, h3⟩ := T.ex
  subst hp
  exact ⟨f, fd, ps, h1, h2.kp, h3, h2.okX S spOf_len fun cdv A outer s H vs Q E hr h => by
    obtain ⟨ah, F, g, args, _, _, _, _, _, p⟩ := h
    exact p.elim⟩
theorem Ok.up {x : Str} {k j n : Nat} {mf : List Val → Hand → Res Val} (h : Ok P w K mg base x k n mf) (e : k = j) : Ok P w K mg base x j n mf := e ▸ h
end
section
variable {X : Cx} {E : XK}
theorem eCal {k n : Nat} {mf : List Val → Hand → Res Val} {x : Str} {p pos : Pos} {e : Expr} {es : List Expr} {ms : MA} (G : Ok X.prog X.w X.K X.mg X.base x k n mf) (hr : Room k X.A) (hg : Gl X x)
    (hx : Passes (L2.CX X.prog X.w) X E) (ha : simA X E (e :: es) ms) (hn : ∀ e g vs g', ms e g = .ok vs g' → vs.length = n) (hdb : (x == ("__debug__" : Str)) = false := by decide)
    (he : starEach (e :: es) X.env = (false, eval e X.env) :: starEach es X.env := by rfl) (hpl : (backTo pos (starEach es X.env)).any (·.1) = false := by rfl) : simE X E (.Call (.Name x p) (e :: es) [] pos) (mCall mf ms) := by
  obtain ⟨f, fd, ps, h1, h2, h3, h4⟩ := G.ex
  exact eCall h4 hr hg h1 h2 h3 hx ha hn hdb he hpl
/-- a module's int -/
theorem eGI {x : Str} {i : Int} {pos : Pos} (hm : ∃ t, X.mg x = some (.int i t)) (hg : Gl X x) (hd : (x == ("__debug__" : Str)) = false := by decide) : simE X E (.Name x pos) (mC (.int i)) := by
  obtain ⟨t, hm⟩ := hm
  exact eGlob hg hm (v := .int i) ⟨t, rfl⟩ (fun _ => .int i) hd
/-- a module's text -/
theorem eGS {x : Str} {z : Str} {pos : Pos} (hm : ∃ t, X.mg x = some (.str z t)) (hg : Gl X x) (hd : (x == ("__debug__" : Str)) = false := by decide) : simE X E (.Name x pos) (mC (.str z)) := by
  obtain ⟨t, hm⟩ := hm
  exact eGlob hg hm (v := .str z) ⟨t, rfl⟩ (fun _ => .str z) hd
end

/-! ### the hand's maker -/
def hand0 (cs : List Int) (acc : Int) : Hand := ⟨cs, 0, 0, acc, 0⟩
def spHand (K : PySem.W.Frag) : Sp := fun vs H Q _ => ∃ (a : Addr) (ns : List Int), vs = [.ref a] ∧ SqL K H a (ns.map V.int) ∧ ns.length ≤ 63 ∧
  ∀ (H' : Hp) (p ca : Addr) (cs : List Int) (acc : Int), Ex H H' → H p = none → H ca = none → p ≠ ca → H' ca = some (.lst (cs.map V.int)) → H' p = some (.lst [.ref ca, .int 0, .int 0, .int acc, .int 0]) → Q (.ref p) H'
/-- what the body of _law_hand asks -/
def tHand (K : PySem.W.Frag) : TS := tSeq (tAsg (tLc (iList K (tSl (rSlL K) (tVar 0) tNoPart (tPart (tC (.int 63))))) (gName 2) tYes (tCB (fun xs H Q => ∃ i, xs = [.int i] ∧ Q (.int (if i < 0 then -i else i)) H) (tCons (tCB (fun xs H Q => (∃ i, xs = [.int i] ∧ Q (.int i) H) ∨ ∃ k, xs = [.bl k] ∧ Q (.int (if k then 1 else 0)) H) (tCons (tVar 2) tNil)) tNil)) [2]) (gName 1))
  (tRet (tLst (tCons (tVar 1) (tCons (tC (.int 0)) (tCons (tC (.int 0)) (tCons (tOp (rI0 fun i j => .int (i + j)) (tC (.int 349)) (tOp (rI CMulA fun i j => .int (i * j)) (tC (.int 277)) (tCB (fun xs H Q => ∃ p ys, xs = [.ref p] ∧ (SqL K H p ys ∨ SqT K H p ys) ∧ Q (.int ys.length) H) (tCons (tVar 1) tNil)))) (tCons (tC (.int 0)) tNil)))))))
theorem cut_ints (ns : List Int) (lo hi : Option Int) : ∃ ms : List Int, cutV (ns.map V.int) lo hi = ms.map V.int ∧ ms.length ≤ ns.length := by
  unfold cutV
  refine ⟨(ns.drop (HT.sIx (ns.map V.int).length 0 lo)).take (HT.sIx (ns.map V.int).length (ns.map V.int).length hi - HT.sIx (ns.map V.int).length 0 lo), ?_, ?_⟩
  · rw [List.map_take, List.map_drop]
  · rw [List.length_take, List.length_drop]; omega
theorem hand_body {K : PySem.W.Frag} {vs : List V} {H : Hp} {Q : VK} {Ex' : XK} (h : spHand K vs H Q Ex') : tHand K { nx := fun _ H' => Q .non H', rt := Q } (start ["script", "all_cells", "cell"] vs) H := by
  obtain ⟨a, ns, rfl, hS, hlen, q⟩ := h
  refine ⟨.ref a, rfl, 63, rfl, a, ns.map V.int, rfl, hS, fun c hc => ?_⟩
  obtain ⟨ms, e1, e2⟩ := cut_ints ns none (some 63)
  rw [e1]
  have kc : Ex H (upd H c (.lst (ms.map V.int))) := Ex.upd hc
  refine ⟨c, rfl, ⟨_, SqL.of upd_same⟩, fun d hd => ?_⟩
  have ncd : c ≠ d := fun z => by rw [z, ← z, upd_same] at hd; cases hd
  have hd0 : H d = none := by rw [upd_ne ncd.symm] at hd; exact hd
  refine lc_it (walk_list (K := K) (a := c) (xs := ms.map V.int)) (fun i H1 => Ex (upd H c (.lst (ms.map V.int))) (upd H1 d (.lst [])) ∧ H1 c = some (.lst (ms.map V.int)) ∧ ∃ cs : List Int, H1 d = some (.lst (cs.map V.int)) ∧ cs.length ≤ i ∧ ∀ b, H1 b = none → b ≠ d) ⟨?_, ?_, [], upd_same, Nat.zero_le _, fun b z e => by subst e; rw [upd_same] at z; cases z⟩ (fun i H1 _ h => SqL.of h.2.1) (fun i x H1 H2 hi ⟨p1, p2, cs, p3, p4, p5⟩ y => ?_) (fun H1 ⟨p1, p2, cs, p3, p4, p5⟩ => ?_)
  · intro b o e
    by_cases z : b = d
    · subst z; rw [hd] at e; cases e
    · rw [upd_ne z, upd_ne z]; exact e
  · rw [upd_ne ncd]; exact upd_same
  · obtain ⟨rfl, ey⟩ := y
    rw [List.getElem?_map] at ey
    obtain ⟨z, ez, rfl⟩ := Option.map_eq_some_iff.mp ey
    refine ⟨rfl, ?_⟩
    unfold tYes
    show (if _ then _ else _)
    rw [if_pos rfl]
    refine ⟨.int z, rfl, .inl ⟨z, rfl, z, rfl, cs.map V.int, p3, ?_, ?_⟩⟩
    · rw [List.length_map]
      have : i < ms.length := by simpa using hi
      exact Nat.lt_of_le_of_lt p4 (Nat.lt_of_lt_of_le this (Nat.le_trans e2 (Nat.le_trans hlen (by decide))))
    · refine ⟨fun b o e => ?_, by rw [upd_ne ncd]; exact p2, cs ++ [if z < 0 then -z else z], ?_, by rw [List.length_append, List.length_singleton]; omega, fun b e w => ?_⟩
      · by_cases w : b = d
        · subst w; rw [hd] at e; cases e
        · rw [upd_ne w, upd_ne w]
          have := p1 b o e
          rw [upd_ne w] at this
          exact this
      · rw [upd_same, List.map_append]; rfl
      · subst w; rw [upd_same] at e; cases e
  · refine ⟨.ref d, rfl, .ref d, rfl, d, cs.map V.int, rfl, .inl (SqL.of p3), 277, ((cs.map V.int).length : Int), rfl, rfl, ?_, 349, 277 * ((cs.map V.int).length : Int), rfl, rfl, (by decide : 5 ≤ sizeLine), fun p hp => ?_⟩
    · unfold CMulA mulOk
      simp
    · have pd : p ≠ d := p5 p hp
      have ed : ∀ b o, upd H c (.lst (ms.map V.int)) b = some o → H1 b = some o := fun b o e => by
        have := p1 b o e
        by_cases w : b = d
        · subst w; rw [hd] at e; cases e
        · rw [upd_ne w] at this; exact this
      have hp0 : H p = none := by
        cases w : H p with
        | none => rfl
        | some o => rw [ed p o (kc p o w)] at hp; cases hp
      refine q _ p d cs _ (fun b o e => ?_) hp0 hd0 pd ?_ upd_same
      · have e2 := ed b o (kc b o e)
        rw [upd_ne (ne_of_none e2 hp)]; exact e2
      · rw [upd_ne pd.symm]; exact p3
section
variable {P : Program} {w : World} {K : PySem.W.Frag} {mg : Str → Option Value} {base : Heap}
structure OkH (P : Program) (w : World) (K : PySem.W.Frag) (mg : Str → Option Value) (base : Heap) (x : Str) (k : Nat) : Prop where
  ex : ∃ f fd ps, mg x = some (.ref f) ∧ PySem.W.keepIn K (.ref f) = true ∧ Binds K fd ps [] ∧ FnOk P w K mg base (L2.CX P w) k f fd ps (spHand K)
theorem okHand {x : Str} {st : Stmt} {k : Nat} (T : Txf K mg x st ["script"]) (S : FnScope ["script", "all_cells", "cell"] ["script"] (defScope st))
    (hb : ∀ (f : Addr) (cdv : Value) (A : Around) (outer : List Env) (s : Shared) (H : Hp) (E : XK), Room k (A.deeper (envOfC x (defScope st) s.heap.objs.size f cdv)) → PSs (cxOf (L2.CX P w) P w K mg base ["script", "all_cells", "cell"] x (defScope st) f cdv A outer s H E) (defBody st) (tHand K)) :
    OkH P w K mg base x (k + 1) := by
  obtain ⟨f, fd, h1, h2, h3⟩ := T.ex
  exact ⟨f, fd, _, h1, h2.kp, h3, h2.okX S (fun vs H Q E h => by obtain ⟨a, ns, rfl, _⟩ := h; rfl) fun cdv A outer s H vs Q E hr h => ⟨_, hb f cdv A outer s H E hr, hand_body h⟩⟩

/-! ### the law's top -/
def spLaw (K : PySem.W.Frag) : Sp := fun vs H Q _ => ∃ (a : Addr) (ns : List Int), vs = [.ref a] ∧ SqL K H a (ns.map V.int) ∧ ns.length ≤ 63 ∧ ∀ H', Q (.bl true) H'
def tTop (K : PySem.W.Frag) (E : XK) (t : TS) : TS := tSeq (tAsg (tCall (spHand K) [] E (tCons (tVar 0) tNil)) (gName 1)) t
theorem pe_hand {X : Cx} {E : XK} {k : Nat} {x : Str} {p pos : Pos} {e : Expr} {te : TE} (G : OkH X.prog X.w X.K X.mg X.base x k) (hr : Room k X.A) (hg : Gl X x) (hx : Passes (L2.CX X.prog X.w) X E) (ha : PE X e te) (hdb : (x == ("__debug__" : Str)) = false := by decide)
    (he : starEach (e :: []) X.env = (false, eval e X.env) :: starEach [] X.env := by rfl) (hpl : (backTo pos (starEach [] X.env)).any (·.1) = false := by rfl) : PE X (.Call (.Name x p) [e] [] pos) (tCall (spHand X.K) [] E (tCons te tNil)) := by
  obtain ⟨f, fd, ps, h1, h2, h3, h4⟩ := G.ex
  exact pe_call h4 hr hg h1 h2 h3 .nil hx (pa_cons ha pa_nil he) hdb he hpl
theorem okLaw {st : Stmt} {N : List Str} {k n : Nat} {b : MS} {f : Addr} {fd : FuncData} (F : Fun K "law" "law" st f fd) (S : FnScope N ["script"] (defScope st)) (hN : N.length = n + 2)
    (hb : ∀ (cdv : Value) (A : Around) (outer : List Env) (s : Shared) (H : Hp) (E : XK), Room k (A.deeper (envOfC "law" (defScope st) s.heap.objs.size f cdv)) → PSs (cxOf (L2.CX P w) P w K mg base N "law" (defScope st) f cdv A outer s H E) (defBody st) (tTop K E (trS K mg E b)))
    (hm : ∀ (v : V) (cs : List Int) (acc : Int), ∃ g, b (.val (.ref v) :: .val .hand :: List.replicate n .no) (hand0 cs acc) = .ret (.dat (.bool true)) g) :
    FnOk P w K mg base (L2.CX P w) (k + 1) f fd ["script"] (spLaw K) := by
  refine F.okX S (fun vs H Q E h => by obtain ⟨a, ns, rfl, _⟩ := h; rfl) fun cdv A outer s H vs Q E hr h => ⟨_, hb cdv A outer s H E hr, ?_⟩
  obtain ⟨a, ns, rfl, hS, hlen, q⟩ := h
  have es : start N [.ref a] = some (.ref a) :: List.replicate (n + 1) none := by
    unfold L2.start
    rw [hN]; rfl
  rw [es]
  refine ⟨.ref a, rfl, a, ns, rfl, hS, hlen, fun H' p ca cs acc hx hp hca npc h1 h2 => ?_⟩
  show (gName 1) _ _ _ _
  refine ⟨p, H', upd (fun _ => none) ca (.lst (cs.map V.int)), upd (fun _ => none) ca (.lst (cs.map V.int)), .val (.ref (.ref a)) :: .val .hand :: List.replicate n .no, hand0 cs acc, ?_, ?_⟩
  · refine ⟨⟨fun b o e => ?_, ?_, ⟨ca, h2, upd_same⟩, Ex.refl _, fun b o e => .inl e, fun b o _ e => e⟩, ⟨?_, fun i s x z1 z2 => ?_, fun i j b _ ⟨⟨c, z⟩, _⟩ _ => ?_⟩, fun i b ⟨⟨c, z⟩, _⟩ => ?_⟩
    · by_cases w : b = ca
      · subst w; rw [upd_same] at e; cases e; exact h1
      · rw [upd_ne w] at e; cases e
    · rw [upd_ne npc]
    · simp
    · match i with
      | 0 => cases z1; cases z2; exact ⟨_, rfl, rfl⟩
      | 1 => cases z1; cases z2; exact ⟨_, rfl, rfl⟩
      | i + 2 =>
        have z1 : (List.replicate n Slot.no)[i]? = some s := z1
        rw [List.getElem?_replicate] at z1
        split at z1
        · cases z1; trivial
        · cases z1
    all_goals
      match i, z with
      | 0, z => cases z
      | 1, z => cases z
      | i + 2, z =>
        have z1 : (List.replicate n Slot.no)[i]? = some (Slot.own c) := z
        rw [List.getElem?_replicate] at z1
        split at z1 <;> cases z1
  · obtain ⟨g, hg⟩ := hm (.ref a) cs acc
    rw [hg]
    exact fun F' H'' x G r => by
      cases (show Rp K F' (.bool true) x from r)
      exact q _
end
end Sm

/-! Sm11: what the printed terms use. -/
namespace Sm
open PySem PySem.Spec PyProof.Rows L2
section
variable {P : Program} {w : World} {K : PySem.W.Frag} {mg : Str → Option Value} {base : Heap} {N : List Str} {q : Str} {sc : Scope} {f : Addr} {cdv : Value} {A : Around} {outer : List Env} {s : Shared} {H : Hp} {E : XK}
theorem cxT : Takes (cxOf (L2.CX P w) P w K mg base N q sc f cdv A outer s H E) (fun cls d _ H => E cls d H) := takes_of rfl rfl rfl rfl
theorem cxP : Passes (L2.CX P w) (cxOf (L2.CX P w) P w K mg base N q sc f cdv A outer s H E) E := passes_call cxT (fun _ _ _ _ h => h)
theorem cxO : PassesOwn (model P w) (cxOf (L2.CX P w) P w K mg base N q sc f cdv A outer s H E).A (cxOf (L2.CX P w) P w K mg base N q sc f cdv A outer s H E).env (cxOf (L2.CX P w) P w K mg base N q sc f cdv A outer s H E).xe := passes_of rfl
end
theorem Room.u65 {k : Nat} {A : Around} (r : Room k A) : A.units + 65 < cLine := by have := r.un; omega
theorem bt_len : bootBuiltins "len" = some (.builtin "len") := by decide +kernel
theorem bt_abs : bootBuiltins "abs" = some (.builtin "abs") := by decide +kernel
theorem bt_all : bootBuiltins "all" = some (.builtin "all") := by decide +kernel
theorem bt_any : bootBuiltins "any" = some (.builtin "any") := by decide +kernel
theorem bt_sum : bootBuiltins "sum" = some (.builtin "sum") := by decide +kernel
theorem bt_min : bootBuiltins "min" = some (.builtin "min") := by decide +kernel
theorem bt_max : bootBuiltins "max" = some (.builtin "max") := by decide +kernel
theorem bt_sorted : bootBuiltins "sorted" = some (.builtin "sorted") := by decide +kernel
theorem bt_repr : bootBuiltins "repr" = some (.builtin "repr") := by decide +kernel
theorem bt_int : bootBuiltins "int" = some (.type "int") := by decide +kernel
theorem bt_bool : bootBuiltins "bool" = some (.type "bool") := by decide +kernel
theorem bt_str : bootBuiltins "str" = some (.type "str") := by decide +kernel
theorem bt_list : bootBuiltins "list" = some (.type "list") := by decide +kernel
theorem bt_tuple : bootBuiltins "tuple" = some (.type "tuple") := by decide +kernel
theorem bt_dict : bootBuiltins "dict" = some (.type "dict") := by decide +kernel
end Sm

/-! Sm12: how a mirror is computed: loops, comprehensions. -/
namespace Sm
open PySem L2
theorem forL_nx {t : MG} {b : MS} (I : Nat → SE → Hand → Prop) : ∀ (ds : List D) (k : Nat) (e : SE) (g : Hand), I k e g →
    (∀ i d e g, ds[i]? = some d → I (k + i) e g → ∃ e1 e2 g2, t d e = some e1 ∧ (b e1 g = .nx e2 g2 ∨ b e1 g = .ct e2 g2) ∧ I (k + i + 1) e2 g2) → ∃ e' g', mForL t b ds e g = .nx e' g' ∧ I (k + ds.length) e' g'
  | [], k, e, g, h, _ => ⟨e, g, rfl, h⟩
  | d :: ds, k, e, g, h, hs => by
    obtain ⟨e1, e2, g2, h1, h2, h3⟩ := hs 0 d e g rfl h
    have h3 : I (k + 1) e2 g2 := h3
    obtain ⟨e', g', h4, h5⟩ := forL_nx I ds (k + 1) e2 g2 h3 fun i d' e g q p => by
      have := hs (i + 1) d' e g (by simpa using q) (by rw [show k + (i + 1) = k + 1 + i by omega]; exact p)
      rw [show k + (i + 1) + 1 = k + 1 + i + 1 by omega] at this
      exact this
    refine ⟨e', g', ?_, by rw [show k + (d :: ds).length = k + 1 + ds.length by simp; omega]; exact h5⟩
    show (match t d e with | some e1 => (b e1 g).loop (mForL t b ds) | none => .stuck) = _
    rw [h1]
    rcases h2 with h2 | h2
    · show (b e1 g).loop (mForL t b ds) = _
      rw [h2]; exact h4
    · show (b e1 g).loop (mForL t b ds) = _
      rw [h2]; exact h4
/-- .. that may return within -/
theorem forL_ret {t : MG} {b : MS} (I : Nat → SE → Hand → Prop) (Z : Val → Hand → Prop) : ∀ (ds : List D) (k : Nat) (e : SE) (g : Hand), I k e g →
    (∀ i d e g, ds[i]? = some d → I (k + i) e g → ∃ e1, t d e = some e1 ∧ ((∃ e2 g2, b e1 g = .nx e2 g2 ∧ I (k + i + 1) e2 g2) ∨ ∃ v g2, b e1 g = .ret v g2 ∧ Z v g2)) →
    (∃ e' g', mForL t b ds e g = .nx e' g' ∧ I (k + ds.length) e' g') ∨ ∃ v g', mForL t b ds e g = .ret v g' ∧ Z v g'
  | [], k, e, g, h, _ => .inl ⟨e, g, rfl, h⟩
  | d :: ds, k, e, g, h, hs => by
    obtain ⟨e1, h1, h2⟩ := hs 0 d e g rfl h
    have e0 : mForL t b (d :: ds) e g = (b e1 g).loop (mForL t b ds) := by
      show (match t d e with | some e1 => (b e1 g).loop (mForL t b ds) | none => .stuck) = _
      rw [h1]
    rw [e0]
    rcases h2 with ⟨e2, g2, h2, h3⟩ | ⟨v, g2, h2, h3⟩
    · have h3 : I (k + 1) e2 g2 := h3
      rw [h2]
      have := forL_ret I Z ds (k + 1) e2 g2 h3 fun i d' e g q p => by
        have := hs (i + 1) d' e g (by simpa using q) (by rw [show k + (i + 1) = k + 1 + i by omega]; exact p)
        rw [show k + (i + 1) + 1 = k + 1 + i + 1 by omega] at this
        exact this
      rw [show k + (d :: ds).length = k + 1 + ds.length by simp; omega]
      exact this
    · rw [h2]
      exact .inr ⟨v, g2, rfl, h3⟩
/-- a while loop: what is left to do is at most k -/
theorem while_nx {t : MT} {b : MS} (I : Nat → SE → Hand → Prop) (Z : SE → Hand → Prop) (hs : ∀ k e g, I k e g → (∃ g', t e g = .ok false g' ∧ Z e g') ∨ ∃ g1 e2 g2 k', t e g = .ok true g1 ∧ (b e g1 = .nx e2 g2 ∨ b e g1 = .ct e2 g2) ∧ k' < k ∧ I k' e2 g2) :
    ∀ (n k : Nat) (e : SE) (g : Hand), I k e g → k < n → ∃ e' g', mWhile t b n e g = .nx e' g' ∧ Z e' g'
  | 0, _, _, _, _, h => by omega
  | n + 1, k, e, g, h, hn => by
    rcases hs k e g h with ⟨g', h1, h2⟩ | ⟨g1, e2, g2, k', h1, h2, h3, h4⟩
    · refine ⟨e, g', ?_, h2⟩
      show ((t e g).bnd fun c g => if c then (b e g).loop (mWhile t b n) else .nx e g) = _
      rw [h1]; rfl
    · obtain ⟨e', g', h5, h6⟩ := while_nx I Z hs n k' e2 g2 h4 (by omega)
      refine ⟨e', g', ?_, h6⟩
      show ((t e g).bnd fun c g => if c then (b e g).loop (mWhile t b n) else .nx e g) = _
      rw [h1]
      show (if true = true then (b e g1).loop (mWhile t b n) else .nx e g1) = _
      rw [if_pos rfl]
      rcases h2 with h2 | h2
      · rw [h2]; exact h5
      · rw [h2]; exact h5
/-- a comprehension whose parts do not touch the hand -/
theorem lc_pure {t : MG} {c : MT} {el : ME} {vs : List Nat} {e : SE} {g : Hand} (P : D → Bool) (F : D → D) : ∀ (ds : List D),
    (∀ d ∈ ds, ∃ e1, t d (wipeE e vs) = some e1 ∧ c e1 g = .ok (P d) g ∧ (P d = true → el e1 g = .ok (.dat (F d)) g)) → mLcL t c el vs ds e g = .ok ((ds.filter P).map F) g
  | [], _ => rfl
  | d :: ds, h => by
    obtain ⟨e1, h1, h2, h3⟩ := h d List.mem_cons_self
    have ih := lc_pure P F ds fun d' hd => h d' (List.mem_cons_of_mem _ hd)
    show (match t d (wipeE e vs) with
      | some e1 => (c e1 g).calm.bnd fun b g => if b then (el e1 g).calm.dat fun y g => (mLcL t c el vs ds e g).bnd fun ys g => (Res.ok (y :: ys) g : Res (List D)) else mLcL t c el vs ds e g
      | none => .stuck) = _
    rw [h1]
    show ((c e1 g).calm.bnd fun b g => if b then (el e1 g).calm.dat fun y g => (mLcL t c el vs ds e g).bnd fun ys g => (Res.ok (y :: ys) g : Res (List D)) else mLcL t c el vs ds e g) = _
    rw [h2]
    show (if P d = true then (el e1 g).calm.dat fun y g => (mLcL t c el vs ds e g).bnd fun ys g => (Res.ok (y :: ys) g : Res (List D)) else mLcL t c el vs ds e g) = _
    cases q : P d with
    | false =>
      rw [if_neg Bool.false_ne_true, ih, List.filter_cons, q]; rfl
    | true =>
      rw [if_pos rfl, h3 q]
      show ((mLcL t c el vs ds e g).bnd fun ys g => (Res.ok (F d :: ys) g : Res (List D))) = _
      rw [ih, List.filter_cons, q]; rfl
theorem lc_map {t : MG} {el : ME} {vs : List Nat} {e : SE} {g : Hand} (F : D → D) (ds : List D) (h : ∀ d ∈ ds, ∃ e1, t d (wipeE e vs) = some e1 ∧ el e1 g = .ok (.dat (F d)) g) : mLcL t mYes el vs ds e g = .ok (ds.map F) g := by
  have := lc_pure (t := t) (c := mYes) (el := el) (vs := vs) (e := e) (g := g) (fun _ => true) F ds fun d hd => by
    obtain ⟨e1, h1, h2⟩ := h d hd
    exact ⟨e1, h1, rfl, fun _ => h2⟩
  rw [this, List.filter_eq_self.mpr (fun _ _ => rfl)]
/-- .. whose element draws -/
theorem lc_hand {t : MG} {el : ME} {vs : List Nat} {e : SE} (J : Hand → Prop) (Z : D → Prop) : ∀ (ds : List D) (g : Hand), J g →
    (∀ d ∈ ds, ∀ g, J g → ∃ e1 y g', t d (wipeE e vs) = some e1 ∧ el e1 g = .ok (.dat y) g' ∧ J g' ∧ Z y) → ∃ ys g', mLcL t mYes el vs ds e g = .ok ys g' ∧ J g' ∧ ys.length = ds.length ∧ ∀ y ∈ ys, Z y
  | [], g, hg, _ => ⟨[], g, rfl, hg, rfl, fun _ h => by cases h⟩
  | d :: ds, g, hg, h => by
    obtain ⟨e1, y, g1, h1, h2, h3, h4⟩ := h d List.mem_cons_self g hg
    obtain ⟨ys, g', h5, h6, h7, h8⟩ := lc_hand J Z ds g1 h3 fun d' hd => h d' (List.mem_cons_of_mem _ hd)
    refine ⟨y :: ys, g', ?_, h6, by simp [h7], fun z hz => ?_⟩
    · show (match t d (wipeE e vs) with
        | some e1 => (mYes e1 g).calm.bnd fun b g => if b then (el e1 g).calm.dat fun y g => (mLcL t mYes el vs ds e g).bnd fun ys g => (Res.ok (y :: ys) g : Res (List D)) else mLcL t mYes el vs ds e g
        | none => .stuck) = _
      rw [h1]
      show ((el e1 g).calm.dat fun y g => (mLcL t mYes el vs ds e g).bnd fun ys g => (Res.ok (y :: ys) g : Res (List D))) = _
      rw [h2]
      show ((mLcL t mYes el vs ds e g1).bnd fun ys g => (Res.ok (y :: ys) g : Res (List D))) = _
      rw [h5]; rfl
    · rcases List.mem_cons.mp hz with rfl | hz
      · exact h4
      · exact h8 z hz
end Sm

/-! Sm13: computing a mirror step by step (the rest of a step stands as a name until it is its turn). -/
namespace Sm
open PySem L2
section
variable {γ α : Type} [Out γ]
theorem bnd_err {e : Exc} {g : Hand} {f : α → Hand → γ} : (Res.err e g : Res α).bnd f = Out.err e g := rfl
theorem dat_err {e : Exc} {g : Hand} {f : D → Hand → γ} : (Res.err e g : Res Val).dat f = Out.err e g := rfl
theorem outR {β : Type} {e : Exc} {g : Hand} : (Out.err e g : Res β) = .err e g := rfl
theorem outS {e : Exc} {g : Hand} : (Out.err e g : SR) = .err e g := rfl
end
section
variable {e : SE} {g : Hand} {d a b : D} {v w : Val} {vs : List Val} {ds : List D} {ma mb mc me mo m mk mv : ME} {ms : MA} {mn : MN} {f f' : D → D → Option D} {h : D → Option D} {t u : MT} {s s' : MS} {i j l k N : Nat} {lo hi : MO}
theorem seq_nx {f : SE → Hand → SR} : (SR.nx e g).seq f = f e g := rfl
theorem seq_ret {f : SE → Hand → SR} : (SR.ret v g).seq f = .ret v g := rfl
theorem seq_brk {f : SE → Hand → SR} : (SR.brk e g).seq f = .brk e g := rfl
theorem seq_ct {f : SE → Hand → SR} : (SR.ct e g).seq f = .ct e g := rfl
theorem seq_err {x : Exc} {f : SE → Hand → SR} : (SR.err x g).seq f = .err x g := rfl
theorem seq_ap : mSeq s s' e g = (s e g).seq s' := rfl
theorem nx_ap : mNext e g = .nx e g := rfl
theorem brk_ap : mBreak e g = .brk e g := rfl
theorem ofO_some : Res.ofO (some d) g = .ok (.dat d) g := rfl
-- expressions
def rVar (o : Option Slot) (g : Hand) : Res Val := match o with | some (.val v) => .ok v g | _ => .stuck
theorem var_ap : mVar i e g = rVar e[i]? g := rfl
theorem rVar_v : rVar (some (.val v)) g = .ok v g := rfl
def rPeek (o : Option Slot) (g : Hand) : Res Val := match o with | some (.val v) => .ok v g | some (.own (.lst ds)) => .ok (.dat (.list ds)) g | _ => .stuck
theorem peek_ap : mPeek i e g = rPeek e[i]? g := rfl
theorem rPeek_v : rPeek (some (.val v)) g = .ok v g := rfl
theorem rPeek_o : rPeek (some (.own (.lst ds))) g = .ok (.dat (.list ds)) g := rfl
theorem c_ap : mC d e g = .ok (.dat d) g := rfl
def kOp1 (h : D → Option D) (a : D) (g : Hand) : Res Val := Res.ofO (h a) g
theorem op1_ap : mOp1 h ma e g = (ma e g).dat (kOp1 h) := rfl
theorem kOp1_ap : kOp1 h a g = Res.ofO (h a) g := rfl
def kOp2a (f : D → D → Option D) (mb : ME) (e : SE) (a : D) (g : Hand) : Res Val := (mb e g).dat fun b g => Res.ofO (f a b) g
def kOp2b (f : D → D → Option D) (a : D) (b : D) (g : Hand) : Res Val := Res.ofO (f a b) g
theorem op2_ap : mOp2 f ma mb e g = (ma e g).dat (kOp2a f mb e) := rfl
theorem kOp2a_ap : kOp2a f mb e a g = (mb e g).dat (kOp2b f a) := rfl
theorem kOp2b_ap : kOp2b f a b g = Res.ofO (f a b) g := rfl
def kTest (a : D) (g : Hand) : Res Bool := match a with | .bool b => .ok b g | _ => .stuck
theorem test_ap : mTest ma e g = (ma e g).dat kTest := rfl
theorem kTest_ap {c : Bool} : kTest (.bool c) g = .ok c g := rfl
def kAnd (u : MT) (e : SE) (b : Bool) (g : Hand) : Res Bool := if b then u e g else .ok false g
theorem and_ap : mAnd t u e g = (t e g).bnd (kAnd u e) := rfl
theorem kAnd_t : kAnd u e true g = u e g := rfl
theorem kAnd_f : kAnd u e false g = .ok false g := rfl
def kOr (u : MT) (e : SE) (b : Bool) (g : Hand) : Res Bool := if b then .ok true g else u e g
theorem or_ap : mOr t u e g = (t e g).bnd (kOr u e) := rfl
theorem kOr_t : kOr u e true g = .ok true g := rfl
theorem kOr_f : kOr u e false g = u e g := rfl
def kNot (b : Bool) (g : Hand) : Res Bool := .ok (!b) g
theorem not_ap : mNot t e g = (t e g).bnd kNot := rfl
theorem kNot_ap {c : Bool} : kNot c g = .ok (!c) g := rfl
def kAndV (mb : ME) (e : SE) (a : D) (g : Hand) : Res Val := match a with | .bool true => mb e g | .bool false => .ok (.dat (.bool false)) g | _ => .stuck
theorem andV_ap : mAndV ma mb e g = (ma e g).dat (kAndV mb e) := rfl
theorem kAndV_t : kAndV mb e (.bool true) g = mb e g := rfl
theorem kAndV_f : kAndV mb e (.bool false) g = .ok (.dat (.bool false)) g := rfl
def kOrV (mb : ME) (e : SE) (a : D) (g : Hand) : Res Val := match a with | .bool true => .ok (.dat (.bool true)) g | .bool false => mb e g | _ => .stuck
theorem orV_ap : mOrV ma mb e g = (ma e g).dat (kOrV mb e) := rfl
theorem kOrV_t : kOrV mb e (.bool true) g = .ok (.dat (.bool true)) g := rfl
theorem kOrV_f : kOrV mb e (.bool false) g = mb e g := rfl
def kNotV (a : D) (g : Hand) : Res Val := match a with | .bool b => .ok (.dat (.bool (!b))) g | _ => .stuck
theorem notV_ap : mNotV ma e g = (ma e g).dat kNotV := rfl
theorem kNotV_ap {c : Bool} : kNotV (.bool c) g = .ok (.dat (.bool (!c))) g := rfl
def kIf (ma mb : ME) (e : SE) (b : Bool) (g : Hand) : Res Val := if b then ma e g else mb e g
theorem if_ap : mIf t ma mb e g = (t e g).bnd (kIf ma mb e) := rfl
theorem kIf_t : kIf ma mb e true g = ma e g := rfl
theorem kIf_f : kIf ma mb e false g = mb e g := rfl
def kCh1 (f f' : D → D → Option D) (mb mc : ME) (e : SE) (a : D) (g : Hand) : Res Val := (mb e g).dat fun b g => (Res.ofO (f a b) g).dat fun k g => match k with
  | .bool true => (mc e g).dat fun c g => Res.ofO (f' b c) g
  | .bool false => .ok (.dat (.bool false)) g
  | _ => .stuck
def kCh3 (f' : D → D → Option D) (mc : ME) (e : SE) (b : D) (k : D) (g : Hand) : Res Val := match k with
  | .bool true => (mc e g).dat fun c g => Res.ofO (f' b c) g
  | .bool false => .ok (.dat (.bool false)) g
  | _ => .stuck
def kCh2 (f f' : D → D → Option D) (mc : ME) (e : SE) (a b : D) (g : Hand) : Res Val := (Res.ofO (f a b) g).dat (kCh3 f' mc e b)
theorem chain_ap : mChain f f' ma mb mc e g = (ma e g).dat (kCh1 f f' mb mc e) := rfl
theorem kCh1_ap : kCh1 f f' mb mc e a g = (mb e g).dat (kCh2 f f' mc e a) := rfl
theorem kCh2_ap : kCh2 f f' mc e a b g = (Res.ofO (f a b) g).dat (kCh3 f' mc e b) := rfl
theorem kCh3_t : kCh3 f' mc e b (.bool true) g = (mc e g).dat (kOp2b f' b) := rfl
theorem kCh3_f : kCh3 f' mc e b (.bool false) g = .ok (.dat (.bool false)) g := rfl
-- arguments
theorem nilA_ap : mANil e g = .ok [] g := rfl
def kA2 (v : Val) (vs : List Val) (g : Hand) : Res (List Val) := .ok (v :: vs) g
def kA1 (ms : MA) (e : SE) (v : Val) (g : Hand) : Res (List Val) := (ms e g).bnd (kA2 v)
theorem consA_ap : mACons m ms e g = (m e g).bnd (kA1 ms e) := rfl
theorem kA1_ap : kA1 ms e v g = (ms e g).bnd (kA2 v) := rfl
theorem kA2_ap : kA2 v vs g = .ok (v :: vs) g := rfl
theorem nilO_ap : mONil e g = .ok [] g := rfl
def kO2 (d : D) (ds : List D) (g : Hand) : Res (List D) := .ok (d :: ds) g
def kO1 (mn : MN) (e : SE) (d : D) (g : Hand) : Res (List D) := (mn e g).bnd (kO2 d)
theorem consO_ap : mOCons m mn e g = (m e g).dat (kO1 mn e) := rfl
theorem kO1_ap : kO1 mn e d g = (mn e g).bnd (kO2 d) := rfl
theorem kO2_ap : kO2 d ds g = .ok (d :: ds) g := rfl
theorem call_ap {mf : List Val → Hand → Res Val} : mCall mf ms e g = (ms e g).bnd mf := rfl
def kDisp (vs : List Val) (g : Hand) : Res (List D) := match datas vs with | some ds => if ds.length ≤ 1000000 then .ok ds g else .stuck | none => .stuck
theorem disp_ap : mDisp ms e g = (ms e g).bnd kDisp := rfl
theorem kDisp_ap (h1 : datas vs = some ds) (h2 : ds.length ≤ 1000000) : kDisp vs g = .ok ds g := by unfold kDisp; rw [h1]; exact if_pos h2
def kTupl (vs : List Val) (g : Hand) : Res Val := match datas vs with | some ds => if ds.length ≤ 1000000 then .ok (.dat (.tuple ds)) g else .stuck | none => .stuck
theorem tup_ap : mTup ms e g = (ms e g).bnd kTupl := rfl
theorem kTupl_ap (h1 : datas vs = some ds) (h2 : ds.length ≤ 1000000) : kTupl vs g = .ok (.dat (.tuple ds)) g := by unfold kTupl; rw [h1]; exact if_pos h2
theorem kDisp_0 : kDisp [] g = .ok [] g := rfl
theorem kDisp_1 {a : D} : kDisp [.dat a] g = .ok [a] g := rfl
theorem kDisp_2 {a b : D} : kDisp [.dat a, .dat b] g = .ok [a, b] g := rfl
theorem kDisp_3 {a b c : D} : kDisp [.dat a, .dat b, .dat c] g = .ok [a, b, c] g := rfl
theorem kDisp_4 {a b c d : D} : kDisp [.dat a, .dat b, .dat c, .dat d] g = .ok [a, b, c, d] g := rfl
theorem kDisp_5 {a b c d e : D} : kDisp [.dat a, .dat b, .dat c, .dat d, .dat e] g = .ok [a, b, c, d, e] g := rfl
theorem kTupl_0 : kTupl [] g = .ok (.dat (.tuple [])) g := rfl
theorem kTupl_1 {a : D} : kTupl [.dat a] g = .ok (.dat (.tuple [a])) g := rfl
theorem kTupl_2 {a b : D} : kTupl [.dat a, .dat b] g = .ok (.dat (.tuple [a, b])) g := rfl
theorem kTupl_3 {a b c : D} : kTupl [.dat a, .dat b, .dat c] g = .ok (.dat (.tuple [a, b, c])) g := rfl
def kCB (f : List D → Option D) (ds : List D) (g : Hand) : Res Val := Res.ofO (f ds) g
theorem cb_ap {f : List D → Option D} : mCB f mn e g = (mn e g).bnd (kCB f) := rfl
theorem kCB_ap {f : List D → Option D} : kCB f ds g = Res.ofO (f ds) g := rfl
def rN (o : Option (List D)) (g : Hand) : Res (List D) := match o with | some vs => .ok vs g | none => .stuck
theorem rN_some : rN (some ds) g = .ok ds g := rfl
def kCN (f : List D → Option (List D)) (ds : List D) (g : Hand) : Res (List D) := rN (f ds) g
theorem cn_ap {f : List D → Option (List D)} : mCN f mn e g = (mn e g).bnd (kCN f) := rfl
theorem kCN_ap {f : List D → Option (List D)} : kCN f ds g = rN (f ds) g := rfl
def kL (ds : List D) (g : Hand) : Res Val := .ok (.dat (.list ds)) g
theorem l_ap : mL mn e g = (mn e g).bnd kL := by
  unfold mL kL
  rfl
theorem kL_ap : kL ds g = .ok (.dat (.list ds)) g := rfl
def kLc (t : MG) (c : MT) (el : ME) (vs : List Nat) (e : SE) (ds : List D) (g : Hand) : Res (List D) := if ds.length < 1000000 then mLcL t c el vs ds e g else .stuck
theorem lc_ap {tg : MG} {c : MT} {el : ME} {vs : List Nat} : mLc mn tg c el vs e g = (mn e g).bnd (kLc tg c el vs e) := rfl
theorem kLc_ap {tg : MG} {c : MT} {el : ME} {vs : List Nat} (h : ds.length < 1000000) : kLc tg c el vs e ds g = mLcL tg c el vs ds e g := if_pos h
def kIt (d : D) (g : Hand) : Res (List D) := rN (itemsOf d) g
theorem items_ap : mItems m e g = (m e g).dat kIt := by
  unfold mItems
  cases m e g with
  | ok v g =>
    cases v with
    | dat d => show (match itemsOf d with | some ds => _ | none => _) = rN (itemsOf d) g; cases itemsOf d <;> rfl
    | _ => rfl
  | _ => rfl
theorem kIt_l : kIt (.list ds) g = .ok ds g := rfl
theorem kIt_t : kIt (.tuple ds) g = .ok ds g := rfl
theorem kIt_s {z : Str} : kIt (.str z) g = .ok (z.cps.toList.map fun c => .str ⟨#[c]⟩) g := rfl
def kR1 (ds : List D) (g : Hand) : Res (List D) := mRng1 (fun _ g => .ok ds g) [] g
theorem rng1_ap : mRng1 mn e g = (mn e g).bnd kR1 := rfl
theorem kR1_ap {n : Int} (h : r62 n = true) : kR1 [.int n] g = .ok (rangeD 0 n.toNat) g := by
  unfold kR1 mRng1
  simp [h, Res.bnd]
def kR2 (ds : List D) (g : Hand) : Res (List D) := mRng2 (fun _ g => .ok ds g) [] g
theorem rng2_ap : mRng2 mn e g = (mn e g).bnd kR2 := rfl
def kZip (ds : List D) (g : Hand) : Res (List D) := mZip (fun _ g => .ok ds g) [] g
theorem zip_ap : mZip mn e g = (mn e g).bnd kZip := rfl
def kM1a (f : Str → D → Option D) (me : ME) (e : SE) (a : D) (g : Hand) : Res Val := match a with | .str z => (me e g).dat fun b g => Res.ofO (f z b) g | _ => .stuck
def kM1b (f : Str → D → Option D) (z : Str) (b : D) (g : Hand) : Res Val := Res.ofO (f z b) g
theorem m1_ap {f : Str → D → Option D} : mM1 f mo me e g = (mo e g).dat (kM1a f me e) := rfl
theorem kM1a_ap {f : Str → D → Option D} {z : Str} : kM1a f me e (.str z) g = (me e g).dat (kM1b f z) := rfl
theorem kM1b_ap {f : Str → D → Option D} {z : Str} : kM1b f z b g = Res.ofO (f z b) g := rfl
def kM0 (f : Str → Option D) (a : D) (g : Hand) : Res Val := match a with | .str z => Res.ofO (f z) g | _ => .stuck
theorem m0_ap {f : Str → Option D} : mM0 f mo e g = (mo e g).dat (kM0 f) := rfl
theorem kM0_ap {f : Str → Option D} {z : Str} : kM0 f (.str z) g = Res.ofO (f z) g := rfl
def kSl3 (d : D) (l : Option Int) (h : Option Int) (g : Hand) : Res Val := Res.ofO (fSl d l h) g
def kSl2 (hi : MO) (e : SE) (d : D) (l : Option Int) (g : Hand) : Res Val := (hi e g).bnd (kSl3 d l)
def kSl1 (lo hi : MO) (e : SE) (d : D) (g : Hand) : Res Val := (lo e g).bnd (kSl2 hi e d)
theorem sl_ap : mSl m lo hi e g = (m e g).dat (kSl1 lo hi e) := rfl
theorem kSl1_ap : kSl1 lo hi e d g = (lo e g).bnd (kSl2 hi e d) := rfl
theorem kSl2_ap {z : Option Int} : kSl2 hi e d z g = (hi e g).bnd (kSl3 d z) := rfl
theorem kSl3_ap {z y : Option Int} : kSl3 d z y g = Res.ofO (fSl d z y) g := rfl
theorem noPart_ap : mNoPart e g = .ok none g := rfl
def kPart (d : D) (g : Hand) : Res (Option Int) := match d with | .int i => .ok (some i) g | _ => .stuck
theorem part_ap : mPart m e g = (m e g).dat kPart := by
  unfold mPart
  cases m e g with
  | ok v g =>
    cases v with
    | dat d => cases d <;> rfl
    | _ => rfl
  | _ => rfl
theorem kPart_ap {z : Int} : kPart (.int z) g = .ok (some z) g := rfl
def kIsi (ts : List String) (d : D) (g : Hand) : Res Val := .ok (.dat (.bool (isiD ts d))) g
theorem isi_ap {ts : List String} : mIsi ts m e g = (m e g).dat (kIsi ts) := rfl
theorem kIsi_ap {ts : List String} : kIsi ts d g = .ok (.dat (.bool (isiD ts d))) g := rfl
-- statements
def kSet (i : Nat) (e : SE) (v : Val) (g : Hand) : SR := .nx (e.set i (.val v)) g
theorem set_ap : mSet i m e g = (m e g).bnd (kSet i e) := rfl
theorem kSet_ap : kSet i e v g = .nx (e.set i (.val v)) g := rfl
def kOwn (i : Nat) (e : SE) (ds : List D) (g : Hand) : SR := .nx (e.set i (.own (.lst ds))) g
theorem own_ap : mOwn i mn e g = (mn e g).bnd (kOwn i e) := rfl
theorem kOwn_ap : kOwn i e ds g = .nx (e.set i (.own (.lst ds))) g := rfl
def kRet (v : Val) (g : Hand) : SR := .ret v g
theorem ret_ap : mRet m e g = (m e g).bnd kRet := rfl
theorem kRet_ap : kRet v g = .ret v g := rfl
def kDrop (e : SE) (_ : Val) (g : Hand) : SR := .nx e g
theorem drop_ap : mDrop m e g = (m e g).bnd (kDrop e) := rfl
theorem kDrop_ap : kDrop e v g = .nx e g := rfl
def kIfS (a b : MS) (e : SE) (c : Bool) (g : Hand) : SR := if c then a e g else b e g
theorem ifS_ap : mIfS t s s' e g = (t e g).bnd (kIfS s s' e) := rfl
theorem kIfS_t : kIfS s s' e true g = s e g := rfl
theorem kIfS_f : kIfS s s' e false g = s' e g := rfl
def kPar (i j : Nat) (e : SE) (vs : List Val) (g : Hand) : SR := match vs with | [v, w] => .nx ((e.set i (.val v)).set j (.val w)) g | _ => .stuck
theorem par_ap : mPar i j ms e g = (ms e g).bnd (kPar i j e) := rfl
theorem kPar_ap : kPar i j e [v, w] g = .nx ((e.set i (.val v)).set j (.val w)) g := rfl
def kPar3 (i j l : Nat) (e : SE) (vs : List Val) (g : Hand) : SR := match vs with | [u, v, w] => .nx (((e.set i (.val u)).set j (.val v)).set l (.val w)) g | _ => .stuck
theorem par3_ap : mPar3 i j l ms e g = (ms e g).bnd (kPar3 i j l e) := rfl
theorem kPar3_ap {u : Val} : kPar3 i j l e [u, v, w] g = .nx (((e.set i (.val u)).set j (.val v)).set l (.val w)) g := rfl
def rSt (o : Option SE) (g : Hand) : SR := match o with | some e => .nx e g | none => .stuck
theorem rSt_some : rSt (some e) g = .nx e g := rfl
def kUnp (t : MG) (e : SE) (d : D) (g : Hand) : SR := rSt (t d e) g
theorem unp_ap {tg : MG} : mUnp m tg e g = (m e g).dat (kUnp tg e) := by
  unfold mUnp
  cases m e g with
  | ok v g =>
    cases v with
    | dat d => show (match tg d e with | some e' => _ | none => _) = rSt (tg d e) g; cases tg d e <;> rfl
    | _ => rfl
  | _ => rfl
theorem kUnp_ap {tg : MG} : kUnp tg e d g = rSt (tg d e) g := rfl
theorem kName_ap : kName i d e = some (e.set i (.val (.dat d))) := rfl
theorem kTup2_ap {ta tb : MG} : kTup 2 (kCons ta (kCons tb kNil)) (.tuple [a, b]) e = (ta a e).bind (fun e => (tb b e)) := by
  show (ta a e).bind (fun e => (tb b e).bind fun e => some e) = _
  simp
theorem kTup3_ap {c : D} {ta tb tc : MG} : kTup 3 (kCons ta (kCons tb (kCons tc kNil))) (.tuple [a, b, c]) e = (ta a e).bind (fun e => (tb b e).bind fun e => tc c e) := by
  show (ta a e).bind (fun e => (tb b e).bind fun e => (tc c e).bind fun e => some e) = _
  simp
def kFor (t : MG) (b : MS) (e : SE) (ds : List D) (g : Hand) : SR := mForL t b ds e g
theorem for_ap {tg : MG} : mFor mn tg s e g = (mn e g).bnd (kFor tg s e) := rfl
theorem kFor_ap {tg : MG} : kFor tg s e ds g = mForL tg s ds e g := rfl
theorem raise_ap {x : Str} : mRaise x e g = .err ⟨x, none⟩ g := rfl
def rApp (i : Nat) (m : ME) (e : SE) (o : Option Slot) (g : Hand) : SR := match o with
  | some (.own (.lst ds)) => (m e g).dat fun d g => if ds.length < 1000000 then .nx (e.set i (.own (.lst (ds ++ [d])))) g else .stuck
  | _ => .stuck
def kApp (i : Nat) (e : SE) (ds : List D) (d : D) (g : Hand) : SR := if ds.length < 1000000 then .nx (e.set i (.own (.lst (ds ++ [d])))) g else .stuck
theorem app_ap : mApp i m e g = rApp i m e e[i]? g := rfl
theorem rApp_ap : rApp i m e (some (.own (.lst ds))) g = (m e g).dat (kApp i e ds) := rfl
theorem kApp_ap (h : ds.length < 1000000) : kApp i e ds d g = .nx (e.set i (.own (.lst (ds ++ [d])))) g := if_pos h
def rExt (i : Nat) (m : ME) (e : SE) (o : Option Slot) (g : Hand) : SR := match o with
  | some (.own (.lst ds)) => (m e g).dat fun d g => match d with
    | .list es => if ds.length + es.length ≤ 1000000 then .nx (e.set i (.own (.lst (ds ++ es)))) g else .stuck
    | _ => .stuck
  | _ => .stuck
def kExt (i : Nat) (e : SE) (ds : List D) (d : D) (g : Hand) : SR := match d with
  | .list es => if ds.length + es.length ≤ 1000000 then .nx (e.set i (.own (.lst (ds ++ es)))) g else .stuck
  | _ => .stuck
theorem ext_ap : mExt i m e g = rExt i m e e[i]? g := rfl
theorem rExt_ap : rExt i m e (some (.own (.lst ds))) g = (m e g).dat (kExt i e ds) := by
  show ((m e g).dat fun d g => match d with
    | .list es => if ds.length + es.length ≤ 1000000 then SR.nx (e.set i (.own (.lst (ds ++ es)))) g else .stuck
    | _ => .stuck) = (m e g).dat (kExt i e ds)
  congr
theorem kExt_ap {es : List D} (h : ds.length + es.length ≤ 1000000) : kExt i e ds (.list es) g = .nx (e.set i (.own (.lst (ds ++ es)))) g := if_pos h
def rFrz (i : Nat) (s : MS) (e : SE) (o : Option Slot) (g : Hand) : SR := match o with
  | some (.own (.lst ds)) => s (e.set i (.val (.dat (.list ds)))) g
  | _ => s e g
theorem frz_ap : mFrz i s e g = rFrz i s e e[i]? g := rfl
theorem rFrz_o : rFrz i s e (some (.own (.lst ds))) g = s (e.set i (.val (.dat (.list ds)))) g := rfl
theorem rFrz_v : rFrz i s e (some (.val v)) g = s e g := rfl
def kSix2 (i : Nat) (e : SE) (ds : List D) (v : D) (k : D) (g : Hand) : SR := match k with
  | .int k => match ixN ds.length k with
    | some j => .nx (e.set i (.own (.lst (ds.set j v)))) g
    | none => .stuck
  | _ => .stuck
def rSix (i : Nat) (mk : ME) (e : SE) (v : D) (o : Option Slot) (g : Hand) : SR := match o with
  | some (.own (.lst ds)) => (mk e g).dat (kSix2 i e ds v)
  | _ => .stuck
def kSix (i : Nat) (mk : ME) (e : SE) (v : D) (g : Hand) : SR := rSix i mk e v e[i]? g
theorem six_ap : mSetIx i mk mv e g = (mv e g).dat (kSix i mk e) := by
  unfold mSetIx
  congr
theorem kSix_ap : kSix i mk e d g = rSix i mk e d e[i]? g := rfl
theorem rSix_ap : rSix i mk e d (some (.own (.lst ds))) g = (mk e g).dat (kSix2 i e ds d) := rfl
theorem kSix2_ap {z : Int} (h : ixN ds.length z = some j) : kSix2 i e ds d (.int z) g = .nx (e.set i (.own (.lst (ds.set j d)))) g := by
  show (match ixN ds.length z with | some j => SR.nx (e.set i (.own (.lst (ds.set j d)))) g | none => .stuck) = _
  rw [h]
def kAug (i : Nat) (f : Int → Int → Int) (e : SE) (a : Int) (b : D) (g : Hand) : SR := match b with
  | .int b => .nx (e.set i (.val (.dat (.int (f a b))))) g
  | _ => .stuck
def rAug (i : Nat) (f : Int → Int → Int) (m : ME) (e : SE) (o : Option Slot) (g : Hand) : SR := match o with
  | some (.val (.dat (.int a))) => (m e g).dat (kAug i f e a)
  | _ => .stuck
theorem aug_ap {f : Int → Int → Int} : mAug i f m e g = rAug i f m e e[i]? g := by
  unfold mAug
  congr
theorem rAug_ap {f : Int → Int → Int} {z : Int} : rAug i f m e (some (.val (.dat (.int z)))) g = (m e g).dat (kAug i f e z) := rfl
theorem kAug_ap {f : Int → Int → Int} {z y : Int} : kAug i f e z (.int y) g = .nx (e.set i (.val (.dat (.int (f z y))))) g := rfl
-- dicts
def kOwnD (i : Nat) (e : SE) (kvs : List (Key × D)) (g : Hand) : SR := if kvs.length ≤ 15 then .nx (e.set i (.own (.dK (mergeD [] kvs)))) g else .stuck
theorem ownD_ap {mm : MKV} : mOwnD i mm e g = (mm e g).bnd (kOwnD i e) := rfl
theorem kOwnD_ap {kvs : List (Key × D)} (h : kvs.length ≤ 15) : kOwnD i e kvs g = .nx (e.set i (.own (.dK (mergeD [] kvs)))) g := if_pos h
theorem ownD0_ap : mOwnD0 i e g = .nx (e.set i (.own (.dK []))) g := rfl
theorem kvNil_ap : mKvNil e g = .ok [] g := rfl
def rKey (d v : D) (kvs : List (Key × D)) (g : Hand) : Res (List (Key × D)) := match keyD d with | some k => .ok ((k, v) :: kvs) g | none => .stuck
def kKv3 (d v : D) (kvs : List (Key × D)) (g : Hand) : Res (List (Key × D)) := rKey d v kvs g
def kKv2 (ms : MKV) (e : SE) (k : D) (v : D) (g : Hand) : Res (List (Key × D)) := (ms e g).bnd (kKv3 k v)
def kKv1 (mv : ME) (ms : MKV) (e : SE) (k : D) (g : Hand) : Res (List (Key × D)) := (mv e g).dat (kKv2 ms e k)
theorem kvCons_ap {mm : MKV} : mKvCons mk mv mm e g = (mk e g).dat (kKv1 mv mm e) := rfl
theorem kKv1_ap {mm : MKV} : kKv1 mv mm e d g = (mv e g).dat (kKv2 mm e d) := rfl
theorem kKv2_ap {mm : MKV} : kKv2 mm e d a g = (mm e g).bnd (kKv3 d a) := rfl
theorem kKv3_i {z : Int} {kvs : List (Key × D)} : kKv3 (.int z) a kvs g = .ok ((.inl z, a) :: kvs) g := rfl
theorem kKv3_s {z : Str} {kvs : List (Key × D)} : kKv3 (.str z) a kvs g = .ok ((.inr z, a) :: kvs) g := rfl
def kDG (kvs : List (Key × D)) (k : D) (g : Hand) : Res Val := match keyD k with | some k => Res.ofO (valD kvs k) g | none => .stuck
def rDG (mk : ME) (e : SE) (o : Option Slot) (g : Hand) : Res Val := match o with | some (.own (.dK kvs)) => (mk e g).dat (kDG kvs) | _ => .stuck
theorem dget_ap : mDGet i mk e g = rDG mk e e[i]? g := by unfold mDGet; congr
theorem rDG_ap {kvs : List (Key × D)} : rDG mk e (some (.own (.dK kvs))) g = (mk e g).dat (kDG kvs) := rfl
theorem kDG_i {kvs : List (Key × D)} {z : Int} : kDG kvs (.int z) g = Res.ofO (valD kvs (.inl z)) g := rfl
theorem kDG_s {kvs : List (Key × D)} {z : Str} : kDG kvs (.str z) g = Res.ofO (valD kvs (.inr z)) g := rfl
def kDS2 (i : Nat) (e : SE) (kvs : List (Key × D)) (v : D) (k : D) (g : Hand) : SR := match keyD k with
  | some k => if kvs.length < 1000000 then .nx (e.set i (.own (.dK (putD kvs k v)))) g else .stuck
  | none => .stuck
def rDS (i : Nat) (mk : ME) (e : SE) (v : D) (o : Option Slot) (g : Hand) : SR := match o with | some (.own (.dK kvs)) => (mk e g).dat (kDS2 i e kvs v) | _ => .stuck
def kDS (i : Nat) (mk : ME) (e : SE) (v : D) (g : Hand) : SR := rDS i mk e v e[i]? g
theorem dset_ap : mDSet i mk mv e g = (mv e g).dat (kDS i mk e) := by unfold mDSet; congr
theorem kDS_ap : kDS i mk e d g = rDS i mk e d e[i]? g := rfl
theorem rDS_ap {kvs : List (Key × D)} : rDS i mk e d (some (.own (.dK kvs))) g = (mk e g).dat (kDS2 i e kvs d) := rfl
theorem kDS2_i {kvs : List (Key × D)} {z : Int} (h : kvs.length < 1000000) : kDS2 i e kvs d (.int z) g = .nx (e.set i (.own (.dK (putD kvs (.inl z) d)))) g := if_pos h
-- the hand
def rHix (k : Nat) (o : Option Slot) (g : Hand) : Res Val := match o with | some (.val .hand) => Res.ofO (hGet g k) g | _ => .stuck
theorem hix_ap : mHix i k e g = rHix k e[i]? g := rfl
theorem rHix_ap : rHix k (some (.val .hand)) g = Res.ofO (hGet g k) g := rfl
theorem hGet0 : hGet g 0 = some (.list (g.cells.map .int)) := rfl
theorem hGet1 : hGet g 1 = some (.int g.ix) := rfl
theorem hGet2 : hGet g 2 = some (.int g.rest) := rfl
theorem hGet3 : hGet g 3 = some (.int g.acc) := rfl
theorem hGet4 : hGet g 4 = some (.int g.cnt) := rfl
def rHS (e : SE) (v : Int) (k : Nat) (o : Option Slot) (g : Hand) : SR := match o with | some (.val .hand) => (match hSet g v k with | some g' => .nx e g' | none => .stuck) | _ => .stuck
def kHS (i k : Nat) (e : SE) (d : D) (g : Hand) : SR := match d with | .int v => rHS e v k e[i]? g | _ => .stuck
theorem hset_ap : mHSet i k m e g = (m e g).dat (kHS i k e) := by unfold mHSet; congr
theorem kHS_ap {z : Int} : kHS i k e (.int z) g = rHS e z k e[i]? g := rfl
theorem rHS1 {z : Int} : rHS e z 1 (some (.val .hand)) g = .nx e { g with ix := z } := rfl
theorem rHS2 {z : Int} : rHS e z 2 (some (.val .hand)) g = .nx e { g with rest := z } := rfl
theorem rHS3 {z : Int} : rHS e z 3 (some (.val .hand)) g = .nx e { g with acc := z } := rfl
theorem rHS4 {z : Int} : rHS e z 4 (some (.val .hand)) g = .nx e { g with cnt := z } := rfl
-- defs
def fin : SR → Res Val
  | .ret v g => .ok v g
  | .nx _ g => .ok (.dat .none) g
  | .err ex g => .err ex g
  | _ => .stuck
theorem fn_ap {b : MS} : fnM N b vs g = fin (b (vs.map Slot.val ++ List.replicate (N - vs.length) Slot.no) g) := by
  unfold fnM fin
  cases b (vs.map Slot.val ++ List.replicate (N - vs.length) Slot.no) g <;> rfl
theorem fin_ret : fin (.ret v g) = .ok v g := rfl
theorem fin_nx : fin (.nx e g) = .ok (.dat .none) g := rfl
theorem fin_err {x : Exc} : fin (.err x g) = .err x g := rfl
-- plain functions
theorem fAdd_i {x y : Int} : fAdd (.int x) (.int y) = some (.int (x + y)) := rfl
theorem fSub_i {x y : Int} : fSub (.int x) (.int y) = some (.int (x - y)) := rfl
theorem fMul_i {x y : Int} (h : mulOk x y = true) : fMul (.int x) (.int y) = some (.int (x * y)) := if_pos h
theorem fDiv_i {x y : Int} (h : 0 < y) (h2 : y.natAbs.log2 < 9000) : fDiv (.int x) (.int y) = some (.int (x / y)) := if_pos ⟨h, h2⟩
theorem fMod_i {x y : Int} (h : 0 < y) : fMod (.int x) (.int y) = some (.int (x % y)) := if_pos h
theorem fNeg_i {x : Int} : fNeg (.int x) = some (.int (-x)) := rfl
theorem fLt_i {x y : Int} : fLt (.int x) (.int y) = some (.bool (decide (x < y))) := rfl
theorem fLe_i {x y : Int} : fLe (.int x) (.int y) = some (.bool (decide (x ≤ y))) := rfl
theorem fGt_i {x y : Int} : fGt (.int x) (.int y) = some (.bool (decide (y < x))) := rfl
theorem fGe_i {x y : Int} : fGe (.int x) (.int y) = some (.bool (decide (y ≤ x))) := rfl
theorem fEq_s {x y : Str} : fEq (.str x) (.str y) = some (.bool (decide (x = y))) := rfl
theorem fNe_s {x y : Str} : fNe (.str x) (.str y) = some (.bool (!decide (x = y))) := rfl
theorem bl_beq {α : Type} [BEq α] [LawfulBEq α] [DecidableEq α] (x y : α) : (x == y) = decide (x = y) := by
  by_cases h : x = y
  · rw [h]; simp
  · simp [h]
theorem fEq_i {x y : Int} : fEq (.int x) (.int y) = some (.bool (decide (x = y))) := by
  have e : PyData.eqv (.int x) (.int y) = decide (x = y) := by rw [PyData.eqv]; exact bl_beq x y
  show (if SeqAt.shaped (.int x) && SeqAt.shaped (.int y) then some (PyData.bool (PyData.eqv (.int x) (.int y))) else none) = _
  rw [if_pos (by simp [SeqAt.shaped, PyData.canLay0, PyData.depth]), e]
theorem fNe_i {x y : Int} : fNe (.int x) (.int y) = some (.bool (!decide (x = y))) := by
  have e : PyData.eqv (.int x) (.int y) = decide (x = y) := by rw [PyData.eqv]; exact bl_beq x y
  show (if SeqAt.shaped (.int x) && SeqAt.shaped (.int y) then some (PyData.bool (!PyData.eqv (.int x) (.int y))) else none) = _
  rw [if_pos (by simp [SeqAt.shaped, PyData.canLay0, PyData.depth]), e]
theorem fNe_b {x y : Bool} : fNe (.bool x) (.bool y) = some (.bool (!decide (x = y))) := by
  have e : PyData.eqv (.bool x) (.bool y) = decide (x = y) := by rw [PyData.eqv]; exact bl_beq x y
  show (if SeqAt.shaped (.bool x) && SeqAt.shaped (.bool y) then some (PyData.bool (!PyData.eqv (.bool x) (.bool y))) else none) = _
  rw [if_pos (by simp [SeqAt.shaped, PyData.canLay0, PyData.depth]), e]
theorem mulOk_r {x y : Int} (h1 : -(2 ^ 64) < y) (h2 : y < 2 ^ 64) : mulOk x y = true := by
  unfold mulOk
  rw [decide_eq_true h1, decide_eq_true h2]; simp
theorem mulOk_l {x y : Int} (h1 : -(2 ^ 64) < x) (h2 : x < 2 ^ 64) : mulOk x y = true := by
  unfold mulOk
  rw [decide_eq_true h1, decide_eq_true h2]; simp
theorem fPow_i {x : Int} {n : Nat} (h : n ≤ 1000000) (h2 : x.natAbs < 2 ^ 64) : fPow (.int x) (.int n) = some (.int (x ^ n)) := by
  show (if 0 ≤ (n : Int) ∧ (n : Int) ≤ 1000000 ∧ x.natAbs < 2 ^ 64 then some (PyData.int (x ^ (n : Int).toNat)) else none) = _
  rw [if_pos ⟨by omega, by omega, h2⟩]; simp
theorem fIx_l {x : Int} : fIx (.list ds) (.int x) = atI ds x := rfl
theorem fIx_t {x : Int} : fIx (.tuple ds) (.int x) = atI ds x := rfl
theorem fLen_l : fLen [.list ds] = some (.int ds.length) := rfl
theorem fLen_t : fLen [.tuple ds] = some (.int ds.length) := rfl
theorem fInt_i {x : Int} : fInt [.int x] = some (.int x) := rfl
theorem fTuple_l : fTuple [.list ds] = some (.tuple ds) := rfl
end
end Sm

/-! Sm14: texts as lists of signs; small facts. -/
namespace Sm
open PySem L2
def S (cs : List Nat) : Str := ⟨cs.toArray⟩
theorem S_list (cs : List Nat) : (S cs).cps.toList = cs := rfl
theorem S_len (cs : List Nat) : (S cs).length = cs.length := by simp [S, Str.length]
theorem S_app (a b : List Nat) : S a ++ S b = S (a ++ b) := by
  show Str.append (S a) (S b) = S (a ++ b)
  simp [Str.append, S]
theorem S_of (z : Str) : S z.cps.toList = z := by cases z; simp [S]
theorem S_inj {a b : List Nat} : S a = S b ↔ a = b := by
  constructor
  · intro h
    have := congrArg (fun z => z.cps.toList) h
    exact this
  · intro h; rw [h]
def L (css : List (List Nat)) : List D := css.map fun c => .str (S c)
theorem L_len (c : List (List Nat)) : (L c).length = c.length := by simp [L]
theorem L_app (a b : List (List Nat)) : L a ++ L b = L (a ++ b) := by simp [L]
theorem count_S (cs : List Nat) (c : Nat) : Txt.count (S cs) (S [c]) = (cs.count c : Nat) := by
  refine (PyProof.Rows.count_is (S cs) c).trans ?_
  show PyProof.Rows.cnt c cs = _
  induction cs with
  | nil => rfl
  | cons n r ih =>
    rw [PyProof.Rows.cnt_cons, ih, List.count_cons]
    by_cases h : n = c
    · subst h; simp; omega
    · simp [h]
theorem repr_S {cs : List Nat} (h : ∀ c ∈ cs, c < 4294967296) (hl : cs.length ≤ 90000) : (reprText (S cs)).length ≤ 1000000 := by
  have := PySem.StrLaws.reprText_len (S cs) (by rw [S_list]; exact h)
  rw [S_len] at this
  omega
theorem log2_small {n k : Nat} (h : n < 2 ^ k) (hk : 0 < k) : n.log2 < k := by
  by_cases z : n = 0
  · subst z; simp; exact hk
  · exact (Nat.log2_lt z).mpr h
theorem log2_i {x : Int} (k : Nat) (h : x.natAbs < 2 ^ k) (hk : 0 < k) : x.natAbs.log2 < k := log2_small h hk
theorem bools_map (bs : List Bool) : bools (bs.map .bool) = some bs := by
  induction bs with
  | nil => rfl
  | cons b bs ih => show (bools (bs.map .bool)).map (b :: ·) = _; rw [ih]; rfl
theorem fAll_b (bs : List Bool) : fAll [.list (bs.map .bool)] = some (.bool (bs.all id)) := by
  show (bools (bs.map .bool)).map _ = _
  rw [bools_map]; rfl
theorem fAll_t {α : Type} (ds : List α) : fAll [.list (ds.map fun _ => .bool true)] = some (.bool true) := by
  have := fAll_b (ds.map fun _ => true)
  rw [List.map_map] at this
  rw [show (fun _ => PyData.bool true) = (PyData.bool ∘ fun _ : α => true) from rfl, this]
  simp
theorem range_len (lo : Int) (n : Nat) : (rangeD lo n).length = n := by simp [rangeD]
theorem range_at {lo : Int} {n i : Nat} {d : D} (h : (rangeD lo n)[i]? = some d) : d = .int (lo + i) ∧ i < n := by
  unfold rangeD at h
  rw [List.getElem?_map] at h
  obtain ⟨j, h1, h2⟩ := Option.map_eq_some_iff.mp h
  have hi : i < n := by
    have := (List.getElem?_eq_some_iff.mp h1).1
    simpa using this
  rw [List.getElem?_range hi] at h1
  cases h1
  exact ⟨h2.symm, hi⟩
theorem range_mem {lo : Int} {n : Nat} {d : D} (h : d ∈ rangeD lo n) : ∃ i : Nat, i < n ∧ d = .int (lo + i) := by
  obtain ⟨i, hi⟩ := List.getElem?_of_mem h
  exact ⟨i, (range_at hi).2, (range_at hi).1⟩
/-- the ends of a row -/
theorem atI_neg {α : Type} {xs : List α} {k : Nat} {v : α} (h0 : 0 < k) (h1 : k ≤ xs.length) (h : xs[xs.length - k]? = some v) : atI xs (-(k : Int)) = some v := by
  unfold atI ixN
  rw [if_neg (by omega), if_pos (by omega)]
  show xs[(-(k : Int) + xs.length).toNat]? = some v
  rw [show (-(k : Int) + xs.length).toNat = xs.length - k by omega]
  exact h
theorem atI_pos {α : Type} {xs : List α} {i : Int} {v : α} (h0 : 0 ≤ i) (h : xs[i.toNat]? = some v) : atI xs i = some v := by
  have := atI_nat h
  rwa [Int.toNat_of_nonneg h0] at this
theorem atI_m1 {α : Type} (xs : List α) (v : α) : atI (xs ++ [v]) (-1) = some v := atI_last xs v
theorem atI_m2 {α : Type} (xs : List α) (u v : α) : atI (xs ++ [u, v]) (-2) = some u := by
  refine atI_neg (k := 2) (by omega) (by simp) ?_
  simp
/-- equal things, told apart by the laws' own look: what can be shown -/
def okN : Nat → D → Bool
  | 0, _ => false
  | _ + 1, .none => true
  | _ + 1, .bool _ => true
  | _ + 1, .int i => decide (i.natAbs.log2 < 1920)
  | _ + 1, .str z => decide ((reprText z).length ≤ 1000000)
  | n + 1, .list ds => ds.all (okN n) && decide (ds.length < 1000000)
  | n + 1, .tuple ds => ds.all (okN n) && decide (ds.length < 1000000)
  | _ + 1, .dict _ => false
theorem zip_self (ds : List D) : zipD ds ds = ds.map fun d => .tuple [d, d] := by
  unfold zipD
  induction ds with
  | nil => rfl
  | cons d ds ih => rw [List.zipWith_cons_cons, ih]; rfl
theorem kZip_l {xs ys : List D} {g : Hand} : kZip [.list xs, .list ys] g = .ok (zipD xs ys) g := rfl
theorem kZip_t {xs ys : List D} {g : Hand} : kZip [.tuple xs, .tuple ys] g = .ok (zipD xs ys) g := rfl
/-! ### loops, by what is wanted of them -/
theorem while_P {t : MT} {b : MS} {n : Nat} {e : SE} {g : Hand} (P : SR → Prop) (I : Nat → SE → Hand → Prop) (Z : SE → Hand → Prop) (k : Nat) (h0 : I k e g) (hk : k < n)
    (hs : ∀ k e g, I k e g → (∃ g', t e g = .ok false g' ∧ Z e g') ∨ ∃ g1 e2 g2 k', t e g = .ok true g1 ∧ (b e g1 = .nx e2 g2 ∨ b e g1 = .ct e2 g2) ∧ k' < k ∧ I k' e2 g2) (hz : ∀ e g, Z e g → P (.nx e g)) : P (mWhile t b n e g) := by
  obtain ⟨e', g', h1, h2⟩ := while_nx I Z hs n k e g h0 hk
  rw [h1]; exact hz e' g' h2
theorem forL_P {t : MG} {b : MS} {ds : List D} {e : SE} {g : Hand} (P : SR → Prop) (I : Nat → SE → Hand → Prop) (h0 : I 0 e g)
    (hs : ∀ i d e g, ds[i]? = some d → I i e g → ∃ e1 e2 g2, t d e = some e1 ∧ (b e1 g = .nx e2 g2 ∨ b e1 g = .ct e2 g2) ∧ I (i + 1) e2 g2) (hz : ∀ e g, I ds.length e g → P (.nx e g)) : P (mForL t b ds e g) := by
  obtain ⟨e', g', h1, h2⟩ := forL_nx (t := t) (b := b) I ds 0 e g h0 fun i d e g q p => by
    rw [Nat.zero_add] at p ⊢
    exact hs i d e g q p
  rw [Nat.zero_add] at h2
  rw [h1]; exact hz e' g' h2
theorem forL_PR {t : MG} {b : MS} {ds : List D} {e : SE} {g : Hand} (P : SR → Prop) (I : Nat → SE → Hand → Prop) (Z : Val → Hand → Prop) (h0 : I 0 e g)
    (hs : ∀ i d e g, ds[i]? = some d → I i e g → ∃ e1, t d e = some e1 ∧ ((∃ e2 g2, b e1 g = .nx e2 g2 ∧ I (i + 1) e2 g2) ∨ ∃ v g2, b e1 g = .ret v g2 ∧ Z v g2)) (hz : ∀ e g, I ds.length e g → P (.nx e g)) (hr : ∀ v g, Z v g → P (.ret v g)) : P (mForL t b ds e g) := by
  rcases forL_ret (t := t) (b := b) I Z ds 0 e g h0 fun i d e g q p => by
    rw [Nat.zero_add] at p ⊢
    exact hs i d e g q p with ⟨e', g', h1, h2⟩ | ⟨v, g', h1, h2⟩
  · rw [Nat.zero_add] at h2
    rw [h1]; exact hz e' g' h2
  · rw [h1]; exact hr v g' h2
/-- [p + one for one in ..] -/
theorem lc_pre (v : Nat) (pc : List Nat) {p : Str} (hp : p = S pc) (css : List (List Nat)) (e : SE) (g : Hand) (hv : v < e.length) (hl : ∀ c ∈ css, pc.length + c.length ≤ 1000000) :
    mLcL (kName v) mYes (mOp2 fAdd (mC (.str p)) (mVar v)) [v] (L css) e g = .ok (L (css.map (pc ++ ·))) g := by
  subst hp
  rw [lc_map (fun d => match d with | .str z => .str (S pc ++ z) | d => d) (L css) fun d hd => ?_]
  · congr 1
    unfold L
    rw [List.map_map, List.map_map]
    apply List.map_congr_left
    intro c _
    show PyData.str (S pc ++ S c) = _
    rw [S_app]; rfl
  · obtain ⟨c, hc, rfl⟩ := List.mem_map.mp hd
    refine ⟨_, rfl, ?_⟩
    have hg : ((wipeE e [v]).set v (Slot.val (.dat (.str (S c)))))[v]? = some (.val (.dat (.str (S c)))) := by
      rw [List.getElem?_set_self]
      show v < ((wipeE e []).set v .no).length
      rw [List.length_set]; exact hv
    show ((mC (.str (S pc)) _ g).dat _) = _
    rw [c_ap, dat_ok, var_ap, hg, rVar_v, dat_ok]
    show Res.ofO (if (S pc).length + (S c).length ≤ 1000000 then some (PyData.str (S pc ++ S c)) else none) g = _
    rw [if_pos (by rw [S_len, S_len]; exact hl c hc)]; rfl
end Sm

/-! Sm15: sorted texts; dicts by place. -/
namespace Sm
open PySem L2
theorem srt_L (css : List (List Nat)) : srt (L css) = L (css.mergeSort fun a b => decide (a ≤ b)) := by
  unfold srt L
  have := List.map_mergeSort (f := fun c : List Nat => PyData.str (S c)) (r := PySem.W.dataLe false fun c : List Nat => PyData.str (S c)) (s := PySem.W.dataLe false id) (l := css) (fun _ _ _ _ => rfl)
  rw [← this, PySem.W.dataLe_str]
  rfl
theorem srt_asc {css : List (List Nat)} (h : css.Pairwise fun a b => ¬ (b < a)) : srt (L css) = L css := by
  rw [srt_L, List.mergeSort_of_pairwise]
  exact h.imp fun {a b} h => decide_eq_true h
theorem fSorted_L {css : List (List Nat)} (h : ∀ c ∈ css, ∀ x ∈ c, x < 1114112) (hl : css.length ≤ 1000000) : fSorted [.list (L css)] = some (srt (L css)) := by
  have c1 : alikeB (L css) = true := by
    unfold alikeB
    refine List.all_eq_true.mpr fun a ha => List.all_eq_true.mpr fun b hb => ?_
    obtain ⟨x, _, rfl⟩ := List.mem_map.mp ha
    obtain ⟨y, _, rfl⟩ := List.mem_map.mp hb
    simp [PySem.W.alike]
  have c2 : sortB (L css) = true := by
    unfold sortB
    rw [Bool.or_eq_true]
    refine .inr (List.all_eq_true.mpr fun a ha => ?_)
    obtain ⟨x, _, rfl⟩ := List.mem_map.mp ha
    rfl
  have c3 : (L css).all (fun d => d.canLay0 && decide (d.depth ≤ 40)) = true := by
    refine List.all_eq_true.mpr fun a ha => ?_
    obtain ⟨x, hx, rfl⟩ := List.mem_map.mp ha
    have e1 : PyData.canLay0 (.str (S x)) = true := by
      rw [PyData.canLay0]
      unfold PyData.strOk
      refine Array.all_eq_true_iff_forall_mem.mpr fun c hc => ?_
      have := h x hx c (by simpa [S] using hc)
      simpa using this
    rw [e1]; simp [PyData.depth]
  show (if alikeB (L css) && sortB (L css) && (L css).all (fun d => d.canLay0 && decide (d.depth ≤ 40)) && decide ((L css).length ≤ 1000000) then some (srt (L css)) else none) = _
  rw [c1, c2, c3, decide_eq_true (by rw [L_len]; exact hl)]
  rfl
/-- a dict whose keys are 0, 1, .. -/
def dN (f : Nat → D) (k : Nat) : List (Key × D) := (List.range k).map fun (i : Nat) => (.inl (i : Int), f i)
theorem dN_len (f : Nat → D) (k : Nat) : (dN f k).length = k := by simp [dN]
theorem dN_succ (f : Nat → D) (k : Nat) : dN f (k + 1) = dN f k ++ [(.inl (k : Int), f k)] := by
  unfold dN; rw [List.range_succ, List.map_append]; rfl
theorem valD_snoc (kvs : List (Key × D)) (k j : Key) (v : D) (h : ∀ p ∈ kvs, p.1 ≠ k) : valD (kvs ++ [(k, v)]) j = if j = k then some v else valD kvs j := by
  unfold valD
  rw [List.find?_append]
  by_cases e : j = k
  · subst e
    rw [if_pos rfl, List.find?_eq_none.mpr fun p hp => by simpa using h p hp]
    simp
  · rw [if_neg e]
    cases q : kvs.find? (fun kv => decide (kv.1 = j)) with
    | none => simp; exact fun z => e z.symm
    | some p => simp
theorem dN_key {f : Nat → D} {k : Nat} {p : Key × D} (h : p ∈ dN f k) : ∃ i : Nat, i < k ∧ p = (.inl (i : Int), f i) := by
  obtain ⟨i, hi, rfl⟩ := List.mem_map.mp h
  exact ⟨i, List.mem_range.mp hi, rfl⟩
theorem dN_val {f : Nat → D} : ∀ {k i : Nat}, i < k → valD (dN f k) (.inl (i : Int)) = some (f i)
  | 0, i, h => by omega
  | k + 1, i, h => by
    rw [dN_succ, valD_snoc _ _ _ _ fun p hp z => by
      obtain ⟨j, hj, rfl⟩ := dN_key hp
      have : (j : Int) = k := Sum.inl.inj z
      omega]
    by_cases e : i = k
    · subst e; rw [if_pos rfl]
    · rw [if_neg (fun z => e (by have := Sum.inl.inj z; omega))]
      exact dN_val (by omega)
theorem dN_put (f : Nat → D) (k : Nat) (v : D) (h : v = f k) : putD (dN f k) (.inl (k : Int)) v = dN f (k + 1) := by
  unfold putD
  rw [if_neg, dN_succ, h]
  intro z
  obtain ⟨p, hp, hz⟩ := List.any_eq_true.mp z
  obtain ⟨j, hj, rfl⟩ := dN_key hp
  have : (j : Int) = k := Sum.inl.inj (of_decide_eq_true hz)
  omega
theorem kR2_ap {i j : Int} {g : Hand} (h1 : r62 i = true) (h2 : r62 j = true) : kR2 [.int i, .int j] g = .ok (rangeD i (j - i).toNat) g := by
  unfold kR2 mRng2
  simp [h1, h2, Res.bnd]
theorem r62_of {i : Int} (h1 : -1000000000 ≤ i) (h2 : i ≤ 1000000000) : r62 i = true := by
  unfold r62
  simp only [Bool.and_eq_true, decide_eq_true_eq]
  omega
theorem cutL_to {α : Type} {xs : List α} {k : Nat} (h : k ≤ xs.length) : cutL xs none (some (k : Int)) = xs.take k := by
  unfold cutL
  rw [HT.sIx_none, HT.sIx_nat, List.drop_zero, Nat.sub_zero, Nat.min_eq_left h]
theorem cutL_to' {α : Type} {xs : List α} {k : Nat} : cutL xs none (some (k : Int)) = xs.take k := by
  unfold cutL
  rw [HT.sIx_none, HT.sIx_nat, List.drop_zero, Nat.sub_zero]
  by_cases h : k ≤ xs.length
  · rw [Nat.min_eq_left h]
  · rw [Nat.min_eq_right (by omega), List.take_length, List.take_of_length_le (by omega)]
theorem cutL_from {α : Type} {xs : List α} {k : Nat} (h : k ≤ xs.length) : cutL xs (some (k : Int)) none = xs.drop k := by
  unfold cutL
  rw [HT.sIx_none, HT.sIx_nat, Nat.min_eq_left h, List.take_of_length_le (by simp)]
theorem fMul_s {z : Str} {k : Int} (h : 0 ≤ k ∧ k ≤ 1000 ∧ z.length ≤ 1000) : fMul (.str z) (.int k) = some (.str (Txt.mul z k)) := if_pos h
theorem fAdd_s {x y : Str} (h : x.length + y.length ≤ 1000000) : fAdd (.str x) (.str y) = some (.str (x ++ y)) := if_pos h
theorem app_len (x y : Str) : (x ++ y).length = x.length + y.length := by
  show (Str.append x y).length = _
  simp [Str.append, Str.length]
theorem cutS_len (z : Str) (lo hi : Option Int) : (cutS z lo hi).length ≤ z.length := by
  unfold cutS Str.length
  simp
  omega
theorem fSl_s {z : Str} {lo hi : Option Int} (h : z.length ≤ 1000000) : fSl (.str z) lo hi = some (.str (cutS z lo hi)) := if_pos h
theorem fNe_tt {xs ys : List D} {c : Bool} (h : (SeqAt.shaped (.tuple xs) && SeqAt.shaped (.tuple ys)) = true) (h2 : PyData.eqv (.tuple xs) (.tuple ys) = c) : fNe (.tuple xs) (.tuple ys) = some (.bool (!c)) := by
  show (if SeqAt.shaped (.tuple xs) && SeqAt.shaped (.tuple ys) then some (PyData.bool (!PyData.eqv (.tuple xs) (.tuple ys))) else none) = _
  rw [if_pos h, h2]
theorem fEq_tt {xs ys : List D} {c : Bool} (h : (SeqAt.shaped (.tuple xs) && SeqAt.shaped (.tuple ys)) = true) (h2 : PyData.eqv (.tuple xs) (.tuple ys) = c) : fEq (.tuple xs) (.tuple ys) = some (.bool c) := by
  show (if SeqAt.shaped (.tuple xs) && SeqAt.shaped (.tuple ys) then some (PyData.bool (PyData.eqv (.tuple xs) (.tuple ys))) else none) = _
  rw [if_pos h, h2]
theorem fNe_ll {xs ys : List D} {c : Bool} (h : (SeqAt.shaped (.list xs) && SeqAt.shaped (.list ys)) = true) (h2 : PyData.eqv (.list xs) (.list ys) = c) : fNe (.list xs) (.list ys) = some (.bool (!c)) := by
  show (if SeqAt.shaped (.list xs) && SeqAt.shaped (.list ys) then some (PyData.bool (!PyData.eqv (.list xs) (.list ys))) else none) = _
  rw [if_pos h, h2]
theorem fEq_ll {xs ys : List D} {c : Bool} (h : (SeqAt.shaped (.list xs) && SeqAt.shaped (.list ys)) = true) (h2 : PyData.eqv (.list xs) (.list ys) = c) : fEq (.list xs) (.list ys) = some (.bool c) := by
  show (if SeqAt.shaped (.list xs) && SeqAt.shaped (.list ys) then some (PyData.bool (PyData.eqv (.list xs) (.list ys))) else none) = _
  rw [if_pos h, h2]
end Sm

/-! Sm16: [..] * n, sum of a tuple, index, a row of names at once with new lists among them. -/
namespace Sm
open PySem PySem.Spec PyProof.Rows L2
section
variable {X : Cx} {E : XK}
/-! ### [..] * n -/
def rLst (o : Option D) (g : Hand) : Res (List D) := match o with
  | some (.list ds) => .ok ds g
  | _ => .stuck
def kRepB (a b : D) (g : Hand) : Res (List D) := match a with
  | .list _ => rLst (fMul a b) g
  | _ => .stuck
def kRepA (mb : ME) (e : SE) (a : D) (g : Hand) : Res (List D) := (mb e g).dat (kRepB a)
def mRep (ma mb : ME) : MN := fun e g => (ma e g).dat (kRepA mb e)
theorem nRep {a b : Expr} {pos : Pos} {ma mb : ME} (ha : simP X E a ma) (hb : simP X E b mb) : simN X E (.BinOp a .Mult b pos) (mRep ma mb) := PE.imp (pe_op op_rep ha hb) fun σ H Q p => by
  obtain ⟨ah, H0, F0, F, e, g, R, p⟩ := p
  refine ⟨ah, H0, F0, F, e, g, R, bindPD contN p fun {d} {g1} {F1} {H1} {x} st R1 s1 p1 => ?_⟩
  refine ⟨ah, H0, F0, F1, e, g1, R1, bindPD contN p1 fun {d2} {g2} {F2} {H2} {y} st2 R2 s2 p2 => ?_⟩
  cases d with
  | list ds =>
    cases d2 with
    | int n =>
      have p2 : PostN X.K X.mg E ah H0 F0 F2 e σ H2 Q (rLst (if n ≤ 1000000 ∧ ds.length * n.toNat ≤ 1000000 ∧ -1000000 ≤ n then some (.list (List.replicate n.toNat ds).flatten) else none) g2) := p2
      split at p2
      · rename_i hl
        obtain ⟨a, xs, rfl, h1, n1, r1⟩ := (s1.step st2).list R2.gd
        refine ⟨a, n, xs, rfl, s2.int, h1, by omega, by omega, by rw [r1.len]; exact line_le hl.2.1, fun p hp => ?_⟩
        obtain ⟨R3, st3⟩ := R2.waste (o := .lst (List.replicate n.toNat xs).flatten) hp
        exact p2 _ _ p _ st3 R3 upd_same (rp_rep r1 _) (R2.gd.freshF hp) hp
      · exact p2.elim
    | _ => exact p2.elim
  | _ => exact p2.elim

/-! ### sum(tuple) -/
theorem sum_rawT {prog : Program} {w : World} {A : Around} {E' : Value → Shared → Prop} {s : Shared} {l : Addr} {its : List Value} {ns : List Int} {Q : Value → Shared → Prop} (hh : A.handled = none) (hl : s.heap.IsTuple l its.toArray) (hi : IntsAre its ns)
    (h : ∀ h' tk t', (∀ b o, s.heap.get? b = some o → h'.get? b = some o) → Q (.int ns.sum t') { s with heap := h', toks := tk }) : wpAny (model prog w) A (call (.builtin "sum") [.ref l]) Q E' s := by
  obtain ⟨xs, e⟩ := hi.allInts.items
  have hn : numsOf (intItems xs).toList = ns := by rw [← e]; exact hi.numsOf
  rw [nums_intItems] at hn
  rw [e] at hl
  have hlt : l < s.heap.objs.size := by obtain ⟨_, e, _⟩ := hl; exact Heap.lt_size e
  refine PySem.call_sum_walkG (wpAny_pyIter_tuple hl ?_)
  refine ⟨s.heap.objs.size, [s.heap.objs.size, l], [s.heap.objs.size], _, _, _, numAt xs, rfl, Walks.tuple (A := A.in1) hh _ l (Nat.ne_of_lt hlt) (intItems xs), ⟨⟨_, Heap.get?_push_size _ rfl, rfl, rfl⟩, hl.push _⟩, fun b hb => ?_, (fun _ _ => intItems_at), fun h' tk t' hk => ?_⟩
  · show b < (s.heap.push _).objs.size
    rw [Heap.size_push]
    rcases List.mem_cons.mp hb with rfl | hb
    · exact Nat.lt_succ_self _
    · rcases List.mem_cons.mp hb with rfl | hb
      · exact Nat.lt_succ_of_lt hlt
      · cases hb
  · have := h h' tk t' fun b o e => hk b o (fun hb => by
      rcases List.mem_cons.mp hb with rfl | hb
      · exact absurd (Heap.lt_size e) (Nat.lt_irrefl _)
      · cases hb) (Heap.get?_push_of_some _ e)
    have e2 : preSum (numAt xs) (intItems xs).size = ns.sum := by
      rw [preSum_eq, List.take_of_length_le (by simp [intItems]), hn]
    rw [e2]
    exact this
def rSumT (K : PySem.W.Frag) : List V → Hp → VK → Prop := fun vs H Q => rSum K vs H Q ∨ ∃ (a : Addr) (ns : List Int), vs = [V.ref a] ∧ SqT K H a (ns.map V.int) ∧ Q (.int ns.sum) H
theorem cr_sumT (hc : X.calm = true) : CallR X (.builtin "sum") (rSumT X.K) := by
  intro pins s σ H vs us Q I r h
  rcases h with h | ⟨a, ns, rfl, hs, q⟩
  · exact cr_sum hc pins s σ H vs us Q I r h
  · obtain ⟨its, rv, hl, _⟩ := I.tuple hs
    rw [Vals.ref1 r]
    exact sum_rawT (I.ok.hd hc) hl rv.ints fun h' tk t' hk => ⟨.int _, H, I.kept hk, ⟨_, rfl⟩, q⟩
def fSumT : List D → Option D
  | [.list ds] => (intsD ds).map fun ns => .int ns.sum
  | [.tuple ds] => (intsD ds).map fun ns => .int ns.sum
  | _ => none
theorem sumT_s {K : PySem.W.Frag} : CallS K (rSumT K) fSumT := ⟨fun {ah H0 F0 F e g σ H ds v xs Q} R s q k => by
  match ds, q with
  | [.list ds], q =>
    obtain ⟨ns, hn, e⟩ := Option.map_eq_some_iff.mp (show (intsD ds).map _ = some v from q)
    subst e
    obtain ⟨x, rfl, t⟩ := sees1 s
    obtain ⟨a, ys, rfl, h1, n1, r1⟩ := t.list R.gd
    have e := intsD_rp r1 hn
    subst e
    exact .inl ⟨a, ns, rfl, SqL.of h1, k F H _ Step.refl R (.int _)⟩
  | [.tuple ds], q =>
    obtain ⟨ns, hn, e⟩ := Option.map_eq_some_iff.mp (show (intsD ds).map _ = some v from q)
    subst e
    obtain ⟨x, rfl, t⟩ := sees1 s
    obtain ⟨a, ys, rfl, h1, r1⟩ := t.tup
    have e := intsD_rp r1 hn
    subst e
    exact .inr ⟨a, ns, rfl, ex_t R.gd.sub h1, k F H _ Step.refl R (.int _)⟩
  | [], q => cases q
  | [.none], q => cases q
  | [.bool _], q => cases q
  | [.int _], q => cases q
  | [.str _], q => cases q
  | [.dict _], q => cases q
  | a :: b :: r, q => simp [fSumT] at q⟩

/-! ### xs.index(x) -/
def firstAt (d : D) : List D → Option Nat
  | [] => none
  | z :: zs => if PyData.eqv z d then some 0 else (firstAt d zs).map (· + 1)
theorem firstAt_spec (d : D) : ∀ (ds : List D) (j : Nat), firstAt d ds = some j → (∃ z, ds[j]? = some z ∧ PyData.eqv z d = true) ∧ ∀ (m : Nat) (z' : D), m < j → ds[m]? = some z' → PyData.eqv z' d = false
  | [], j, h => by cases h
  | z :: zs, j, h => by
    unfold firstAt at h
    split at h
    · rename_i hz
      cases h
      exact ⟨⟨z, rfl, hz⟩, fun m z' hm _ => by omega⟩
    · rename_i hz
      obtain ⟨i, hi, rfl⟩ := Option.map_eq_some_iff.mp h
      obtain ⟨h1, h2⟩ := firstAt_spec d zs i hi
      refine ⟨by simpa using h1, fun m z' hm hz' => ?_⟩
      cases m with
      | zero =>
        simp at hz'
        subst hz'
        simpa using hz
      | succ m => exact h2 m z' (by omega) (by simpa using hz')
def fIndex (a b : D) : Option D := match a with
  | .list ds => if SeqAt.shaped (.list ds) && SeqAt.shaped b then (firstAt b ds).map fun j => .int (j : Nat) else none
  | _ => none
def kIndex (me : ME) (e : SE) (a : D) (g : Hand) : Res Val := match a with
  | .list ds => (me e g).dat (kOp2b fIndex (.list ds))
  | _ => .stuck
def mIndex (mo me : ME) : ME := fun e g => (mo e g).dat (kIndex me e)
theorem shaped_lay {d : D} (h : SeqAt.shaped d = true) : d.canLay0 = true := SeqAt.canLay_of_shaped h
theorem eIndex {o a : Expr} {apos cpos : Pos} {mo me : ME} (hu : X.A.units + 65 < cLine) (ho : simP X E o mo) (ha : simP X E a me)
    (hbase : attributeBase o "index" X.env (eval o X.env) = eval o X.env := by rfl)
    (hfew : ((backTo cpos (starEach (a :: []) X.env)).all (fun x => !x.1) && (backToKw cpos (keywordEach [] X.env)).all (fun x => x.1.isSome)
      && decide ((a :: []).length + ([] : List Keyword).length + (if ([] : List Keyword).isEmpty then 0 else 1) < 30)) = true := by rfl)
    (hline : (apos.endLine == cpos.line) = true := by rfl) (hs : starEach (a :: []) X.env = (false, eval a X.env) :: starEach [] X.env := by rfl) (hplain : (backTo cpos (starEach [] X.env)).any (·.1) = false := by rfl) :
    simE X E (.Call (.Attribute o "index" apos) [a] [] cpos) (mIndex mo me) :=
  PE.imp (pe_bm PySem.F.plainAttrs_list PySem.F.slot_list_index PySem.F.type_list_index (mt_indexD hu) ho (pa_cons ha pa_nil hs) hbase hfew hline hs hplain) fun σ H Q p => by
    obtain ⟨ah, H0, F0, F, e, g, R, p⟩ := p
    refine ⟨ah, H0, F0, F, e, g, R, bindPD contE p fun {d} {g1} {F1} {H1} {x} st R1 s1 p1 => ?_⟩
    cases d with
    | list ds =>
      have s0 := s1
      obtain ⟨b, xs, rfl, h1, n1, r1⟩ := s1.list R1.gd
      refine ⟨tyL h1, ah, H0, F0, F1, e, g1, R1, bindPD contE p1 fun {d2} {g2} {F2} {H2} {y} st2 R2 s2 p2 => ?_⟩
      obtain ⟨v, hv, q⟩ := ofO_ok p2
      have hv : (if SeqAt.shaped (.list ds) && SeqAt.shaped d2 then (firstAt d2 ds).map fun j => PyData.int (j : Nat) else none) = some v := hv
      split at hv
      · rename_i hc
        rw [Bool.and_eq_true] at hc
        obtain ⟨j, hj, rfl⟩ := Option.map_eq_some_iff.mp hv
        obtain ⟨⟨z, h3, h4⟩, h5⟩ := firstAt_spec d2 ds j hj
        exact ⟨b, y, d2, ds, j, z, rfl, rfl, see_dp R2 (shaped_lay hc.1) (s0.step st2), see_dp R2 (shaped_lay hc.2) s2, hc.1, hc.2, h3, h4, h5, q _ _ _ Step.refl R2 (.int _)⟩
      · cases hv
    | _ => exact p1.elim
/-- evaluation -/
theorem rep_ap {ma mb : ME} {e : SE} {g : Hand} : mRep ma mb e g = (ma e g).dat (kRepA mb e) := rfl
theorem kRepA_ap {mb : ME} {e : SE} {a : D} {g : Hand} : kRepA mb e a g = (mb e g).dat (kRepB a) := rfl
theorem kRepB_ap {ds : List D} {b : D} {g : Hand} : kRepB (.list ds) b g = rLst (fMul (.list ds) b) g := rfl
theorem rLst_ap {ds : List D} {g : Hand} : rLst (some (.list ds)) g = .ok ds g := rfl
theorem index_ap {mo me : ME} {e : SE} {g : Hand} : mIndex mo me e g = (mo e g).dat (kIndex me e) := rfl
theorem kIndex_ap {me : ME} {e : SE} {ds : List D} {g : Hand} : kIndex me e (.list ds) g = (me e g).dat (kOp2b fIndex (.list ds)) := rfl

/-! ### a row of names at once -/
inductive MV where
  | val (v : Val)
  | own (c : Cel)
/-- the values of a row, from H00 on; the new things are new there -/
inductive MReps (K : PySem.W.Frag) (ah : Addr) (F H : Hp) : Hp → List MV → List V → Prop
  | nil {H00 : Hp} : MReps K ah F H H00 [] []
  | val {H00 : Hp} {v : Val} {x : V} {ms : List MV} {xs : List V} : VRep K ah F v x → MReps K ah F H H00 ms xs → MReps K ah F H H00 (.val v :: ms) (x :: xs)
  | own {H00 H1 : Hp} {c : Cel} {a : Addr} {o : HO} {ms : List MV} {xs : List V} : H a = some o → CelAt K F c o → F a = none → a ≠ ah → H00 a = none → (∀ b, H1 b = none → H00 b = none) → H1 a ≠ none → MReps K ah F H H1 ms xs → MReps K ah F H H00 (.own c :: ms) (.ref a :: xs)
end
section
variable {K : PySem.W.Frag} {ah : Addr} {H0 F0 F F' H H' H00 H01 : Hp} {e : SE} {g g' : Hand} {σ : L2.St}
theorem MReps.less (h : ∀ b, H01 b = none → H00 b = none) {ms : List MV} {xs : List V} (r : MReps K ah F H H01 ms xs) : MReps K ah F H H00 ms xs := by
  induction r generalizing H00 with
  | nil => exact .nil
  | val r t ih => exact .val r (ih h)
  | own h1 h2 h3 h4 h5 h6 h7 t ih => exact .own h1 h2 h3 h4 (h _ h5) (fun b hb => h b (h6 b hb)) h7 t
theorem notOwn_val {i : Nat} {v : Val} {x : V} {a : Addr} (h : ∀ j, ¬ OwnAt e σ j a) : ∀ j, ¬ OwnAt (e.set i (.val v)) (σ.set i (some x)) j a := fun j z => h j (own_set z (fun _ w => by cases w)).2
theorem notOwn_own {i : Nat} {c : Cel} {a b : Addr} (n : a ≠ b) (h : ∀ j, ¬ OwnAt e σ j a) : ∀ j, ¬ OwnAt (e.set i (.own c)) (σ.set i (some (.ref b))) j a := fun j ⟨⟨c', z1⟩, z2⟩ => by
  rcases set_get z1 with ⟨rfl, _, _⟩ | ⟨n1, w1⟩
  · rcases set_get z2 with ⟨_, w, _⟩ | ⟨n2, _⟩
    · cases w; exact n rfl
    · exact n2 rfl
  · rcases set_get z2 with ⟨w, _, _⟩ | ⟨_, w2⟩
    · exact n1 w
    · exact h j ⟨⟨c', w1⟩, w2⟩
def setM (e : SE) : List Nat → List MV → Option SE
  | [], [] => some e
  | i :: is, .val v :: ms => setM (e.set i (.val v)) is ms
  | i :: is, .own c :: ms => setM (e.set i (.own c)) is ms
  | _, _ => none
def setV (σ : L2.St) : List Nat → List V → L2.St
  | i :: is, x :: xs => setV (σ.set i (some x)) is xs
  | _, _ => σ
theorem Rel.setM {ms : List MV} {xs : List V} (r : MReps K ah F H H00 ms xs) : ∀ {is : List Nat} {e e' : SE} {σ : L2.St}, Rel K ah H0 F0 F e g σ H → (∀ b, H00 b = none → H0 b = none) → (∀ b, H00 b = none → ∀ j, ¬ OwnAt e σ j b) → Sm.setM e is ms = some e' → Rel K ah H0 F0 F e' g (setV σ is xs) H := by
  induction r with
  | nil =>
    intro is e e' σ R _ _ h
    cases is with
    | nil => cases h; exact R
    | cons => cases h
  | @val H00 v x ms xs r t ih =>
    intro is e e' σ R h0 hn h
    cases is with
    | nil => cases h
    | cons i is => exact ih (R.setVal i r) h0 (fun b hb => notOwn_val (hn b hb)) h
  | @own H00 H1 c a o ms xs h1 h2 h3 h4 h5 h6 h7 t ih =>
    intro is e e' σ R h0 hn h
    cases is with
    | nil => cases h
    | cons i is =>
      refine ih (R.setOwn i h1 h2 h3 h4 (h0 a h5) (hn a h5)) (fun b hb => h0 b (h6 b hb)) (fun b hb => notOwn_own (fun z => h7 (z ▸ hb)) (hn b (h6 b hb))) h
end
section
variable {X : Cx} {E : XK}
abbrev MM := SE → Hand → Res (List MV)
def PostM (K : PySem.W.Frag) (mg : Str → Option Value) (E : XK) (ah : Addr) (H0 F0 F : Hp) (e : SE) (σ : L2.St) (H : Hp) (Q : List V → Hp → Prop) : Res (List MV) → Prop
  | .ok ms g' => ∀ F' H' xs, Step ah F F' H H' → Rel K ah H0 F0 F' e g' σ H' → MReps K ah F' H' H ms xs → Q xs H'
  | .err ex g' => PostX K mg E ah H0 F0 ex g'
  | .stuck => False
def trM (K : PySem.W.Frag) (mg : Str → Option Value) (E : XK) (m : MM) : TA := fun σ H Q => ∃ ah H0 F0 F e g, Rel K ah H0 F0 F e g σ H ∧ PostM K mg E ah H0 F0 F e σ H Q (m e g)
abbrev simM (X : Cx) (E : XK) (es : List Expr) (m : MM) : Prop := PA X es (trM X.K X.mg E m)
def mMNil : MM := fun _ g => .ok [] g
def kMV (v : Val) (ms : List MV) (g : Hand) : Res (List MV) := .ok (.val v :: ms) g
def kMVa (mm : MM) (e : SE) (v : Val) (g : Hand) : Res (List MV) := (mm e g).bnd (kMV v)
def mMVal (m : ME) (mm : MM) : MM := fun e g => (m e g).bnd (kMVa mm e)
def kMO (c : Cel) (ms : List MV) (g : Hand) : Res (List MV) := .ok (.own c :: ms) g
def kMOa (mm : MM) (e : SE) (ds : List D) (g : Hand) : Res (List MV) := (mm e g).bnd (kMO (.lst ds))
def mMOwn (n : MN) (mm : MM) : MM := fun e g => (n e g).bnd (kMOa mm e)
section
variable {K : PySem.W.Frag} {mg : Str → Option Value} {ah : Addr} {H0 F0 F F' H H' : Hp} {e : SE} {g g' : Hand} {σ : L2.St}
/-- a row's wish at later heaps: what is new there was new before -/
theorem postM_step {Q : List V → Hp → Prop} {r : Res (List MV)} (s : Step ah F F' H H') (p : PostM K mg E ah H0 F0 F e σ H Q r) : PostM K mg E ah H0 F0 F' e σ H' Q r := by
  cases r with
  | ok v g => exact fun F2 H2 x st R v => p F2 H2 x (s.trans st) R (v.less s.live)
  | err ex g => exact p
  | stuck => exact p
theorem contM {Q : List V → Hp → Prop} : Cont K mg E ah H0 F0 (fun F H r => PostM K mg E ah H0 F0 F e σ H Q r) := ⟨fun p => p, fun p => p, postM_step⟩
theorem bindM {γ : Type} [Out γ] {W : Hp → Hp → γ → Prop} (c : Cont K mg E ah H0 F0 W) {r : Res (List MV)} {f : List MV → Hand → γ} {Q : List V → Hp → Prop} (p : W F H (r.bnd f))
    (k : ∀ {ms g' F' H' xs}, Step ah F F' H H' → Rel K ah H0 F0 F' e g' σ H' → MReps K ah F' H' H ms xs → W F' H' (f ms g') → Q xs H') : PostM K mg E ah H0 F0 F e σ H Q r := by
  cases r with
  | ok v g => exact fun F2 H2 x st R s => k st R s (c.step st p)
  | err ex g => exact c.err p
  | stuck => exact c.stuck p
end
theorem mNil' : simM X E [] mMNil := PA.imp pa_nil fun σ H Q p => by
  obtain ⟨ah, H0, F0, F, e, g, R, p⟩ := p
  exact p F H [] Step.refl R .nil
theorem mVal' {e : Expr} {es : List Expr} {m : ME} {mm : MM} (h : simE X E e m) (hr : simM X E es mm) (hs : starEach (e :: es) X.env = (false, eval e X.env) :: starEach es X.env := by rfl) : simM X E (e :: es) (mMVal m mm) := PA.imp (pa_cons h hr hs) fun σ H Q p => by
  obtain ⟨ah, H0, F0, F, e, g, R, p⟩ := p
  refine ⟨ah, H0, F0, F, e, g, R, bindE contM p fun {v} {g1} {F1} {H1} {x} st R1 s p => ⟨ah, H0, F0, F1, e, g1, R1, ?_⟩⟩
  have p : PostM X.K X.mg E ah H0 F0 F1 e σ H1 Q ((mm e g1).bnd (kMV v)) := p
  cases q : mm e g1 with
  | ok ms g2 =>
    rw [q] at p
    exact fun F2 H2 xs st2 R2 s2 => p F2 H2 (x :: xs) st2 R2 (.val (s.mono st2.ext) s2)
  | err ex g2 => rw [q] at p; exact p
  | stuck => rw [q] at p; exact p
theorem mOwn' {e : Expr} {es : List Expr} {n : MN} {mm : MM} (h : simN X E e n) (hr : simM X E es mm) (hs : starEach (e :: es) X.env = (false, eval e X.env) :: starEach es X.env := by rfl) : simM X E (e :: es) (mMOwn n mm) := PA.imp (pa_cons h hr hs) fun σ H Q p => by
  obtain ⟨ah, H0, F0, F, e, g, R, p⟩ := p
  refine ⟨ah, H0, F0, F, e, g, R, ?_⟩
  have p : PostM X.K X.mg E ah H0 F0 F e σ H Q ((n e g).bnd (kMOa mm e)) := p
  cases q : n e g with
  | ok ds g1 =>
    rw [q] at p
    intro F1 H1 a xs st R1 h1 h2 h3 h4
    refine ⟨ah, H0, F0, F1, e, g1, R1, ?_⟩
    have p : PostM X.K X.mg E ah H0 F0 F e σ H Q ((mm e g1).bnd (kMO (.lst ds))) := p
    have na : a ≠ ah := R.gd.fresh_ne h4
    cases q2 : mm e g1 with
    | ok ms g2 =>
      rw [q2] at p
      refine fun F2 H2 ys st2 R2 s2 => p F2 H2 (.ref a :: ys) (st.trans st2) R2 (.own (st2.keep a _ na h1) (CelAt.mono (c := .lst ds) st2.ext h2) ?_ na h4 st.live (by rw [h1]; exact fun z => by cases z) s2)
      cases z : F2 a with
      | none => rfl
      | some u =>
        rcases st2.new a u z with w | w
        · rw [h3] at w; cases w
        · rw [h1] at w; cases w
    | err ex g2 => rw [q2] at p; exact p
    | stuck => rw [q2] at p; exact p
  | err ex g1 => rw [q] at p; exact p
  | stuck => rw [q] at p; exact p
/-- {} -/
def kMD (mm : MM) (c : Cel) (e : SE) (g : Hand) : Res (List MV) := (mm e g).bnd (kMO c)
def mMDK (mm : MM) : MM := fun e g => kMD mm (.dK []) e g
def mMDT (mm : MM) : MM := fun e g => kMD mm (.dT []) e g
theorem mD_of {ex : Expr} {es : List Expr} {mm : MM} {c : Cel} {o : HO} (h : PE X ex (fun _ H Q => ∀ p, H p = none → Q (.ref p) (upd H p o))) (ho : ∀ F, CelAt X.K F c o) (hr : simM X E es mm) (hs : starEach (ex :: es) X.env = (false, eval ex X.env) :: starEach es X.env) : simM X E (ex :: es) (fun e g => kMD mm c e g) := PA.imp (pa_cons h hr hs) fun σ H Q p => by
  obtain ⟨ah, H0, F0, F, e, g, R, p⟩ := p
  intro a ha
  obtain ⟨R1, st⟩ := R.waste (o := o) ha
  refine ⟨ah, H0, F0, F, e, g, R1, ?_⟩
  have p : PostM X.K X.mg E ah H0 F0 F e σ H Q ((mm e g).bnd (kMO c)) := p
  have na : a ≠ ah := R.gd.fresh_ne ha
  have fa := R.gd.freshF ha
  cases q2 : mm e g with
  | ok ms g2 =>
    rw [q2] at p
    refine fun F2 H2 ys st2 R2 s2 => p F2 H2 (.ref a :: ys) (st.trans st2) R2 (.own (st2.keep a _ na upd_same) (ho F2) ?_ na ha st.live (by rw [upd_same]; exact fun z => by cases z) s2)
    cases z : F2 a with
    | none => rfl
    | some u =>
      rcases st2.new a u z with w | w
      · rw [fa] at w; cases w
      · rw [upd_same] at w; cases w
  | err ex g2 => rw [q2] at p; exact p
  | stuck => rw [q2] at p; exact p
theorem mDK' {pos : Pos} {es : List Expr} {mm : MM} (hr : simM X E es mm) (hs : starEach (.Dict [] [] pos :: es) X.env = (false, eval (.Dict [] [] pos) X.env) :: starEach es X.env := by rfl) : simM X E (.Dict [] [] pos :: es) (mMDK mm) := mD_of (c := .dK []) pe_dnewK (fun F => Paired.nil) hr hs
theorem mDT' {pos : Pos} {es : List Expr} {mm : MM} (hr : simM X E es mm) (hs : starEach (.Dict [] [] pos :: es) X.env = (false, eval (.Dict [] [] pos) X.env) :: starEach es X.env := by rfl) : simM X E (.Dict [] [] pos :: es) (mMDT mm) := mD_of (c := .dT []) pe_dnewT (fun F => Paired.nil) hr hs
/-- a, b = .. -/
def rSetM (o : Option SE) (g : Hand) : SR := match o with | some e => .nx e g | none => .stuck
def kParM (is : List Nat) (e : SE) (ms : List MV) (g : Hand) : SR := rSetM (setM e is ms) g
def mParM (is : List Nat) (mm : MM) : MS := fun e g => (mm e g).bnd (kParM is e)
theorem parM_core {is : List Nat} {mm : MM} {Dn : Ends} {σ : L2.St} {H : Hp} (p : trS X.K X.mg E (mParM is mm) Dn σ H) : trM X.K X.mg E mm σ H fun xs H' => xs.length = is.length ∧ Dn.nx (setV σ is xs) H' := by
  obtain ⟨ah, H0, F0, F, e, g, R, p⟩ := p
  refine ⟨ah, H0, F0, F, e, g, R, ?_⟩
  have p : PostS X.K X.mg E ah H0 F0 F Dn ((mm e g).bnd (kParM is e)) := p
  cases q : mm e g with
  | ok ms g2 =>
    rw [q] at p
    intro F2 H2 xs st R2 s
    have p : PostS X.K X.mg E ah H0 F0 F Dn (rSetM (setM e is ms) g2) := p
    cases z : setM e is ms with
    | none => rw [z] at p; exact p.elim
    | some e' =>
      rw [z] at p
      refine ⟨?_, p F2 H2 _ st.ext (Rel.setM s R2 (fun b hb => R.gd.fresh0 hb) (fun b hb => R.notOwn hb fun _ _ _ h => h) z)⟩
      clear p q R R2 st
      have : ∀ {H00 : Hp} {ms : List MV} {xs : List V}, MReps X.K ah F2 H2 H00 ms xs → ∀ {is : List Nat} {e e' : SE}, setM e is ms = some e' → xs.length = is.length := by
        intro H00 ms xs r
        induction r with
        | nil =>
          intro is e e' h
          cases is with
          | nil => rfl
          | cons => cases h
        | val r t ih =>
          intro is e e' h
          cases is with
          | nil => cases h
          | cons i is => simp [ih h]
        | own h1 h2 h3 h4 h5 h6 h7 t ih =>
          intro is e e' h
          cases is with
          | nil => cases h
          | cons i is => simp [ih h]
      exact this s z
  | err ex g2 => rw [q] at p; exact p
  | stuck => rw [q] at p; exact p
theorem sParM {i j : Nat} {x y : Str} {a b : Expr} {mm : MM} {px py pt pos : Pos} {kt k2 pt2} (hc : X.calm = true) (hN : X.N.Nodup) (hi : X.N[i]? = some x) (hj : X.N[j]? = some y) (hij : i ≠ j)
    (hx : X.env.scope.names.lookup x = some .local) (hy : X.env.scope.names.lookup y = some .local) (ha : simM X E [a, b] mm)
    (hw : swappedStores [.Tuple [.Name x px, .Name y py] kt pt] (.Tuple [a, b] k2 pt2) X.env = pure (some [x, y]))
    (hs : swapsWithSole [.Tuple [.Name x px, .Name y py] kt pt] (.Tuple [a, b] k2 pt2) pos.line X.env = pure false := by rfl) :
    simS X E (.Assign [.Tuple [.Name x px, .Name y py] kt pt] (.Tuple [a, b] k2 pt2) pos) (mParM [i, j] mm) := PS.imp (ps_par hc hN hi hj hij hx hy ha hw hs) fun Dn σ H p => by
  obtain ⟨ah, H0, F0, F, e, g, R, p⟩ := parM_core p
  refine ⟨ah, H0, F0, F, e, g, R, ?_⟩
  cases q : mm e g with
  | ok ms g2 =>
    rw [q] at p
    intro F2 H2 xs st R2 s
    obtain ⟨hl, h⟩ := p F2 H2 xs st R2 s
    match xs, hl with
    | [v, w], _ => exact ⟨v, w, rfl, h⟩
  | err ex g2 => rw [q] at p; exact p
  | stuck => rw [q] at p; exact p
theorem sParM3 {i j l : Nat} {x y z : Str} {a b c : Expr} {mm : MM} {px py pz pt pos : Pos} {kt k2 pt2} (hc : X.calm = true) (hN : X.N.Nodup) (hi : X.N[i]? = some x) (hj : X.N[j]? = some y) (hl : X.N[l]? = some z) (hij : i ≠ j) (hil : i ≠ l) (hjl : j ≠ l)
    (hx : X.env.scope.names.lookup x = some .local) (hy : X.env.scope.names.lookup y = some .local) (hz : X.env.scope.names.lookup z = some .local) (ha : simM X E [a, b, c] mm)
    (hw : swappedStores [.Tuple [.Name x px, .Name y py, .Name z pz] kt pt] (.Tuple [a, b, c] k2 pt2) X.env = pure (some [x, y, z]))
    (hs : swapsWithSole [.Tuple [.Name x px, .Name y py, .Name z pz] kt pt] (.Tuple [a, b, c] k2 pt2) pos.line X.env = pure false := by rfl) :
    simS X E (.Assign [.Tuple [.Name x px, .Name y py, .Name z pz] kt pt] (.Tuple [a, b, c] k2 pt2) pos) (mParM [i, j, l] mm) := PS.imp (ps_par3 hc hN hi hj hl hij hil hjl hx hy hz ha hw hs) fun Dn σ H p => by
  obtain ⟨ah, H0, F0, F, e, g, R, p⟩ := parM_core p
  refine ⟨ah, H0, F0, F, e, g, R, ?_⟩
  cases q : mm e g with
  | ok ms g2 =>
    rw [q] at p
    intro F2 H2 xs st R2 s
    obtain ⟨hl, h⟩ := p F2 H2 xs st R2 s
    match xs, hl with
    | [u, v, w], _ => exact ⟨u, v, w, rfl, h⟩
  | err ex g2 => rw [q] at p; exact p
  | stuck => rw [q] at p; exact p
/-! evaluation -/
section
variable {e : SE} {g : Hand} {m : ME} {n : MN} {mm : MM} {v : Val} {ds : List D} {ms : List MV} {c : Cel} {is : List Nat}
theorem mmNil_ap : mMNil e g = .ok [] g := rfl
theorem mmVal_ap : mMVal m mm e g = (m e g).bnd (kMVa mm e) := rfl
theorem kMVa_ap : kMVa mm e v g = (mm e g).bnd (kMV v) := rfl
theorem kMV_ap : kMV v ms g = .ok (.val v :: ms) g := rfl
theorem mmOwn_ap : mMOwn n mm e g = (n e g).bnd (kMOa mm e) := rfl
theorem kMOa_ap : kMOa mm e ds g = (mm e g).bnd (kMO (.lst ds)) := rfl
theorem kMO_ap : kMO c ms g = .ok (.own c :: ms) g := rfl
theorem mmDK_ap : mMDK mm e g = (mm e g).bnd (kMO (.dK [])) := rfl
theorem mmDT_ap : mMDT mm e g = (mm e g).bnd (kMO (.dT [])) := rfl
theorem parM_ap : mParM is mm e g = (mm e g).bnd (kParM is e) := rfl
theorem kParM_ap : kParM is e ms g = rSetM (setM e is ms) g := rfl
theorem rSetM_ap : rSetM (some e) g = .nx e g := rfl
theorem setM_0 : setM e [] [] = some e := rfl
theorem setM_v {i : Nat} : setM e (i :: is) (.val v :: ms) = setM (e.set i (.val v)) is ms := rfl
theorem setM_o {i : Nat} : setM e (i :: is) (.own c :: ms) = setM (e.set i (.own c)) is ms := rfl
end
end
end Sm

/-! Sm17: lists of texts compared; texts cut. -/
namespace Sm
open PySem L2
theorem L_lay {css : List (List Nat)} (h : ∀ c ∈ css, ∀ x ∈ c, x < 1114112) : PyData.canLayAll0 (L css) = true ∧ PyData.depthAll (L css) = 0 := by
  induction css with
  | nil => simp [L, PyData.canLayAll0, PyData.depthAll]
  | cons c css ih =>
    obtain ⟨i1, i2⟩ := ih fun b hb => h b (List.mem_cons_of_mem _ hb)
    have e1 : PyData.canLay0 (.str (S c)) = true := by
      rw [PyData.canLay0]
      unfold PyData.strOk
      refine Array.all_eq_true_iff_forall_mem.mpr fun x hx => ?_
      have := h c List.mem_cons_self x (by simpa [S] using hx)
      simpa using this
    show PyData.canLayAll0 (.str (S c) :: L css) = true ∧ PyData.depthAll (.str (S c) :: L css) = 0
    simp only [PyData.canLayAll0, PyData.depthAll, PyData.depth, e1, i1, i2]
    exact ⟨rfl, rfl⟩
theorem L_shaped {css : List (List Nat)} (h : ∀ c ∈ css, ∀ x ∈ c, x < 1114112) : SeqAt.shaped (.list (L css)) = true := by
  unfold SeqAt.shaped
  rw [PyData.canLay0, PyData.depth, (L_lay h).1, (L_lay h).2]; rfl
theorem L_shapedT {css : List (List Nat)} (h : ∀ c ∈ css, ∀ x ∈ c, x < 1114112) : SeqAt.shaped (.tuple (L css)) = true := by
  unfold SeqAt.shaped
  rw [PyData.canLay0, PyData.depth, (L_lay h).1, (L_lay h).2]; rfl
theorem L_eqvAll (css : List (List Nat)) : PyData.eqvAll (L css) (L css) = true := by
  induction css with
  | nil => rfl
  | cons c css ih =>
    show PyData.eqvAll (.str (S c) :: L css) (.str (S c) :: L css) = true
    rw [PyData.eqvAll, ih, PyData.eqv]; simp
theorem fEq_LL {css : List (List Nat)} (h : ∀ c ∈ css, ∀ x ∈ c, x < 1114112) : fEq (.list (L css)) (.list (L css)) = some (.bool true) :=
  fEq_ll (by rw [L_shaped h]; rfl) (by rw [PyData.eqv]; exact L_eqvAll css)
theorem fNe_LT {css : List (List Nat)} (h : ∀ c ∈ css, ∀ x ∈ c, x < 1114112) : fNe (.tuple (L css)) (.tuple (L css)) = some (.bool false) :=
  fNe_tt (c := true) (by rw [L_shapedT h]; rfl) (by rw [PyData.eqv]; exact L_eqvAll css)
theorem L_flat (css : List (List Nat)) : (L css).all flatD = true := by
  refine List.all_eq_true.mpr fun d hd => ?_
  obtain ⟨c, _, rfl⟩ := List.mem_map.mp hd
  rfl
theorem eqv_S (a b : List Nat) : PyData.eqv (.str (S a)) (.str (S b)) = decide (a = b) := by
  rw [PyData.eqv, bl_beq]
  exact decide_eq_decide.mpr S_inj
theorem notIn_LT (css : List (List Nat)) (c : List Nat) : fNotIn (.str (S c)) (.tuple (L css)) = some (.bool (!decide (c ∈ css))) := by
  show (if flatD (.str (S c)) && (L css).all flatD then some (PyData.bool (!(L css).any fun z => PyData.eqv z (.str (S c)))) else none) = _
  rw [L_flat]
  show some (PyData.bool (!(L css).any fun z => PyData.eqv z (.str (S c)))) = _
  congr 3
  unfold L
  rw [List.any_map]
  induction css with
  | nil => rfl
  | cons b css ih =>
    rw [List.any_cons, ih]
    show (PyData.eqv (.str (S b)) (.str (S c)) || _) = _
    rw [eqv_S]
    by_cases h : b = c
    · subst h; simp
    · have h2 : ¬ c = b := fun z => h z.symm
      simp [h, h2]
theorem fIx_S0 {c : Nat} {r : List Nat} (h : r.length < 999999) : fIx (.str (S (c :: r))) (.int 0) = some (.str ⟨#[c]⟩) := by
  show (if (S (c :: r)).length ≤ 1000000 then (atI (c :: r) 0).map fun c => PyData.str ⟨#[c]⟩ else none) = _
  rw [S_len, if_pos (by simp; omega), show atI (c :: r) 0 = some c from atI_nat (j := 0) rfl]; rfl
theorem fIx_Sm1 {c : Nat} {r : List Nat} (h : r.length < 999999) : fIx (.str (S (r ++ [c]))) (.int (-1)) = some (.str ⟨#[c]⟩) := by
  show (if (S (r ++ [c])).length ≤ 1000000 then (atI (r ++ [c]) (-1)).map fun c => PyData.str ⟨#[c]⟩ else none) = _
  rw [S_len, if_pos (by simp; omega), atI_last]; rfl
theorem cutS_to (cs : List Nat) (i : Nat) (h : i ≤ cs.length) : cutS (S cs) none (some (i : Int)) = S (cs.take i) := by
  unfold cutS
  rw [S_list, S_len, HT.sIx_none, HT.sIx_nat, Nat.min_eq_left h, List.drop_zero, Nat.sub_zero]; rfl
theorem cutS_from (cs : List Nat) (i : Nat) (h : i ≤ cs.length) : cutS (S cs) (some (i : Int)) none = S (cs.drop i) := by
  unfold cutS
  rw [S_list, S_len, HT.sIx_none, HT.sIx_nat, Nat.min_eq_left h, List.take_of_length_le (by simp)]; rfl
theorem cutS_m1 (cs : List Nat) (c : Nat) : cutS (S (cs ++ [c])) none (some (-1)) = S cs := by
  unfold cutS
  rw [S_list, S_len, HT.sIx_none, List.drop_zero, Nat.sub_zero]
  have : HT.sIx (cs ++ [c]).length (cs ++ [c]).length (some (-1)) = cs.length := by
    show (if (-1 : Int) < 0 then ((-1 : Int) + ((cs ++ [c]).length : Nat)).toNat else min (-1 : Int).toNat (cs ++ [c]).length) = _
    rw [if_pos (by decide), List.length_append]
    simp only [List.length_cons, List.length_nil]
    omega
  rw [this, List.take_left']
  · rfl
  · rfl
theorem intsD_map {α : Type} (f : α → Int) (xs : List α) : intsD (xs.map fun x => .int (f x)) = some (xs.map f) := by
  induction xs with
  | nil => rfl
  | cons x xs ih => show (intsD (xs.map fun x => .int (f x))).map (f x :: ·) = _; rw [ih]; rfl
end Sm

namespace Sm.k45
open PySem PySem.Spec PyProof.Rows L2 Sm
def topS (i : Nat) : Stmt := PySem.Challenge.pw_rankrows_k45_whole_weights_of_coverings.main.body.getD i (.Pass ⟨0, 0, 0, 0⟩)
abbrev s__law_hand : Stmt := topS 33
abbrev s__law_draw : Stmt := topS 34
abbrev s__law_any : Stmt := topS 35
abbrev s__law_base : Stmt := topS 37
abbrev s__law_covering : Stmt := topS 40
abbrev s__law_is : Stmt := topS 36
abbrev s__law_binomial : Stmt := topS 38
abbrev s__law_sums : Stmt := topS 41
abbrev s__law_weight : Stmt := topS 39
abbrev s_is_integer : Stmt := topS 8
abbrev s_is_within : Stmt := topS 9
abbrev s_check_number : Stmt := topS 12
abbrev s_raw_coverings : Stmt := topS 26
abbrev s_coverings : Stmt := topS 27
abbrev s_is_base : Stmt := topS 10
abbrev s_check_base : Stmt := topS 11
abbrev s_row_by : Stmt := topS 13
abbrev s_raw_u : Stmt := topS 14
abbrev s_u_term : Stmt := topS 15
abbrev s_raw_cells : Stmt := topS 24
abbrev s_is_covering : Stmt := topS 23
abbrev s_check_covering : Stmt := topS 25
abbrev s_raw_power : Stmt := topS 16
abbrev s_raw_weight : Stmt := topS 28
abbrev s_weight : Stmt := topS 29
abbrev s_chosen : Stmt := topS 30
abbrev s_weights_of : Stmt := topS 31
abbrev s__law_is_right : Stmt := topS 42
abbrev s_law : Stmt := topS 43
abbrev N__law_hand : List Str := ["script", "all_cells", "cell"]
theorem sc__law_hand : FnScope ["script", "all_cells", "cell"] ["script"] (defScope s__law_hand) := ⟨rfl, rfl, rfl, by decide +kernel, rfl, by decide +kernel, by decide +kernel⟩
abbrev N__law_draw : List Str := ["hand", "many", "cell", "digit", "number"]
theorem sc__law_draw : FnScope ["hand", "many", "cell", "digit", "number"] ["hand", "many"] (defScope s__law_draw) := ⟨rfl, rfl, rfl, by decide +kernel, rfl, by decide +kernel, by decide +kernel⟩
abbrev N__law_any : List Str := ["hand", "things"]
theorem sc__law_any : FnScope ["hand", "things"] ["hand", "things"] (defScope s__law_any) := ⟨rfl, rfl, rfl, by decide +kernel, rfl, by decide +kernel, by decide +kernel⟩
abbrev N__law_base : List Str := ["hand", "wide"]
theorem sc__law_base : FnScope ["hand", "wide"] ["hand"] (defScope s__law_base) := ⟨rfl, rfl, rfl, by decide +kernel, rfl, by decide +kernel, by decide +kernel⟩
abbrev N__law_covering : List Str := ["hand", "most", "lap_no"]
theorem sc__law_covering : FnScope ["hand", "most", "lap_no"] ["hand", "most"] (defScope s__law_covering) := ⟨rfl, rfl, rfl, by decide +kernel, rfl, by decide +kernel, by decide +kernel⟩
abbrev N__law_is : List Str := ["came", "due", "one", "other"]
theorem sc__law_is : FnScope ["came", "due", "one", "other"] ["came", "due"] (defScope s__law_is) := ⟨rfl, rfl, rfl, by decide +kernel, rfl, by decide +kernel, by decide +kernel⟩
abbrev N__law_binomial : List Str := ["many", "some", "found", "step"]
theorem sc__law_binomial : FnScope ["many", "some", "found", "step"] ["many", "some"] (defScope s__law_binomial) := ⟨rfl, rfl, rfl, by decide +kernel, rfl, by decide +kernel, by decide +kernel⟩
abbrev N__law_sums : List Str := ["base", "cells", "found", "many", "part", "lap_no"]
theorem sc__law_sums : FnScope ["base", "cells", "found", "many", "part", "lap_no"] ["base", "cells"] (defScope s__law_sums) := ⟨rfl, rfl, rfl, by decide +kernel, rfl, by decide +kernel, by decide +kernel⟩
abbrev N__law_weight : List Str := ["base", "covering", "found", "sign"]
theorem sc__law_weight : FnScope ["base", "covering", "found", "sign"] ["base", "covering"] (defScope s__law_weight) := ⟨rfl, rfl, rfl, by decide +kernel, rfl, by decide +kernel, by decide +kernel⟩
abbrev N_is_integer : List Str := ["thing"]
theorem sc_is_integer : FnScope ["thing"] ["thing"] (defScope s_is_integer) := ⟨rfl, rfl, rfl, by decide +kernel, rfl, by decide +kernel, by decide +kernel⟩
abbrev N_is_within : List Str := ["thing", "low", "high"]
theorem sc_is_within : FnScope ["thing", "low", "high"] ["thing", "low", "high"] (defScope s_is_within) := ⟨rfl, rfl, rfl, by decide +kernel, rfl, by decide +kernel, by decide +kernel⟩
abbrev N_check_number : List Str := ["thing", "low", "high"]
theorem sc_check_number : FnScope ["thing", "low", "high"] ["thing", "low", "high"] (defScope s_check_number) := ⟨rfl, rfl, rfl, by decide +kernel, rfl, by decide +kernel, by decide +kernel⟩
abbrev N_raw_coverings : List Str := ["cells", "rows", "one"]
theorem sc_raw_coverings : FnScope ["cells", "rows", "one"] ["cells"] (defScope s_raw_coverings) := ⟨rfl, rfl, rfl, by decide +kernel, rfl, by decide +kernel, by decide +kernel⟩
abbrev N_coverings : List Str := ["cells"]
theorem sc_coverings : FnScope ["cells"] ["cells"] (defScope s_coverings) := ⟨rfl, rfl, rfl, by decide +kernel, rfl, by decide +kernel, by decide +kernel⟩
abbrev N_is_base : List Str := ["thing", "one"]
theorem sc_is_base : FnScope ["thing", "one"] ["thing"] (defScope s_is_base) := ⟨rfl, rfl, rfl, by decide +kernel, rfl, by decide +kernel, by decide +kernel⟩
abbrev N_check_base : List Str := ["thing"]
theorem sc_check_base : FnScope ["thing"] ["thing"] (defScope s_check_base) := ⟨rfl, rfl, rfl, by decide +kernel, rfl, by decide +kernel, by decide +kernel⟩
abbrev N_row_by : List Str := ["base", "first", "second", "many", "p", "q", "found"]
theorem sc_row_by : FnScope ["base", "first", "second", "many", "p", "q", "found"] ["base", "first", "second", "many"] (defScope s_row_by) := ⟨rfl, rfl, rfl, by decide +kernel, rfl, by decide +kernel, by decide +kernel⟩
abbrev N_raw_u : List Str := ["base", "n"]
theorem sc_raw_u : FnScope ["base", "n"] ["base", "n"] (defScope s_raw_u) := ⟨rfl, rfl, rfl, by decide +kernel, rfl, by decide +kernel, by decide +kernel⟩
abbrev N_u_term : List Str := ["base", "n"]
theorem sc_u_term : FnScope ["base", "n"] ["base", "n"] (defScope s_u_term) := ⟨rfl, rfl, rfl, by decide +kernel, rfl, by decide +kernel, by decide +kernel⟩
abbrev N_raw_cells : List Str := ["covering", "sign"]
theorem sc_raw_cells : FnScope ["covering", "sign"] ["covering"] (defScope s_raw_cells) := ⟨rfl, rfl, rfl, by decide +kernel, rfl, by decide +kernel, by decide +kernel⟩
abbrev N_is_covering : List Str := ["thing", "sign"]
theorem sc_is_covering : FnScope ["thing", "sign"] ["thing"] (defScope s_is_covering) := ⟨rfl, rfl, rfl, by decide +kernel, rfl, by decide +kernel, by decide +kernel⟩
abbrev N_check_covering : List Str := ["thing"]
theorem sc_check_covering : FnScope ["thing"] ["thing"] (defScope s_check_covering) := ⟨rfl, rfl, rfl, by decide +kernel, rfl, by decide +kernel, by decide +kernel⟩
abbrev N_raw_power : List Str := ["number", "times", "found", "turn"]
theorem sc_raw_power : FnScope ["number", "times", "found", "turn"] ["number", "times"] (defScope s_raw_power) := ⟨rfl, rfl, rfl, by decide +kernel, rfl, by decide +kernel, by decide +kernel⟩
abbrev N_raw_weight : List Str := ["base", "signs", "shorts"]
theorem sc_raw_weight : FnScope ["base", "signs", "shorts"] ["base", "signs"] (defScope s_raw_weight) := ⟨rfl, rfl, rfl, by decide +kernel, rfl, by decide +kernel, by decide +kernel⟩
abbrev N_weight : List Str := ["base", "covering"]
theorem sc_weight : FnScope ["base", "covering"] ["base", "covering"] (defScope s_weight) := ⟨rfl, rfl, rfl, by decide +kernel, rfl, by decide +kernel, by decide +kernel⟩
abbrev N_chosen : List Str := ["many", "size", "found", "at"]
theorem sc_chosen : FnScope ["many", "size", "found", "at"] ["many", "size"] (defScope s_chosen) := ⟨rfl, rfl, rfl, by decide +kernel, rfl, by decide +kernel, by decide +kernel⟩
abbrev N_weights_of : List Str := ["base", "cells", "found", "longs", "one"]
theorem sc_weights_of : FnScope ["base", "cells", "found", "longs", "one"] ["base", "cells"] (defScope s_weights_of) := ⟨rfl, rfl, rfl, by decide +kernel, rfl, by decide +kernel, by decide +kernel⟩
abbrev N__law_is_right : List Str := ["hand", "base", "one", "other", "cells", "every", "due_sums", "covering", "many", "great", "told"]
theorem sc__law_is_right : FnScope ["hand", "base", "one", "other", "cells", "every", "due_sums", "covering", "many", "great", "told"] ["hand"] (defScope s__law_is_right) := ⟨rfl, rfl, rfl, by decide +kernel, rfl, by decide +kernel, by decide +kernel⟩
abbrev N_law : List Str := ["script", "hand", "lap_no"]
theorem sc_law : FnScope ["script", "hand", "lap_no"] ["script"] (defScope s_law) := ⟨rfl, rfl, rfl, by decide +kernel, rfl, by decide +kernel, by decide +kernel⟩
/-- what the written part says -/
structure Txt (K : PySem.W.Frag) (mg : Str → Option Value) : Prop where
  f__law_hand : Txf K mg "_law_hand" s__law_hand ["script"]
  f__law_draw : Txf K mg "_law_draw" s__law_draw ["hand", "many"]
  f__law_any : Txf K mg "_law_any" s__law_any ["hand", "things"]
  f__law_base : Txf K mg "_law_base" s__law_base ["hand"]
  f__law_covering : Txf K mg "_law_covering" s__law_covering ["hand", "most"]
  f__law_is : Txf K mg "_law_is" s__law_is ["came", "due"]
  f__law_binomial : Txf K mg "_law_binomial" s__law_binomial ["many", "some"]
  f__law_sums : Txf K mg "_law_sums" s__law_sums ["base", "cells"]
  f__law_weight : Txf K mg "_law_weight" s__law_weight ["base", "covering"]
  f_is_integer : Txf K mg "is_integer" s_is_integer ["thing"]
  f_is_within : Txf K mg "is_within" s_is_within ["thing", "low", "high"]
  f_check_number : Txf K mg "check_number" s_check_number ["thing", "low", "high"]
  f_raw_coverings : Txf K mg "raw_coverings" s_raw_coverings ["cells"]
  f_coverings : Txf K mg "coverings" s_coverings ["cells"]
  f_is_base : Txf K mg "is_base" s_is_base ["thing"]
  f_check_base : Txf K mg "check_base" s_check_base ["thing"]
  f_row_by : Txf K mg "row_by" s_row_by ["base", "first", "second", "many"]
  f_raw_u : Txf K mg "raw_u" s_raw_u ["base", "n"]
  f_u_term : Txf K mg "u_term" s_u_term ["base", "n"]
  f_raw_cells : Txf K mg "raw_cells" s_raw_cells ["covering"]
  f_is_covering : Txf K mg "is_covering" s_is_covering ["thing"]
  f_check_covering : Txf K mg "check_covering" s_check_covering ["thing"]
  f_raw_power : Txf K mg "raw_power" s_raw_power ["number", "times"]
  f_raw_weight : Txf K mg "raw_weight" s_raw_weight ["base", "signs"]
  f_weight : Txf K mg "weight" s_weight ["base", "covering"]
  f_chosen : Txf K mg "chosen" s_chosen ["many", "size"]
  f_weights_of : Txf K mg "weights_of" s_weights_of ["base", "cells"]
  f__law_is_right : Txf K mg "_law_is_right" s__law_is_right ["hand"]
  n_abs : mg "abs" = none
  n_all : mg "all" = none
  n_bool : mg "bool" = none
  n_int : mg "int" = none
  n_isinstance : mg "isinstance" = none
  n_len : mg "len" = none
  n_list : mg "list" = none
  n_range : mg "range" = none
  n_repr : mg "repr" = none
  n_str : mg "str" = none
  n_sum : mg "sum" = none
  n_tuple : mg "tuple" = none
  n_zip : mg "zip" = none
  i_LONG : ∃ t, mg "LONG" = some (.str "d" t)
  i_MOST_BASE : ∃ t, mg "MOST_BASE" = some (.int 100 t)
  i_MOST_CELLS : ∃ t, mg "MOST_CELLS" = some (.int 40 t)
  i_MOST_LISTED : ∃ t, mg "MOST_LISTED" = some (.int 16 t)
  i_MOST_PLACE : ∃ t, mg "MOST_PLACE" = some (.int 400 t)
  i_MOST_WEIGHED : ∃ t, mg "MOST_WEIGHED" = some (.int 200 t)
  i_SHORT : ∃ t, mg "SHORT" = some (.str "s" t)
  e_NoBase : ErrC K mg "NoBase"
  e_NoCovering : ErrC K mg "NoCovering"
  e_NoNumber : ErrC K mg "NoNumber"
def b__law_draw : MS := mSeq (mIfS (mAnd (mTest (mOp2 fEq (mHix 0 2) (mC (.int 0)))) (mTest (mOp2 fLt (mHix 0 1) (mCB fLen (mOCons (mHix 0 0) (mONil))))))
    (mSeq (mSet 2 (mOp2 fIx (mHix 0 0) (mHix 0 1)))
    (mSeq (mHSet 0 1 (mOp2 fAdd (mHix 0 1) (mC (.int 1))))
    (mSeq (mHSet 0 3 (mOp2 fMod (mCB fInt (mOCons (mOp2 fAdd (mOp2 fAdd (mOp2 fMul (mHix 0 3) (mC (.int 69621))) (mVar 2)) (mC (.int 313))) (mONil))) (mC (.int 2147483629))))
    (mIfS (mTest (mOp2 fGe (mVar 2) (mOp2 fPow (mC (.int 10)) (mC (.int 18)))))
    (mHSet 0 2 (mVar 2))
    (mNext)))))
    (mNext))
    (mSeq (mIfS (mTest (mOp2 fGt (mHix 0 2) (mC (.int 0))))
    (mSeq (mSet 3 (mOp2 fMod (mCB fInt (mOCons (mHix 0 2) (mONil))) (mVar 1)))
    (mSeq (mHSet 0 2 (mOp2 fDiv (mHix 0 2) (mVar 1)))
    (mRet (mVar 3))))
    (mNext))
    (mSeq (mHSet 0 4 (mOp2 fAdd (mHix 0 4) (mC (.int 1))))
    (mSeq (mSet 4 (mOp2 fMod (mCB fInt (mOCons (mOp2 fMul (mCB fInt (mOCons (mOp2 fAdd (mHix 0 3) (mOp2 fMul (mC (.int 7919)) (mHix 0 4))) (mONil))) (mC (.int 48271))) (mONil))) (mC (.int 2147483647))))
    (mSeq (mSet 4 (mOp2 fMod (mCB fInt (mOCons (mOp2 fMul (mVar 4) (mOp2 fAdd (mOp2 fDiv (mVar 4) (mC (.int 1009))) (mC (.int 69621)))) (mONil))) (mC (.int 2147483647))))
    (mSeq (mSet 4 (mOp2 fMod (mCB fInt (mOCons (mOp2 fMul (mVar 4) (mOp2 fAdd (mOp2 fDiv (mVar 4) (mC (.int 2003))) (mC (.int 40692)))) (mONil))) (mC (.int 2147483399))))
    (mRet (mOp2 fMod (mCB fInt (mOCons (mOp2 fDiv (mVar 4) (mC (.int 16))) (mONil))) (mVar 1))))))))
def m__law_draw : List Val → Hand → Res Val := fnM 5 b__law_draw
def b__law_any : MS := mRet (mOp2 fIx (mVar 1) (mCall m__law_draw (mACons (mVar 0) (mACons (mCB fLen (mOCons (mVar 1) (mONil))) (mANil)))))
def m__law_any : List Val → Hand → Res Val := fnM 2 b__law_any
def b__law_base : MS := mSeq (mSet 1 (mCall m__law_any (mACons (mVar 0) (mACons (mL (mDisp (mACons (mC (.int 3)) (mACons (mC (.int 3)) (mACons (mC (.int 12)) (mACons (mC (.int 100)) (mANil))))))) (mANil)))))
    (mRet (mTup (mACons (mOp2 fSub (mCall m__law_draw (mACons (mVar 0) (mACons (mOp2 fAdd (mOp2 fMul (mC (.int 2)) (mVar 1)) (mC (.int 1))) (mANil)))) (mVar 1)) (mACons (mOp2 fSub (mCall m__law_draw (mACons (mVar 0) (mACons (mOp2 fAdd (mOp2 fMul (mC (.int 2)) (mVar 1)) (mC (.int 1))) (mANil)))) (mVar 1)) (mANil)))))
def m__law_base : List Val → Hand → Res Val := fnM 2 b__law_base
def b__law_covering : MS := mRet (mM1 fJoin (mC (.str "")) (mL (mLc (mRng1 (mOCons (mCall m__law_draw (mACons (mVar 0) (mACons (mOp2 fAdd (mVar 1) (mC (.int 1))) (mANil)))) (mONil))) (kName 2) (mYes) (mCall m__law_any (mACons (mVar 0) (mACons (mL (mDisp (mACons (mC (.str "s")) (mACons (mC (.str "d")) (mANil))))) (mANil)))) [2])))
def m__law_covering : List Val → Hand → Res Val := fnM 3 b__law_covering
def b__law_is (self : List Val → Hand → Res Val) : MS := mSeq (mIfS (mTest (mIsi ["tuple", "list"] (mVar 1)))
    (mSeq (mIfS (mOr (mTest (mOp2 fNe (mIsi ["tuple"] (mVar 0)) (mIsi ["tuple"] (mVar 1)))) (mNot (mTest (mIsi ["tuple", "list"] (mVar 0)))))
    (mRet (mC (.bool false)))
    (mNext))
    (mRet (mAndV (mOp2 fEq (mCB fLen (mOCons (mVar 0) (mONil))) (mCB fLen (mOCons (mVar 1) (mONil)))) (mCB fAll (mOCons (mL (mLc (mZip (mOCons (mVar 0) (mOCons (mVar 1) (mONil)))) (kTup 2 (kCons (kName 2) (kCons (kName 3) (kNil)))) (mYes) (mCall self (mACons (mVar 2) (mACons (mVar 3) (mANil)))) [2, 3])) (mONil))))))
    (mNext))
    (mSeq (mIfS (mOr (mTest (mOp2 fIs (mVar 1) (mC .none))) (mTest (mIsi ["bool"] (mVar 1))))
    (mRet (mIf (mTest (mOp2 fIs (mVar 1) (mC .none))) (mOp2 fIs (mVar 0) (mC .none)) (mAndV (mIsi ["bool"] (mVar 0)) (mOp2 fEq (mCB fRepr (mOCons (mVar 0) (mONil))) (mCB fRepr (mOCons (mVar 1) (mONil)))))))
    (mNext))
    (mSeq (mIfS (mTest (mIsi ["str"] (mVar 1)))
    (mRet (mAndV (mIsi ["str"] (mVar 0)) (mOp2 fEq (mCB fRepr (mOCons (mVar 0) (mONil))) (mCB fRepr (mOCons (mVar 1) (mONil))))))
    (mNext))
    (mRet (mAndV (mIsi ["int"] (mVar 0)) (mAndV (mNotV (mIsi ["bool"] (mVar 0))) (mOp2 fEq (mCB fRepr (mOCons (mVar 0) (mONil))) (mCB fRepr (mOCons (mVar 1) (mONil)))))))))
def m__law_is : Nat → List Val → Hand → Res Val
  | 0 => fnNo
  | n + 1 => fnM 4 (b__law_is (m__law_is n))
def b__law_binomial : MS := mSeq (mSet 2 (mC (.int 1)))
    (mSeq (mFor (mRng1 (mOCons (mVar 1) (mONil))) (kName 3)
    (mSet 2 (mOp2 fDiv (mOp2 fMul (mVar 2) (mOp2 fSub (mVar 0) (mVar 3))) (mOp2 fAdd (mVar 3) (mC (.int 1))))))
    (mRet (mVar 2)))
def m__law_binomial : List Val → Hand → Res Val := fnM 4 b__law_binomial
def b__law_sums : MS := mSeq (mOwn 2 (mDisp (mANil)))
    (mSeq (mFor (mRng1 (mOCons (mOp2 fAdd (mOp2 fDiv (mVar 1) (mC (.int 2))) (mC (.int 1))) (mONil))) (kName 3)
    (mSeq (mSet 4 (mCall m__law_binomial (mACons (mOp2 fSub (mVar 1) (mVar 3)) (mACons (mVar 3) (mANil)))))
    (mSeq (mFor (mRng1 (mOCons (mOp2 fSub (mVar 1) (mOp2 fMul (mC (.int 2)) (mVar 3))) (mONil))) (kName 5)
    (mSet 4 (mOp2 fMul (mVar 4) (mOp2 fIx (mVar 0) (mC (.int 0))))))
    (mSeq (mFor (mRng1 (mOCons (mVar 3) (mONil))) (kName 5)
    (mSet 4 (mOp2 fMul (mVar 4) (mOp2 fSub (mC (.int 0)) (mOp2 fIx (mVar 0) (mC (.int 1)))))))
    (mApp 2 (mVar 4))))))
    (mFrz 2 (mRet (mVar 2))))
def m__law_sums : List Val → Hand → Res Val := fnM 6 b__law_sums
def b__law_weight : MS := mSeq (mSet 2 (mC (.int 1)))
    (mSeq (mFor (mItems (mVar 1)) (kName 3)
    (mSet 2 (mOp2 fMul (mVar 2) (mIf (mTest (mOp2 fEq (mVar 3) (mC (.str "s")))) (mOp2 fIx (mVar 0) (mC (.int 0))) (mOp2 fSub (mC (.int 0)) (mOp2 fIx (mVar 0) (mC (.int 1))))))))
    (mRet (mVar 2)))
def m__law_weight : List Val → Hand → Res Val := fnM 4 b__law_weight
def b_is_integer : MS := mRet (mAndV (mIsi ["int"] (mVar 0)) (mNotV (mIsi ["bool"] (mVar 0))))
def m_is_integer : List Val → Hand → Res Val := fnM 1 b_is_integer
def b_is_within : MS := mRet (mAndV (mCall m_is_integer (mACons (mVar 0) (mANil))) (mChain fLe fLe (mVar 1) (mVar 0) (mVar 2)))
def m_is_within : List Val → Hand → Res Val := fnM 3 b_is_within
def b_check_number : MS := mIfS (mNot (mTest (mCall m_is_within (mACons (mVar 0) (mACons (mVar 1) (mACons (mVar 2) (mANil)))))))
    (mRaise "NoNumber")
    (mNext)
def m_check_number : List Val → Hand → Res Val := fnM 3 b_check_number
def b_raw_coverings : MS := mSeq (mOwn 1 (mDisp (mACons (mL (mDisp (mACons (mC (.str "")) (mANil)))) (mACons (mL (mDisp (mACons (mC (.str "s")) (mANil)))) (mANil)))))
    (mSeq (mWhile (mTest (mOp2 fLe (mCB fLen (mOCons (mPeek 1) (mONil))) (mVar 0)))
    (mApp 1 (mOp2 fAdd (mL (mLc (mItems (mOp2 fIx (mPeek 1) (mOp1 fNeg (mC (.int 2))))) (kName 2) (mYes) (mOp2 fAdd (mC (.str "d")) (mVar 2)) [2])) (mL (mLc (mItems (mOp2 fIx (mPeek 1) (mOp1 fNeg (mC (.int 1))))) (kName 2) (mYes) (mOp2 fAdd (mC (.str "s")) (mVar 2)) [2])))) 1000)
    (mRet (mOp2 fIx (mPeek 1) (mVar 0))))
def m_raw_coverings : List Val → Hand → Res Val := fnM 3 b_raw_coverings
def b_coverings : MS := mSeq (mDrop (mCall m_check_number (mACons (mVar 0) (mACons (mC (.int 0)) (mACons (mC (.int 16)) (mANil))))))
    (mRet (mCB fTuple (mOCons (mCall m_raw_coverings (mACons (mVar 0) (mANil))) (mONil))))
def m_coverings : List Val → Hand → Res Val := fnM 1 b_coverings
def b_is_base : MS := mSeq (mIfS (mOr (mNot (mTest (mIsi ["tuple"] (mVar 0)))) (mTest (mOp2 fNe (mCB fLen (mOCons (mVar 0) (mONil))) (mC (.int 2)))))
    (mRet (mC (.bool false)))
    (mNext))
    (mRet (mCB fAll (mOCons (mL (mLc (mItems (mVar 0)) (kName 1) (mYes) (mCall m_is_within (mACons (mVar 1) (mACons (mOp1 fNeg (mC (.int 100))) (mACons (mC (.int 100)) (mANil))))) [1])) (mONil))))
def m_is_base : List Val → Hand → Res Val := fnM 2 b_is_base
def b_check_base : MS := mIfS (mNot (mTest (mCall m_is_base (mACons (mVar 0) (mANil)))))
    (mRaise "NoBase")
    (mNext)
def m_check_base : List Val → Hand → Res Val := fnM 1 b_check_base
def b_row_by : MS := mSeq (mUnp (mVar 0) (kTup 2 (kCons (kName 4) (kCons (kName 5) (kNil)))))
    (mSeq (mOwn 6 (mDisp (mACons (mVar 1) (mACons (mVar 2) (mANil)))))
    (mSeq (mWhile (mTest (mOp2 fLt (mCB fLen (mOCons (mPeek 6) (mONil))) (mVar 3)))
    (mApp 6 (mOp2 fSub (mOp2 fMul (mVar 4) (mOp2 fIx (mPeek 6) (mOp1 fNeg (mC (.int 1))))) (mOp2 fMul (mVar 5) (mOp2 fIx (mPeek 6) (mOp1 fNeg (mC (.int 2))))))) 1000)
    (mFrz 6 (mRet (mVar 6)))))
def m_row_by : List Val → Hand → Res Val := fnM 7 b_row_by
def b_raw_u : MS := mRet (mOp2 fIx (mCall m_row_by (mACons (mVar 0) (mACons (mC (.int 0)) (mACons (mC (.int 1)) (mACons (mOp2 fAdd (mVar 1) (mC (.int 1))) (mANil)))))) (mVar 1))
def m_raw_u : List Val → Hand → Res Val := fnM 2 b_raw_u
def b_u_term : MS := mSeq (mDrop (mCall m_check_base (mACons (mVar 0) (mANil))))
    (mSeq (mDrop (mCall m_check_number (mACons (mVar 1) (mACons (mC (.int 0)) (mACons (mC (.int 400)) (mANil))))))
    (mRet (mCall m_raw_u (mACons (mVar 0) (mACons (mVar 1) (mANil))))))
def m_u_term : List Val → Hand → Res Val := fnM 2 b_u_term
def b_raw_cells : MS := mRet (mOp2 fAdd (mCB fLen (mOCons (mVar 0) (mONil))) (mCB fLen (mOCons (mL (mLc (mItems (mVar 0)) (kName 1) (mTest (mOp2 fNe (mVar 1) (mC (.str "s")))) (mVar 1) [1])) (mONil))))
def m_raw_cells : List Val → Hand → Res Val := fnM 2 b_raw_cells
def b_is_covering : MS := mSeq (mIfS (mOr (mNot (mTest (mIsi ["str"] (mVar 0)))) (mNot (mTest (mCB fAll (mOCons (mL (mLc (mItems (mVar 0)) (kName 1) (mYes) (mOp2 fIn (mVar 1) (mTup (mACons (mC (.str "s")) (mACons (mC (.str "d")) (mANil))))) [1])) (mONil))))))
    (mRet (mC (.bool false)))
    (mNext))
    (mRet (mOp2 fLe (mCall m_raw_cells (mACons (mVar 0) (mANil))) (mC (.int 40))))
def m_is_covering : List Val → Hand → Res Val := fnM 2 b_is_covering
def b_check_covering : MS := mIfS (mNot (mTest (mCall m_is_covering (mACons (mVar 0) (mANil)))))
    (mRaise "NoCovering")
    (mNext)
def m_check_covering : List Val → Hand → Res Val := fnM 1 b_check_covering
def b_raw_power : MS := mSeq (mSet 2 (mC (.int 1)))
    (mSeq (mFor (mRng1 (mOCons (mVar 1) (mONil))) (kName 3)
    (mSet 2 (mOp2 fMul (mVar 2) (mVar 0))))
    (mRet (mVar 2)))
def m_raw_power : List Val → Hand → Res Val := fnM 4 b_raw_power
def b_raw_weight : MS := mSeq (mSet 2 (mM1 fCount (mVar 1) (mC (.str "s"))))
    (mRet (mOp2 fMul (mCall m_raw_power (mACons (mOp2 fIx (mVar 0) (mC (.int 0))) (mACons (mVar 2) (mANil)))) (mCall m_raw_power (mACons (mOp1 fNeg (mOp2 fIx (mVar 0) (mC (.int 1)))) (mACons (mOp2 fSub (mCB fLen (mOCons (mVar 1) (mONil))) (mVar 2)) (mANil))))))
def m_raw_weight : List Val → Hand → Res Val := fnM 3 b_raw_weight
def b_weight : MS := mSeq (mDrop (mCall m_check_base (mACons (mVar 0) (mANil))))
    (mSeq (mDrop (mCall m_check_covering (mACons (mVar 1) (mANil))))
    (mRet (mCall m_raw_weight (mACons (mVar 0) (mACons (mVar 1) (mANil))))))
def m_weight : List Val → Hand → Res Val := fnM 2 b_weight
def b_chosen : MS := mSeq (mSet 2 (mC (.int 1)))
    (mSeq (mFor (mRng1 (mOCons (mVar 1) (mONil))) (kName 3)
    (mSet 2 (mOp2 fDiv (mOp2 fMul (mVar 2) (mOp2 fSub (mVar 0) (mVar 3))) (mOp2 fAdd (mVar 3) (mC (.int 1))))))
    (mRet (mVar 2)))
def m_chosen : List Val → Hand → Res Val := fnM 4 b_chosen
def b_weights_of : MS := mSeq (mDrop (mCall m_check_base (mACons (mVar 0) (mANil))))
    (mSeq (mDrop (mCall m_check_number (mACons (mVar 1) (mACons (mC (.int 0)) (mACons (mC (.int 200)) (mANil))))))
    (mSeq (mOwn 2 (mDisp (mANil)))
    (mSeq (mFor (mRng1 (mOCons (mOp2 fAdd (mOp2 fDiv (mVar 1) (mC (.int 2))) (mC (.int 1))) (mONil))) (kName 3)
    (mSeq (mSet 4 (mOp2 fMul (mCall m_raw_power (mACons (mOp2 fIx (mVar 0) (mC (.int 0))) (mACons (mOp2 fSub (mVar 1) (mOp2 fMul (mC (.int 2)) (mVar 3))) (mANil)))) (mCall m_raw_power (mACons (mOp1 fNeg (mOp2 fIx (mVar 0) (mC (.int 1)))) (mACons (mVar 3) (mANil))))))
    (mApp 2 (mOp2 fMul (mCall m_chosen (mACons (mOp2 fSub (mVar 1) (mVar 3)) (mACons (mVar 3) (mANil)))) (mVar 4)))))
    (mRet (mCB fTuple (mOCons (mPeek 2) (mONil)))))))
def m_weights_of : List Val → Hand → Res Val := fnM 5 b_weights_of
def b__law_is_right : MS := mSeq (mPar3 1 2 3 (mACons (mCall m__law_base (mACons (mVar 0) (mANil))) (mACons (mCall m__law_covering (mACons (mVar 0) (mACons (mC (.int 9)) (mANil)))) (mACons (mCall m__law_covering (mACons (mVar 0) (mACons (mC (.int 9)) (mANil)))) (mANil)))))
    (mSeq (mIfS (mNot (mTest (mCall (m__law_is 6) (mACons (mL (mDisp (mACons (mCall m_weight (mACons (mVar 1) (mACons (mVar 2) (mANil)))) (mACons (mCall m_weight (mACons (mVar 1) (mACons (mVar 3) (mANil)))) (mANil))))) (mACons (mL (mDisp (mACons (mCall m__law_weight (mACons (mVar 1) (mACons (mVar 2) (mANil)))) (mACons (mCall m__law_weight (mACons (mVar 1) (mACons (mVar 3) (mANil)))) (mANil))))) (mANil))))))
    (mRet (mC (.bool false)))
    (mNext))
    (mSeq (mIfS (mTest (mOp2 fNe (mCall m_weight (mACons (mVar 1) (mACons (mOp2 fAdd (mVar 2) (mVar 3)) (mANil)))) (mOp2 fMul (mCall m_weight (mACons (mVar 1) (mACons (mVar 2) (mANil)))) (mCall m_weight (mACons (mVar 1) (mACons (mVar 3) (mANil)))))))
    (mRet (mC (.bool false)))
    (mNext))
    (mSeq (mSet 4 (mCall m__law_draw (mACons (mVar 0) (mACons (mC (.int 11)) (mANil)))))
    (mSeq (mSet 5 (mCall m_coverings (mACons (mVar 4) (mANil))))
    (mSeq (mOwn 6 (mRep (mL (mDisp (mACons (mC (.int 0)) (mANil)))) (mOp2 fAdd (mOp2 fDiv (mVar 4) (mC (.int 2))) (mC (.int 1)))))
    (mSeq (mFor (mItems (mVar 5)) (kName 7)
    (mSeq (mSet 8 (mM1 fCount (mVar 7) (mC (.str "d"))))
    (mSetIx 6 (mVar 8) (mOp2 fAdd (mOp2 fIx (mPeek 6) (mVar 8)) (mCall m__law_weight (mACons (mVar 1) (mACons (mVar 7) (mANil))))))))
    (mSeq (mIfS (mOr (mNot (mTest (mCall (m__law_is 6) (mACons (mCall m_weights_of (mACons (mVar 1) (mACons (mVar 4) (mANil)))) (mACons (mCB fTuple (mOCons (mPeek 6) (mONil))) (mANil)))))) (mTest (mOp2 fNe (mCB fSumT (mOCons (mPeek 6) (mONil))) (mCall m_u_term (mACons (mVar 1) (mACons (mOp2 fAdd (mVar 4) (mC (.int 1))) (mANil)))))))
    (mRet (mC (.bool false)))
    (mNext))
    (mSeq (mSet 9 (mCall m__law_draw (mACons (mVar 0) (mACons (mC (.int 80)) (mANil)))))
    (mSeq (mSet 10 (mCall m_weights_of (mACons (mVar 1) (mACons (mVar 9) (mANil)))))
    (mRet (mAndV (mCall (m__law_is 6) (mACons (mVar 10) (mACons (mCB fTuple (mOCons (mCall m__law_sums (mACons (mVar 1) (mACons (mVar 9) (mANil)))) (mONil))) (mANil)))) (mOp2 fEq (mCB fSumT (mOCons (mVar 10) (mONil))) (mCall m_u_term (mACons (mVar 1) (mACons (mOp2 fAdd (mVar 9) (mC (.int 1))) (mANil))))))))))))))))
def m__law_is_right : List Val → Hand → Res Val := fnM 11 b__law_is_right
def b_law : MS := mSeq (mIfS (mOr (mTest (mOp2 fNe (mCall m_weight (mACons (mTup (mACons (mC (.int 3)) (mACons (mC (.int 2)) (mANil)))) (mACons (mC (.str "sds")) (mANil)))) (mOp1 fNeg (mC (.int 18))))) (mOr (mTest (mOp2 fNe (mCall m_weights_of (mACons (mTup (mACons (mC (.int 3)) (mACons (mC (.int 2)) (mANil)))) (mACons (mC (.int 3)) (mANil)))) (mTup (mACons (mC (.int 27)) (mACons (mOp1 fNeg (mC (.int 12))) (mANil)))))) (mTest (mOp2 fNe (mCall m_weight (mACons (mTup (mACons (mC (.int 3)) (mACons (mC (.int 2)) (mANil)))) (mACons (mC (.str "")) (mANil)))) (mC (.int 1))))))
    (mRet (mC (.bool false)))
    (mNext))
    (mRet (mCB fAll (mOCons (mL (mLc (mRng1 (mOCons (mC (.int 6)) (mONil))) (kName 2) (mYes) (mCall m__law_is_right (mACons (mVar 1) (mANil))) [2])) (mONil))))
section
variable {P : Program} {w : World} {K : PySem.W.Frag} {mg : Str → Option Value} {base : Heap}
theorem ok__law_draw (T : Txt K mg) : Ok P w K mg base "_law_draw" 1 2 m__law_draw :=
  (okOf (k := 0) (b := b__law_draw) T.f__law_draw sc__law_draw rfl rfl fun f cdv A outer s H E hr =>
    bCons (sIf (wT (wAnd (tCmp (op_eqAll hr.units) eq_s (see (eHix 0 2 (pv 0))) (see (eInt)) (nomark _)) (wAnd1 (tCmp op_lt lt_s (see (eHix 0 1 (pv 0))) (see (eB (call_len) len_s rfl T.n_len bt_len (oCons (see (eHix 0 0 (pv 0))) (oNil)))) (nomark _)))))
    (bCons (sSet (i := 2) sc__law_draw.nd rfl (.inl rfl) (eIx (see (eHix 0 0 (pv 0))) (see (eHix 0 1 (pv 0))) (fun _ _ => rfl)))
    (bCons (sHSet 0 1 (pv 0) (eOp2 op_addAll add_s (see (eHix 0 1 (pv 0))) (see (eInt))))
    (bCons (sHSet 0 3 (pv 0) (eOp2 op_modN mod_s (see (eTy call_int1 int_s rfl T.n_int bt_int (oCons (see (eOp2 op_addAll add_s (see (eOp2 op_addAll add_s (see (eOp2 op_mulAll mul_s (see (eHix 0 3 (pv 0))) (see (eInt)))) (see (eVar 2 (pv 2))))) (see (eInt)))) (oNil)))) (see (eInt))))
    (bOne (sIf (tCmp op_ge ge_s (see (eVar 2 (pv 2))) (see (eOp2 op_pow pow_s (see (eInt)) (see (eInt)))) (nomark _))
    (bOne (sHSet 0 2 (pv 0) (eVar 2 (pv 2))))
    (bNil))))))
    (bNil))
    (bCons (sIf (tCmp op_gt gt_s (see (eHix 0 2 (pv 0))) (see (eInt)) (nomark _))
    (bCons (sSet (i := 3) sc__law_draw.nd rfl (.inl rfl) (eOp2 op_modN mod_s (see (eTy call_int1 int_s rfl T.n_int bt_int (oCons (see (eHix 0 2 (pv 0))) (oNil)))) (see (eVar 1 (pv 1)))))
    (bCons (sHSet 0 2 (pv 0) (eOp2 op_fdivW div_s (see (eHix 0 2 (pv 0))) (see (eVar 1 (pv 1)))))
    (bOne (sRet (eVar 3 (pv 3))))))
    (bNil))
    (bCons (sHSet 0 4 (pv 0) (eOp2 op_addAll add_s (see (eHix 0 4 (pv 0))) (see (eInt))))
    (bCons (sSet (i := 4) sc__law_draw.nd rfl (.inl rfl) (eOp2 op_modN mod_s (see (eTy call_int1 int_s rfl T.n_int bt_int (oCons (see (eOp2 op_mulAll mul_s (see (eTy call_int1 int_s rfl T.n_int bt_int (oCons (see (eOp2 op_addAll add_s (see (eHix 0 3 (pv 0))) (see (eOp2 op_mulAll mul_s (see (eInt)) (see (eHix 0 4 (pv 0))))))) (oNil)))) (see (eInt)))) (oNil)))) (see (eInt))))
    (bCons (sSet (i := 4) sc__law_draw.nd rfl (.inl rfl) (eOp2 op_modN mod_s (see (eTy call_int1 int_s rfl T.n_int bt_int (oCons (see (eOp2 op_mulAll mul_s (see (eVar 4 (pv 4))) (see (eOp2 op_addAll add_s (see (eOp2 op_fdivW div_s (see (eVar 4 (pv 4))) (see (eInt)))) (see (eInt)))))) (oNil)))) (see (eInt))))
    (bCons (sSet (i := 4) sc__law_draw.nd rfl (.inl rfl) (eOp2 op_modN mod_s (see (eTy call_int1 int_s rfl T.n_int bt_int (oCons (see (eOp2 op_mulAll mul_s (see (eVar 4 (pv 4))) (see (eOp2 op_addAll add_s (see (eOp2 op_fdivW div_s (see (eVar 4 (pv 4))) (see (eInt)))) (see (eInt)))))) (oNil)))) (see (eInt))))
    (bOne (sRet (eOp2 op_modN mod_s (see (eTy call_int1 int_s rfl T.n_int bt_int (oCons (see (eOp2 op_fdivW div_s (see (eVar 4 (pv 4))) (see (eInt)))) (oNil)))) (see (eVar 1 (pv 1))))))))))) : Ok P w K mg base "_law_draw" 1 2 (fnM 5 b__law_draw))
theorem ok__law_any (T : Txt K mg) : Ok P w K mg base "_law_any" 2 2 m__law_any :=
  (okOf (k := 1) (b := b__law_any) T.f__law_any sc__law_any rfl rfl fun f cdv A outer s H E hr =>
    bOne (sRet (eIx (see (eVar 1 (pv 1))) (see (eCal (ok__law_draw T) (hr.mono (by first | decide | omega)) rfl cxP (aCons (eVar 0 (pv 0)) (aCons (eB (call_len) len_s rfl T.n_len bt_len (oCons (see (eVar 1 (pv 1))) (oNil))) (aNil))) (mACons_len (mACons_len (mANil_len))))) (fun _ _ => rfl))) : Ok P w K mg base "_law_any" 2 2 (fnM 2 b__law_any))
theorem ok__law_base (T : Txt K mg) : Ok P w K mg base "_law_base" 3 1 m__law_base :=
  (okOf (k := 2) (b := b__law_base) T.f__law_base sc__law_base rfl rfl fun f cdv A outer s H E hr =>
    bCons (sSet (i := 1) sc__law_base.nd rfl (.inl rfl) (eCal (ok__law_any T) (hr.mono (by first | decide | omega)) rfl cxP (aCons (eVar 0 (pv 0)) (aCons (ofN (nList (aCons (eInt) (aCons (eInt) (aCons (eInt) (aCons (eInt) (aNil))))))) (aNil))) (mACons_len (mACons_len (mANil_len)))))
    (bOne (sRet (eTup (aCons (eOp2 op_sub sub_s (see (eCal (ok__law_draw T) (hr.mono (by first | decide | omega)) rfl cxP (aCons (eVar 0 (pv 0)) (aCons (eOp2 op_addAll add_s (see (eOp2 op_mulAll mul_s (see (eInt)) (see (eVar 1 (pv 1))))) (see (eInt))) (aNil))) (mACons_len (mACons_len (mANil_len))))) (see (eVar 1 (pv 1)))) (aCons (eOp2 op_sub sub_s (see (eCal (ok__law_draw T) (hr.mono (by first | decide | omega)) rfl cxP (aCons (eVar 0 (pv 0)) (aCons (eOp2 op_addAll add_s (see (eOp2 op_mulAll mul_s (see (eInt)) (see (eVar 1 (pv 1))))) (see (eInt))) (aNil))) (mACons_len (mACons_len (mANil_len))))) (see (eVar 1 (pv 1)))) (aNil)))))) : Ok P w K mg base "_law_base" 3 1 (fnM 2 b__law_base))
theorem ok__law_covering (T : Txt K mg) : Ok P w K mg base "_law_covering" 3 2 m__law_covering :=
  (okOf (k := 2) (b := b__law_covering) T.f__law_covering sc__law_covering rfl rfl fun f cdv A outer s H E hr =>
    bOne (sRet (eM1 PySem.F.slot_str_join PySem.F.type_str_join mt_join join_s (see (eStr)) (see (ofN (nLc rfl (own := [("lap_no", 2)]) sc__law_covering.nd (iRange1 rfl T.n_range (oCons (see (eCal (ok__law_draw T) (hr.mono (by first | decide | omega)) rfl cxP (aCons (eVar 0 (pv 0)) (aCons (eOp2 op_addAll add_s (see (eVar 1 (pv 1))) (see (eInt))) (aNil))) (mACons_len (mACons_len (mANil_len))))) (oNil))) (blkOk_by (own := [("lap_no", 2)]) (N := N__law_covering) (sc := defScope s__law_covering) (by decide +kernel)) (fun _ _ _ _ _ => pg_name (i := 2) sc__law_covering.nd rfl (by first | exact .inl rfl | exact .inr rfl)) (gName_w 2 (by decide)) (fun _ _ _ _ _ => tsNil) (fun _ _ _ _ _ => eCal (ok__law_any T) (hr.mono (by first | decide | omega)) rfl passL (aCons (eVar 0 (pv 0)) (aCons (ofN (nList (aCons (eStr) (aCons (eStr) (aNil))))) (aNil))) (mACons_len (mACons_len (mANil_len))))))))) : Ok P w K mg base "_law_covering" 3 2 (fnM 3 b__law_covering))
theorem ok__law_is (T : Txt K mg) : ∀ n : Nat, Ok P w K mg base "_law_is" (n + 1) 2 (m__law_is n)
  | 0 => (okNo T.f__law_is sc__law_is rfl : Ok P w K mg base "_law_is" (0 + 1) 2 fnNo).up (by omega)
  | n + 1 => ((okOf (k := n + 1) (b := b__law_is (m__law_is n)) T.f__law_is sc__law_is rfl rfl fun f cdv A outer s H E hr =>
    have self := ok__law_is T n
    bCons (sIf (tVal (see (eIsiT .tuple .list rfl T.n_isinstance rfl T.n_tuple bt_tuple rfl T.n_list bt_list (see (eVar 1 (pv 1))))))
    (bCons (sIf (wT (wOr (tCmp (op_neAll hr.units) ne_s (see (eIsi .tuple rfl T.n_isinstance rfl T.n_tuple bt_tuple (see (eVar 0 (pv 0))))) (see (eIsi .tuple rfl T.n_isinstance rfl T.n_tuple bt_tuple (see (eVar 1 (pv 1))))) (nomark _)) (wOr1 (tNot (tVal (see (eIsiT .tuple .list rfl T.n_isinstance rfl T.n_tuple bt_tuple rfl T.n_list bt_list (see (eVar 0 (pv 0))))))))))
    (bOne (sRet (eBl)))
    (bNil))
    (bOne (sRet (eAnd (see (eCmp (op_eqAll hr.units) eq_s (see (eB (call_len) len_s rfl T.n_len bt_len (oCons (see (eVar 0 (pv 0))) (oNil)))) (see (eB (call_len) len_s rfl T.n_len bt_len (oCons (see (eVar 1 (pv 1))) (oNil)))) (nomark _))) (eOne (eB (cr_all rfl) all_s rfl T.n_all bt_all (oCons (see (ofN (nLc rfl (own := [("one", 2), ("other", 3)]) sc__law_is.nd (iZip rfl T.n_zip (oCons (see (eVar 0 (pv 0))) (oCons (see (eVar 1 (pv 1))) (oNil)))) (blkOk_by (own := [("one", 2), ("other", 3)]) (N := N__law_is) (sc := defScope s__law_is) (by decide +kernel)) (fun _ _ _ _ _ => pg_tup rfl (pgs_cons (pg_name (i := 2) sc__law_is.nd rfl (by first | exact .inl rfl | exact .inr rfl)) (pgs_cons (pg_name (i := 3) sc__law_is.nd rfl (by first | exact .inl rfl | exact .inr rfl)) (pgs_nil)))) (gTup_w (gCons_w (gName_w 2 (by decide)) (gCons_w (gName_w 3 (by decide)) (gNil_w)))) (fun _ _ _ _ _ => tsNil) (fun _ _ _ _ _ => eCal self hr rfl passL (aCons (eVar 2 (pv 2)) (aCons (eVar 3 (pv 3)) (aNil))) (mACons_len (mACons_len (mANil_len))))))) (oNil))))))))
    (bNil))
    (bCons (sIf (wT (wOr (tCmp op_isAll is_s (see (eVar 1 (pv 1))) (see (eNon)) (nomark _)) (wOr1 (tVal (see (eIsi .bool rfl T.n_isinstance rfl T.n_bool bt_bool (see (eVar 1 (pv 1)))))))))
    (bOne (sRet (eIf (tCmp op_isAll is_s (see (eVar 1 (pv 1))) (see (eNon)) (nomark _)) (eCmp op_isAll is_s (see (eVar 0 (pv 0))) (see (eNon)) (nomark _)) (eAnd (see (eIsi .bool rfl T.n_isinstance rfl T.n_bool bt_bool (see (eVar 0 (pv 0))))) (eOne (eCmp (op_eqAll hr.units) eq_s (see (eB call_repr repr_s rfl T.n_repr bt_repr (oCons (see (eVar 0 (pv 0))) (oNil)))) (see (eB call_repr repr_s rfl T.n_repr bt_repr (oCons (see (eVar 1 (pv 1))) (oNil)))) (nomark _)))))))
    (bNil))
    (bCons (sIf (tVal (see (eIsi .str rfl T.n_isinstance rfl T.n_str bt_str (see (eVar 1 (pv 1))))))
    (bOne (sRet (eAnd (see (eIsi .str rfl T.n_isinstance rfl T.n_str bt_str (see (eVar 0 (pv 0))))) (eOne (eCmp (op_eqAll hr.units) eq_s (see (eB call_repr repr_s rfl T.n_repr bt_repr (oCons (see (eVar 0 (pv 0))) (oNil)))) (see (eB call_repr repr_s rfl T.n_repr bt_repr (oCons (see (eVar 1 (pv 1))) (oNil)))) (nomark _))))))
    (bNil))
    (bOne (sRet (eAnd (see (eIsi .int rfl T.n_isinstance rfl T.n_int bt_int (see (eVar 0 (pv 0))))) (eAnd (see (eNot (see (eIsi .bool rfl T.n_isinstance rfl T.n_bool bt_bool (see (eVar 0 (pv 0))))))) (eOne (eCmp (op_eqAll hr.units) eq_s (see (eB call_repr repr_s rfl T.n_repr bt_repr (oCons (see (eVar 0 (pv 0))) (oNil)))) (see (eB call_repr repr_s rfl T.n_repr bt_repr (oCons (see (eVar 1 (pv 1))) (oNil)))) (nomark _))))))))) : Ok P w K mg base "_law_is" (n + 1 + 1) 2 (fnM 4 (b__law_is (m__law_is n))))).up (by omega)
theorem ok__law_binomial (T : Txt K mg) : Ok P w K mg base "_law_binomial" 1 2 m__law_binomial :=
  (okOf (k := 0) (b := b__law_binomial) T.f__law_binomial sc__law_binomial rfl rfl fun f cdv A outer s H E hr =>
    bCons (sSet (i := 2) sc__law_binomial.nd rfl (.inl rfl) (eInt))
    (bCons (sFor cxO rfl (iRange1 rfl T.n_range (oCons (see (eVar 1 (pv 1))) (oNil))) (pg_name (i := 3) sc__law_binomial.nd rfl (.inl rfl)) (gName_s 3)
    (bOne (sSet (i := 2) sc__law_binomial.nd rfl (.inl rfl) (eOp2 op_fdivW div_s (see (eOp2 op_mulAll mul_s (see (eVar 2 (pv 2))) (see (eOp2 op_sub sub_s (see (eVar 0 (pv 0))) (see (eVar 3 (pv 3))))))) (see (eOp2 op_addAll add_s (see (eVar 3 (pv 3))) (see (eInt))))))))
    (bOne (sRet (eVar 2 (pv 2))))) : Ok P w K mg base "_law_binomial" 1 2 (fnM 4 b__law_binomial))
theorem ok__law_sums (T : Txt K mg) : Ok P w K mg base "_law_sums" 2 2 m__law_sums :=
  (okOf (k := 1) (b := b__law_sums) T.f__law_sums sc__law_sums rfl rfl fun f cdv A outer s H E hr =>
    bCons (sOwn (i := 2) sc__law_sums.nd rfl (.inl rfl) (nList (aNil)))
    (bCons (sFor cxO rfl (iRange1 rfl T.n_range (oCons (see (eOp2 op_addAll add_s (see (eOp2 op_fdivW div_s (see (eVar 1 (pv 1))) (see (eInt)))) (see (eInt)))) (oNil))) (pg_name (i := 3) sc__law_sums.nd rfl (.inl rfl)) (gName_s 3)
    (bCons (sSet (i := 4) sc__law_sums.nd rfl (.inl rfl) (eCal (ok__law_binomial T) (hr.mono (by first | decide | omega)) rfl cxP (aCons (eOp2 op_sub sub_s (see (eVar 1 (pv 1))) (see (eVar 3 (pv 3)))) (aCons (eVar 3 (pv 3)) (aNil))) (mACons_len (mACons_len (mANil_len)))))
    (bCons (sFor cxO rfl (iRange1 rfl T.n_range (oCons (see (eOp2 op_sub sub_s (see (eVar 1 (pv 1))) (see (eOp2 op_mulAll mul_s (see (eInt)) (see (eVar 3 (pv 3))))))) (oNil))) (pg_name (i := 5) sc__law_sums.nd rfl (.inl rfl)) (gName_s 5)
    (bOne (sSet (i := 4) sc__law_sums.nd rfl (.inl rfl) (eOp2 op_mulAll mul_s (see (eVar 4 (pv 4))) (see (eIx (see (eVar 0 (pv 0))) (see (eInt)) (fun _ _ => rfl)))))))
    (bCons (sFor cxO rfl (iRange1 rfl T.n_range (oCons (see (eVar 3 (pv 3))) (oNil))) (pg_name (i := 5) sc__law_sums.nd rfl (.inl rfl)) (gName_s 5)
    (bOne (sSet (i := 4) sc__law_sums.nd rfl (.inl rfl) (eOp2 op_mulAll mul_s (see (eVar 4 (pv 4))) (see (eOp2 op_sub sub_s (see (eInt)) (see (eIx (see (eVar 0 (pv 0))) (see (eInt)) (fun _ _ => rfl)))))))))
    (bOne (sApp 2 (pv 2) (eVar 4 (pv 4))))))))
    (bOne (sFrz 2 (sRet (eVar 2 (pv 2)))))) : Ok P w K mg base "_law_sums" 2 2 (fnM 6 b__law_sums))
theorem ok__law_weight (T : Txt K mg) : Ok P w K mg base "_law_weight" 1 2 m__law_weight :=
  (okOf (k := 0) (b := b__law_weight) T.f__law_weight sc__law_weight rfl rfl fun f cdv A outer s H E hr =>
    bCons (sSet (i := 2) sc__law_weight.nd rfl (.inl rfl) (eInt))
    (bCons (sFor cxO rfl (iVal (eVar 1 (pv 1))) (pg_name (i := 3) sc__law_weight.nd rfl (.inl rfl)) (gName_s 3)
    (bOne (sSet (i := 2) sc__law_weight.nd rfl (.inl rfl) (eOp2 op_mulAll mul_s (see (eVar 2 (pv 2))) (see (eIf (tCmp (op_eqAll hr.units) eq_s (see (eVar 3 (pv 3))) (see (eStr)) (nomark _)) (eIx (see (eVar 0 (pv 0))) (see (eInt)) (fun _ _ => rfl)) (eOp2 op_sub sub_s (see (eInt)) (see (eIx (see (eVar 0 (pv 0))) (see (eInt)) (fun _ _ => rfl))))))))))
    (bOne (sRet (eVar 2 (pv 2))))) : Ok P w K mg base "_law_weight" 1 2 (fnM 4 b__law_weight))
theorem ok_is_integer (T : Txt K mg) : Ok P w K mg base "is_integer" 1 1 m_is_integer :=
  (okOf (k := 0) (b := b_is_integer) T.f_is_integer sc_is_integer rfl rfl fun f cdv A outer s H E hr =>
    bOne (sRet (eAnd (see (eIsi .int rfl T.n_isinstance rfl T.n_int bt_int (see (eVar 0 (pv 0))))) (eOne (eNot (see (eIsi .bool rfl T.n_isinstance rfl T.n_bool bt_bool (see (eVar 0 (pv 0))))))))) : Ok P w K mg base "is_integer" 1 1 (fnM 1 b_is_integer))
theorem ok_is_within (T : Txt K mg) : Ok P w K mg base "is_within" 2 3 m_is_within :=
  (okOf (k := 1) (b := b_is_within) T.f_is_within sc_is_within rfl rfl fun f cdv A outer s H E hr =>
    bOne (sRet (eAnd (see (eCal (ok_is_integer T) (hr.mono (by first | decide | omega)) rfl cxP (aCons (eVar 0 (pv 0)) (aNil)) (mACons_len (mANil_len)))) (eOne (eChain op_leAll op_leAll le_s le_s (see (eVar 1 (pv 1))) (see (eVar 0 (pv 0))) (see (eVar 2 (pv 2))))))) : Ok P w K mg base "is_within" 2 3 (fnM 3 b_is_within))
theorem ok_check_number (T : Txt K mg) : Ok P w K mg base "check_number" 3 3 m_check_number :=
  (okOf (k := 2) (b := b_check_number) T.f_check_number sc_check_number rfl rfl fun f cdv A outer s H E hr =>
    bOne (sIf (tNot (tVal (see (eCal (ok_is_within T) (hr.mono (by first | decide | omega)) rfl cxP (aCons (eVar 0 (pv 0)) (aCons (eVar 1 (pv 1)) (aCons (eVar 2 (pv 2)) (aNil)))) (mACons_len (mACons_len (mACons_len (mANil_len))))))))
    (bOne (sRaise rfl cxT T.e_NoNumber rfl))
    (bNil)) : Ok P w K mg base "check_number" 3 3 (fnM 3 b_check_number))
theorem ok_raw_coverings (T : Txt K mg) : Ok P w K mg base "raw_coverings" 1 1 m_raw_coverings :=
  (okOf (k := 0) (b := b_raw_coverings) T.f_raw_coverings sc_raw_coverings rfl rfl fun f cdv A outer s H E hr =>
    bCons (sOwn (i := 1) sc_raw_coverings.nd rfl (.inl rfl) (nList (aCons (ofN (nList (aCons (eStr) (aNil)))) (aCons (ofN (nList (aCons (eGS T.i_SHORT rfl) (aNil)))) (aNil)))))
    (bCons (sWhile 1000 cxO (tCmp op_leAll le_s (see (eB (call_len) len_s rfl T.n_len bt_len (oCons (pVar 1 (pv 1)) (oNil)))) (see (eVar 0 (pv 0))) (nomark _))
    (bOne (sApp 1 (pv 1) (eOp2 op_addAll add_s (see (ofN (nLc rfl (own := [("one", 2)]) sc_raw_coverings.nd (iValP (see (eIx (pVar 1 (pv 1)) (see (eUn un_neg neg_s (see (eInt)))) (fun _ _ => rfl)))) (blkOk_by (own := [("one", 2)]) (N := N_raw_coverings) (sc := defScope s_raw_coverings) (by decide +kernel)) (fun _ _ _ _ _ => pg_name (i := 2) sc_raw_coverings.nd rfl (by first | exact .inl rfl | exact .inr rfl)) (gName_w 2 (by decide)) (fun _ _ _ _ _ => tsNil) (fun _ _ _ _ _ => eOp2 op_addAll add_s (see (eGS T.i_LONG rfl)) (see (eVar 2 (pv 2))))))) (see (ofN (nLc rfl (own := [("one", 2)]) sc_raw_coverings.nd (iValP (see (eIx (pVar 1 (pv 1)) (see (eUn un_neg neg_s (see (eInt)))) (fun _ _ => rfl)))) (blkOk_by (own := [("one", 2)]) (N := N_raw_coverings) (sc := defScope s_raw_coverings) (by decide +kernel)) (fun _ _ _ _ _ => pg_name (i := 2) sc_raw_coverings.nd rfl (by first | exact .inl rfl | exact .inr rfl)) (gName_w 2 (by decide)) (fun _ _ _ _ _ => tsNil) (fun _ _ _ _ _ => eOp2 op_addAll add_s (see (eGS T.i_SHORT rfl)) (see (eVar 2 (pv 2)))))))))))
    (bOne (sRet (eIx (pVar 1 (pv 1)) (see (eVar 0 (pv 0))) (fun _ _ => rfl))))) : Ok P w K mg base "raw_coverings" 1 1 (fnM 3 b_raw_coverings))
theorem ok_coverings (T : Txt K mg) : Ok P w K mg base "coverings" 4 1 m_coverings :=
  (okOf (k := 3) (b := b_coverings) T.f_coverings sc_coverings rfl rfl fun f cdv A outer s H E hr =>
    bCons (sExpr (eCal (ok_check_number T) (hr.mono (by first | decide | omega)) rfl cxP (aCons (eVar 0 (pv 0)) (aCons (eInt) (aCons (eGI T.i_MOST_LISTED rfl) (aNil)))) (mACons_len (mACons_len (mACons_len (mANil_len))))))
    (bOne (sRet (eTy call_tuple_of tuple_s rfl T.n_tuple bt_tuple (oCons (see (eCal (ok_raw_coverings T) (hr.mono (by first | decide | omega)) rfl cxP (aCons (eVar 0 (pv 0)) (aNil)) (mACons_len (mANil_len)))) (oNil))))) : Ok P w K mg base "coverings" 4 1 (fnM 1 b_coverings))
theorem ok_is_base (T : Txt K mg) : Ok P w K mg base "is_base" 3 1 m_is_base :=
  (okOf (k := 2) (b := b_is_base) T.f_is_base sc_is_base rfl rfl fun f cdv A outer s H E hr =>
    bCons (sIf (wT (wOr (tNot (tVal (see (eIsi .tuple rfl T.n_isinstance rfl T.n_tuple bt_tuple (see (eVar 0 (pv 0))))))) (wOr1 (tCmp (op_neAll hr.units) ne_s (see (eB (call_len) len_s rfl T.n_len bt_len (oCons (see (eVar 0 (pv 0))) (oNil)))) (see (eInt)) (nomark _)))))
    (bOne (sRet (eBl)))
    (bNil))
    (bOne (sRet (eB (cr_all rfl) all_s rfl T.n_all bt_all (oCons (see (ofN (nLc rfl (own := [("one", 1)]) sc_is_base.nd (iValP (see (eVar 0 (pv 0)))) (blkOk_by (own := [("one", 1)]) (N := N_is_base) (sc := defScope s_is_base) (by decide +kernel)) (fun _ _ _ _ _ => pg_name (i := 1) sc_is_base.nd rfl (by first | exact .inl rfl | exact .inr rfl)) (gName_w 1 (by decide)) (fun _ _ _ _ _ => tsNil) (fun _ _ _ _ _ => eCal (ok_is_within T) (hr.mono (by first | decide | omega)) rfl passL (aCons (eVar 1 (pv 1)) (aCons (eUn un_neg neg_s (see (eGI T.i_MOST_BASE rfl))) (aCons (eGI T.i_MOST_BASE rfl) (aNil)))) (mACons_len (mACons_len (mACons_len (mANil_len)))))))) (oNil))))) : Ok P w K mg base "is_base" 3 1 (fnM 2 b_is_base))
theorem ok_check_base (T : Txt K mg) : Ok P w K mg base "check_base" 4 1 m_check_base :=
  (okOf (k := 3) (b := b_check_base) T.f_check_base sc_check_base rfl rfl fun f cdv A outer s H E hr =>
    bOne (sIf (tNot (tVal (see (eCal (ok_is_base T) (hr.mono (by first | decide | omega)) rfl cxP (aCons (eVar 0 (pv 0)) (aNil)) (mACons_len (mANil_len))))))
    (bOne (sRaise rfl cxT T.e_NoBase rfl))
    (bNil)) : Ok P w K mg base "check_base" 4 1 (fnM 1 b_check_base))
theorem ok_row_by (T : Txt K mg) : Ok P w K mg base "row_by" 1 4 m_row_by :=
  (okOf (k := 0) (b := b_row_by) T.f_row_by sc_row_by rfl rfl fun f cdv A outer s H E hr =>
    bCons (sUnp (eVar 0 (pv 0)) (pg_tup rfl (pgs_cons (pg_name (i := 4) sc_row_by.nd rfl (.inl rfl)) (pgs_cons (pg_name (i := 5) sc_row_by.nd rfl (.inl rfl)) (pgs_nil)))) (gTup_s (gCons_s (gName_s 4) (gCons_s (gName_s 5) (gNil_s)))))
    (bCons (sOwn (i := 6) sc_row_by.nd rfl (.inl rfl) (nList (aCons (eVar 1 (pv 1)) (aCons (eVar 2 (pv 2)) (aNil)))))
    (bCons (sWhile 1000 cxO (tCmp op_lt lt_s (see (eB (call_len) len_s rfl T.n_len bt_len (oCons (pVar 6 (pv 6)) (oNil)))) (see (eVar 3 (pv 3))) (nomark _))
    (bOne (sApp 6 (pv 6) (eOp2 op_sub sub_s (see (eOp2 op_mulAll mul_s (see (eVar 4 (pv 4))) (see (eIx (pVar 6 (pv 6)) (see (eUn un_neg neg_s (see (eInt)))) (fun _ _ => rfl))))) (see (eOp2 op_mulAll mul_s (see (eVar 5 (pv 5))) (see (eIx (pVar 6 (pv 6)) (see (eUn un_neg neg_s (see (eInt)))) (fun _ _ => rfl)))))))))
    (bOne (sFrz 6 (sRet (eVar 6 (pv 6))))))) : Ok P w K mg base "row_by" 1 4 (fnM 7 b_row_by))
theorem ok_raw_u (T : Txt K mg) : Ok P w K mg base "raw_u" 2 2 m_raw_u :=
  (okOf (k := 1) (b := b_raw_u) T.f_raw_u sc_raw_u rfl rfl fun f cdv A outer s H E hr =>
    bOne (sRet (eIx (see (eCal (ok_row_by T) (hr.mono (by first | decide | omega)) rfl cxP (aCons (eVar 0 (pv 0)) (aCons (eInt) (aCons (eInt) (aCons (eOp2 op_addAll add_s (see (eVar 1 (pv 1))) (see (eInt))) (aNil))))) (mACons_len (mACons_len (mACons_len (mACons_len (mANil_len))))))) (see (eVar 1 (pv 1))) (fun _ _ => rfl))) : Ok P w K mg base "raw_u" 2 2 (fnM 2 b_raw_u))
theorem ok_u_term (T : Txt K mg) : Ok P w K mg base "u_term" 5 2 m_u_term :=
  (okOf (k := 4) (b := b_u_term) T.f_u_term sc_u_term rfl rfl fun f cdv A outer s H E hr =>
    bCons (sExpr (eCal (ok_check_base T) (hr.mono (by first | decide | omega)) rfl cxP (aCons (eVar 0 (pv 0)) (aNil)) (mACons_len (mANil_len))))
    (bCons (sExpr (eCal (ok_check_number T) (hr.mono (by first | decide | omega)) rfl cxP (aCons (eVar 1 (pv 1)) (aCons (eInt) (aCons (eGI T.i_MOST_PLACE rfl) (aNil)))) (mACons_len (mACons_len (mACons_len (mANil_len))))))
    (bOne (sRet (eCal (ok_raw_u T) (hr.mono (by first | decide | omega)) rfl cxP (aCons (eVar 0 (pv 0)) (aCons (eVar 1 (pv 1)) (aNil))) (mACons_len (mACons_len (mANil_len))))))) : Ok P w K mg base "u_term" 5 2 (fnM 2 b_u_term))
theorem ok_raw_cells (T : Txt K mg) : Ok P w K mg base "raw_cells" 1 1 m_raw_cells :=
  (okOf (k := 0) (b := b_raw_cells) T.f_raw_cells sc_raw_cells rfl rfl fun f cdv A outer s H E hr =>
    bOne (sRet (eOp2 op_addAll add_s (see (eB (call_len) len_s rfl T.n_len bt_len (oCons (see (eVar 0 (pv 0))) (oNil)))) (see (eB (call_len) len_s rfl T.n_len bt_len (oCons (see (ofN (nLc rfl (own := [("sign", 1)]) sc_raw_cells.nd (iValP (see (eVar 0 (pv 0)))) (blkOk_by (own := [("sign", 1)]) (N := N_raw_cells) (sc := defScope s_raw_cells) (by decide +kernel)) (fun _ _ _ _ _ => pg_name (i := 1) sc_raw_cells.nd rfl (by first | exact .inl rfl | exact .inr rfl)) (gName_w 1 (by decide)) (fun _ _ _ _ _ => tsOne (tCmp (op_neAll hr.units) ne_s (see (eVar 1 (pv 1))) (see (eGS T.i_SHORT rfl)) (nomark _))) (fun _ _ _ _ _ => eVar 1 (pv 1))))) (oNil)))))) : Ok P w K mg base "raw_cells" 1 1 (fnM 2 b_raw_cells))
theorem ok_is_covering (T : Txt K mg) : Ok P w K mg base "is_covering" 2 1 m_is_covering :=
  (okOf (k := 1) (b := b_is_covering) T.f_is_covering sc_is_covering rfl rfl fun f cdv A outer s H E hr =>
    bCons (sIf (wT (wOr (tNot (tVal (see (eIsi .str rfl T.n_isinstance rfl T.n_str bt_str (see (eVar 0 (pv 0))))))) (wOr1 (tNot (tVal (see (eB (cr_all rfl) all_s rfl T.n_all bt_all (oCons (see (ofN (nLc rfl (own := [("sign", 1)]) sc_is_covering.nd (iValP (see (eVar 0 (pv 0)))) (blkOk_by (own := [("sign", 1)]) (N := N_is_covering) (sc := defScope s_is_covering) (by decide +kernel)) (fun _ _ _ _ _ => pg_name (i := 1) sc_is_covering.nd rfl (by first | exact .inl rfl | exact .inr rfl)) (gName_w 1 (by decide)) (fun _ _ _ _ _ => tsNil) (fun _ _ _ _ _ => eCmp (op_inAll (Room.u65 hr)) in_s (see (eVar 1 (pv 1))) (see (eTup (aCons (eGS T.i_SHORT rfl) (aCons (eGS T.i_LONG rfl) (aNil))))) rfl)))) (oNil)))))))))
    (bOne (sRet (eBl)))
    (bNil))
    (bOne (sRet (eCmp op_leAll le_s (see (eCal (ok_raw_cells T) (hr.mono (by first | decide | omega)) rfl cxP (aCons (eVar 0 (pv 0)) (aNil)) (mACons_len (mANil_len)))) (see (eGI T.i_MOST_CELLS rfl)) (nomark _)))) : Ok P w K mg base "is_covering" 2 1 (fnM 2 b_is_covering))
theorem ok_check_covering (T : Txt K mg) : Ok P w K mg base "check_covering" 3 1 m_check_covering :=
  (okOf (k := 2) (b := b_check_covering) T.f_check_covering sc_check_covering rfl rfl fun f cdv A outer s H E hr =>
    bOne (sIf (tNot (tVal (see (eCal (ok_is_covering T) (hr.mono (by first | decide | omega)) rfl cxP (aCons (eVar 0 (pv 0)) (aNil)) (mACons_len (mANil_len))))))
    (bOne (sRaise rfl cxT T.e_NoCovering rfl))
    (bNil)) : Ok P w K mg base "check_covering" 3 1 (fnM 1 b_check_covering))
theorem ok_raw_power (T : Txt K mg) : Ok P w K mg base "raw_power" 1 2 m_raw_power :=
  (okOf (k := 0) (b := b_raw_power) T.f_raw_power sc_raw_power rfl rfl fun f cdv A outer s H E hr =>
    bCons (sSet (i := 2) sc_raw_power.nd rfl (.inl rfl) (eInt))
    (bCons (sFor cxO rfl (iRange1 rfl T.n_range (oCons (see (eVar 1 (pv 1))) (oNil))) (pg_name (i := 3) sc_raw_power.nd rfl (.inl rfl)) (gName_s 3)
    (bOne (sSet (i := 2) sc_raw_power.nd rfl (.inl rfl) (eOp2 op_mulAll mul_s (see (eVar 2 (pv 2))) (see (eVar 0 (pv 0)))))))
    (bOne (sRet (eVar 2 (pv 2))))) : Ok P w K mg base "raw_power" 1 2 (fnM 4 b_raw_power))
theorem ok_raw_weight (T : Txt K mg) : Ok P w K mg base "raw_weight" 2 2 m_raw_weight :=
  (okOf (k := 1) (b := b_raw_weight) T.f_raw_weight sc_raw_weight rfl rfl fun f cdv A outer s H E hr =>
    bCons (sSet (i := 2) sc_raw_weight.nd rfl (.inl rfl) (eM1 PySem.F.slot_str_count PySem.F.type_str_count mt_count count_s (see (eVar 1 (pv 1))) (see (eGS T.i_SHORT rfl))))
    (bOne (sRet (eOp2 op_mulAll mul_s (see (eCal (ok_raw_power T) (hr.mono (by first | decide | omega)) rfl cxP (aCons (eIx (see (eVar 0 (pv 0))) (see (eInt)) (fun _ _ => rfl)) (aCons (eVar 2 (pv 2)) (aNil))) (mACons_len (mACons_len (mANil_len))))) (see (eCal (ok_raw_power T) (hr.mono (by first | decide | omega)) rfl cxP (aCons (eUn un_neg neg_s (see (eIx (see (eVar 0 (pv 0))) (see (eInt)) (fun _ _ => rfl)))) (aCons (eOp2 op_sub sub_s (see (eB (call_len) len_s rfl T.n_len bt_len (oCons (see (eVar 1 (pv 1))) (oNil)))) (see (eVar 2 (pv 2)))) (aNil))) (mACons_len (mACons_len (mANil_len)))))))) : Ok P w K mg base "raw_weight" 2 2 (fnM 3 b_raw_weight))
theorem ok_weight (T : Txt K mg) : Ok P w K mg base "weight" 5 2 m_weight :=
  (okOf (k := 4) (b := b_weight) T.f_weight sc_weight rfl rfl fun f cdv A outer s H E hr =>
    bCons (sExpr (eCal (ok_check_base T) (hr.mono (by first | decide | omega)) rfl cxP (aCons (eVar 0 (pv 0)) (aNil)) (mACons_len (mANil_len))))
    (bCons (sExpr (eCal (ok_check_covering T) (hr.mono (by first | decide | omega)) rfl cxP (aCons (eVar 1 (pv 1)) (aNil)) (mACons_len (mANil_len))))
    (bOne (sRet (eCal (ok_raw_weight T) (hr.mono (by first | decide | omega)) rfl cxP (aCons (eVar 0 (pv 0)) (aCons (eVar 1 (pv 1)) (aNil))) (mACons_len (mACons_len (mANil_len))))))) : Ok P w K mg base "weight" 5 2 (fnM 2 b_weight))
theorem ok_chosen (T : Txt K mg) : Ok P w K mg base "chosen" 1 2 m_chosen :=
  (okOf (k := 0) (b := b_chosen) T.f_chosen sc_chosen rfl rfl fun f cdv A outer s H E hr =>
    bCons (sSet (i := 2) sc_chosen.nd rfl (.inl rfl) (eInt))
    (bCons (sFor cxO rfl (iRange1 rfl T.n_range (oCons (see (eVar 1 (pv 1))) (oNil))) (pg_name (i := 3) sc_chosen.nd rfl (.inl rfl)) (gName_s 3)
    (bOne (sSet (i := 2) sc_chosen.nd rfl (.inl rfl) (eOp2 op_fdivW div_s (see (eOp2 op_mulAll mul_s (see (eVar 2 (pv 2))) (see (eOp2 op_sub sub_s (see (eVar 0 (pv 0))) (see (eVar 3 (pv 3))))))) (see (eOp2 op_addAll add_s (see (eVar 3 (pv 3))) (see (eInt))))))))
    (bOne (sRet (eVar 2 (pv 2))))) : Ok P w K mg base "chosen" 1 2 (fnM 4 b_chosen))
theorem ok_weights_of (T : Txt K mg) : Ok P w K mg base "weights_of" 5 2 m_weights_of :=
  (okOf (k := 4) (b := b_weights_of) T.f_weights_of sc_weights_of rfl rfl fun f cdv A outer s H E hr =>
    bCons (sExpr (eCal (ok_check_base T) (hr.mono (by first | decide | omega)) rfl cxP (aCons (eVar 0 (pv 0)) (aNil)) (mACons_len (mANil_len))))
    (bCons (sExpr (eCal (ok_check_number T) (hr.mono (by first | decide | omega)) rfl cxP (aCons (eVar 1 (pv 1)) (aCons (eInt) (aCons (eGI T.i_MOST_WEIGHED rfl) (aNil)))) (mACons_len (mACons_len (mACons_len (mANil_len))))))
    (bCons (sOwn (i := 2) sc_weights_of.nd rfl (.inl rfl) (nList (aNil)))
    (bCons (sFor cxO rfl (iRange1 rfl T.n_range (oCons (see (eOp2 op_addAll add_s (see (eOp2 op_fdivW div_s (see (eVar 1 (pv 1))) (see (eInt)))) (see (eInt)))) (oNil))) (pg_name (i := 3) sc_weights_of.nd rfl (.inl rfl)) (gName_s 3)
    (bCons (sSet (i := 4) sc_weights_of.nd rfl (.inl rfl) (eOp2 op_mulAll mul_s (see (eCal (ok_raw_power T) (hr.mono (by first | decide | omega)) rfl cxP (aCons (eIx (see (eVar 0 (pv 0))) (see (eInt)) (fun _ _ => rfl)) (aCons (eOp2 op_sub sub_s (see (eVar 1 (pv 1))) (see (eOp2 op_mulAll mul_s (see (eInt)) (see (eVar 3 (pv 3)))))) (aNil))) (mACons_len (mACons_len (mANil_len))))) (see (eCal (ok_raw_power T) (hr.mono (by first | decide | omega)) rfl cxP (aCons (eUn un_neg neg_s (see (eIx (see (eVar 0 (pv 0))) (see (eInt)) (fun _ _ => rfl)))) (aCons (eVar 3 (pv 3)) (aNil))) (mACons_len (mACons_len (mANil_len)))))))
    (bOne (sApp 2 (pv 2) (eOp2 op_mulAll mul_s (see (eCal (ok_chosen T) (hr.mono (by first | decide | omega)) rfl cxP (aCons (eOp2 op_sub sub_s (see (eVar 1 (pv 1))) (see (eVar 3 (pv 3)))) (aCons (eVar 3 (pv 3)) (aNil))) (mACons_len (mACons_len (mANil_len))))) (see (eVar 4 (pv 4))))))))
    (bOne (sRet (eTy call_tuple_of tuple_s rfl T.n_tuple bt_tuple (oCons (pVar 2 (pv 2)) (oNil)))))))) : Ok P w K mg base "weights_of" 5 2 (fnM 5 b_weights_of))
theorem ok__law_is_right (T : Txt K mg) : Ok P w K mg base "_law_is_right" 8 1 m__law_is_right :=
  (okOf (k := 7) (b := b__law_is_right) T.f__law_is_right sc__law_is_right rfl rfl fun f cdv A outer s H E hr =>
    bCons (sPar3 (i := 1) (j := 2) (l := 3) rfl sc__law_is_right.nd rfl rfl rfl (by decide) (by decide) (by decide) rfl rfl rfl (aCons (eCal (ok__law_base T) (hr.mono (by first | decide | omega)) rfl cxP (aCons (eVar 0 (pv 0)) (aNil)) (mACons_len (mANil_len))) (aCons (eCal (ok__law_covering T) (hr.mono (by first | decide | omega)) rfl cxP (aCons (eVar 0 (pv 0)) (aCons (eInt) (aNil))) (mACons_len (mACons_len (mANil_len)))) (aCons (eCal (ok__law_covering T) (hr.mono (by first | decide | omega)) rfl cxP (aCons (eVar 0 (pv 0)) (aCons (eInt) (aNil))) (mACons_len (mACons_len (mANil_len)))) (aNil)))) rfl)
    (bCons (sIf (tNot (tVal (see (eCal (ok__law_is T 6) (hr.mono (by first | decide | omega)) rfl cxP (aCons (ofN (nList (aCons (eCal (ok_weight T) (hr.mono (by first | decide | omega)) rfl cxP (aCons (eVar 1 (pv 1)) (aCons (eVar 2 (pv 2)) (aNil))) (mACons_len (mACons_len (mANil_len)))) (aCons (eCal (ok_weight T) (hr.mono (by first | decide | omega)) rfl cxP (aCons (eVar 1 (pv 1)) (aCons (eVar 3 (pv 3)) (aNil))) (mACons_len (mACons_len (mANil_len)))) (aNil))))) (aCons (ofN (nList (aCons (eCal (ok__law_weight T) (hr.mono (by first | decide | omega)) rfl cxP (aCons (eVar 1 (pv 1)) (aCons (eVar 2 (pv 2)) (aNil))) (mACons_len (mACons_len (mANil_len)))) (aCons (eCal (ok__law_weight T) (hr.mono (by first | decide | omega)) rfl cxP (aCons (eVar 1 (pv 1)) (aCons (eVar 3 (pv 3)) (aNil))) (mACons_len (mACons_len (mANil_len)))) (aNil))))) (aNil))) (mACons_len (mACons_len (mANil_len)))))))
    (bOne (sRet (eBl)))
    (bNil))
    (bCons (sIf (tCmp (op_neAll hr.units) ne_s (see (eCal (ok_weight T) (hr.mono (by first | decide | omega)) rfl cxP (aCons (eVar 1 (pv 1)) (aCons (eOp2 op_addAll add_s (see (eVar 2 (pv 2))) (see (eVar 3 (pv 3)))) (aNil))) (mACons_len (mACons_len (mANil_len))))) (see (eOp2 op_mulAll mul_s (see (eCal (ok_weight T) (hr.mono (by first | decide | omega)) rfl cxP (aCons (eVar 1 (pv 1)) (aCons (eVar 2 (pv 2)) (aNil))) (mACons_len (mACons_len (mANil_len))))) (see (eCal (ok_weight T) (hr.mono (by first | decide | omega)) rfl cxP (aCons (eVar 1 (pv 1)) (aCons (eVar 3 (pv 3)) (aNil))) (mACons_len (mACons_len (mANil_len))))))) (nomark _))
    (bOne (sRet (eBl)))
    (bNil))
    (bCons (sSet (i := 4) sc__law_is_right.nd rfl (.inl rfl) (eCal (ok__law_draw T) (hr.mono (by first | decide | omega)) rfl cxP (aCons (eVar 0 (pv 0)) (aCons (eInt) (aNil))) (mACons_len (mACons_len (mANil_len)))))
    (bCons (sSet (i := 5) sc__law_is_right.nd rfl (.inl rfl) (eCal (ok_coverings T) (hr.mono (by first | decide | omega)) rfl cxP (aCons (eVar 4 (pv 4)) (aNil)) (mACons_len (mANil_len))))
    (bCons (sOwn (i := 6) sc__law_is_right.nd rfl (.inl rfl) (nRep (see (ofN (nList (aCons (eInt) (aNil))))) (see (eOp2 op_addAll add_s (see (eOp2 op_fdivW div_s (see (eVar 4 (pv 4))) (see (eInt)))) (see (eInt))))))
    (bCons (sFor cxO rfl (iVal (eVar 5 (pv 5))) (pg_name (i := 7) sc__law_is_right.nd rfl (.inl rfl)) (gName_s 7)
    (bCons (sSet (i := 8) sc__law_is_right.nd rfl (.inl rfl) (eM1 PySem.F.slot_str_count PySem.F.type_str_count mt_count count_s (see (eVar 7 (pv 7))) (see (eStr))))
    (bOne (sSetIx 6 (pv 6) (see (eVar 8 (pv 8))) (eOp2 op_addAll add_s (see (eIx (pVar 6 (pv 6)) (see (eVar 8 (pv 8))) (fun _ _ => rfl))) (see (eCal (ok__law_weight T) (hr.mono (by first | decide | omega)) rfl cxP (aCons (eVar 1 (pv 1)) (aCons (eVar 7 (pv 7)) (aNil))) (mACons_len (mACons_len (mANil_len))))))))))
    (bCons (sIf (wT (wOr (tNot (tVal (see (eCal (ok__law_is T 6) (hr.mono (by first | decide | omega)) rfl cxP (aCons (eCal (ok_weights_of T) (hr.mono (by first | decide | omega)) rfl cxP (aCons (eVar 1 (pv 1)) (aCons (eVar 4 (pv 4)) (aNil))) (mACons_len (mACons_len (mANil_len)))) (aCons (eTy call_tuple_of tuple_s rfl T.n_tuple bt_tuple (oCons (pVar 6 (pv 6)) (oNil))) (aNil))) (mACons_len (mACons_len (mANil_len))))))) (wOr1 (tCmp (op_neAll hr.units) ne_s (see (eB (cr_sumT rfl) sumT_s rfl T.n_sum bt_sum (oCons (pVar 6 (pv 6)) (oNil)))) (see (eCal (ok_u_term T) (hr.mono (by first | decide | omega)) rfl cxP (aCons (eVar 1 (pv 1)) (aCons (eOp2 op_addAll add_s (see (eVar 4 (pv 4))) (see (eInt))) (aNil))) (mACons_len (mACons_len (mANil_len))))) (nomark _)))))
    (bOne (sRet (eBl)))
    (bNil))
    (bCons (sSet (i := 9) sc__law_is_right.nd rfl (.inl rfl) (eCal (ok__law_draw T) (hr.mono (by first | decide | omega)) rfl cxP (aCons (eVar 0 (pv 0)) (aCons (eInt) (aNil))) (mACons_len (mACons_len (mANil_len)))))
    (bCons (sSet (i := 10) sc__law_is_right.nd rfl (.inl rfl) (eCal (ok_weights_of T) (hr.mono (by first | decide | omega)) rfl cxP (aCons (eVar 1 (pv 1)) (aCons (eVar 9 (pv 9)) (aNil))) (mACons_len (mACons_len (mANil_len)))))
    (bOne (sRet (eAnd (see (eCal (ok__law_is T 6) (hr.mono (by first | decide | omega)) rfl cxP (aCons (eVar 10 (pv 10)) (aCons (eTy call_tuple_of tuple_s rfl T.n_tuple bt_tuple (oCons (see (eCal (ok__law_sums T) (hr.mono (by first | decide | omega)) rfl cxP (aCons (eVar 1 (pv 1)) (aCons (eVar 9 (pv 9)) (aNil))) (mACons_len (mACons_len (mANil_len))))) (oNil))) (aNil))) (mACons_len (mACons_len (mANil_len))))) (eOne (eCmp (op_eqAll hr.units) eq_s (see (eB (cr_sumT rfl) sumT_s rfl T.n_sum bt_sum (oCons (see (eVar 10 (pv 10))) (oNil)))) (see (eCal (ok_u_term T) (hr.mono (by first | decide | omega)) rfl cxP (aCons (eVar 1 (pv 1)) (aCons (eOp2 op_addAll add_s (see (eVar 9 (pv 9))) (see (eInt))) (aNil))) (mACons_len (mACons_len (mANil_len))))) (nomark _))))))))))))))) : Ok P w K mg base "_law_is_right" 8 1 (fnM 11 b__law_is_right))
theorem ok__law_hand (T : Txt K mg) : OkH P w K mg base "_law_hand" 1 := okHand (k := 0) T.f__law_hand sc__law_hand fun f cdv A outer s H E hr =>
  pss_cons (ps_setLc (i := 1) (own := [("cell", 2)]) rfl sc__law_hand.nd rfl rfl (sw_true rfl rfl rfl (by decide +kernel)) (pi_list (pe_slice sl_list (pv 0) po_none (po_some pe_int))) (blkOk_by (own := [("cell", 2)]) (N := N__law_hand) (sc := defScope s__law_hand) (by decide +kernel))
      (fun _ _ _ _ _ => pg_name (i := 2) sc__law_hand.nd rfl (.inl rfl)) (fun _ _ _ _ _ => pts_nil) (fun _ _ _ _ _ => pe_callB call_abs rfl T.n_abs bt_abs (pa_cons (pe_callTy call_int1 rfl T.n_int bt_int (pa_cons (pv 2) pa_nil)) pa_nil)))
    (pss_one (ps_ret (pe_lst (pa_cons (pv 1) (pa_cons pe_int (pa_cons pe_int (pa_cons (pe_op op_add pe_int (pe_op op_mulA pe_int (pe_callB call_len_seq rfl T.n_len bt_len (pa_cons (pv 1) pa_nil)))) (pa_cons pe_int pa_nil))))))))
theorem ok_law (T : Txt K mg) {f : Addr} {fd : FuncData} (F : Fun K "law" "law" s_law f fd) (hm : ∀ (v : V) (cs : List Int) (acc : Int), ∃ g, b_law (.val (.ref v) :: .val .hand :: List.replicate 1 .no) (hand0 cs acc) = .ret (.dat (.bool true)) g) :
    FnOk P w K mg base (L2.CX P w) 9 f fd ["script"] (spLaw K) := okLaw (k := 8) F sc_law rfl (fun cdv A outer s H E hr =>
  pss_cons (ps_set (i := 1) sc_law.nd rfl (.inr rfl) (pe_hand (ok__law_hand T) (hr.mono (by first | decide | omega)) rfl cxP (pv 0)))
    (bCons (sIf (wT (wOr (tCmp (op_neAll hr.units) ne_s (see (eCal (ok_weight T) (hr.mono (by first | decide | omega)) rfl cxP (aCons (eTup (aCons (eInt) (aCons (eInt) (aNil)))) (aCons (eStr) (aNil))) (mACons_len (mACons_len (mANil_len))))) (see (eUn un_neg neg_s (see (eInt)))) (nomark _)) (wOr (tCmp (op_neAll hr.units) ne_s (see (eCal (ok_weights_of T) (hr.mono (by first | decide | omega)) rfl cxP (aCons (eTup (aCons (eInt) (aCons (eInt) (aNil)))) (aCons (eInt) (aNil))) (mACons_len (mACons_len (mANil_len))))) (see (eTup (aCons (eInt) (aCons (eUn un_neg neg_s (see (eInt))) (aNil))))) (nomark _)) (wOr1 (tCmp (op_neAll hr.units) ne_s (see (eCal (ok_weight T) (hr.mono (by first | decide | omega)) rfl cxP (aCons (eTup (aCons (eInt) (aCons (eInt) (aNil)))) (aCons (eStr) (aNil))) (mACons_len (mACons_len (mANil_len))))) (see (eInt)) (nomark _))))))
    (bOne (sRet (eBl)))
    (bNil))
    (bOne (sRet (eB (cr_all rfl) all_s rfl T.n_all bt_all (oCons (see (ofN (nLc rfl (own := [("lap_no", 2)]) sc_law.nd (iRange1 rfl T.n_range (oCons (see (eInt)) (oNil))) (blkOk_by (own := [("lap_no", 2)]) (N := N_law) (sc := defScope s_law) (by decide +kernel)) (fun _ _ _ _ _ => pg_name (i := 2) sc_law.nd rfl (by first | exact .inl rfl | exact .inr rfl)) (gName_w 2 (by decide)) (fun _ _ _ _ _ => tsNil) (fun _ _ _ _ _ => eCal (ok__law_is_right T) (hr.mono (by first | decide | omega)) rfl passL (aCons (eVar 1 (pv 1)) (aNil)) (mACons_len (mANil_len)))))) (oNil))))))) hm
end
def HOk (g : Hand) : Prop := 0 ≤ g.ix
theorem draw_ok (g : Hand) (m : Int) (hg : HOk g) (h : 0 < m) (h2 : m.natAbs.log2 < 9000) : ∃ d g', m__law_draw [.hand, .dat (.int m)] g = .ok (.dat (.int d)) g' ∧ 0 ≤ d ∧ d < m ∧ HOk g' := by
  have q : ∀ x y : Int, 0 < y → (0 ≤ x % y ∧ x % y < y) := fun x y h => ⟨Int.emod_nonneg _ (by omega), Int.emod_lt_of_pos _ h⟩
  have D1 : ∀ x : Int, fMod (.int x) (.int 2147483629) = some (.int (x % 2147483629)) := fun x => fMod_i (by decide)
  have D2 : ∀ x : Int, fMod (.int x) (.int 2147483647) = some (.int (x % 2147483647)) := fun x => fMod_i (by decide)
  have D3 : ∀ x : Int, fMod (.int x) (.int 2147483399) = some (.int (x % 2147483399)) := fun x => fMod_i (by decide)
  have D4 : ∀ x : Int, fMod (.int x) (.int m) = some (.int (x % m)) := fun x => fMod_i h
  have D5 : ∀ x : Int, fDiv (.int x) (.int m) = some (.int (x / m)) := fun x => fDiv_i h h2
  have D6 : ∀ x : Int, fDiv (.int x) (.int 1009) = some (.int (x / 1009)) := fun x => fDiv_i (by decide) (by decide)
  have D7 : ∀ x : Int, fDiv (.int x) (.int 2003) = some (.int (x / 2003)) := fun x => fDiv_i (by decide) (by decide)
  have D8 : ∀ x : Int, fDiv (.int x) (.int 16) = some (.int (x / 16)) := fun x => fDiv_i (by decide) (by decide)
  have D9 : ∀ x : Int, fMul (.int x) (.int 69621) = some (.int (x * 69621)) := fun x => fMul_i (mulOk_r (by decide) (by decide))
  have D10 : ∀ x : Int, fMul (.int x) (.int 48271) = some (.int (x * 48271)) := fun x => fMul_i (mulOk_r (by decide) (by decide))
  have D11 : ∀ x : Int, fMul (.int 7919) (.int x) = some (.int (7919 * x)) := fun x => fMul_i (mulOk_l (by decide) (by decide))
  have D12 : ∀ x y : Int, fMul (.int (x % 2147483647)) (.int y) = some (.int (x % 2147483647 * y)) := fun x y => fMul_i (mulOk_l (by have := q x 2147483647 (by decide); omega) (by have := q x 2147483647 (by decide); omega))
  have D13 : fPow (.int 10) (.int 18) = some (.int (10 ^ 18)) := fPow_i (n := 18) (by decide) (by decide)
  unfold m__law_draw b__law_draw
  simp -implicitDefEqProofs only [bnd_err, dat_err, outR, outS, seq_nx, seq_ret, seq_brk, seq_ct, seq_err, seq_ap, nx_ap, brk_ap, ofO_some, var_ap, rVar_v, peek_ap, rPeek_v, rPeek_o, c_ap, op1_ap, kOp1_ap, op2_ap, kOp2a_ap, kOp2b_ap, test_ap, kTest_ap, and_ap, kAnd_t, kAnd_f, or_ap, kOr_t, kOr_f, not_ap, kNot_ap, andV_ap, kAndV_t, kAndV_f, orV_ap, kOrV_t, kOrV_f, notV_ap, kNotV_ap, if_ap, kIf_t, kIf_f, chain_ap, kCh1_ap, kCh2_ap, kCh3_t, kCh3_f, nilA_ap, consA_ap, kA1_ap, kA2_ap, nilO_ap, consO_ap, kO1_ap, kO2_ap, call_ap, disp_ap, tup_ap, kDisp_0, kDisp_1, kDisp_2, kDisp_3, kDisp_4, kDisp_5, kTupl_0, kTupl_1, kTupl_2, kTupl_3, cb_ap, kCB_ap, rN_some, cn_ap, kCN_ap, l_ap, kL_ap, lc_ap, items_ap, kIt_l, kIt_t, kIt_s, rng1_ap, rng2_ap, zip_ap, m1_ap, kM1a_ap, kM1b_ap, m0_ap, kM0_ap, sl_ap, kSl1_ap, kSl2_ap, kSl3_ap, noPart_ap, part_ap, kPart_ap, isi_ap, kIsi_ap, set_ap, kSet_ap, own_ap, kOwn_ap, ret_ap, kRet_ap, drop_ap, kDrop_ap, ifS_ap, kIfS_t, kIfS_f, par_ap, kPar_ap, par3_ap, kPar3_ap, rSt_some, unp_ap, kUnp_ap, kName_ap, kTup2_ap, kTup3_ap, for_ap, kFor_ap, raise_ap, app_ap, rApp_ap, ext_ap, rExt_ap, frz_ap, rFrz_o, rFrz_v, six_ap, kSix_ap, rSix_ap, aug_ap, rAug_ap, kAug_ap, ownD_ap, ownD0_ap, kvNil_ap, kvCons_ap, kKv1_ap, kKv2_ap, kKv3_i, kKv3_s, dget_ap, rDG_ap, kDG_i, kDG_s, dset_ap, kDS_ap, rDS_ap, hix_ap, rHix_ap, hGet0, hGet1, hGet2, hGet3, hGet4, hset_ap, kHS_ap, rHS1, rHS2, rHS3, rHS4, fn_ap, fin_ret, fin_nx, fin_err, fAdd_i, fSub_i, fNeg_i, fLt_i, fLe_i, fGt_i, fGe_i, fEq_s, fNe_s, fEq_i, fNe_i, fNe_b, fIx_l, fIx_t, fLen_l, fLen_t, fInt_i, fTuple_l, bnd_ok, dat_ok, List.map_cons, List.map_nil, List.replicate_succ, List.replicate_zero, List.cons_append, List.nil_append, List.length_cons, List.length_nil, List.getElem?_cons_zero, List.getElem?_cons_succ, List.set_cons_zero, List.set_cons_succ, Nat.sub_self, Nat.zero_add, Nat.reduceSub, Nat.reduceAdd, Option.bind_some, Option.map_some, Bool.not_true, Bool.not_false]
  by_cases c1 : g.rest = 0
  · simp -implicitDefEqProofs only [bnd_err, dat_err, outR, outS, seq_nx, seq_ret, seq_brk, seq_ct, seq_err, seq_ap, nx_ap, brk_ap, ofO_some, var_ap, rVar_v, peek_ap, rPeek_v, rPeek_o, c_ap, op1_ap, kOp1_ap, op2_ap, kOp2a_ap, kOp2b_ap, test_ap, kTest_ap, and_ap, kAnd_t, kAnd_f, or_ap, kOr_t, kOr_f, not_ap, kNot_ap, andV_ap, kAndV_t, kAndV_f, orV_ap, kOrV_t, kOrV_f, notV_ap, kNotV_ap, if_ap, kIf_t, kIf_f, chain_ap, kCh1_ap, kCh2_ap, kCh3_t, kCh3_f, nilA_ap, consA_ap, kA1_ap, kA2_ap, nilO_ap, consO_ap, kO1_ap, kO2_ap, call_ap, disp_ap, tup_ap, kDisp_0, kDisp_1, kDisp_2, kDisp_3, kDisp_4, kDisp_5, kTupl_0, kTupl_1, kTupl_2, kTupl_3, cb_ap, kCB_ap, rN_some, cn_ap, kCN_ap, l_ap, kL_ap, lc_ap, items_ap, kIt_l, kIt_t, kIt_s, rng1_ap, rng2_ap, zip_ap, m1_ap, kM1a_ap, kM1b_ap, m0_ap, kM0_ap, sl_ap, kSl1_ap, kSl2_ap, kSl3_ap, noPart_ap, part_ap, kPart_ap, isi_ap, kIsi_ap, set_ap, kSet_ap, own_ap, kOwn_ap, ret_ap, kRet_ap, drop_ap, kDrop_ap, ifS_ap, kIfS_t, kIfS_f, par_ap, kPar_ap, par3_ap, kPar3_ap, rSt_some, unp_ap, kUnp_ap, kName_ap, kTup2_ap, kTup3_ap, for_ap, kFor_ap, raise_ap, app_ap, rApp_ap, ext_ap, rExt_ap, frz_ap, rFrz_o, rFrz_v, six_ap, kSix_ap, rSix_ap, aug_ap, rAug_ap, kAug_ap, ownD_ap, ownD0_ap, kvNil_ap, kvCons_ap, kKv1_ap, kKv2_ap, kKv3_i, kKv3_s, dget_ap, rDG_ap, kDG_i, kDG_s, dset_ap, kDS_ap, rDS_ap, hix_ap, rHix_ap, hGet0, hGet1, hGet2, hGet3, hGet4, hset_ap, kHS_ap, rHS1, rHS2, rHS3, rHS4, fn_ap, fin_ret, fin_nx, fin_err, fAdd_i, fSub_i, fNeg_i, fLt_i, fLe_i, fGt_i, fGe_i, fEq_s, fNe_s, fEq_i, fNe_i, fNe_b, fIx_l, fIx_t, fLen_l, fLen_t, fInt_i, fTuple_l, bnd_ok, dat_ok, List.map_cons, List.map_nil, List.replicate_succ, List.replicate_zero, List.cons_append, List.nil_append, List.length_cons, List.length_nil, List.getElem?_cons_zero, List.getElem?_cons_succ, List.set_cons_zero, List.set_cons_succ, Nat.sub_self, Nat.zero_add, Nat.reduceSub, Nat.reduceAdd, Option.bind_some, Option.map_some, Bool.not_true, Bool.not_false, decide_eq_true c1]
    by_cases c2 : g.ix < ((g.cells.map PyData.int).length : Nat)
    · have hb : g.ix.toNat < g.cells.length := by
        simp only [List.length_map] at c2
        unfold HOk at hg
        omega
      have hx : atI (g.cells.map PyData.int) g.ix = some (.int (g.cells.getD g.ix.toNat 0)) := by
        refine atI_pos hg ?_
        rw [List.getElem?_map, List.getElem?_eq_getElem hb]
        simp [List.getD_eq_getElem?_getD, List.getElem?_eq_getElem hb]
      simp -implicitDefEqProofs only [bnd_err, dat_err, outR, outS, seq_nx, seq_ret, seq_brk, seq_ct, seq_err, seq_ap, nx_ap, brk_ap, ofO_some, var_ap, rVar_v, peek_ap, rPeek_v, rPeek_o, c_ap, op1_ap, kOp1_ap, op2_ap, kOp2a_ap, kOp2b_ap, test_ap, kTest_ap, and_ap, kAnd_t, kAnd_f, or_ap, kOr_t, kOr_f, not_ap, kNot_ap, andV_ap, kAndV_t, kAndV_f, orV_ap, kOrV_t, kOrV_f, notV_ap, kNotV_ap, if_ap, kIf_t, kIf_f, chain_ap, kCh1_ap, kCh2_ap, kCh3_t, kCh3_f, nilA_ap, consA_ap, kA1_ap, kA2_ap, nilO_ap, consO_ap, kO1_ap, kO2_ap, call_ap, disp_ap, tup_ap, kDisp_0, kDisp_1, kDisp_2, kDisp_3, kDisp_4, kDisp_5, kTupl_0, kTupl_1, kTupl_2, kTupl_3, cb_ap, kCB_ap, rN_some, cn_ap, kCN_ap, l_ap, kL_ap, lc_ap, items_ap, kIt_l, kIt_t, kIt_s, rng1_ap, rng2_ap, zip_ap, m1_ap, kM1a_ap, kM1b_ap, m0_ap, kM0_ap, sl_ap, kSl1_ap, kSl2_ap, kSl3_ap, noPart_ap, part_ap, kPart_ap, isi_ap, kIsi_ap, set_ap, kSet_ap, own_ap, kOwn_ap, ret_ap, kRet_ap, drop_ap, kDrop_ap, ifS_ap, kIfS_t, kIfS_f, par_ap, kPar_ap, par3_ap, kPar3_ap, rSt_some, unp_ap, kUnp_ap, kName_ap, kTup2_ap, kTup3_ap, for_ap, kFor_ap, raise_ap, app_ap, rApp_ap, ext_ap, rExt_ap, frz_ap, rFrz_o, rFrz_v, six_ap, kSix_ap, rSix_ap, aug_ap, rAug_ap, kAug_ap, ownD_ap, ownD0_ap, kvNil_ap, kvCons_ap, kKv1_ap, kKv2_ap, kKv3_i, kKv3_s, dget_ap, rDG_ap, kDG_i, kDG_s, dset_ap, kDS_ap, rDS_ap, hix_ap, rHix_ap, hGet0, hGet1, hGet2, hGet3, hGet4, hset_ap, kHS_ap, rHS1, rHS2, rHS3, rHS4, fn_ap, fin_ret, fin_nx, fin_err, fAdd_i, fSub_i, fNeg_i, fLt_i, fLe_i, fGt_i, fGe_i, fEq_s, fNe_s, fEq_i, fNe_i, fNe_b, fIx_l, fIx_t, fLen_l, fLen_t, fInt_i, fTuple_l, bnd_ok, dat_ok, List.map_cons, List.map_nil, List.replicate_succ, List.replicate_zero, List.cons_append, List.nil_append, List.length_cons, List.length_nil, List.getElem?_cons_zero, List.getElem?_cons_succ, List.set_cons_zero, List.set_cons_succ, Nat.sub_self, Nat.zero_add, Nat.reduceSub, Nat.reduceAdd, Option.bind_some, Option.map_some, Bool.not_true, Bool.not_false, decide_eq_true c2, hx, D1, D9, D13]
      generalize g.cells.getD g.ix.toNat 0 = cell
      by_cases c3 : 10 ^ 18 ≤ cell
      · have c4 : (0 : Int) < cell := by omega
        simp -implicitDefEqProofs only [bnd_err, dat_err, outR, outS, seq_nx, seq_ret, seq_brk, seq_ct, seq_err, seq_ap, nx_ap, brk_ap, ofO_some, var_ap, rVar_v, peek_ap, rPeek_v, rPeek_o, c_ap, op1_ap, kOp1_ap, op2_ap, kOp2a_ap, kOp2b_ap, test_ap, kTest_ap, and_ap, kAnd_t, kAnd_f, or_ap, kOr_t, kOr_f, not_ap, kNot_ap, andV_ap, kAndV_t, kAndV_f, orV_ap, kOrV_t, kOrV_f, notV_ap, kNotV_ap, if_ap, kIf_t, kIf_f, chain_ap, kCh1_ap, kCh2_ap, kCh3_t, kCh3_f, nilA_ap, consA_ap, kA1_ap, kA2_ap, nilO_ap, consO_ap, kO1_ap, kO2_ap, call_ap, disp_ap, tup_ap, kDisp_0, kDisp_1, kDisp_2, kDisp_3, kDisp_4, kDisp_5, kTupl_0, kTupl_1, kTupl_2, kTupl_3, cb_ap, kCB_ap, rN_some, cn_ap, kCN_ap, l_ap, kL_ap, lc_ap, items_ap, kIt_l, kIt_t, kIt_s, rng1_ap, rng2_ap, zip_ap, m1_ap, kM1a_ap, kM1b_ap, m0_ap, kM0_ap, sl_ap, kSl1_ap, kSl2_ap, kSl3_ap, noPart_ap, part_ap, kPart_ap, isi_ap, kIsi_ap, set_ap, kSet_ap, own_ap, kOwn_ap, ret_ap, kRet_ap, drop_ap, kDrop_ap, ifS_ap, kIfS_t, kIfS_f, par_ap, kPar_ap, par3_ap, kPar3_ap, rSt_some, unp_ap, kUnp_ap, kName_ap, kTup2_ap, kTup3_ap, for_ap, kFor_ap, raise_ap, app_ap, rApp_ap, ext_ap, rExt_ap, frz_ap, rFrz_o, rFrz_v, six_ap, kSix_ap, rSix_ap, aug_ap, rAug_ap, kAug_ap, ownD_ap, ownD0_ap, kvNil_ap, kvCons_ap, kKv1_ap, kKv2_ap, kKv3_i, kKv3_s, dget_ap, rDG_ap, kDG_i, kDG_s, dset_ap, kDS_ap, rDS_ap, hix_ap, rHix_ap, hGet0, hGet1, hGet2, hGet3, hGet4, hset_ap, kHS_ap, rHS1, rHS2, rHS3, rHS4, fn_ap, fin_ret, fin_nx, fin_err, fAdd_i, fSub_i, fNeg_i, fLt_i, fLe_i, fGt_i, fGe_i, fEq_s, fNe_s, fEq_i, fNe_i, fNe_b, fIx_l, fIx_t, fLen_l, fLen_t, fInt_i, fTuple_l, bnd_ok, dat_ok, List.map_cons, List.map_nil, List.replicate_succ, List.replicate_zero, List.cons_append, List.nil_append, List.length_cons, List.length_nil, List.getElem?_cons_zero, List.getElem?_cons_succ, List.set_cons_zero, List.set_cons_succ, Nat.sub_self, Nat.zero_add, Nat.reduceSub, Nat.reduceAdd, Option.bind_some, Option.map_some, Bool.not_true, Bool.not_false, decide_eq_true c3, decide_eq_true c4, D4, D5]
        exact ⟨_, _, rfl, (q _ _ h).1, (q _ _ h).2, by unfold HOk at *; show 0 ≤ g.ix + 1; omega⟩
      · have c4 : ¬ (0 : Int) < g.rest := by omega
        simp -implicitDefEqProofs only [bnd_err, dat_err, outR, outS, seq_nx, seq_ret, seq_brk, seq_ct, seq_err, seq_ap, nx_ap, brk_ap, ofO_some, var_ap, rVar_v, peek_ap, rPeek_v, rPeek_o, c_ap, op1_ap, kOp1_ap, op2_ap, kOp2a_ap, kOp2b_ap, test_ap, kTest_ap, and_ap, kAnd_t, kAnd_f, or_ap, kOr_t, kOr_f, not_ap, kNot_ap, andV_ap, kAndV_t, kAndV_f, orV_ap, kOrV_t, kOrV_f, notV_ap, kNotV_ap, if_ap, kIf_t, kIf_f, chain_ap, kCh1_ap, kCh2_ap, kCh3_t, kCh3_f, nilA_ap, consA_ap, kA1_ap, kA2_ap, nilO_ap, consO_ap, kO1_ap, kO2_ap, call_ap, disp_ap, tup_ap, kDisp_0, kDisp_1, kDisp_2, kDisp_3, kDisp_4, kDisp_5, kTupl_0, kTupl_1, kTupl_2, kTupl_3, cb_ap, kCB_ap, rN_some, cn_ap, kCN_ap, l_ap, kL_ap, lc_ap, items_ap, kIt_l, kIt_t, kIt_s, rng1_ap, rng2_ap, zip_ap, m1_ap, kM1a_ap, kM1b_ap, m0_ap, kM0_ap, sl_ap, kSl1_ap, kSl2_ap, kSl3_ap, noPart_ap, part_ap, kPart_ap, isi_ap, kIsi_ap, set_ap, kSet_ap, own_ap, kOwn_ap, ret_ap, kRet_ap, drop_ap, kDrop_ap, ifS_ap, kIfS_t, kIfS_f, par_ap, kPar_ap, par3_ap, kPar3_ap, rSt_some, unp_ap, kUnp_ap, kName_ap, kTup2_ap, kTup3_ap, for_ap, kFor_ap, raise_ap, app_ap, rApp_ap, ext_ap, rExt_ap, frz_ap, rFrz_o, rFrz_v, six_ap, kSix_ap, rSix_ap, aug_ap, rAug_ap, kAug_ap, ownD_ap, ownD0_ap, kvNil_ap, kvCons_ap, kKv1_ap, kKv2_ap, kKv3_i, kKv3_s, dget_ap, rDG_ap, kDG_i, kDG_s, dset_ap, kDS_ap, rDS_ap, hix_ap, rHix_ap, hGet0, hGet1, hGet2, hGet3, hGet4, hset_ap, kHS_ap, rHS1, rHS2, rHS3, rHS4, fn_ap, fin_ret, fin_nx, fin_err, fAdd_i, fSub_i, fNeg_i, fLt_i, fLe_i, fGt_i, fGe_i, fEq_s, fNe_s, fEq_i, fNe_i, fNe_b, fIx_l, fIx_t, fLen_l, fLen_t, fInt_i, fTuple_l, bnd_ok, dat_ok, List.map_cons, List.map_nil, List.replicate_succ, List.replicate_zero, List.cons_append, List.nil_append, List.length_cons, List.length_nil, List.getElem?_cons_zero, List.getElem?_cons_succ, List.set_cons_zero, List.set_cons_succ, Nat.sub_self, Nat.zero_add, Nat.reduceSub, Nat.reduceAdd, Option.bind_some, Option.map_some, Bool.not_true, Bool.not_false, decide_eq_false c3, decide_eq_false c4, D2, D3, D4, D6, D7, D8, D10, D11, D12]
        exact ⟨_, _, rfl, (q _ _ h).1, (q _ _ h).2, by unfold HOk at *; show 0 ≤ g.ix + 1; omega⟩
    · have c4 : ¬ (0 : Int) < g.rest := by omega
      simp -implicitDefEqProofs only [bnd_err, dat_err, outR, outS, seq_nx, seq_ret, seq_brk, seq_ct, seq_err, seq_ap, nx_ap, brk_ap, ofO_some, var_ap, rVar_v, peek_ap, rPeek_v, rPeek_o, c_ap, op1_ap, kOp1_ap, op2_ap, kOp2a_ap, kOp2b_ap, test_ap, kTest_ap, and_ap, kAnd_t, kAnd_f, or_ap, kOr_t, kOr_f, not_ap, kNot_ap, andV_ap, kAndV_t, kAndV_f, orV_ap, kOrV_t, kOrV_f, notV_ap, kNotV_ap, if_ap, kIf_t, kIf_f, chain_ap, kCh1_ap, kCh2_ap, kCh3_t, kCh3_f, nilA_ap, consA_ap, kA1_ap, kA2_ap, nilO_ap, consO_ap, kO1_ap, kO2_ap, call_ap, disp_ap, tup_ap, kDisp_0, kDisp_1, kDisp_2, kDisp_3, kDisp_4, kDisp_5, kTupl_0, kTupl_1, kTupl_2, kTupl_3, cb_ap, kCB_ap, rN_some, cn_ap, kCN_ap, l_ap, kL_ap, lc_ap, items_ap, kIt_l, kIt_t, kIt_s, rng1_ap, rng2_ap, zip_ap, m1_ap, kM1a_ap, kM1b_ap, m0_ap, kM0_ap, sl_ap, kSl1_ap, kSl2_ap, kSl3_ap, noPart_ap, part_ap, kPart_ap, isi_ap, kIsi_ap, set_ap, kSet_ap, own_ap, kOwn_ap, ret_ap, kRet_ap, drop_ap, kDrop_ap, ifS_ap, kIfS_t, kIfS_f, par_ap, kPar_ap, par3_ap, kPar3_ap, rSt_some, unp_ap, kUnp_ap, kName_ap, kTup2_ap, kTup3_ap, for_ap, kFor_ap, raise_ap, app_ap, rApp_ap, ext_ap, rExt_ap, frz_ap, rFrz_o, rFrz_v, six_ap, kSix_ap, rSix_ap, aug_ap, rAug_ap, kAug_ap, ownD_ap, ownD0_ap, kvNil_ap, kvCons_ap, kKv1_ap, kKv2_ap, kKv3_i, kKv3_s, dget_ap, rDG_ap, kDG_i, kDG_s, dset_ap, kDS_ap, rDS_ap, hix_ap, rHix_ap, hGet0, hGet1, hGet2, hGet3, hGet4, hset_ap, kHS_ap, rHS1, rHS2, rHS3, rHS4, fn_ap, fin_ret, fin_nx, fin_err, fAdd_i, fSub_i, fNeg_i, fLt_i, fLe_i, fGt_i, fGe_i, fEq_s, fNe_s, fEq_i, fNe_i, fNe_b, fIx_l, fIx_t, fLen_l, fLen_t, fInt_i, fTuple_l, bnd_ok, dat_ok, List.map_cons, List.map_nil, List.replicate_succ, List.replicate_zero, List.cons_append, List.nil_append, List.length_cons, List.length_nil, List.getElem?_cons_zero, List.getElem?_cons_succ, List.set_cons_zero, List.set_cons_succ, Nat.sub_self, Nat.zero_add, Nat.reduceSub, Nat.reduceAdd, Option.bind_some, Option.map_some, Bool.not_true, Bool.not_false, decide_eq_false c2, decide_eq_false c4, D2, D3, D4, D6, D7, D8, D10, D11, D12]
      exact ⟨_, _, rfl, (q _ _ h).1, (q _ _ h).2, hg⟩
  · simp -implicitDefEqProofs only [bnd_err, dat_err, outR, outS, seq_nx, seq_ret, seq_brk, seq_ct, seq_err, seq_ap, nx_ap, brk_ap, ofO_some, var_ap, rVar_v, peek_ap, rPeek_v, rPeek_o, c_ap, op1_ap, kOp1_ap, op2_ap, kOp2a_ap, kOp2b_ap, test_ap, kTest_ap, and_ap, kAnd_t, kAnd_f, or_ap, kOr_t, kOr_f, not_ap, kNot_ap, andV_ap, kAndV_t, kAndV_f, orV_ap, kOrV_t, kOrV_f, notV_ap, kNotV_ap, if_ap, kIf_t, kIf_f, chain_ap, kCh1_ap, kCh2_ap, kCh3_t, kCh3_f, nilA_ap, consA_ap, kA1_ap, kA2_ap, nilO_ap, consO_ap, kO1_ap, kO2_ap, call_ap, disp_ap, tup_ap, kDisp_0, kDisp_1, kDisp_2, kDisp_3, kDisp_4, kDisp_5, kTupl_0, kTupl_1, kTupl_2, kTupl_3, cb_ap, kCB_ap, rN_some, cn_ap, kCN_ap, l_ap, kL_ap, lc_ap, items_ap, kIt_l, kIt_t, kIt_s, rng1_ap, rng2_ap, zip_ap, m1_ap, kM1a_ap, kM1b_ap, m0_ap, kM0_ap, sl_ap, kSl1_ap, kSl2_ap, kSl3_ap, noPart_ap, part_ap, kPart_ap, isi_ap, kIsi_ap, set_ap, kSet_ap, own_ap, kOwn_ap, ret_ap, kRet_ap, drop_ap, kDrop_ap, ifS_ap, kIfS_t, kIfS_f, par_ap, kPar_ap, par3_ap, kPar3_ap, rSt_some, unp_ap, kUnp_ap, kName_ap, kTup2_ap, kTup3_ap, for_ap, kFor_ap, raise_ap, app_ap, rApp_ap, ext_ap, rExt_ap, frz_ap, rFrz_o, rFrz_v, six_ap, kSix_ap, rSix_ap, aug_ap, rAug_ap, kAug_ap, ownD_ap, ownD0_ap, kvNil_ap, kvCons_ap, kKv1_ap, kKv2_ap, kKv3_i, kKv3_s, dget_ap, rDG_ap, kDG_i, kDG_s, dset_ap, kDS_ap, rDS_ap, hix_ap, rHix_ap, hGet0, hGet1, hGet2, hGet3, hGet4, hset_ap, kHS_ap, rHS1, rHS2, rHS3, rHS4, fn_ap, fin_ret, fin_nx, fin_err, fAdd_i, fSub_i, fNeg_i, fLt_i, fLe_i, fGt_i, fGe_i, fEq_s, fNe_s, fEq_i, fNe_i, fNe_b, fIx_l, fIx_t, fLen_l, fLen_t, fInt_i, fTuple_l, bnd_ok, dat_ok, List.map_cons, List.map_nil, List.replicate_succ, List.replicate_zero, List.cons_append, List.nil_append, List.length_cons, List.length_nil, List.getElem?_cons_zero, List.getElem?_cons_succ, List.set_cons_zero, List.set_cons_succ, Nat.sub_self, Nat.zero_add, Nat.reduceSub, Nat.reduceAdd, Option.bind_some, Option.map_some, Bool.not_true, Bool.not_false, decide_eq_false c1]
    by_cases c4 : (0 : Int) < g.rest
    · simp -implicitDefEqProofs only [bnd_err, dat_err, outR, outS, seq_nx, seq_ret, seq_brk, seq_ct, seq_err, seq_ap, nx_ap, brk_ap, ofO_some, var_ap, rVar_v, peek_ap, rPeek_v, rPeek_o, c_ap, op1_ap, kOp1_ap, op2_ap, kOp2a_ap, kOp2b_ap, test_ap, kTest_ap, and_ap, kAnd_t, kAnd_f, or_ap, kOr_t, kOr_f, not_ap, kNot_ap, andV_ap, kAndV_t, kAndV_f, orV_ap, kOrV_t, kOrV_f, notV_ap, kNotV_ap, if_ap, kIf_t, kIf_f, chain_ap, kCh1_ap, kCh2_ap, kCh3_t, kCh3_f, nilA_ap, consA_ap, kA1_ap, kA2_ap, nilO_ap, consO_ap, kO1_ap, kO2_ap, call_ap, disp_ap, tup_ap, kDisp_0, kDisp_1, kDisp_2, kDisp_3, kDisp_4, kDisp_5, kTupl_0, kTupl_1, kTupl_2, kTupl_3, cb_ap, kCB_ap, rN_some, cn_ap, kCN_ap, l_ap, kL_ap, lc_ap, items_ap, kIt_l, kIt_t, kIt_s, rng1_ap, rng2_ap, zip_ap, m1_ap, kM1a_ap, kM1b_ap, m0_ap, kM0_ap, sl_ap, kSl1_ap, kSl2_ap, kSl3_ap, noPart_ap, part_ap, kPart_ap, isi_ap, kIsi_ap, set_ap, kSet_ap, own_ap, kOwn_ap, ret_ap, kRet_ap, drop_ap, kDrop_ap, ifS_ap, kIfS_t, kIfS_f, par_ap, kPar_ap, par3_ap, kPar3_ap, rSt_some, unp_ap, kUnp_ap, kName_ap, kTup2_ap, kTup3_ap, for_ap, kFor_ap, raise_ap, app_ap, rApp_ap, ext_ap, rExt_ap, frz_ap, rFrz_o, rFrz_v, six_ap, kSix_ap, rSix_ap, aug_ap, rAug_ap, kAug_ap, ownD_ap, ownD0_ap, kvNil_ap, kvCons_ap, kKv1_ap, kKv2_ap, kKv3_i, kKv3_s, dget_ap, rDG_ap, kDG_i, kDG_s, dset_ap, kDS_ap, rDS_ap, hix_ap, rHix_ap, hGet0, hGet1, hGet2, hGet3, hGet4, hset_ap, kHS_ap, rHS1, rHS2, rHS3, rHS4, fn_ap, fin_ret, fin_nx, fin_err, fAdd_i, fSub_i, fNeg_i, fLt_i, fLe_i, fGt_i, fGe_i, fEq_s, fNe_s, fEq_i, fNe_i, fNe_b, fIx_l, fIx_t, fLen_l, fLen_t, fInt_i, fTuple_l, bnd_ok, dat_ok, List.map_cons, List.map_nil, List.replicate_succ, List.replicate_zero, List.cons_append, List.nil_append, List.length_cons, List.length_nil, List.getElem?_cons_zero, List.getElem?_cons_succ, List.set_cons_zero, List.set_cons_succ, Nat.sub_self, Nat.zero_add, Nat.reduceSub, Nat.reduceAdd, Option.bind_some, Option.map_some, Bool.not_true, Bool.not_false, decide_eq_true c4, D4, D5]
      exact ⟨_, _, rfl, (q _ _ h).1, (q _ _ h).2, hg⟩
    · simp -implicitDefEqProofs only [bnd_err, dat_err, outR, outS, seq_nx, seq_ret, seq_brk, seq_ct, seq_err, seq_ap, nx_ap, brk_ap, ofO_some, var_ap, rVar_v, peek_ap, rPeek_v, rPeek_o, c_ap, op1_ap, kOp1_ap, op2_ap, kOp2a_ap, kOp2b_ap, test_ap, kTest_ap, and_ap, kAnd_t, kAnd_f, or_ap, kOr_t, kOr_f, not_ap, kNot_ap, andV_ap, kAndV_t, kAndV_f, orV_ap, kOrV_t, kOrV_f, notV_ap, kNotV_ap, if_ap, kIf_t, kIf_f, chain_ap, kCh1_ap, kCh2_ap, kCh3_t, kCh3_f, nilA_ap, consA_ap, kA1_ap, kA2_ap, nilO_ap, consO_ap, kO1_ap, kO2_ap, call_ap, disp_ap, tup_ap, kDisp_0, kDisp_1, kDisp_2, kDisp_3, kDisp_4, kDisp_5, kTupl_0, kTupl_1, kTupl_2, kTupl_3, cb_ap, kCB_ap, rN_some, cn_ap, kCN_ap, l_ap, kL_ap, lc_ap, items_ap, kIt_l, kIt_t, kIt_s, rng1_ap, rng2_ap, zip_ap, m1_ap, kM1a_ap, kM1b_ap, m0_ap, kM0_ap, sl_ap, kSl1_ap, kSl2_ap, kSl3_ap, noPart_ap, part_ap, kPart_ap, isi_ap, kIsi_ap, set_ap, kSet_ap, own_ap, kOwn_ap, ret_ap, kRet_ap, drop_ap, kDrop_ap, ifS_ap, kIfS_t, kIfS_f, par_ap, kPar_ap, par3_ap, kPar3_ap, rSt_some, unp_ap, kUnp_ap, kName_ap, kTup2_ap, kTup3_ap, for_ap, kFor_ap, raise_ap, app_ap, rApp_ap, ext_ap, rExt_ap, frz_ap, rFrz_o, rFrz_v, six_ap, kSix_ap, rSix_ap, aug_ap, rAug_ap, kAug_ap, ownD_ap, ownD0_ap, kvNil_ap, kvCons_ap, kKv1_ap, kKv2_ap, kKv3_i, kKv3_s, dget_ap, rDG_ap, kDG_i, kDG_s, dset_ap, kDS_ap, rDS_ap, hix_ap, rHix_ap, hGet0, hGet1, hGet2, hGet3, hGet4, hset_ap, kHS_ap, rHS1, rHS2, rHS3, rHS4, fn_ap, fin_ret, fin_nx, fin_err, fAdd_i, fSub_i, fNeg_i, fLt_i, fLe_i, fGt_i, fGe_i, fEq_s, fNe_s, fEq_i, fNe_i, fNe_b, fIx_l, fIx_t, fLen_l, fLen_t, fInt_i, fTuple_l, bnd_ok, dat_ok, List.map_cons, List.map_nil, List.replicate_succ, List.replicate_zero, List.cons_append, List.nil_append, List.length_cons, List.length_nil, List.getElem?_cons_zero, List.getElem?_cons_succ, List.set_cons_zero, List.set_cons_succ, Nat.sub_self, Nat.zero_add, Nat.reduceSub, Nat.reduceAdd, Option.bind_some, Option.map_some, Bool.not_true, Bool.not_false, decide_eq_false c4, D2, D3, D4, D6, D7, D8, D10, D11, D12]
      exact ⟨_, _, rfl, (q _ _ h).1, (q _ _ h).2, hg⟩
theorem draw_nat (g : Hand) (m : Nat) (hg : HOk g) (h : 0 < m) (h2 : m < 10000000) : ∃ (d : Nat) (g' : Hand), m__law_draw [.hand, .dat (.int m)] g = .ok (.dat (.int d)) g' ∧ d < m ∧ HOk g' := by
  obtain ⟨d, g', e, h3, h4, h5⟩ := draw_ok g m hg (by omega) (by
    have : (m : Int).natAbs < 2 ^ 9000 := Nat.lt_of_lt_of_le (show (m : Int).natAbs < 2 ^ 24 by simp; omega) (Nat.pow_le_pow_right (by decide) (by decide))
    exact log2_small this (by decide))
  refine ⟨d.toNat, g', ?_, by omega, h5⟩
  rw [Int.toNat_of_nonneg h3]; exact e
theorem any_ok (g : Hand) (ds : List D) (hg : HOk g) (h0 : 0 < ds.length) (h1 : ds.length < 10000000) : ∃ d g', m__law_any [.hand, .dat (.list ds)] g = .ok (.dat d) g' ∧ d ∈ ds ∧ HOk g' := by
  obtain ⟨d, g', e, h3, h4⟩ := draw_nat g ds.length hg h0 h1
  have ha : atI ds (d : Nat) = some ds[d] := atI_nat (List.getElem?_eq_getElem h3)
  refine ⟨ds[d], g', ?_, List.getElem_mem h3, h4⟩
  unfold m__law_any b__law_any
  simp -implicitDefEqProofs only [bnd_err, dat_err, outR, outS, seq_nx, seq_ret, seq_brk, seq_ct, seq_err, seq_ap, nx_ap, brk_ap, ofO_some, var_ap, rVar_v, peek_ap, rPeek_v, rPeek_o, c_ap, op1_ap, kOp1_ap, op2_ap, kOp2a_ap, kOp2b_ap, test_ap, kTest_ap, and_ap, kAnd_t, kAnd_f, or_ap, kOr_t, kOr_f, not_ap, kNot_ap, andV_ap, kAndV_t, kAndV_f, orV_ap, kOrV_t, kOrV_f, notV_ap, kNotV_ap, if_ap, kIf_t, kIf_f, chain_ap, kCh1_ap, kCh2_ap, kCh3_t, kCh3_f, nilA_ap, consA_ap, kA1_ap, kA2_ap, nilO_ap, consO_ap, kO1_ap, kO2_ap, call_ap, disp_ap, tup_ap, kDisp_0, kDisp_1, kDisp_2, kDisp_3, kDisp_4, kDisp_5, kTupl_0, kTupl_1, kTupl_2, kTupl_3, cb_ap, kCB_ap, rN_some, cn_ap, kCN_ap, l_ap, kL_ap, lc_ap, items_ap, kIt_l, kIt_t, kIt_s, rng1_ap, rng2_ap, zip_ap, m1_ap, kM1a_ap, kM1b_ap, m0_ap, kM0_ap, sl_ap, kSl1_ap, kSl2_ap, kSl3_ap, noPart_ap, part_ap, kPart_ap, isi_ap, kIsi_ap, set_ap, kSet_ap, own_ap, kOwn_ap, ret_ap, kRet_ap, drop_ap, kDrop_ap, ifS_ap, kIfS_t, kIfS_f, par_ap, kPar_ap, par3_ap, kPar3_ap, rSt_some, unp_ap, kUnp_ap, kName_ap, kTup2_ap, kTup3_ap, for_ap, kFor_ap, raise_ap, app_ap, rApp_ap, ext_ap, rExt_ap, frz_ap, rFrz_o, rFrz_v, six_ap, kSix_ap, rSix_ap, aug_ap, rAug_ap, kAug_ap, ownD_ap, ownD0_ap, kvNil_ap, kvCons_ap, kKv1_ap, kKv2_ap, kKv3_i, kKv3_s, dget_ap, rDG_ap, kDG_i, kDG_s, dset_ap, kDS_ap, rDS_ap, hix_ap, rHix_ap, hGet0, hGet1, hGet2, hGet3, hGet4, hset_ap, kHS_ap, rHS1, rHS2, rHS3, rHS4, fn_ap, fin_ret, fin_nx, fin_err, fAdd_i, fSub_i, fNeg_i, fLt_i, fLe_i, fGt_i, fGe_i, fEq_s, fNe_s, fEq_i, fNe_i, fNe_b, fIx_l, fIx_t, fLen_l, fLen_t, fInt_i, fTuple_l, bnd_ok, dat_ok, List.map_cons, List.map_nil, List.replicate_succ, List.replicate_zero, List.cons_append, List.nil_append, List.length_cons, List.length_nil, List.getElem?_cons_zero, List.getElem?_cons_succ, List.set_cons_zero, List.set_cons_succ, Nat.sub_self, Nat.zero_add, Nat.reduceSub, Nat.reduceAdd, Option.bind_some, Option.map_some, Bool.not_true, Bool.not_false, e, ha]
theorem any_okT (g : Hand) (ds : List D) (hg : HOk g) (h0 : 0 < ds.length) (h1 : ds.length < 10000000) : ∃ d g', m__law_any [.hand, .dat (.tuple ds)] g = .ok (.dat d) g' ∧ d ∈ ds ∧ HOk g' := by
  obtain ⟨d, g', e, h3, h4⟩ := draw_nat g ds.length hg h0 h1
  have ha : atI ds (d : Nat) = some ds[d] := atI_nat (List.getElem?_eq_getElem h3)
  refine ⟨ds[d], g', ?_, List.getElem_mem h3, h4⟩
  unfold m__law_any b__law_any
  simp -implicitDefEqProofs only [bnd_err, dat_err, outR, outS, seq_nx, seq_ret, seq_brk, seq_ct, seq_err, seq_ap, nx_ap, brk_ap, ofO_some, var_ap, rVar_v, peek_ap, rPeek_v, rPeek_o, c_ap, op1_ap, kOp1_ap, op2_ap, kOp2a_ap, kOp2b_ap, test_ap, kTest_ap, and_ap, kAnd_t, kAnd_f, or_ap, kOr_t, kOr_f, not_ap, kNot_ap, andV_ap, kAndV_t, kAndV_f, orV_ap, kOrV_t, kOrV_f, notV_ap, kNotV_ap, if_ap, kIf_t, kIf_f, chain_ap, kCh1_ap, kCh2_ap, kCh3_t, kCh3_f, nilA_ap, consA_ap, kA1_ap, kA2_ap, nilO_ap, consO_ap, kO1_ap, kO2_ap, call_ap, disp_ap, tup_ap, kDisp_0, kDisp_1, kDisp_2, kDisp_3, kDisp_4, kDisp_5, kTupl_0, kTupl_1, kTupl_2, kTupl_3, cb_ap, kCB_ap, rN_some, cn_ap, kCN_ap, l_ap, kL_ap, lc_ap, items_ap, kIt_l, kIt_t, kIt_s, rng1_ap, rng2_ap, zip_ap, m1_ap, kM1a_ap, kM1b_ap, m0_ap, kM0_ap, sl_ap, kSl1_ap, kSl2_ap, kSl3_ap, noPart_ap, part_ap, kPart_ap, isi_ap, kIsi_ap, set_ap, kSet_ap, own_ap, kOwn_ap, ret_ap, kRet_ap, drop_ap, kDrop_ap, ifS_ap, kIfS_t, kIfS_f, par_ap, kPar_ap, par3_ap, kPar3_ap, rSt_some, unp_ap, kUnp_ap, kName_ap, kTup2_ap, kTup3_ap, for_ap, kFor_ap, raise_ap, app_ap, rApp_ap, ext_ap, rExt_ap, frz_ap, rFrz_o, rFrz_v, six_ap, kSix_ap, rSix_ap, aug_ap, rAug_ap, kAug_ap, ownD_ap, ownD0_ap, kvNil_ap, kvCons_ap, kKv1_ap, kKv2_ap, kKv3_i, kKv3_s, dget_ap, rDG_ap, kDG_i, kDG_s, dset_ap, kDS_ap, rDS_ap, hix_ap, rHix_ap, hGet0, hGet1, hGet2, hGet3, hGet4, hset_ap, kHS_ap, rHS1, rHS2, rHS3, rHS4, fn_ap, fin_ret, fin_nx, fin_err, fAdd_i, fSub_i, fNeg_i, fLt_i, fLe_i, fGt_i, fGe_i, fEq_s, fNe_s, fEq_i, fNe_i, fNe_b, fIx_l, fIx_t, fLen_l, fLen_t, fInt_i, fTuple_l, bnd_ok, dat_ok, List.map_cons, List.map_nil, List.replicate_succ, List.replicate_zero, List.cons_append, List.nil_append, List.length_cons, List.length_nil, List.getElem?_cons_zero, List.getElem?_cons_succ, List.set_cons_zero, List.set_cons_succ, Nat.sub_self, Nat.zero_add, Nat.reduceSub, Nat.reduceAdd, Option.bind_some, Option.map_some, Bool.not_true, Bool.not_false, e, ha]

theorem law_is_refl : ∀ (n : Nat) (d : D) (g : Hand), okN n d = true → m__law_is n [.dat d, .dat d] g = .ok (.dat (.bool true)) g
  | 0, _, _, h => by cases h
  | n + 1, d, g, h => by
    unfold m__law_is b__law_is
    cases d with
    | none =>
      have e1 : isiD ["tuple", "list"] .none = false := rfl
      have e2 : fIs .none .none = some (.bool true) := rfl
      simp -implicitDefEqProofs only [bnd_err, dat_err, outR, outS, seq_nx, seq_ret, seq_brk, seq_ct, seq_err, seq_ap, nx_ap, brk_ap, ofO_some, var_ap, rVar_v, peek_ap, rPeek_v, rPeek_o, c_ap, op1_ap, kOp1_ap, op2_ap, kOp2a_ap, kOp2b_ap, test_ap, kTest_ap, and_ap, kAnd_t, kAnd_f, or_ap, kOr_t, kOr_f, not_ap, kNot_ap, andV_ap, kAndV_t, kAndV_f, orV_ap, kOrV_t, kOrV_f, notV_ap, kNotV_ap, if_ap, kIf_t, kIf_f, chain_ap, kCh1_ap, kCh2_ap, kCh3_t, kCh3_f, nilA_ap, consA_ap, kA1_ap, kA2_ap, nilO_ap, consO_ap, kO1_ap, kO2_ap, call_ap, disp_ap, tup_ap, kDisp_0, kDisp_1, kDisp_2, kDisp_3, kDisp_4, kDisp_5, kTupl_0, kTupl_1, kTupl_2, kTupl_3, cb_ap, kCB_ap, rN_some, cn_ap, kCN_ap, l_ap, kL_ap, lc_ap, items_ap, kIt_l, kIt_t, kIt_s, rng1_ap, rng2_ap, zip_ap, m1_ap, kM1a_ap, kM1b_ap, m0_ap, kM0_ap, sl_ap, kSl1_ap, kSl2_ap, kSl3_ap, noPart_ap, part_ap, kPart_ap, isi_ap, kIsi_ap, set_ap, kSet_ap, own_ap, kOwn_ap, ret_ap, kRet_ap, drop_ap, kDrop_ap, ifS_ap, kIfS_t, kIfS_f, par_ap, kPar_ap, par3_ap, kPar3_ap, rSt_some, unp_ap, kUnp_ap, kName_ap, kTup2_ap, kTup3_ap, for_ap, kFor_ap, raise_ap, app_ap, rApp_ap, ext_ap, rExt_ap, frz_ap, rFrz_o, rFrz_v, six_ap, kSix_ap, rSix_ap, aug_ap, rAug_ap, kAug_ap, ownD_ap, ownD0_ap, kvNil_ap, kvCons_ap, kKv1_ap, kKv2_ap, kKv3_i, kKv3_s, dget_ap, rDG_ap, kDG_i, kDG_s, dset_ap, kDS_ap, rDS_ap, hix_ap, rHix_ap, hGet0, hGet1, hGet2, hGet3, hGet4, hset_ap, kHS_ap, rHS1, rHS2, rHS3, rHS4, fn_ap, fin_ret, fin_nx, fin_err, fAdd_i, fSub_i, fNeg_i, fLt_i, fLe_i, fGt_i, fGe_i, fEq_s, fNe_s, fEq_i, fNe_i, fNe_b, fIx_l, fIx_t, fLen_l, fLen_t, fInt_i, fTuple_l, bnd_ok, dat_ok, List.map_cons, List.map_nil, List.replicate_succ, List.replicate_zero, List.cons_append, List.nil_append, List.length_cons, List.length_nil, List.getElem?_cons_zero, List.getElem?_cons_succ, List.set_cons_zero, List.set_cons_succ, Nat.sub_self, Nat.zero_add, Nat.reduceSub, Nat.reduceAdd, Option.bind_some, Option.map_some, Bool.not_true, Bool.not_false, e1, e2]
    | bool b =>
      have e1 : isiD ["tuple", "list"] (.bool b) = false := rfl
      have e2 : fIs (.bool b) .none = some (.bool false) := rfl
      have e3 : isiD ["bool"] (.bool b) = true := rfl
      have e4 : fRepr [.bool b] = some (.str (if b then "True" else "False")) := rfl
      simp -implicitDefEqProofs only [bnd_err, dat_err, outR, outS, seq_nx, seq_ret, seq_brk, seq_ct, seq_err, seq_ap, nx_ap, brk_ap, ofO_some, var_ap, rVar_v, peek_ap, rPeek_v, rPeek_o, c_ap, op1_ap, kOp1_ap, op2_ap, kOp2a_ap, kOp2b_ap, test_ap, kTest_ap, and_ap, kAnd_t, kAnd_f, or_ap, kOr_t, kOr_f, not_ap, kNot_ap, andV_ap, kAndV_t, kAndV_f, orV_ap, kOrV_t, kOrV_f, notV_ap, kNotV_ap, if_ap, kIf_t, kIf_f, chain_ap, kCh1_ap, kCh2_ap, kCh3_t, kCh3_f, nilA_ap, consA_ap, kA1_ap, kA2_ap, nilO_ap, consO_ap, kO1_ap, kO2_ap, call_ap, disp_ap, tup_ap, kDisp_0, kDisp_1, kDisp_2, kDisp_3, kDisp_4, kDisp_5, kTupl_0, kTupl_1, kTupl_2, kTupl_3, cb_ap, kCB_ap, rN_some, cn_ap, kCN_ap, l_ap, kL_ap, lc_ap, items_ap, kIt_l, kIt_t, kIt_s, rng1_ap, rng2_ap, zip_ap, m1_ap, kM1a_ap, kM1b_ap, m0_ap, kM0_ap, sl_ap, kSl1_ap, kSl2_ap, kSl3_ap, noPart_ap, part_ap, kPart_ap, isi_ap, kIsi_ap, set_ap, kSet_ap, own_ap, kOwn_ap, ret_ap, kRet_ap, drop_ap, kDrop_ap, ifS_ap, kIfS_t, kIfS_f, par_ap, kPar_ap, par3_ap, kPar3_ap, rSt_some, unp_ap, kUnp_ap, kName_ap, kTup2_ap, kTup3_ap, for_ap, kFor_ap, raise_ap, app_ap, rApp_ap, ext_ap, rExt_ap, frz_ap, rFrz_o, rFrz_v, six_ap, kSix_ap, rSix_ap, aug_ap, rAug_ap, kAug_ap, ownD_ap, ownD0_ap, kvNil_ap, kvCons_ap, kKv1_ap, kKv2_ap, kKv3_i, kKv3_s, dget_ap, rDG_ap, kDG_i, kDG_s, dset_ap, kDS_ap, rDS_ap, hix_ap, rHix_ap, hGet0, hGet1, hGet2, hGet3, hGet4, hset_ap, kHS_ap, rHS1, rHS2, rHS3, rHS4, fn_ap, fin_ret, fin_nx, fin_err, fAdd_i, fSub_i, fNeg_i, fLt_i, fLe_i, fGt_i, fGe_i, fEq_s, fNe_s, fEq_i, fNe_i, fNe_b, fIx_l, fIx_t, fLen_l, fLen_t, fInt_i, fTuple_l, bnd_ok, dat_ok, List.map_cons, List.map_nil, List.replicate_succ, List.replicate_zero, List.cons_append, List.nil_append, List.length_cons, List.length_nil, List.getElem?_cons_zero, List.getElem?_cons_succ, List.set_cons_zero, List.set_cons_succ, Nat.sub_self, Nat.zero_add, Nat.reduceSub, Nat.reduceAdd, Option.bind_some, Option.map_some, Bool.not_true, Bool.not_false, e1, e2, e3, e4, decide_true]
    | int i =>
      have e1 : isiD ["tuple", "list"] (.int i) = false := rfl
      have e2 : fIs (.int i) .none = some (.bool false) := rfl
      have e3 : isiD ["bool"] (.int i) = false := rfl
      have e4 : isiD ["str"] (.int i) = false := rfl
      have e5 : isiD ["int"] (.int i) = true := rfl
      have e6 : fRepr [.int i] = some (.str (toString i)) := if_pos (of_decide_eq_true h)
      simp -implicitDefEqProofs only [bnd_err, dat_err, outR, outS, seq_nx, seq_ret, seq_brk, seq_ct, seq_err, seq_ap, nx_ap, brk_ap, ofO_some, var_ap, rVar_v, peek_ap, rPeek_v, rPeek_o, c_ap, op1_ap, kOp1_ap, op2_ap, kOp2a_ap, kOp2b_ap, test_ap, kTest_ap, and_ap, kAnd_t, kAnd_f, or_ap, kOr_t, kOr_f, not_ap, kNot_ap, andV_ap, kAndV_t, kAndV_f, orV_ap, kOrV_t, kOrV_f, notV_ap, kNotV_ap, if_ap, kIf_t, kIf_f, chain_ap, kCh1_ap, kCh2_ap, kCh3_t, kCh3_f, nilA_ap, consA_ap, kA1_ap, kA2_ap, nilO_ap, consO_ap, kO1_ap, kO2_ap, call_ap, disp_ap, tup_ap, kDisp_0, kDisp_1, kDisp_2, kDisp_3, kDisp_4, kDisp_5, kTupl_0, kTupl_1, kTupl_2, kTupl_3, cb_ap, kCB_ap, rN_some, cn_ap, kCN_ap, l_ap, kL_ap, lc_ap, items_ap, kIt_l, kIt_t, kIt_s, rng1_ap, rng2_ap, zip_ap, m1_ap, kM1a_ap, kM1b_ap, m0_ap, kM0_ap, sl_ap, kSl1_ap, kSl2_ap, kSl3_ap, noPart_ap, part_ap, kPart_ap, isi_ap, kIsi_ap, set_ap, kSet_ap, own_ap, kOwn_ap, ret_ap, kRet_ap, drop_ap, kDrop_ap, ifS_ap, kIfS_t, kIfS_f, par_ap, kPar_ap, par3_ap, kPar3_ap, rSt_some, unp_ap, kUnp_ap, kName_ap, kTup2_ap, kTup3_ap, for_ap, kFor_ap, raise_ap, app_ap, rApp_ap, ext_ap, rExt_ap, frz_ap, rFrz_o, rFrz_v, six_ap, kSix_ap, rSix_ap, aug_ap, rAug_ap, kAug_ap, ownD_ap, ownD0_ap, kvNil_ap, kvCons_ap, kKv1_ap, kKv2_ap, kKv3_i, kKv3_s, dget_ap, rDG_ap, kDG_i, kDG_s, dset_ap, kDS_ap, rDS_ap, hix_ap, rHix_ap, hGet0, hGet1, hGet2, hGet3, hGet4, hset_ap, kHS_ap, rHS1, rHS2, rHS3, rHS4, fn_ap, fin_ret, fin_nx, fin_err, fAdd_i, fSub_i, fNeg_i, fLt_i, fLe_i, fGt_i, fGe_i, fEq_s, fNe_s, fEq_i, fNe_i, fNe_b, fIx_l, fIx_t, fLen_l, fLen_t, fInt_i, fTuple_l, bnd_ok, dat_ok, List.map_cons, List.map_nil, List.replicate_succ, List.replicate_zero, List.cons_append, List.nil_append, List.length_cons, List.length_nil, List.getElem?_cons_zero, List.getElem?_cons_succ, List.set_cons_zero, List.set_cons_succ, Nat.sub_self, Nat.zero_add, Nat.reduceSub, Nat.reduceAdd, Option.bind_some, Option.map_some, Bool.not_true, Bool.not_false, e1, e2, e3, e4, e5, e6, decide_true]
    | str z =>
      have e1 : isiD ["tuple", "list"] (.str z) = false := rfl
      have e2 : fIs (.str z) .none = some (.bool false) := rfl
      have e3 : isiD ["bool"] (.str z) = false := rfl
      have e4 : isiD ["str"] (.str z) = true := rfl
      have e6 : fRepr [.str z] = some (.str (reprText z)) := if_pos (of_decide_eq_true h)
      simp -implicitDefEqProofs only [bnd_err, dat_err, outR, outS, seq_nx, seq_ret, seq_brk, seq_ct, seq_err, seq_ap, nx_ap, brk_ap, ofO_some, var_ap, rVar_v, peek_ap, rPeek_v, rPeek_o, c_ap, op1_ap, kOp1_ap, op2_ap, kOp2a_ap, kOp2b_ap, test_ap, kTest_ap, and_ap, kAnd_t, kAnd_f, or_ap, kOr_t, kOr_f, not_ap, kNot_ap, andV_ap, kAndV_t, kAndV_f, orV_ap, kOrV_t, kOrV_f, notV_ap, kNotV_ap, if_ap, kIf_t, kIf_f, chain_ap, kCh1_ap, kCh2_ap, kCh3_t, kCh3_f, nilA_ap, consA_ap, kA1_ap, kA2_ap, nilO_ap, consO_ap, kO1_ap, kO2_ap, call_ap, disp_ap, tup_ap, kDisp_0, kDisp_1, kDisp_2, kDisp_3, kDisp_4, kDisp_5, kTupl_0, kTupl_1, kTupl_2, kTupl_3, cb_ap, kCB_ap, rN_some, cn_ap, kCN_ap, l_ap, kL_ap, lc_ap, items_ap, kIt_l, kIt_t, kIt_s, rng1_ap, rng2_ap, zip_ap, m1_ap, kM1a_ap, kM1b_ap, m0_ap, kM0_ap, sl_ap, kSl1_ap, kSl2_ap, kSl3_ap, noPart_ap, part_ap, kPart_ap, isi_ap, kIsi_ap, set_ap, kSet_ap, own_ap, kOwn_ap, ret_ap, kRet_ap, drop_ap, kDrop_ap, ifS_ap, kIfS_t, kIfS_f, par_ap, kPar_ap, par3_ap, kPar3_ap, rSt_some, unp_ap, kUnp_ap, kName_ap, kTup2_ap, kTup3_ap, for_ap, kFor_ap, raise_ap, app_ap, rApp_ap, ext_ap, rExt_ap, frz_ap, rFrz_o, rFrz_v, six_ap, kSix_ap, rSix_ap, aug_ap, rAug_ap, kAug_ap, ownD_ap, ownD0_ap, kvNil_ap, kvCons_ap, kKv1_ap, kKv2_ap, kKv3_i, kKv3_s, dget_ap, rDG_ap, kDG_i, kDG_s, dset_ap, kDS_ap, rDS_ap, hix_ap, rHix_ap, hGet0, hGet1, hGet2, hGet3, hGet4, hset_ap, kHS_ap, rHS1, rHS2, rHS3, rHS4, fn_ap, fin_ret, fin_nx, fin_err, fAdd_i, fSub_i, fNeg_i, fLt_i, fLe_i, fGt_i, fGe_i, fEq_s, fNe_s, fEq_i, fNe_i, fNe_b, fIx_l, fIx_t, fLen_l, fLen_t, fInt_i, fTuple_l, bnd_ok, dat_ok, List.map_cons, List.map_nil, List.replicate_succ, List.replicate_zero, List.cons_append, List.nil_append, List.length_cons, List.length_nil, List.getElem?_cons_zero, List.getElem?_cons_succ, List.set_cons_zero, List.set_cons_succ, Nat.sub_self, Nat.zero_add, Nat.reduceSub, Nat.reduceAdd, Option.bind_some, Option.map_some, Bool.not_true, Bool.not_false, e1, e2, e3, e4, e6, decide_true]
    | list ds =>
      have h : (ds.all (okN n) && decide (ds.length < 1000000)) = true := h
      rw [Bool.and_eq_true] at h
      have e1 : isiD ["tuple", "list"] (.list ds) = true := rfl
      have e2 : isiD ["tuple"] (.list ds) = false := rfl
      have e3 : ∀ s0 s1 s2 s3 : Slot, mLcL (kTup 2 (kCons (kName 2) (kCons (kName 3) kNil))) mYes (mCall (m__law_is n) (mACons (mVar 2) (mACons (mVar 3) mANil))) [2, 3] (zipD ds ds) [s0, s1, s2, s3] g = .ok (ds.map fun _ => .bool true) g := by
          intro s0 s1 s2 s3
          rw [zip_self, lc_map (fun _ => .bool true) _ fun d hd => ?_, List.map_map]
          · rfl
          · obtain ⟨d', hd', rfl⟩ := List.mem_map.mp hd
            refine ⟨_, rfl, ?_⟩
            simp -implicitDefEqProofs only [bnd_err, dat_err, outR, outS, seq_nx, seq_ret, seq_brk, seq_ct, seq_err, seq_ap, nx_ap, brk_ap, ofO_some, var_ap, rVar_v, peek_ap, rPeek_v, rPeek_o, c_ap, op1_ap, kOp1_ap, op2_ap, kOp2a_ap, kOp2b_ap, test_ap, kTest_ap, and_ap, kAnd_t, kAnd_f, or_ap, kOr_t, kOr_f, not_ap, kNot_ap, andV_ap, kAndV_t, kAndV_f, orV_ap, kOrV_t, kOrV_f, notV_ap, kNotV_ap, if_ap, kIf_t, kIf_f, chain_ap, kCh1_ap, kCh2_ap, kCh3_t, kCh3_f, nilA_ap, consA_ap, kA1_ap, kA2_ap, nilO_ap, consO_ap, kO1_ap, kO2_ap, call_ap, disp_ap, tup_ap, kDisp_0, kDisp_1, kDisp_2, kDisp_3, kDisp_4, kDisp_5, kTupl_0, kTupl_1, kTupl_2, kTupl_3, cb_ap, kCB_ap, rN_some, cn_ap, kCN_ap, l_ap, kL_ap, lc_ap, items_ap, kIt_l, kIt_t, kIt_s, rng1_ap, rng2_ap, zip_ap, m1_ap, kM1a_ap, kM1b_ap, m0_ap, kM0_ap, sl_ap, kSl1_ap, kSl2_ap, kSl3_ap, noPart_ap, part_ap, kPart_ap, isi_ap, kIsi_ap, set_ap, kSet_ap, own_ap, kOwn_ap, ret_ap, kRet_ap, drop_ap, kDrop_ap, ifS_ap, kIfS_t, kIfS_f, par_ap, kPar_ap, par3_ap, kPar3_ap, rSt_some, unp_ap, kUnp_ap, kName_ap, kTup2_ap, kTup3_ap, for_ap, kFor_ap, raise_ap, app_ap, rApp_ap, ext_ap, rExt_ap, frz_ap, rFrz_o, rFrz_v, six_ap, kSix_ap, rSix_ap, aug_ap, rAug_ap, kAug_ap, ownD_ap, ownD0_ap, kvNil_ap, kvCons_ap, kKv1_ap, kKv2_ap, kKv3_i, kKv3_s, dget_ap, rDG_ap, kDG_i, kDG_s, dset_ap, kDS_ap, rDS_ap, hix_ap, rHix_ap, hGet0, hGet1, hGet2, hGet3, hGet4, hset_ap, kHS_ap, rHS1, rHS2, rHS3, rHS4, fn_ap, fin_ret, fin_nx, fin_err, fAdd_i, fSub_i, fNeg_i, fLt_i, fLe_i, fGt_i, fGe_i, fEq_s, fNe_s, fEq_i, fNe_i, fNe_b, fIx_l, fIx_t, fLen_l, fLen_t, fInt_i, fTuple_l, bnd_ok, dat_ok, List.map_cons, List.map_nil, List.replicate_succ, List.replicate_zero, List.cons_append, List.nil_append, List.length_cons, List.length_nil, List.getElem?_cons_zero, List.getElem?_cons_succ, List.set_cons_zero, List.set_cons_succ, Nat.sub_self, Nat.zero_add, Nat.reduceSub, Nat.reduceAdd, Option.bind_some, Option.map_some, Bool.not_true, Bool.not_false, wipeE, law_is_refl n d' g (List.all_eq_true.mp h.1 d' hd')]
      have hl : (zipD ds ds).length < 1000000 := by rw [zip_self]; simpa using h.2
      simp -implicitDefEqProofs only [bnd_err, dat_err, outR, outS, seq_nx, seq_ret, seq_brk, seq_ct, seq_err, seq_ap, nx_ap, brk_ap, ofO_some, var_ap, rVar_v, peek_ap, rPeek_v, rPeek_o, c_ap, op1_ap, kOp1_ap, op2_ap, kOp2a_ap, kOp2b_ap, test_ap, kTest_ap, and_ap, kAnd_t, kAnd_f, or_ap, kOr_t, kOr_f, not_ap, kNot_ap, andV_ap, kAndV_t, kAndV_f, orV_ap, kOrV_t, kOrV_f, notV_ap, kNotV_ap, if_ap, kIf_t, kIf_f, chain_ap, kCh1_ap, kCh2_ap, kCh3_t, kCh3_f, nilA_ap, consA_ap, kA1_ap, kA2_ap, nilO_ap, consO_ap, kO1_ap, kO2_ap, call_ap, disp_ap, tup_ap, kDisp_0, kDisp_1, kDisp_2, kDisp_3, kDisp_4, kDisp_5, kTupl_0, kTupl_1, kTupl_2, kTupl_3, cb_ap, kCB_ap, rN_some, cn_ap, kCN_ap, l_ap, kL_ap, lc_ap, items_ap, kIt_l, kIt_t, kIt_s, rng1_ap, rng2_ap, zip_ap, m1_ap, kM1a_ap, kM1b_ap, m0_ap, kM0_ap, sl_ap, kSl1_ap, kSl2_ap, kSl3_ap, noPart_ap, part_ap, kPart_ap, isi_ap, kIsi_ap, set_ap, kSet_ap, own_ap, kOwn_ap, ret_ap, kRet_ap, drop_ap, kDrop_ap, ifS_ap, kIfS_t, kIfS_f, par_ap, kPar_ap, par3_ap, kPar3_ap, rSt_some, unp_ap, kUnp_ap, kName_ap, kTup2_ap, kTup3_ap, for_ap, kFor_ap, raise_ap, app_ap, rApp_ap, ext_ap, rExt_ap, frz_ap, rFrz_o, rFrz_v, six_ap, kSix_ap, rSix_ap, aug_ap, rAug_ap, kAug_ap, ownD_ap, ownD0_ap, kvNil_ap, kvCons_ap, kKv1_ap, kKv2_ap, kKv3_i, kKv3_s, dget_ap, rDG_ap, kDG_i, kDG_s, dset_ap, kDS_ap, rDS_ap, hix_ap, rHix_ap, hGet0, hGet1, hGet2, hGet3, hGet4, hset_ap, kHS_ap, rHS1, rHS2, rHS3, rHS4, fn_ap, fin_ret, fin_nx, fin_err, fAdd_i, fSub_i, fNeg_i, fLt_i, fLe_i, fGt_i, fGe_i, fEq_s, fNe_s, fEq_i, fNe_i, fNe_b, fIx_l, fIx_t, fLen_l, fLen_t, fInt_i, fTuple_l, bnd_ok, dat_ok, List.map_cons, List.map_nil, List.replicate_succ, List.replicate_zero, List.cons_append, List.nil_append, List.length_cons, List.length_nil, List.getElem?_cons_zero, List.getElem?_cons_succ, List.set_cons_zero, List.set_cons_succ, Nat.sub_self, Nat.zero_add, Nat.reduceSub, Nat.reduceAdd, Option.bind_some, Option.map_some, Bool.not_true, Bool.not_false, e1, e2, fNe_b, decide_true, kZip_l, kLc_ap hl, e3, fAll_t]
    | tuple ds =>
      have h : (ds.all (okN n) && decide (ds.length < 1000000)) = true := h
      rw [Bool.and_eq_true] at h
      have e1 : isiD ["tuple", "list"] (.tuple ds) = true := rfl
      have e2 : isiD ["tuple"] (.tuple ds) = true := rfl
      have e3 : ∀ s0 s1 s2 s3 : Slot, mLcL (kTup 2 (kCons (kName 2) (kCons (kName 3) kNil))) mYes (mCall (m__law_is n) (mACons (mVar 2) (mACons (mVar 3) mANil))) [2, 3] (zipD ds ds) [s0, s1, s2, s3] g = .ok (ds.map fun _ => .bool true) g := by
          intro s0 s1 s2 s3
          rw [zip_self, lc_map (fun _ => .bool true) _ fun d hd => ?_, List.map_map]
          · rfl
          · obtain ⟨d', hd', rfl⟩ := List.mem_map.mp hd
            refine ⟨_, rfl, ?_⟩
            simp -implicitDefEqProofs only [bnd_err, dat_err, outR, outS, seq_nx, seq_ret, seq_brk, seq_ct, seq_err, seq_ap, nx_ap, brk_ap, ofO_some, var_ap, rVar_v, peek_ap, rPeek_v, rPeek_o, c_ap, op1_ap, kOp1_ap, op2_ap, kOp2a_ap, kOp2b_ap, test_ap, kTest_ap, and_ap, kAnd_t, kAnd_f, or_ap, kOr_t, kOr_f, not_ap, kNot_ap, andV_ap, kAndV_t, kAndV_f, orV_ap, kOrV_t, kOrV_f, notV_ap, kNotV_ap, if_ap, kIf_t, kIf_f, chain_ap, kCh1_ap, kCh2_ap, kCh3_t, kCh3_f, nilA_ap, consA_ap, kA1_ap, kA2_ap, nilO_ap, consO_ap, kO1_ap, kO2_ap, call_ap, disp_ap, tup_ap, kDisp_0, kDisp_1, kDisp_2, kDisp_3, kDisp_4, kDisp_5, kTupl_0, kTupl_1, kTupl_2, kTupl_3, cb_ap, kCB_ap, rN_some, cn_ap, kCN_ap, l_ap, kL_ap, lc_ap, items_ap, kIt_l, kIt_t, kIt_s, rng1_ap, rng2_ap, zip_ap, m1_ap, kM1a_ap, kM1b_ap, m0_ap, kM0_ap, sl_ap, kSl1_ap, kSl2_ap, kSl3_ap, noPart_ap, part_ap, kPart_ap, isi_ap, kIsi_ap, set_ap, kSet_ap, own_ap, kOwn_ap, ret_ap, kRet_ap, drop_ap, kDrop_ap, ifS_ap, kIfS_t, kIfS_f, par_ap, kPar_ap, par3_ap, kPar3_ap, rSt_some, unp_ap, kUnp_ap, kName_ap, kTup2_ap, kTup3_ap, for_ap, kFor_ap, raise_ap, app_ap, rApp_ap, ext_ap, rExt_ap, frz_ap, rFrz_o, rFrz_v, six_ap, kSix_ap, rSix_ap, aug_ap, rAug_ap, kAug_ap, ownD_ap, ownD0_ap, kvNil_ap, kvCons_ap, kKv1_ap, kKv2_ap, kKv3_i, kKv3_s, dget_ap, rDG_ap, kDG_i, kDG_s, dset_ap, kDS_ap, rDS_ap, hix_ap, rHix_ap, hGet0, hGet1, hGet2, hGet3, hGet4, hset_ap, kHS_ap, rHS1, rHS2, rHS3, rHS4, fn_ap, fin_ret, fin_nx, fin_err, fAdd_i, fSub_i, fNeg_i, fLt_i, fLe_i, fGt_i, fGe_i, fEq_s, fNe_s, fEq_i, fNe_i, fNe_b, fIx_l, fIx_t, fLen_l, fLen_t, fInt_i, fTuple_l, bnd_ok, dat_ok, List.map_cons, List.map_nil, List.replicate_succ, List.replicate_zero, List.cons_append, List.nil_append, List.length_cons, List.length_nil, List.getElem?_cons_zero, List.getElem?_cons_succ, List.set_cons_zero, List.set_cons_succ, Nat.sub_self, Nat.zero_add, Nat.reduceSub, Nat.reduceAdd, Option.bind_some, Option.map_some, Bool.not_true, Bool.not_false, wipeE, law_is_refl n d' g (List.all_eq_true.mp h.1 d' hd')]
      have hl : (zipD ds ds).length < 1000000 := by rw [zip_self]; simpa using h.2
      simp -implicitDefEqProofs only [bnd_err, dat_err, outR, outS, seq_nx, seq_ret, seq_brk, seq_ct, seq_err, seq_ap, nx_ap, brk_ap, ofO_some, var_ap, rVar_v, peek_ap, rPeek_v, rPeek_o, c_ap, op1_ap, kOp1_ap, op2_ap, kOp2a_ap, kOp2b_ap, test_ap, kTest_ap, and_ap, kAnd_t, kAnd_f, or_ap, kOr_t, kOr_f, not_ap, kNot_ap, andV_ap, kAndV_t, kAndV_f, orV_ap, kOrV_t, kOrV_f, notV_ap, kNotV_ap, if_ap, kIf_t, kIf_f, chain_ap, kCh1_ap, kCh2_ap, kCh3_t, kCh3_f, nilA_ap, consA_ap, kA1_ap, kA2_ap, nilO_ap, consO_ap, kO1_ap, kO2_ap, call_ap, disp_ap, tup_ap, kDisp_0, kDisp_1, kDisp_2, kDisp_3, kDisp_4, kDisp_5, kTupl_0, kTupl_1, kTupl_2, kTupl_3, cb_ap, kCB_ap, rN_some, cn_ap, kCN_ap, l_ap, kL_ap, lc_ap, items_ap, kIt_l, kIt_t, kIt_s, rng1_ap, rng2_ap, zip_ap, m1_ap, kM1a_ap, kM1b_ap, m0_ap, kM0_ap, sl_ap, kSl1_ap, kSl2_ap, kSl3_ap, noPart_ap, part_ap, kPart_ap, isi_ap, kIsi_ap, set_ap, kSet_ap, own_ap, kOwn_ap, ret_ap, kRet_ap, drop_ap, kDrop_ap, ifS_ap, kIfS_t, kIfS_f, par_ap, kPar_ap, par3_ap, kPar3_ap, rSt_some, unp_ap, kUnp_ap, kName_ap, kTup2_ap, kTup3_ap, for_ap, kFor_ap, raise_ap, app_ap, rApp_ap, ext_ap, rExt_ap, frz_ap, rFrz_o, rFrz_v, six_ap, kSix_ap, rSix_ap, aug_ap, rAug_ap, kAug_ap, ownD_ap, ownD0_ap, kvNil_ap, kvCons_ap, kKv1_ap, kKv2_ap, kKv3_i, kKv3_s, dget_ap, rDG_ap, kDG_i, kDG_s, dset_ap, kDS_ap, rDS_ap, hix_ap, rHix_ap, hGet0, hGet1, hGet2, hGet3, hGet4, hset_ap, kHS_ap, rHS1, rHS2, rHS3, rHS4, fn_ap, fin_ret, fin_nx, fin_err, fAdd_i, fSub_i, fNeg_i, fLt_i, fLe_i, fGt_i, fGe_i, fEq_s, fNe_s, fEq_i, fNe_i, fNe_b, fIx_l, fIx_t, fLen_l, fLen_t, fInt_i, fTuple_l, bnd_ok, dat_ok, List.map_cons, List.map_nil, List.replicate_succ, List.replicate_zero, List.cons_append, List.nil_append, List.length_cons, List.length_nil, List.getElem?_cons_zero, List.getElem?_cons_succ, List.set_cons_zero, List.set_cons_succ, Nat.sub_self, Nat.zero_add, Nat.reduceSub, Nat.reduceAdd, Option.bind_some, Option.map_some, Bool.not_true, Bool.not_false, e1, e2, fNe_b, decide_true, kZip_t, kLc_ap hl, e3, fAll_t]
    | dict _ => cases h

def isI : D → Bool
  | .int _ => true
  | _ => false
theorem is_integer_eq (d : D) (g : Hand) : m_is_integer [.dat d] g = .ok (.dat (.bool (isI d))) g := by
  cases d <;> rfl
theorem is_within_int (i lo hi : Int) (g : Hand) : m_is_within [.dat (.int i), .dat (.int lo), .dat (.int hi)] g = .ok (.dat (.bool (decide (lo ≤ i) && decide (i ≤ hi)))) g := by
  unfold m_is_within b_is_within
  simp -implicitDefEqProofs only [bnd_err, dat_err, outR, outS, seq_nx, seq_ret, seq_brk, seq_ct, seq_err, seq_ap, nx_ap, brk_ap, ofO_some, var_ap, rVar_v, peek_ap, rPeek_v, rPeek_o, c_ap, op1_ap, kOp1_ap, op2_ap, kOp2a_ap, kOp2b_ap, test_ap, kTest_ap, and_ap, kAnd_t, kAnd_f, or_ap, kOr_t, kOr_f, not_ap, kNot_ap, andV_ap, kAndV_t, kAndV_f, orV_ap, kOrV_t, kOrV_f, notV_ap, kNotV_ap, if_ap, kIf_t, kIf_f, chain_ap, kCh1_ap, kCh2_ap, kCh3_t, kCh3_f, nilA_ap, consA_ap, kA1_ap, kA2_ap, nilO_ap, consO_ap, kO1_ap, kO2_ap, call_ap, disp_ap, tup_ap, kDisp_0, kDisp_1, kDisp_2, kDisp_3, kDisp_4, kDisp_5, kTupl_0, kTupl_1, kTupl_2, kTupl_3, cb_ap, kCB_ap, rN_some, cn_ap, kCN_ap, l_ap, kL_ap, lc_ap, items_ap, kIt_l, kIt_t, kIt_s, rng1_ap, rng2_ap, zip_ap, m1_ap, kM1a_ap, kM1b_ap, m0_ap, kM0_ap, sl_ap, kSl1_ap, kSl2_ap, kSl3_ap, noPart_ap, part_ap, kPart_ap, isi_ap, kIsi_ap, set_ap, kSet_ap, own_ap, kOwn_ap, ret_ap, kRet_ap, drop_ap, kDrop_ap, ifS_ap, kIfS_t, kIfS_f, par_ap, kPar_ap, par3_ap, kPar3_ap, rSt_some, unp_ap, kUnp_ap, kName_ap, kTup2_ap, kTup3_ap, for_ap, kFor_ap, raise_ap, app_ap, rApp_ap, ext_ap, rExt_ap, frz_ap, rFrz_o, rFrz_v, six_ap, kSix_ap, rSix_ap, aug_ap, rAug_ap, kAug_ap, ownD_ap, ownD0_ap, kvNil_ap, kvCons_ap, kKv1_ap, kKv2_ap, kKv3_i, kKv3_s, dget_ap, rDG_ap, kDG_i, kDG_s, dset_ap, kDS_ap, rDS_ap, hix_ap, rHix_ap, hGet0, hGet1, hGet2, hGet3, hGet4, hset_ap, kHS_ap, rHS1, rHS2, rHS3, rHS4, fn_ap, fin_ret, fin_nx, fin_err, fAdd_i, fSub_i, fNeg_i, fLt_i, fLe_i, fGt_i, fGe_i, fEq_s, fNe_s, fEq_i, fNe_i, fNe_b, fIx_l, fIx_t, fLen_l, fLen_t, fInt_i, fTuple_l, bnd_ok, dat_ok, List.map_cons, List.map_nil, List.replicate_succ, List.replicate_zero, List.cons_append, List.nil_append, List.length_cons, List.length_nil, List.getElem?_cons_zero, List.getElem?_cons_succ, List.set_cons_zero, List.set_cons_succ, Nat.sub_self, Nat.zero_add, Nat.reduceSub, Nat.reduceAdd, Option.bind_some, Option.map_some, Bool.not_true, Bool.not_false, is_integer_eq, isI]
  cases decide (lo ≤ i) <;> simp -implicitDefEqProofs only [bnd_err, dat_err, outR, outS, seq_nx, seq_ret, seq_brk, seq_ct, seq_err, seq_ap, nx_ap, brk_ap, ofO_some, var_ap, rVar_v, peek_ap, rPeek_v, rPeek_o, c_ap, op1_ap, kOp1_ap, op2_ap, kOp2a_ap, kOp2b_ap, test_ap, kTest_ap, and_ap, kAnd_t, kAnd_f, or_ap, kOr_t, kOr_f, not_ap, kNot_ap, andV_ap, kAndV_t, kAndV_f, orV_ap, kOrV_t, kOrV_f, notV_ap, kNotV_ap, if_ap, kIf_t, kIf_f, chain_ap, kCh1_ap, kCh2_ap, kCh3_t, kCh3_f, nilA_ap, consA_ap, kA1_ap, kA2_ap, nilO_ap, consO_ap, kO1_ap, kO2_ap, call_ap, disp_ap, tup_ap, kDisp_0, kDisp_1, kDisp_2, kDisp_3, kDisp_4, kDisp_5, kTupl_0, kTupl_1, kTupl_2, kTupl_3, cb_ap, kCB_ap, rN_some, cn_ap, kCN_ap, l_ap, kL_ap, lc_ap, items_ap, kIt_l, kIt_t, kIt_s, rng1_ap, rng2_ap, zip_ap, m1_ap, kM1a_ap, kM1b_ap, m0_ap, kM0_ap, sl_ap, kSl1_ap, kSl2_ap, kSl3_ap, noPart_ap, part_ap, kPart_ap, isi_ap, kIsi_ap, set_ap, kSet_ap, own_ap, kOwn_ap, ret_ap, kRet_ap, drop_ap, kDrop_ap, ifS_ap, kIfS_t, kIfS_f, par_ap, kPar_ap, par3_ap, kPar3_ap, rSt_some, unp_ap, kUnp_ap, kName_ap, kTup2_ap, kTup3_ap, for_ap, kFor_ap, raise_ap, app_ap, rApp_ap, ext_ap, rExt_ap, frz_ap, rFrz_o, rFrz_v, six_ap, kSix_ap, rSix_ap, aug_ap, rAug_ap, kAug_ap, ownD_ap, ownD0_ap, kvNil_ap, kvCons_ap, kKv1_ap, kKv2_ap, kKv3_i, kKv3_s, dget_ap, rDG_ap, kDG_i, kDG_s, dset_ap, kDS_ap, rDS_ap, hix_ap, rHix_ap, hGet0, hGet1, hGet2, hGet3, hGet4, hset_ap, kHS_ap, rHS1, rHS2, rHS3, rHS4, fn_ap, fin_ret, fin_nx, fin_err, fAdd_i, fSub_i, fNeg_i, fLt_i, fLe_i, fGt_i, fGe_i, fEq_s, fNe_s, fEq_i, fNe_i, fNe_b, fIx_l, fIx_t, fLen_l, fLen_t, fInt_i, fTuple_l, bnd_ok, dat_ok, List.map_cons, List.map_nil, List.replicate_succ, List.replicate_zero, List.cons_append, List.nil_append, List.length_cons, List.length_nil, List.getElem?_cons_zero, List.getElem?_cons_succ, List.set_cons_zero, List.set_cons_succ, Nat.sub_self, Nat.zero_add, Nat.reduceSub, Nat.reduceAdd, Option.bind_some, Option.map_some, Bool.not_true, Bool.not_false, Bool.true_and, Bool.false_and]
theorem is_within_no (d : D) (lo hi : Int) (g : Hand) (h : isI d = false) : m_is_within [.dat d, .dat (.int lo), .dat (.int hi)] g = .ok (.dat (.bool false)) g := by
  unfold m_is_within b_is_within
  simp -implicitDefEqProofs only [bnd_err, dat_err, outR, outS, seq_nx, seq_ret, seq_brk, seq_ct, seq_err, seq_ap, nx_ap, brk_ap, ofO_some, var_ap, rVar_v, peek_ap, rPeek_v, rPeek_o, c_ap, op1_ap, kOp1_ap, op2_ap, kOp2a_ap, kOp2b_ap, test_ap, kTest_ap, and_ap, kAnd_t, kAnd_f, or_ap, kOr_t, kOr_f, not_ap, kNot_ap, andV_ap, kAndV_t, kAndV_f, orV_ap, kOrV_t, kOrV_f, notV_ap, kNotV_ap, if_ap, kIf_t, kIf_f, chain_ap, kCh1_ap, kCh2_ap, kCh3_t, kCh3_f, nilA_ap, consA_ap, kA1_ap, kA2_ap, nilO_ap, consO_ap, kO1_ap, kO2_ap, call_ap, disp_ap, tup_ap, kDisp_0, kDisp_1, kDisp_2, kDisp_3, kDisp_4, kDisp_5, kTupl_0, kTupl_1, kTupl_2, kTupl_3, cb_ap, kCB_ap, rN_some, cn_ap, kCN_ap, l_ap, kL_ap, lc_ap, items_ap, kIt_l, kIt_t, kIt_s, rng1_ap, rng2_ap, zip_ap, m1_ap, kM1a_ap, kM1b_ap, m0_ap, kM0_ap, sl_ap, kSl1_ap, kSl2_ap, kSl3_ap, noPart_ap, part_ap, kPart_ap, isi_ap, kIsi_ap, set_ap, kSet_ap, own_ap, kOwn_ap, ret_ap, kRet_ap, drop_ap, kDrop_ap, ifS_ap, kIfS_t, kIfS_f, par_ap, kPar_ap, par3_ap, kPar3_ap, rSt_some, unp_ap, kUnp_ap, kName_ap, kTup2_ap, kTup3_ap, for_ap, kFor_ap, raise_ap, app_ap, rApp_ap, ext_ap, rExt_ap, frz_ap, rFrz_o, rFrz_v, six_ap, kSix_ap, rSix_ap, aug_ap, rAug_ap, kAug_ap, ownD_ap, ownD0_ap, kvNil_ap, kvCons_ap, kKv1_ap, kKv2_ap, kKv3_i, kKv3_s, dget_ap, rDG_ap, kDG_i, kDG_s, dset_ap, kDS_ap, rDS_ap, hix_ap, rHix_ap, hGet0, hGet1, hGet2, hGet3, hGet4, hset_ap, kHS_ap, rHS1, rHS2, rHS3, rHS4, fn_ap, fin_ret, fin_nx, fin_err, fAdd_i, fSub_i, fNeg_i, fLt_i, fLe_i, fGt_i, fGe_i, fEq_s, fNe_s, fEq_i, fNe_i, fNe_b, fIx_l, fIx_t, fLen_l, fLen_t, fInt_i, fTuple_l, bnd_ok, dat_ok, List.map_cons, List.map_nil, List.replicate_succ, List.replicate_zero, List.cons_append, List.nil_append, List.length_cons, List.length_nil, List.getElem?_cons_zero, List.getElem?_cons_succ, List.set_cons_zero, List.set_cons_succ, Nat.sub_self, Nat.zero_add, Nat.reduceSub, Nat.reduceAdd, Option.bind_some, Option.map_some, Bool.not_true, Bool.not_false, is_integer_eq, h]
theorem check_number_ok (i lo hi : Int) (g : Hand) (h1 : lo ≤ i) (h2 : i ≤ hi) : m_check_number [.dat (.int i), .dat (.int lo), .dat (.int hi)] g = .ok (.dat .none) g := by
  unfold m_check_number b_check_number
  simp -implicitDefEqProofs only [bnd_err, dat_err, outR, outS, seq_nx, seq_ret, seq_brk, seq_ct, seq_err, seq_ap, nx_ap, brk_ap, ofO_some, var_ap, rVar_v, peek_ap, rPeek_v, rPeek_o, c_ap, op1_ap, kOp1_ap, op2_ap, kOp2a_ap, kOp2b_ap, test_ap, kTest_ap, and_ap, kAnd_t, kAnd_f, or_ap, kOr_t, kOr_f, not_ap, kNot_ap, andV_ap, kAndV_t, kAndV_f, orV_ap, kOrV_t, kOrV_f, notV_ap, kNotV_ap, if_ap, kIf_t, kIf_f, chain_ap, kCh1_ap, kCh2_ap, kCh3_t, kCh3_f, nilA_ap, consA_ap, kA1_ap, kA2_ap, nilO_ap, consO_ap, kO1_ap, kO2_ap, call_ap, disp_ap, tup_ap, kDisp_0, kDisp_1, kDisp_2, kDisp_3, kDisp_4, kDisp_5, kTupl_0, kTupl_1, kTupl_2, kTupl_3, cb_ap, kCB_ap, rN_some, cn_ap, kCN_ap, l_ap, kL_ap, lc_ap, items_ap, kIt_l, kIt_t, kIt_s, rng1_ap, rng2_ap, zip_ap, m1_ap, kM1a_ap, kM1b_ap, m0_ap, kM0_ap, sl_ap, kSl1_ap, kSl2_ap, kSl3_ap, noPart_ap, part_ap, kPart_ap, isi_ap, kIsi_ap, set_ap, kSet_ap, own_ap, kOwn_ap, ret_ap, kRet_ap, drop_ap, kDrop_ap, ifS_ap, kIfS_t, kIfS_f, par_ap, kPar_ap, par3_ap, kPar3_ap, rSt_some, unp_ap, kUnp_ap, kName_ap, kTup2_ap, kTup3_ap, for_ap, kFor_ap, raise_ap, app_ap, rApp_ap, ext_ap, rExt_ap, frz_ap, rFrz_o, rFrz_v, six_ap, kSix_ap, rSix_ap, aug_ap, rAug_ap, kAug_ap, ownD_ap, ownD0_ap, kvNil_ap, kvCons_ap, kKv1_ap, kKv2_ap, kKv3_i, kKv3_s, dget_ap, rDG_ap, kDG_i, kDG_s, dset_ap, kDS_ap, rDS_ap, hix_ap, rHix_ap, hGet0, hGet1, hGet2, hGet3, hGet4, hset_ap, kHS_ap, rHS1, rHS2, rHS3, rHS4, fn_ap, fin_ret, fin_nx, fin_err, fAdd_i, fSub_i, fNeg_i, fLt_i, fLe_i, fGt_i, fGe_i, fEq_s, fNe_s, fEq_i, fNe_i, fNe_b, fIx_l, fIx_t, fLen_l, fLen_t, fInt_i, fTuple_l, bnd_ok, dat_ok, List.map_cons, List.map_nil, List.replicate_succ, List.replicate_zero, List.cons_append, List.nil_append, List.length_cons, List.length_nil, List.getElem?_cons_zero, List.getElem?_cons_succ, List.set_cons_zero, List.set_cons_succ, Nat.sub_self, Nat.zero_add, Nat.reduceSub, Nat.reduceAdd, Option.bind_some, Option.map_some, Bool.not_true, Bool.not_false, is_within_int, decide_eq_true h1, decide_eq_true h2, Bool.true_and]

/-! coverings as lists of signs: 115 (s), 100 (d) -/
def sd (c : Nat) : Bool := decide (c = 115) || decide (c = 100)
def cellsN (cs : List Nat) : Nat := cs.length + (cs.filter fun c => !decide (c = 115)).length
def covs : Nat → List (List Nat)
  | 0 => [[]]
  | 1 => [[115]]
  | n + 2 => (covs n).map (([100] : List Nat) ++ ·) ++ (covs (n + 1)).map (([115] : List Nat) ++ ·)
theorem covs_ss (n : Nat) : covs (n + 2) = (covs n).map (([100] : List Nat) ++ ·) ++ (covs (n + 1)).map (([115] : List Nat) ++ ·) := by
  rw [covs]
theorem covs_cc (n : Nat) : covs (n + 2) = (covs n).map (100 :: ·) ++ (covs (n + 1)).map (115 :: ·) := by
  rw [covs]; rfl
theorem covs_mem : ∀ (n : Nat) (c : List Nat), c ∈ covs n → c.all sd = true ∧ cellsN c = n
  | 0, c, h => by
    have h : c ∈ [[]] := h
    simp at h; subst h; exact ⟨rfl, rfl⟩
  | 1, c, h => by
    have h : c ∈ [[115]] := h
    simp at h; subst h; exact ⟨rfl, rfl⟩
  | n + 2, c, h => by
    rw [covs_ss] at h
    rcases List.mem_append.mp h with h | h
    · obtain ⟨b, hb, rfl⟩ := List.mem_map.mp h
      obtain ⟨h1, h2⟩ := covs_mem n b hb
      refine ⟨by rw [List.all_append, h1]; rfl, ?_⟩
      unfold cellsN at *
      rw [List.filter_append, List.length_append, List.length_append]
      show 1 + b.length + (1 + _) = _
      omega
    · obtain ⟨b, hb, rfl⟩ := List.mem_map.mp h
      obtain ⟨h1, h2⟩ := covs_mem (n + 1) b hb
      refine ⟨by rw [List.all_append, h1]; rfl, ?_⟩
      unfold cellsN at *
      rw [List.filter_append, List.length_append, List.length_append]
      show 1 + b.length + (0 + _) = _
      omega
theorem covs_short (n : Nat) (c : List Nat) (h : c ∈ covs n) : c.length ≤ n := by
  have := (covs_mem n c h).2
  unfold cellsN at this
  omega
theorem covs_many : ∀ n : Nat, (covs n).length ≤ 2 ^ n
  | 0 => by decide
  | 1 => by decide
  | n + 2 => by
    rw [covs_ss, List.length_append, List.length_map, List.length_map]
    have h1 := covs_many n
    have h2 := covs_many (n + 1)
    have e1 : 2 ^ (n + 1) = 2 * 2 ^ n := by rw [Nat.pow_succ]; omega
    have e2 : 2 ^ (n + 2) = 4 * 2 ^ n := by rw [Nat.pow_succ, e1]; omega
    omega
theorem covs_16 (n : Nat) (h : n ≤ 16) : (covs n).length ≤ 65536 :=
  Nat.le_trans (covs_many n) (Nat.le_trans (Nat.pow_le_pow_right (by decide) h) (by decide))
def fib : Nat → Nat
  | 0 => 1
  | 1 => 1
  | n + 2 => fib n + fib (n + 1)
theorem fib_ss (n : Nat) : fib (n + 1 + 1) = fib n + fib (n + 1) := by
  rw [fib]
theorem covs_fib : ∀ n : Nat, (covs n).length = fib n
  | 0 => rfl
  | 1 => rfl
  | n + 2 => by
    rw [covs_ss, List.length_append, List.length_map, List.length_map, covs_fib n, covs_fib (n + 1)]; rfl
/-- ascending -/
theorem covs_asc : ∀ n : Nat, (covs n).Pairwise fun a b => ¬ (b < a)
  | 0 => by simp [covs]
  | 1 => by simp [covs]
  | n + 2 => by
    rw [covs_ss]
    refine List.pairwise_append.mpr ⟨?_, ?_, ?_⟩
    · refine List.pairwise_map.mpr ((covs_asc n).imp fun {a b} h => ?_)
      intro z
      exact h (by simpa [List.cons_lt_cons_iff] using z)
    · refine List.pairwise_map.mpr ((covs_asc (n + 1)).imp fun {a b} h => ?_)
      intro z
      exact h (by simpa [List.cons_lt_cons_iff] using z)
    · intro a ha b hb
      obtain ⟨a', _, rfl⟩ := List.mem_map.mp ha
      obtain ⟨b', _, rfl⟩ := List.mem_map.mp hb
      intro z
      simp [List.cons_lt_cons_iff] at z

theorem lit_s : ("s" : Str) = S [115] := by decide +kernel
theorem lit_d : ("d" : Str) = S [100] := by decide +kernel
theorem lit_e : ("" : Str) = S [] := by decide +kernel
theorem lit_x : ("x" : Str) = S [120] := by decide +kernel
theorem sg_eq (c k : Nat) : ((⟨#[c]⟩ : Str) = S [k]) ↔ c = k := by
  show S [c] = S [k] ↔ _
  rw [S_inj]; simp
theorem sg_s (c : Nat) : decide ((⟨#[c]⟩ : Str) = Str.ofString "s") = decide (c = 115) := by
  rw [show Str.ofString "s" = S [115] from lit_s]
  exact decide_eq_decide.mpr (sg_eq c 115)
theorem sign_in (c : Nat) : fIn (.str ⟨#[c]⟩) (.tuple [.str "s", .str "d"]) = some (.bool (sd c)) := by
  show some (PyData.bool (PyData.eqv (.str "s") (.str ⟨#[c]⟩) || (PyData.eqv (.str "d") (.str ⟨#[c]⟩) || false))) = _
  have e : ∀ x : Str, PyData.eqv (.str x) (.str ⟨#[c]⟩) = decide (⟨#[c]⟩ = x) := fun x => by
    rw [PyData.eqv, bl_beq]
    exact decide_eq_decide.mpr ⟨fun h => h.symm, fun h => h.symm⟩
  rw [e, e, lit_s, lit_d, Bool.or_false]
  unfold sd
  rw [decide_eq_decide.mpr (sg_eq c 115), decide_eq_decide.mpr (sg_eq c 100)]
def sgs (cs : List Nat) : List D := cs.map fun c => .str ⟨#[c]⟩
theorem sgs_len (cs : List Nat) : (sgs cs).length = cs.length := by simp [sgs]
theorem raw_cells_eq (cs : List Nat) (g : Hand) (h : cs.length < 1000000) : m_raw_cells [.dat (.str (S cs))] g = .ok (.dat (.int (cellsN cs))) g := by
  have e1 : fLen [.str (S cs)] = some (.int cs.length) := by
    show (if (S cs).length ≤ 1000000 then some (PyData.int (S cs).length) else none) = _
    rw [S_len, if_pos (by omega)]
  have e2 : ∀ s0 s1 : Slot, mLcL (kName 1) (mTest (mOp2 fNe (mVar 1) (mC (.str "s")))) (mVar 1) [1] (sgs cs) [s0, s1] g = .ok ((sgs (cs.filter fun c => !decide (c = 115)))) g := by
    intro s0 s1
    rw [lc_pure (fun d => match d with | .str z => !decide (z = S [115]) | _ => false) id (sgs cs) fun d hd => ?_]
    · congr 1
      unfold sgs
      rw [List.filter_map, List.map_id]
      congr 1
      apply List.filter_congr
      intro c _
      show (!decide ((⟨#[c]⟩ : Str) = S [115])) = _
      rw [decide_eq_decide.mpr (sg_eq c 115)]
    · obtain ⟨c, hc, rfl⟩ := List.mem_map.mp hd
      refine ⟨_, rfl, ?_, fun _ => ?_⟩
      · simp -implicitDefEqProofs only [bnd_err, dat_err, outR, outS, seq_nx, seq_ret, seq_brk, seq_ct, seq_err, seq_ap, nx_ap, brk_ap, ofO_some, var_ap, rVar_v, peek_ap, rPeek_v, rPeek_o, c_ap, op1_ap, kOp1_ap, op2_ap, kOp2a_ap, kOp2b_ap, test_ap, kTest_ap, and_ap, kAnd_t, kAnd_f, or_ap, kOr_t, kOr_f, not_ap, kNot_ap, andV_ap, kAndV_t, kAndV_f, orV_ap, kOrV_t, kOrV_f, notV_ap, kNotV_ap, if_ap, kIf_t, kIf_f, chain_ap, kCh1_ap, kCh2_ap, kCh3_t, kCh3_f, nilA_ap, consA_ap, kA1_ap, kA2_ap, nilO_ap, consO_ap, kO1_ap, kO2_ap, call_ap, disp_ap, tup_ap, kDisp_0, kDisp_1, kDisp_2, kDisp_3, kDisp_4, kDisp_5, kTupl_0, kTupl_1, kTupl_2, kTupl_3, cb_ap, kCB_ap, rN_some, cn_ap, kCN_ap, l_ap, kL_ap, lc_ap, items_ap, kIt_l, kIt_t, kIt_s, rng1_ap, rng2_ap, zip_ap, m1_ap, kM1a_ap, kM1b_ap, m0_ap, kM0_ap, sl_ap, kSl1_ap, kSl2_ap, kSl3_ap, noPart_ap, part_ap, kPart_ap, isi_ap, kIsi_ap, set_ap, kSet_ap, own_ap, kOwn_ap, ret_ap, kRet_ap, drop_ap, kDrop_ap, ifS_ap, kIfS_t, kIfS_f, par_ap, kPar_ap, par3_ap, kPar3_ap, rSt_some, unp_ap, kUnp_ap, kName_ap, kTup2_ap, kTup3_ap, for_ap, kFor_ap, raise_ap, app_ap, rApp_ap, ext_ap, rExt_ap, frz_ap, rFrz_o, rFrz_v, six_ap, kSix_ap, rSix_ap, aug_ap, rAug_ap, kAug_ap, ownD_ap, ownD0_ap, kvNil_ap, kvCons_ap, kKv1_ap, kKv2_ap, kKv3_i, kKv3_s, dget_ap, rDG_ap, kDG_i, kDG_s, dset_ap, kDS_ap, rDS_ap, hix_ap, rHix_ap, hGet0, hGet1, hGet2, hGet3, hGet4, hset_ap, kHS_ap, rHS1, rHS2, rHS3, rHS4, fn_ap, fin_ret, fin_nx, fin_err, fAdd_i, fSub_i, fNeg_i, fLt_i, fLe_i, fGt_i, fGe_i, fEq_s, fNe_s, fEq_i, fNe_i, fNe_b, fIx_l, fIx_t, fLen_l, fLen_t, fInt_i, fTuple_l, bnd_ok, dat_ok, List.map_cons, List.map_nil, List.replicate_succ, List.replicate_zero, List.cons_append, List.nil_append, List.length_cons, List.length_nil, List.getElem?_cons_zero, List.getElem?_cons_succ, List.set_cons_zero, List.set_cons_succ, Nat.sub_self, Nat.zero_add, Nat.reduceSub, Nat.reduceAdd, Option.bind_some, Option.map_some, Bool.not_true, Bool.not_false, wipeE, sg_s]
        rw [decide_eq_decide.mpr (sg_eq c 115)]
      · simp -implicitDefEqProofs only [bnd_err, dat_err, outR, outS, seq_nx, seq_ret, seq_brk, seq_ct, seq_err, seq_ap, nx_ap, brk_ap, ofO_some, var_ap, rVar_v, peek_ap, rPeek_v, rPeek_o, c_ap, op1_ap, kOp1_ap, op2_ap, kOp2a_ap, kOp2b_ap, test_ap, kTest_ap, and_ap, kAnd_t, kAnd_f, or_ap, kOr_t, kOr_f, not_ap, kNot_ap, andV_ap, kAndV_t, kAndV_f, orV_ap, kOrV_t, kOrV_f, notV_ap, kNotV_ap, if_ap, kIf_t, kIf_f, chain_ap, kCh1_ap, kCh2_ap, kCh3_t, kCh3_f, nilA_ap, consA_ap, kA1_ap, kA2_ap, nilO_ap, consO_ap, kO1_ap, kO2_ap, call_ap, disp_ap, tup_ap, kDisp_0, kDisp_1, kDisp_2, kDisp_3, kDisp_4, kDisp_5, kTupl_0, kTupl_1, kTupl_2, kTupl_3, cb_ap, kCB_ap, rN_some, cn_ap, kCN_ap, l_ap, kL_ap, lc_ap, items_ap, kIt_l, kIt_t, kIt_s, rng1_ap, rng2_ap, zip_ap, m1_ap, kM1a_ap, kM1b_ap, m0_ap, kM0_ap, sl_ap, kSl1_ap, kSl2_ap, kSl3_ap, noPart_ap, part_ap, kPart_ap, isi_ap, kIsi_ap, set_ap, kSet_ap, own_ap, kOwn_ap, ret_ap, kRet_ap, drop_ap, kDrop_ap, ifS_ap, kIfS_t, kIfS_f, par_ap, kPar_ap, par3_ap, kPar3_ap, rSt_some, unp_ap, kUnp_ap, kName_ap, kTup2_ap, kTup3_ap, for_ap, kFor_ap, raise_ap, app_ap, rApp_ap, ext_ap, rExt_ap, frz_ap, rFrz_o, rFrz_v, six_ap, kSix_ap, rSix_ap, aug_ap, rAug_ap, kAug_ap, ownD_ap, ownD0_ap, kvNil_ap, kvCons_ap, kKv1_ap, kKv2_ap, kKv3_i, kKv3_s, dget_ap, rDG_ap, kDG_i, kDG_s, dset_ap, kDS_ap, rDS_ap, hix_ap, rHix_ap, hGet0, hGet1, hGet2, hGet3, hGet4, hset_ap, kHS_ap, rHS1, rHS2, rHS3, rHS4, fn_ap, fin_ret, fin_nx, fin_err, fAdd_i, fSub_i, fNeg_i, fLt_i, fLe_i, fGt_i, fGe_i, fEq_s, fNe_s, fEq_i, fNe_i, fNe_b, fIx_l, fIx_t, fLen_l, fLen_t, fInt_i, fTuple_l, bnd_ok, dat_ok, List.map_cons, List.map_nil, List.replicate_succ, List.replicate_zero, List.cons_append, List.nil_append, List.length_cons, List.length_nil, List.getElem?_cons_zero, List.getElem?_cons_succ, List.set_cons_zero, List.set_cons_succ, Nat.sub_self, Nat.zero_add, Nat.reduceSub, Nat.reduceAdd, Option.bind_some, Option.map_some, Bool.not_true, Bool.not_false, wipeE, id]
  have e3 : ∀ xs : List Nat, fLen [.list (sgs xs)] = some (.int xs.length) := fun xs => by rw [fLen_l, sgs_len]
  unfold m_raw_cells b_raw_cells
  simp -implicitDefEqProofs only [bnd_err, dat_err, outR, outS, seq_nx, seq_ret, seq_brk, seq_ct, seq_err, seq_ap, nx_ap, brk_ap, ofO_some, var_ap, rVar_v, peek_ap, rPeek_v, rPeek_o, c_ap, op1_ap, kOp1_ap, op2_ap, kOp2a_ap, kOp2b_ap, test_ap, kTest_ap, and_ap, kAnd_t, kAnd_f, or_ap, kOr_t, kOr_f, not_ap, kNot_ap, andV_ap, kAndV_t, kAndV_f, orV_ap, kOrV_t, kOrV_f, notV_ap, kNotV_ap, if_ap, kIf_t, kIf_f, chain_ap, kCh1_ap, kCh2_ap, kCh3_t, kCh3_f, nilA_ap, consA_ap, kA1_ap, kA2_ap, nilO_ap, consO_ap, kO1_ap, kO2_ap, call_ap, disp_ap, tup_ap, kDisp_0, kDisp_1, kDisp_2, kDisp_3, kDisp_4, kDisp_5, kTupl_0, kTupl_1, kTupl_2, kTupl_3, cb_ap, kCB_ap, rN_some, cn_ap, kCN_ap, l_ap, kL_ap, lc_ap, items_ap, kIt_l, kIt_t, kIt_s, rng1_ap, rng2_ap, zip_ap, m1_ap, kM1a_ap, kM1b_ap, m0_ap, kM0_ap, sl_ap, kSl1_ap, kSl2_ap, kSl3_ap, noPart_ap, part_ap, kPart_ap, isi_ap, kIsi_ap, set_ap, kSet_ap, own_ap, kOwn_ap, ret_ap, kRet_ap, drop_ap, kDrop_ap, ifS_ap, kIfS_t, kIfS_f, par_ap, kPar_ap, par3_ap, kPar3_ap, rSt_some, unp_ap, kUnp_ap, kName_ap, kTup2_ap, kTup3_ap, for_ap, kFor_ap, raise_ap, app_ap, rApp_ap, ext_ap, rExt_ap, frz_ap, rFrz_o, rFrz_v, six_ap, kSix_ap, rSix_ap, aug_ap, rAug_ap, kAug_ap, ownD_ap, ownD0_ap, kvNil_ap, kvCons_ap, kKv1_ap, kKv2_ap, kKv3_i, kKv3_s, dget_ap, rDG_ap, kDG_i, kDG_s, dset_ap, kDS_ap, rDS_ap, hix_ap, rHix_ap, hGet0, hGet1, hGet2, hGet3, hGet4, hset_ap, kHS_ap, rHS1, rHS2, rHS3, rHS4, fn_ap, fin_ret, fin_nx, fin_err, fAdd_i, fSub_i, fNeg_i, fLt_i, fLe_i, fGt_i, fGe_i, fEq_s, fNe_s, fEq_i, fNe_i, fNe_b, fIx_l, fIx_t, fLen_l, fLen_t, fInt_i, fTuple_l, bnd_ok, dat_ok, List.map_cons, List.map_nil, List.replicate_succ, List.replicate_zero, List.cons_append, List.nil_append, List.length_cons, List.length_nil, List.getElem?_cons_zero, List.getElem?_cons_succ, List.set_cons_zero, List.set_cons_succ, Nat.sub_self, Nat.zero_add, Nat.reduceSub, Nat.reduceAdd, Option.bind_some, Option.map_some, Bool.not_true, Bool.not_false, e1, S_list]
  rw [show (cs.map fun c => PyData.str ⟨#[c]⟩) = sgs cs from rfl]
  simp -implicitDefEqProofs only [bnd_err, dat_err, outR, outS, seq_nx, seq_ret, seq_brk, seq_ct, seq_err, seq_ap, nx_ap, brk_ap, ofO_some, var_ap, rVar_v, peek_ap, rPeek_v, rPeek_o, c_ap, op1_ap, kOp1_ap, op2_ap, kOp2a_ap, kOp2b_ap, test_ap, kTest_ap, and_ap, kAnd_t, kAnd_f, or_ap, kOr_t, kOr_f, not_ap, kNot_ap, andV_ap, kAndV_t, kAndV_f, orV_ap, kOrV_t, kOrV_f, notV_ap, kNotV_ap, if_ap, kIf_t, kIf_f, chain_ap, kCh1_ap, kCh2_ap, kCh3_t, kCh3_f, nilA_ap, consA_ap, kA1_ap, kA2_ap, nilO_ap, consO_ap, kO1_ap, kO2_ap, call_ap, disp_ap, tup_ap, kDisp_0, kDisp_1, kDisp_2, kDisp_3, kDisp_4, kDisp_5, kTupl_0, kTupl_1, kTupl_2, kTupl_3, cb_ap, kCB_ap, rN_some, cn_ap, kCN_ap, l_ap, kL_ap, lc_ap, items_ap, kIt_l, kIt_t, kIt_s, rng1_ap, rng2_ap, zip_ap, m1_ap, kM1a_ap, kM1b_ap, m0_ap, kM0_ap, sl_ap, kSl1_ap, kSl2_ap, kSl3_ap, noPart_ap, part_ap, kPart_ap, isi_ap, kIsi_ap, set_ap, kSet_ap, own_ap, kOwn_ap, ret_ap, kRet_ap, drop_ap, kDrop_ap, ifS_ap, kIfS_t, kIfS_f, par_ap, kPar_ap, par3_ap, kPar3_ap, rSt_some, unp_ap, kUnp_ap, kName_ap, kTup2_ap, kTup3_ap, for_ap, kFor_ap, raise_ap, app_ap, rApp_ap, ext_ap, rExt_ap, frz_ap, rFrz_o, rFrz_v, six_ap, kSix_ap, rSix_ap, aug_ap, rAug_ap, kAug_ap, ownD_ap, ownD0_ap, kvNil_ap, kvCons_ap, kKv1_ap, kKv2_ap, kKv3_i, kKv3_s, dget_ap, rDG_ap, kDG_i, kDG_s, dset_ap, kDS_ap, rDS_ap, hix_ap, rHix_ap, hGet0, hGet1, hGet2, hGet3, hGet4, hset_ap, kHS_ap, rHS1, rHS2, rHS3, rHS4, fn_ap, fin_ret, fin_nx, fin_err, fAdd_i, fSub_i, fNeg_i, fLt_i, fLe_i, fGt_i, fGe_i, fEq_s, fNe_s, fEq_i, fNe_i, fNe_b, fIx_l, fIx_t, fLen_l, fLen_t, fInt_i, fTuple_l, bnd_ok, dat_ok, List.map_cons, List.map_nil, List.replicate_succ, List.replicate_zero, List.cons_append, List.nil_append, List.length_cons, List.length_nil, List.getElem?_cons_zero, List.getElem?_cons_succ, List.set_cons_zero, List.set_cons_succ, Nat.sub_self, Nat.zero_add, Nat.reduceSub, Nat.reduceAdd, Option.bind_some, Option.map_some, Bool.not_true, Bool.not_false, kLc_ap (show (sgs cs).length < 1000000 by rw [sgs_len]; exact h), e2, e3]
  rfl
def isCov (cs : List Nat) : Bool := cs.all sd && decide (cellsN cs ≤ 40)
theorem is_covering_s (cs : List Nat) (g : Hand) (h : cs.length < 1000000) : m_is_covering [.dat (.str (S cs))] g = .ok (.dat (.bool (isCov cs))) g := by
  have e1 : isiD ["str"] (.str (S cs)) = true := rfl
  have e2 : ∀ s0 s1 : Slot, mLcL (kName 1) mYes (mOp2 fIn (mVar 1) (mTup (mACons (mC (.str "s")) (mACons (mC (.str "d")) mANil)))) [1] (sgs cs) [s0, s1] g = .ok ((cs.map sd).map .bool) g := by
    intro s0 s1
    rw [lc_map (fun d => match d with | .str z => .bool (decide (z = S [115]) || decide (z = S [100])) | d => d) (sgs cs) fun d hd => ?_]
    · congr 1
      unfold sgs
      rw [List.map_map, List.map_map]
      apply List.map_congr_left
      intro c _
      show PyData.bool (decide ((⟨#[c]⟩ : Str) = S [115]) || decide ((⟨#[c]⟩ : Str) = S [100])) = .bool (sd c)
      rw [decide_eq_decide.mpr (sg_eq c 115), decide_eq_decide.mpr (sg_eq c 100)]; rfl
    · obtain ⟨c, hc, rfl⟩ := List.mem_map.mp hd
      refine ⟨_, rfl, ?_⟩
      simp -implicitDefEqProofs only [bnd_err, dat_err, outR, outS, seq_nx, seq_ret, seq_brk, seq_ct, seq_err, seq_ap, nx_ap, brk_ap, ofO_some, var_ap, rVar_v, peek_ap, rPeek_v, rPeek_o, c_ap, op1_ap, kOp1_ap, op2_ap, kOp2a_ap, kOp2b_ap, test_ap, kTest_ap, and_ap, kAnd_t, kAnd_f, or_ap, kOr_t, kOr_f, not_ap, kNot_ap, andV_ap, kAndV_t, kAndV_f, orV_ap, kOrV_t, kOrV_f, notV_ap, kNotV_ap, if_ap, kIf_t, kIf_f, chain_ap, kCh1_ap, kCh2_ap, kCh3_t, kCh3_f, nilA_ap, consA_ap, kA1_ap, kA2_ap, nilO_ap, consO_ap, kO1_ap, kO2_ap, call_ap, disp_ap, tup_ap, kDisp_0, kDisp_1, kDisp_2, kDisp_3, kDisp_4, kDisp_5, kTupl_0, kTupl_1, kTupl_2, kTupl_3, cb_ap, kCB_ap, rN_some, cn_ap, kCN_ap, l_ap, kL_ap, lc_ap, items_ap, kIt_l, kIt_t, kIt_s, rng1_ap, rng2_ap, zip_ap, m1_ap, kM1a_ap, kM1b_ap, m0_ap, kM0_ap, sl_ap, kSl1_ap, kSl2_ap, kSl3_ap, noPart_ap, part_ap, kPart_ap, isi_ap, kIsi_ap, set_ap, kSet_ap, own_ap, kOwn_ap, ret_ap, kRet_ap, drop_ap, kDrop_ap, ifS_ap, kIfS_t, kIfS_f, par_ap, kPar_ap, par3_ap, kPar3_ap, rSt_some, unp_ap, kUnp_ap, kName_ap, kTup2_ap, kTup3_ap, for_ap, kFor_ap, raise_ap, app_ap, rApp_ap, ext_ap, rExt_ap, frz_ap, rFrz_o, rFrz_v, six_ap, kSix_ap, rSix_ap, aug_ap, rAug_ap, kAug_ap, ownD_ap, ownD0_ap, kvNil_ap, kvCons_ap, kKv1_ap, kKv2_ap, kKv3_i, kKv3_s, dget_ap, rDG_ap, kDG_i, kDG_s, dset_ap, kDS_ap, rDS_ap, hix_ap, rHix_ap, hGet0, hGet1, hGet2, hGet3, hGet4, hset_ap, kHS_ap, rHS1, rHS2, rHS3, rHS4, fn_ap, fin_ret, fin_nx, fin_err, fAdd_i, fSub_i, fNeg_i, fLt_i, fLe_i, fGt_i, fGe_i, fEq_s, fNe_s, fEq_i, fNe_i, fNe_b, fIx_l, fIx_t, fLen_l, fLen_t, fInt_i, fTuple_l, bnd_ok, dat_ok, List.map_cons, List.map_nil, List.replicate_succ, List.replicate_zero, List.cons_append, List.nil_append, List.length_cons, List.length_nil, List.getElem?_cons_zero, List.getElem?_cons_succ, List.set_cons_zero, List.set_cons_succ, Nat.sub_self, Nat.zero_add, Nat.reduceSub, Nat.reduceAdd, Option.bind_some, Option.map_some, Bool.not_true, Bool.not_false, wipeE, sign_in]
      unfold sd
      rw [decide_eq_decide.mpr (sg_eq c 115), decide_eq_decide.mpr (sg_eq c 100)]
  unfold m_is_covering b_is_covering
  simp -implicitDefEqProofs only [bnd_err, dat_err, outR, outS, seq_nx, seq_ret, seq_brk, seq_ct, seq_err, seq_ap, nx_ap, brk_ap, ofO_some, var_ap, rVar_v, peek_ap, rPeek_v, rPeek_o, c_ap, op1_ap, kOp1_ap, op2_ap, kOp2a_ap, kOp2b_ap, test_ap, kTest_ap, and_ap, kAnd_t, kAnd_f, or_ap, kOr_t, kOr_f, not_ap, kNot_ap, andV_ap, kAndV_t, kAndV_f, orV_ap, kOrV_t, kOrV_f, notV_ap, kNotV_ap, if_ap, kIf_t, kIf_f, chain_ap, kCh1_ap, kCh2_ap, kCh3_t, kCh3_f, nilA_ap, consA_ap, kA1_ap, kA2_ap, nilO_ap, consO_ap, kO1_ap, kO2_ap, call_ap, disp_ap, tup_ap, kDisp_0, kDisp_1, kDisp_2, kDisp_3, kDisp_4, kDisp_5, kTupl_0, kTupl_1, kTupl_2, kTupl_3, cb_ap, kCB_ap, rN_some, cn_ap, kCN_ap, l_ap, kL_ap, lc_ap, items_ap, kIt_l, kIt_t, kIt_s, rng1_ap, rng2_ap, zip_ap, m1_ap, kM1a_ap, kM1b_ap, m0_ap, kM0_ap, sl_ap, kSl1_ap, kSl2_ap, kSl3_ap, noPart_ap, part_ap, kPart_ap, isi_ap, kIsi_ap, set_ap, kSet_ap, own_ap, kOwn_ap, ret_ap, kRet_ap, drop_ap, kDrop_ap, ifS_ap, kIfS_t, kIfS_f, par_ap, kPar_ap, par3_ap, kPar3_ap, rSt_some, unp_ap, kUnp_ap, kName_ap, kTup2_ap, kTup3_ap, for_ap, kFor_ap, raise_ap, app_ap, rApp_ap, ext_ap, rExt_ap, frz_ap, rFrz_o, rFrz_v, six_ap, kSix_ap, rSix_ap, aug_ap, rAug_ap, kAug_ap, ownD_ap, ownD0_ap, kvNil_ap, kvCons_ap, kKv1_ap, kKv2_ap, kKv3_i, kKv3_s, dget_ap, rDG_ap, kDG_i, kDG_s, dset_ap, kDS_ap, rDS_ap, hix_ap, rHix_ap, hGet0, hGet1, hGet2, hGet3, hGet4, hset_ap, kHS_ap, rHS1, rHS2, rHS3, rHS4, fn_ap, fin_ret, fin_nx, fin_err, fAdd_i, fSub_i, fNeg_i, fLt_i, fLe_i, fGt_i, fGe_i, fEq_s, fNe_s, fEq_i, fNe_i, fNe_b, fIx_l, fIx_t, fLen_l, fLen_t, fInt_i, fTuple_l, bnd_ok, dat_ok, List.map_cons, List.map_nil, List.replicate_succ, List.replicate_zero, List.cons_append, List.nil_append, List.length_cons, List.length_nil, List.getElem?_cons_zero, List.getElem?_cons_succ, List.set_cons_zero, List.set_cons_succ, Nat.sub_self, Nat.zero_add, Nat.reduceSub, Nat.reduceAdd, Option.bind_some, Option.map_some, Bool.not_true, Bool.not_false, e1, S_list]
  rw [show (cs.map fun c => PyData.str ⟨#[c]⟩) = sgs cs from rfl]
  simp -implicitDefEqProofs only [bnd_err, dat_err, outR, outS, seq_nx, seq_ret, seq_brk, seq_ct, seq_err, seq_ap, nx_ap, brk_ap, ofO_some, var_ap, rVar_v, peek_ap, rPeek_v, rPeek_o, c_ap, op1_ap, kOp1_ap, op2_ap, kOp2a_ap, kOp2b_ap, test_ap, kTest_ap, and_ap, kAnd_t, kAnd_f, or_ap, kOr_t, kOr_f, not_ap, kNot_ap, andV_ap, kAndV_t, kAndV_f, orV_ap, kOrV_t, kOrV_f, notV_ap, kNotV_ap, if_ap, kIf_t, kIf_f, chain_ap, kCh1_ap, kCh2_ap, kCh3_t, kCh3_f, nilA_ap, consA_ap, kA1_ap, kA2_ap, nilO_ap, consO_ap, kO1_ap, kO2_ap, call_ap, disp_ap, tup_ap, kDisp_0, kDisp_1, kDisp_2, kDisp_3, kDisp_4, kDisp_5, kTupl_0, kTupl_1, kTupl_2, kTupl_3, cb_ap, kCB_ap, rN_some, cn_ap, kCN_ap, l_ap, kL_ap, lc_ap, items_ap, kIt_l, kIt_t, kIt_s, rng1_ap, rng2_ap, zip_ap, m1_ap, kM1a_ap, kM1b_ap, m0_ap, kM0_ap, sl_ap, kSl1_ap, kSl2_ap, kSl3_ap, noPart_ap, part_ap, kPart_ap, isi_ap, kIsi_ap, set_ap, kSet_ap, own_ap, kOwn_ap, ret_ap, kRet_ap, drop_ap, kDrop_ap, ifS_ap, kIfS_t, kIfS_f, par_ap, kPar_ap, par3_ap, kPar3_ap, rSt_some, unp_ap, kUnp_ap, kName_ap, kTup2_ap, kTup3_ap, for_ap, kFor_ap, raise_ap, app_ap, rApp_ap, ext_ap, rExt_ap, frz_ap, rFrz_o, rFrz_v, six_ap, kSix_ap, rSix_ap, aug_ap, rAug_ap, kAug_ap, ownD_ap, ownD0_ap, kvNil_ap, kvCons_ap, kKv1_ap, kKv2_ap, kKv3_i, kKv3_s, dget_ap, rDG_ap, kDG_i, kDG_s, dset_ap, kDS_ap, rDS_ap, hix_ap, rHix_ap, hGet0, hGet1, hGet2, hGet3, hGet4, hset_ap, kHS_ap, rHS1, rHS2, rHS3, rHS4, fn_ap, fin_ret, fin_nx, fin_err, fAdd_i, fSub_i, fNeg_i, fLt_i, fLe_i, fGt_i, fGe_i, fEq_s, fNe_s, fEq_i, fNe_i, fNe_b, fIx_l, fIx_t, fLen_l, fLen_t, fInt_i, fTuple_l, bnd_ok, dat_ok, List.map_cons, List.map_nil, List.replicate_succ, List.replicate_zero, List.cons_append, List.nil_append, List.length_cons, List.length_nil, List.getElem?_cons_zero, List.getElem?_cons_succ, List.set_cons_zero, List.set_cons_succ, Nat.sub_self, Nat.zero_add, Nat.reduceSub, Nat.reduceAdd, Option.bind_some, Option.map_some, Bool.not_true, Bool.not_false, kLc_ap (show (sgs cs).length < 1000000 by rw [sgs_len]; exact h), e2, fAll_b, List.all_map]
  rw [show (cs.all (id ∘ sd)) = cs.all sd from rfl]
  unfold isCov
  cases cs.all sd with
  | false => simp -implicitDefEqProofs only [bnd_err, dat_err, outR, outS, seq_nx, seq_ret, seq_brk, seq_ct, seq_err, seq_ap, nx_ap, brk_ap, ofO_some, var_ap, rVar_v, peek_ap, rPeek_v, rPeek_o, c_ap, op1_ap, kOp1_ap, op2_ap, kOp2a_ap, kOp2b_ap, test_ap, kTest_ap, and_ap, kAnd_t, kAnd_f, or_ap, kOr_t, kOr_f, not_ap, kNot_ap, andV_ap, kAndV_t, kAndV_f, orV_ap, kOrV_t, kOrV_f, notV_ap, kNotV_ap, if_ap, kIf_t, kIf_f, chain_ap, kCh1_ap, kCh2_ap, kCh3_t, kCh3_f, nilA_ap, consA_ap, kA1_ap, kA2_ap, nilO_ap, consO_ap, kO1_ap, kO2_ap, call_ap, disp_ap, tup_ap, kDisp_0, kDisp_1, kDisp_2, kDisp_3, kDisp_4, kDisp_5, kTupl_0, kTupl_1, kTupl_2, kTupl_3, cb_ap, kCB_ap, rN_some, cn_ap, kCN_ap, l_ap, kL_ap, lc_ap, items_ap, kIt_l, kIt_t, kIt_s, rng1_ap, rng2_ap, zip_ap, m1_ap, kM1a_ap, kM1b_ap, m0_ap, kM0_ap, sl_ap, kSl1_ap, kSl2_ap, kSl3_ap, noPart_ap, part_ap, kPart_ap, isi_ap, kIsi_ap, set_ap, kSet_ap, own_ap, kOwn_ap, ret_ap, kRet_ap, drop_ap, kDrop_ap, ifS_ap, kIfS_t, kIfS_f, par_ap, kPar_ap, par3_ap, kPar3_ap, rSt_some, unp_ap, kUnp_ap, kName_ap, kTup2_ap, kTup3_ap, for_ap, kFor_ap, raise_ap, app_ap, rApp_ap, ext_ap, rExt_ap, frz_ap, rFrz_o, rFrz_v, six_ap, kSix_ap, rSix_ap, aug_ap, rAug_ap, kAug_ap, ownD_ap, ownD0_ap, kvNil_ap, kvCons_ap, kKv1_ap, kKv2_ap, kKv3_i, kKv3_s, dget_ap, rDG_ap, kDG_i, kDG_s, dset_ap, kDS_ap, rDS_ap, hix_ap, rHix_ap, hGet0, hGet1, hGet2, hGet3, hGet4, hset_ap, kHS_ap, rHS1, rHS2, rHS3, rHS4, fn_ap, fin_ret, fin_nx, fin_err, fAdd_i, fSub_i, fNeg_i, fLt_i, fLe_i, fGt_i, fGe_i, fEq_s, fNe_s, fEq_i, fNe_i, fNe_b, fIx_l, fIx_t, fLen_l, fLen_t, fInt_i, fTuple_l, bnd_ok, dat_ok, List.map_cons, List.map_nil, List.replicate_succ, List.replicate_zero, List.cons_append, List.nil_append, List.length_cons, List.length_nil, List.getElem?_cons_zero, List.getElem?_cons_succ, List.set_cons_zero, List.set_cons_succ, Nat.sub_self, Nat.zero_add, Nat.reduceSub, Nat.reduceAdd, Option.bind_some, Option.map_some, Bool.not_true, Bool.not_false, Bool.false_and]
  | true =>
    simp -implicitDefEqProofs only [bnd_err, dat_err, outR, outS, seq_nx, seq_ret, seq_brk, seq_ct, seq_err, seq_ap, nx_ap, brk_ap, ofO_some, var_ap, rVar_v, peek_ap, rPeek_v, rPeek_o, c_ap, op1_ap, kOp1_ap, op2_ap, kOp2a_ap, kOp2b_ap, test_ap, kTest_ap, and_ap, kAnd_t, kAnd_f, or_ap, kOr_t, kOr_f, not_ap, kNot_ap, andV_ap, kAndV_t, kAndV_f, orV_ap, kOrV_t, kOrV_f, notV_ap, kNotV_ap, if_ap, kIf_t, kIf_f, chain_ap, kCh1_ap, kCh2_ap, kCh3_t, kCh3_f, nilA_ap, consA_ap, kA1_ap, kA2_ap, nilO_ap, consO_ap, kO1_ap, kO2_ap, call_ap, disp_ap, tup_ap, kDisp_0, kDisp_1, kDisp_2, kDisp_3, kDisp_4, kDisp_5, kTupl_0, kTupl_1, kTupl_2, kTupl_3, cb_ap, kCB_ap, rN_some, cn_ap, kCN_ap, l_ap, kL_ap, lc_ap, items_ap, kIt_l, kIt_t, kIt_s, rng1_ap, rng2_ap, zip_ap, m1_ap, kM1a_ap, kM1b_ap, m0_ap, kM0_ap, sl_ap, kSl1_ap, kSl2_ap, kSl3_ap, noPart_ap, part_ap, kPart_ap, isi_ap, kIsi_ap, set_ap, kSet_ap, own_ap, kOwn_ap, ret_ap, kRet_ap, drop_ap, kDrop_ap, ifS_ap, kIfS_t, kIfS_f, par_ap, kPar_ap, par3_ap, kPar3_ap, rSt_some, unp_ap, kUnp_ap, kName_ap, kTup2_ap, kTup3_ap, for_ap, kFor_ap, raise_ap, app_ap, rApp_ap, ext_ap, rExt_ap, frz_ap, rFrz_o, rFrz_v, six_ap, kSix_ap, rSix_ap, aug_ap, rAug_ap, kAug_ap, ownD_ap, ownD0_ap, kvNil_ap, kvCons_ap, kKv1_ap, kKv2_ap, kKv3_i, kKv3_s, dget_ap, rDG_ap, kDG_i, kDG_s, dset_ap, kDS_ap, rDS_ap, hix_ap, rHix_ap, hGet0, hGet1, hGet2, hGet3, hGet4, hset_ap, kHS_ap, rHS1, rHS2, rHS3, rHS4, fn_ap, fin_ret, fin_nx, fin_err, fAdd_i, fSub_i, fNeg_i, fLt_i, fLe_i, fGt_i, fGe_i, fEq_s, fNe_s, fEq_i, fNe_i, fNe_b, fIx_l, fIx_t, fLen_l, fLen_t, fInt_i, fTuple_l, bnd_ok, dat_ok, List.map_cons, List.map_nil, List.replicate_succ, List.replicate_zero, List.cons_append, List.nil_append, List.length_cons, List.length_nil, List.getElem?_cons_zero, List.getElem?_cons_succ, List.set_cons_zero, List.set_cons_succ, Nat.sub_self, Nat.zero_add, Nat.reduceSub, Nat.reduceAdd, Option.bind_some, Option.map_some, Bool.not_true, Bool.not_false, raw_cells_eq cs g h, Bool.true_and]
    congr 3
    exact decide_eq_decide.mpr (by omega)
theorem is_covering_no (d : D) (g : Hand) (h : isiD ["str"] d = false) : m_is_covering [.dat d] g = .ok (.dat (.bool false)) g := by
  unfold m_is_covering b_is_covering
  simp -implicitDefEqProofs only [bnd_err, dat_err, outR, outS, seq_nx, seq_ret, seq_brk, seq_ct, seq_err, seq_ap, nx_ap, brk_ap, ofO_some, var_ap, rVar_v, peek_ap, rPeek_v, rPeek_o, c_ap, op1_ap, kOp1_ap, op2_ap, kOp2a_ap, kOp2b_ap, test_ap, kTest_ap, and_ap, kAnd_t, kAnd_f, or_ap, kOr_t, kOr_f, not_ap, kNot_ap, andV_ap, kAndV_t, kAndV_f, orV_ap, kOrV_t, kOrV_f, notV_ap, kNotV_ap, if_ap, kIf_t, kIf_f, chain_ap, kCh1_ap, kCh2_ap, kCh3_t, kCh3_f, nilA_ap, consA_ap, kA1_ap, kA2_ap, nilO_ap, consO_ap, kO1_ap, kO2_ap, call_ap, disp_ap, tup_ap, kDisp_0, kDisp_1, kDisp_2, kDisp_3, kDisp_4, kDisp_5, kTupl_0, kTupl_1, kTupl_2, kTupl_3, cb_ap, kCB_ap, rN_some, cn_ap, kCN_ap, l_ap, kL_ap, lc_ap, items_ap, kIt_l, kIt_t, kIt_s, rng1_ap, rng2_ap, zip_ap, m1_ap, kM1a_ap, kM1b_ap, m0_ap, kM0_ap, sl_ap, kSl1_ap, kSl2_ap, kSl3_ap, noPart_ap, part_ap, kPart_ap, isi_ap, kIsi_ap, set_ap, kSet_ap, own_ap, kOwn_ap, ret_ap, kRet_ap, drop_ap, kDrop_ap, ifS_ap, kIfS_t, kIfS_f, par_ap, kPar_ap, par3_ap, kPar3_ap, rSt_some, unp_ap, kUnp_ap, kName_ap, kTup2_ap, kTup3_ap, for_ap, kFor_ap, raise_ap, app_ap, rApp_ap, ext_ap, rExt_ap, frz_ap, rFrz_o, rFrz_v, six_ap, kSix_ap, rSix_ap, aug_ap, rAug_ap, kAug_ap, ownD_ap, ownD0_ap, kvNil_ap, kvCons_ap, kKv1_ap, kKv2_ap, kKv3_i, kKv3_s, dget_ap, rDG_ap, kDG_i, kDG_s, dset_ap, kDS_ap, rDS_ap, hix_ap, rHix_ap, hGet0, hGet1, hGet2, hGet3, hGet4, hset_ap, kHS_ap, rHS1, rHS2, rHS3, rHS4, fn_ap, fin_ret, fin_nx, fin_err, fAdd_i, fSub_i, fNeg_i, fLt_i, fLe_i, fGt_i, fGe_i, fEq_s, fNe_s, fEq_i, fNe_i, fNe_b, fIx_l, fIx_t, fLen_l, fLen_t, fInt_i, fTuple_l, bnd_ok, dat_ok, List.map_cons, List.map_nil, List.replicate_succ, List.replicate_zero, List.cons_append, List.nil_append, List.length_cons, List.length_nil, List.getElem?_cons_zero, List.getElem?_cons_succ, List.set_cons_zero, List.set_cons_succ, Nat.sub_self, Nat.zero_add, Nat.reduceSub, Nat.reduceAdd, Option.bind_some, Option.map_some, Bool.not_true, Bool.not_false, h]
theorem check_covering_ok (cs : List Nat) (g : Hand) (h : isCov cs = true) (hl : cs.length < 1000000) : m_check_covering [.dat (.str (S cs))] g = .ok (.dat .none) g := by
  unfold m_check_covering b_check_covering
  simp -implicitDefEqProofs only [bnd_err, dat_err, outR, outS, seq_nx, seq_ret, seq_brk, seq_ct, seq_err, seq_ap, nx_ap, brk_ap, ofO_some, var_ap, rVar_v, peek_ap, rPeek_v, rPeek_o, c_ap, op1_ap, kOp1_ap, op2_ap, kOp2a_ap, kOp2b_ap, test_ap, kTest_ap, and_ap, kAnd_t, kAnd_f, or_ap, kOr_t, kOr_f, not_ap, kNot_ap, andV_ap, kAndV_t, kAndV_f, orV_ap, kOrV_t, kOrV_f, notV_ap, kNotV_ap, if_ap, kIf_t, kIf_f, chain_ap, kCh1_ap, kCh2_ap, kCh3_t, kCh3_f, nilA_ap, consA_ap, kA1_ap, kA2_ap, nilO_ap, consO_ap, kO1_ap, kO2_ap, call_ap, disp_ap, tup_ap, kDisp_0, kDisp_1, kDisp_2, kDisp_3, kDisp_4, kDisp_5, kTupl_0, kTupl_1, kTupl_2, kTupl_3, cb_ap, kCB_ap, rN_some, cn_ap, kCN_ap, l_ap, kL_ap, lc_ap, items_ap, kIt_l, kIt_t, kIt_s, rng1_ap, rng2_ap, zip_ap, m1_ap, kM1a_ap, kM1b_ap, m0_ap, kM0_ap, sl_ap, kSl1_ap, kSl2_ap, kSl3_ap, noPart_ap, part_ap, kPart_ap, isi_ap, kIsi_ap, set_ap, kSet_ap, own_ap, kOwn_ap, ret_ap, kRet_ap, drop_ap, kDrop_ap, ifS_ap, kIfS_t, kIfS_f, par_ap, kPar_ap, par3_ap, kPar3_ap, rSt_some, unp_ap, kUnp_ap, kName_ap, kTup2_ap, kTup3_ap, for_ap, kFor_ap, raise_ap, app_ap, rApp_ap, ext_ap, rExt_ap, frz_ap, rFrz_o, rFrz_v, six_ap, kSix_ap, rSix_ap, aug_ap, rAug_ap, kAug_ap, ownD_ap, ownD0_ap, kvNil_ap, kvCons_ap, kKv1_ap, kKv2_ap, kKv3_i, kKv3_s, dget_ap, rDG_ap, kDG_i, kDG_s, dset_ap, kDS_ap, rDS_ap, hix_ap, rHix_ap, hGet0, hGet1, hGet2, hGet3, hGet4, hset_ap, kHS_ap, rHS1, rHS2, rHS3, rHS4, fn_ap, fin_ret, fin_nx, fin_err, fAdd_i, fSub_i, fNeg_i, fLt_i, fLe_i, fGt_i, fGe_i, fEq_s, fNe_s, fEq_i, fNe_i, fNe_b, fIx_l, fIx_t, fLen_l, fLen_t, fInt_i, fTuple_l, bnd_ok, dat_ok, List.map_cons, List.map_nil, List.replicate_succ, List.replicate_zero, List.cons_append, List.nil_append, List.length_cons, List.length_nil, List.getElem?_cons_zero, List.getElem?_cons_succ, List.set_cons_zero, List.set_cons_succ, Nat.sub_self, Nat.zero_add, Nat.reduceSub, Nat.reduceAdd, Option.bind_some, Option.map_some, Bool.not_true, Bool.not_false, is_covering_s cs g hl, h]

def rowsC (k : Nat) : List D := (List.range k).map fun i => .list (L (covs i))
theorem rowsC_len (k : Nat) : (rowsC k).length = k := by simp [rowsC]
theorem rowsC_succ (k : Nat) : rowsC (k + 1) = rowsC k ++ [.list (L (covs k))] := by
  unfold rowsC
  rw [List.range_succ, List.map_append]; rfl
theorem rowsC_at {k i : Nat} (h : i < k) : (rowsC k)[i]? = some (.list (L (covs i))) := by
  unfold rowsC
  rw [List.getElem?_map, List.getElem?_range h]; rfl
theorem raw_coverings_eq (n : Nat) (g : Hand) (h : n ≤ 16) : m_raw_coverings [.dat (.int n)] g = .ok (.dat (.list (L (covs n)))) g := by
  unfold m_raw_coverings b_raw_coverings
  simp -implicitDefEqProofs only [bnd_err, dat_err, outR, outS, seq_nx, seq_ret, seq_brk, seq_ct, seq_err, seq_ap, nx_ap, brk_ap, ofO_some, var_ap, rVar_v, peek_ap, rPeek_v, rPeek_o, c_ap, op1_ap, kOp1_ap, op2_ap, kOp2a_ap, kOp2b_ap, test_ap, kTest_ap, and_ap, kAnd_t, kAnd_f, or_ap, kOr_t, kOr_f, not_ap, kNot_ap, andV_ap, kAndV_t, kAndV_f, orV_ap, kOrV_t, kOrV_f, notV_ap, kNotV_ap, if_ap, kIf_t, kIf_f, chain_ap, kCh1_ap, kCh2_ap, kCh3_t, kCh3_f, nilA_ap, consA_ap, kA1_ap, kA2_ap, nilO_ap, consO_ap, kO1_ap, kO2_ap, call_ap, disp_ap, tup_ap, kDisp_0, kDisp_1, kDisp_2, kDisp_3, kDisp_4, kDisp_5, kTupl_0, kTupl_1, kTupl_2, kTupl_3, cb_ap, kCB_ap, rN_some, cn_ap, kCN_ap, l_ap, kL_ap, lc_ap, items_ap, kIt_l, kIt_t, kIt_s, rng1_ap, rng2_ap, zip_ap, m1_ap, kM1a_ap, kM1b_ap, m0_ap, kM0_ap, sl_ap, kSl1_ap, kSl2_ap, kSl3_ap, noPart_ap, part_ap, kPart_ap, isi_ap, kIsi_ap, set_ap, kSet_ap, own_ap, kOwn_ap, ret_ap, kRet_ap, drop_ap, kDrop_ap, ifS_ap, kIfS_t, kIfS_f, par_ap, kPar_ap, par3_ap, kPar3_ap, rSt_some, unp_ap, kUnp_ap, kName_ap, kTup2_ap, kTup3_ap, for_ap, kFor_ap, raise_ap, app_ap, rApp_ap, ext_ap, rExt_ap, frz_ap, rFrz_o, rFrz_v, six_ap, kSix_ap, rSix_ap, aug_ap, rAug_ap, kAug_ap, ownD_ap, ownD0_ap, kvNil_ap, kvCons_ap, kKv1_ap, kKv2_ap, kKv3_i, kKv3_s, dget_ap, rDG_ap, kDG_i, kDG_s, dset_ap, kDS_ap, rDS_ap, hix_ap, rHix_ap, hGet0, hGet1, hGet2, hGet3, hGet4, hset_ap, kHS_ap, rHS1, rHS2, rHS3, rHS4, fn_ap, fin_ret, fin_nx, fin_err, fAdd_i, fSub_i, fNeg_i, fLt_i, fLe_i, fGt_i, fGe_i, fEq_s, fNe_s, fEq_i, fNe_i, fNe_b, fIx_l, fIx_t, fLen_l, fLen_t, fInt_i, fTuple_l, bnd_ok, dat_ok, List.map_cons, List.map_nil, List.replicate_succ, List.replicate_zero, List.cons_append, List.nil_append, List.length_cons, List.length_nil, List.getElem?_cons_zero, List.getElem?_cons_succ, List.set_cons_zero, List.set_cons_succ, Nat.sub_self, Nat.zero_add, Nat.reduceSub, Nat.reduceAdd, Option.bind_some, Option.map_some, Bool.not_true, Bool.not_false]
  refine while_P (P := fun r => fin (r.seq _) = _) (fun m e g' => ∃ k x, 2 ≤ k ∧ e = [.val (.dat (.int n)), .own (.lst (rowsC k)), x] ∧ g' = g ∧ k ≤ 17 ∧ m = 17 - k) (fun e g' => ∃ k x, n < k ∧ e = [.val (.dat (.int n)), .own (.lst (rowsC k)), x] ∧ g' = g) 15 ⟨2, _, by omega, rfl, rfl, by omega, rfl⟩ (by omega) ?_ ?_
  · rintro m e g' ⟨k, x, h1, rfl, rfl, h2, rfl⟩
    by_cases c : (k : Int) ≤ (n : Nat)
    · right
      have ek : k - 2 + 2 = k := by omega
      have a1 : atI (rowsC k) (-1) = some (.list (L (covs (k - 1)))) := atI_neg (k := 1) (by omega) (by rw [rowsC_len]; omega) (by rw [rowsC_len]; exact rowsC_at (by omega))
      have a2 : atI (rowsC k) (-2) = some (.list (L (covs (k - 2)))) := atI_neg (k := 2) (by omega) (by rw [rowsC_len]; omega) (by rw [rowsC_len]; exact rowsC_at (by omega))
      have b1 : ∀ j, j ≤ 16 → (L (covs j)).length < 1000000 := fun j hj => by rw [L_len]; have := covs_16 j hj; omega
      have p1 : ∀ s0 s1 s2 : Slot, mLcL (kName 2) mYes (mOp2 fAdd (mC (.str "d")) (mVar 2)) [2] (L (covs (k - 2))) [s0, s1, s2] g' = .ok (L ((covs (k - 2)).map (100 :: ·))) g' := fun s0 s1 s2 =>
        lc_pre 2 [100] lit_d _ _ _ (by simp) fun c hc => by have := covs_short _ c hc; simp; omega
      have p2 : ∀ s0 s1 s2 : Slot, mLcL (kName 2) mYes (mOp2 fAdd (mC (.str "s")) (mVar 2)) [2] (L (covs (k - 1))) [s0, s1, s2] g' = .ok (L ((covs (k - 1)).map (115 :: ·))) g' := fun s0 s1 s2 =>
        lc_pre 2 [115] lit_s _ _ _ (by simp) fun c hc => by have := covs_short _ c hc; simp; omega
      have p3 : fAdd (.list (L ((covs (k - 2)).map (100 :: ·)))) (.list (L ((covs (k - 1)).map (115 :: ·)))) = some (.list (L (covs k))) := by
        show (if _ then some _ else none) = _
        rw [if_pos (by rw [L_len, L_len, List.length_map, List.length_map]; have := covs_16 (k - 2) (by omega); have := covs_16 (k - 1) (by omega); omega), L_app]
        rw [show covs k = covs (k - 2 + 2) by rw [ek], covs_cc, show k - 2 + 1 = k - 1 by omega]
      have p4 : (rowsC k).length < 1000000 := by rw [rowsC_len]; omega
      refine ⟨g', [.val (.dat (.int n)), .own (.lst (rowsC (k + 1))), x], g', 17 - (k + 1), ?_, .inl ?_, by omega, k + 1, x, by omega, rfl, rfl, by omega, rfl⟩
      · simp -implicitDefEqProofs only [bnd_err, dat_err, outR, outS, seq_nx, seq_ret, seq_brk, seq_ct, seq_err, seq_ap, nx_ap, brk_ap, ofO_some, var_ap, rVar_v, peek_ap, rPeek_v, rPeek_o, c_ap, op1_ap, kOp1_ap, op2_ap, kOp2a_ap, kOp2b_ap, test_ap, kTest_ap, and_ap, kAnd_t, kAnd_f, or_ap, kOr_t, kOr_f, not_ap, kNot_ap, andV_ap, kAndV_t, kAndV_f, orV_ap, kOrV_t, kOrV_f, notV_ap, kNotV_ap, if_ap, kIf_t, kIf_f, chain_ap, kCh1_ap, kCh2_ap, kCh3_t, kCh3_f, nilA_ap, consA_ap, kA1_ap, kA2_ap, nilO_ap, consO_ap, kO1_ap, kO2_ap, call_ap, disp_ap, tup_ap, kDisp_0, kDisp_1, kDisp_2, kDisp_3, kDisp_4, kDisp_5, kTupl_0, kTupl_1, kTupl_2, kTupl_3, cb_ap, kCB_ap, rN_some, cn_ap, kCN_ap, l_ap, kL_ap, lc_ap, items_ap, kIt_l, kIt_t, kIt_s, rng1_ap, rng2_ap, zip_ap, m1_ap, kM1a_ap, kM1b_ap, m0_ap, kM0_ap, sl_ap, kSl1_ap, kSl2_ap, kSl3_ap, noPart_ap, part_ap, kPart_ap, isi_ap, kIsi_ap, set_ap, kSet_ap, own_ap, kOwn_ap, ret_ap, kRet_ap, drop_ap, kDrop_ap, ifS_ap, kIfS_t, kIfS_f, par_ap, kPar_ap, par3_ap, kPar3_ap, rSt_some, unp_ap, kUnp_ap, kName_ap, kTup2_ap, kTup3_ap, for_ap, kFor_ap, raise_ap, app_ap, rApp_ap, ext_ap, rExt_ap, frz_ap, rFrz_o, rFrz_v, six_ap, kSix_ap, rSix_ap, aug_ap, rAug_ap, kAug_ap, ownD_ap, ownD0_ap, kvNil_ap, kvCons_ap, kKv1_ap, kKv2_ap, kKv3_i, kKv3_s, dget_ap, rDG_ap, kDG_i, kDG_s, dset_ap, kDS_ap, rDS_ap, hix_ap, rHix_ap, hGet0, hGet1, hGet2, hGet3, hGet4, hset_ap, kHS_ap, rHS1, rHS2, rHS3, rHS4, fn_ap, fin_ret, fin_nx, fin_err, fAdd_i, fSub_i, fNeg_i, fLt_i, fLe_i, fGt_i, fGe_i, fEq_s, fNe_s, fEq_i, fNe_i, fNe_b, fIx_l, fIx_t, fLen_l, fLen_t, fInt_i, fTuple_l, bnd_ok, dat_ok, List.map_cons, List.map_nil, List.replicate_succ, List.replicate_zero, List.cons_append, List.nil_append, List.length_cons, List.length_nil, List.getElem?_cons_zero, List.getElem?_cons_succ, List.set_cons_zero, List.set_cons_succ, Nat.sub_self, Nat.zero_add, Nat.reduceSub, Nat.reduceAdd, Option.bind_some, Option.map_some, Bool.not_true, Bool.not_false, rowsC_len, decide_eq_true c]
      · simp -implicitDefEqProofs only [bnd_err, dat_err, outR, outS, seq_nx, seq_ret, seq_brk, seq_ct, seq_err, seq_ap, nx_ap, brk_ap, ofO_some, var_ap, rVar_v, peek_ap, rPeek_v, rPeek_o, c_ap, op1_ap, kOp1_ap, op2_ap, kOp2a_ap, kOp2b_ap, test_ap, kTest_ap, and_ap, kAnd_t, kAnd_f, or_ap, kOr_t, kOr_f, not_ap, kNot_ap, andV_ap, kAndV_t, kAndV_f, orV_ap, kOrV_t, kOrV_f, notV_ap, kNotV_ap, if_ap, kIf_t, kIf_f, chain_ap, kCh1_ap, kCh2_ap, kCh3_t, kCh3_f, nilA_ap, consA_ap, kA1_ap, kA2_ap, nilO_ap, consO_ap, kO1_ap, kO2_ap, call_ap, disp_ap, tup_ap, kDisp_0, kDisp_1, kDisp_2, kDisp_3, kDisp_4, kDisp_5, kTupl_0, kTupl_1, kTupl_2, kTupl_3, cb_ap, kCB_ap, rN_some, cn_ap, kCN_ap, l_ap, kL_ap, lc_ap, items_ap, kIt_l, kIt_t, kIt_s, rng1_ap, rng2_ap, zip_ap, m1_ap, kM1a_ap, kM1b_ap, m0_ap, kM0_ap, sl_ap, kSl1_ap, kSl2_ap, kSl3_ap, noPart_ap, part_ap, kPart_ap, isi_ap, kIsi_ap, set_ap, kSet_ap, own_ap, kOwn_ap, ret_ap, kRet_ap, drop_ap, kDrop_ap, ifS_ap, kIfS_t, kIfS_f, par_ap, kPar_ap, par3_ap, kPar3_ap, rSt_some, unp_ap, kUnp_ap, kName_ap, kTup2_ap, kTup3_ap, for_ap, kFor_ap, raise_ap, app_ap, rApp_ap, ext_ap, rExt_ap, frz_ap, rFrz_o, rFrz_v, six_ap, kSix_ap, rSix_ap, aug_ap, rAug_ap, kAug_ap, ownD_ap, ownD0_ap, kvNil_ap, kvCons_ap, kKv1_ap, kKv2_ap, kKv3_i, kKv3_s, dget_ap, rDG_ap, kDG_i, kDG_s, dset_ap, kDS_ap, rDS_ap, hix_ap, rHix_ap, hGet0, hGet1, hGet2, hGet3, hGet4, hset_ap, kHS_ap, rHS1, rHS2, rHS3, rHS4, fn_ap, fin_ret, fin_nx, fin_err, fAdd_i, fSub_i, fNeg_i, fLt_i, fLe_i, fGt_i, fGe_i, fEq_s, fNe_s, fEq_i, fNe_i, fNe_b, fIx_l, fIx_t, fLen_l, fLen_t, fInt_i, fTuple_l, bnd_ok, dat_ok, List.map_cons, List.map_nil, List.replicate_succ, List.replicate_zero, List.cons_append, List.nil_append, List.length_cons, List.length_nil, List.getElem?_cons_zero, List.getElem?_cons_succ, List.set_cons_zero, List.set_cons_succ, Nat.sub_self, Nat.zero_add, Nat.reduceSub, Nat.reduceAdd, Option.bind_some, Option.map_some, Bool.not_true, Bool.not_false, a1, a2, kLc_ap (b1 _ (show k - 1 ≤ 16 by omega)), kLc_ap (b1 _ (show k - 2 ≤ 16 by omega)), p1, p2, p3, kApp_ap p4, rowsC_succ]
    · left
      refine ⟨g', ?_, k, x, by omega, rfl, rfl⟩
      simp -implicitDefEqProofs only [bnd_err, dat_err, outR, outS, seq_nx, seq_ret, seq_brk, seq_ct, seq_err, seq_ap, nx_ap, brk_ap, ofO_some, var_ap, rVar_v, peek_ap, rPeek_v, rPeek_o, c_ap, op1_ap, kOp1_ap, op2_ap, kOp2a_ap, kOp2b_ap, test_ap, kTest_ap, and_ap, kAnd_t, kAnd_f, or_ap, kOr_t, kOr_f, not_ap, kNot_ap, andV_ap, kAndV_t, kAndV_f, orV_ap, kOrV_t, kOrV_f, notV_ap, kNotV_ap, if_ap, kIf_t, kIf_f, chain_ap, kCh1_ap, kCh2_ap, kCh3_t, kCh3_f, nilA_ap, consA_ap, kA1_ap, kA2_ap, nilO_ap, consO_ap, kO1_ap, kO2_ap, call_ap, disp_ap, tup_ap, kDisp_0, kDisp_1, kDisp_2, kDisp_3, kDisp_4, kDisp_5, kTupl_0, kTupl_1, kTupl_2, kTupl_3, cb_ap, kCB_ap, rN_some, cn_ap, kCN_ap, l_ap, kL_ap, lc_ap, items_ap, kIt_l, kIt_t, kIt_s, rng1_ap, rng2_ap, zip_ap, m1_ap, kM1a_ap, kM1b_ap, m0_ap, kM0_ap, sl_ap, kSl1_ap, kSl2_ap, kSl3_ap, noPart_ap, part_ap, kPart_ap, isi_ap, kIsi_ap, set_ap, kSet_ap, own_ap, kOwn_ap, ret_ap, kRet_ap, drop_ap, kDrop_ap, ifS_ap, kIfS_t, kIfS_f, par_ap, kPar_ap, par3_ap, kPar3_ap, rSt_some, unp_ap, kUnp_ap, kName_ap, kTup2_ap, kTup3_ap, for_ap, kFor_ap, raise_ap, app_ap, rApp_ap, ext_ap, rExt_ap, frz_ap, rFrz_o, rFrz_v, six_ap, kSix_ap, rSix_ap, aug_ap, rAug_ap, kAug_ap, ownD_ap, ownD0_ap, kvNil_ap, kvCons_ap, kKv1_ap, kKv2_ap, kKv3_i, kKv3_s, dget_ap, rDG_ap, kDG_i, kDG_s, dset_ap, kDS_ap, rDS_ap, hix_ap, rHix_ap, hGet0, hGet1, hGet2, hGet3, hGet4, hset_ap, kHS_ap, rHS1, rHS2, rHS3, rHS4, fn_ap, fin_ret, fin_nx, fin_err, fAdd_i, fSub_i, fNeg_i, fLt_i, fLe_i, fGt_i, fGe_i, fEq_s, fNe_s, fEq_i, fNe_i, fNe_b, fIx_l, fIx_t, fLen_l, fLen_t, fInt_i, fTuple_l, bnd_ok, dat_ok, List.map_cons, List.map_nil, List.replicate_succ, List.replicate_zero, List.cons_append, List.nil_append, List.length_cons, List.length_nil, List.getElem?_cons_zero, List.getElem?_cons_succ, List.set_cons_zero, List.set_cons_succ, Nat.sub_self, Nat.zero_add, Nat.reduceSub, Nat.reduceAdd, Option.bind_some, Option.map_some, Bool.not_true, Bool.not_false, rowsC_len, decide_eq_false c]
  · rintro e g' ⟨k, x, h1, rfl, rfl⟩
    have a1 : atI (rowsC k) (n : Nat) = some (.list (L (covs n))) := atI_nat (rowsC_at h1)
    simp -implicitDefEqProofs only [bnd_err, dat_err, outR, outS, seq_nx, seq_ret, seq_brk, seq_ct, seq_err, seq_ap, nx_ap, brk_ap, ofO_some, var_ap, rVar_v, peek_ap, rPeek_v, rPeek_o, c_ap, op1_ap, kOp1_ap, op2_ap, kOp2a_ap, kOp2b_ap, test_ap, kTest_ap, and_ap, kAnd_t, kAnd_f, or_ap, kOr_t, kOr_f, not_ap, kNot_ap, andV_ap, kAndV_t, kAndV_f, orV_ap, kOrV_t, kOrV_f, notV_ap, kNotV_ap, if_ap, kIf_t, kIf_f, chain_ap, kCh1_ap, kCh2_ap, kCh3_t, kCh3_f, nilA_ap, consA_ap, kA1_ap, kA2_ap, nilO_ap, consO_ap, kO1_ap, kO2_ap, call_ap, disp_ap, tup_ap, kDisp_0, kDisp_1, kDisp_2, kDisp_3, kDisp_4, kDisp_5, kTupl_0, kTupl_1, kTupl_2, kTupl_3, cb_ap, kCB_ap, rN_some, cn_ap, kCN_ap, l_ap, kL_ap, lc_ap, items_ap, kIt_l, kIt_t, kIt_s, rng1_ap, rng2_ap, zip_ap, m1_ap, kM1a_ap, kM1b_ap, m0_ap, kM0_ap, sl_ap, kSl1_ap, kSl2_ap, kSl3_ap, noPart_ap, part_ap, kPart_ap, isi_ap, kIsi_ap, set_ap, kSet_ap, own_ap, kOwn_ap, ret_ap, kRet_ap, drop_ap, kDrop_ap, ifS_ap, kIfS_t, kIfS_f, par_ap, kPar_ap, par3_ap, kPar3_ap, rSt_some, unp_ap, kUnp_ap, kName_ap, kTup2_ap, kTup3_ap, for_ap, kFor_ap, raise_ap, app_ap, rApp_ap, ext_ap, rExt_ap, frz_ap, rFrz_o, rFrz_v, six_ap, kSix_ap, rSix_ap, aug_ap, rAug_ap, kAug_ap, ownD_ap, ownD0_ap, kvNil_ap, kvCons_ap, kKv1_ap, kKv2_ap, kKv3_i, kKv3_s, dget_ap, rDG_ap, kDG_i, kDG_s, dset_ap, kDS_ap, rDS_ap, hix_ap, rHix_ap, hGet0, hGet1, hGet2, hGet3, hGet4, hset_ap, kHS_ap, rHS1, rHS2, rHS3, rHS4, fn_ap, fin_ret, fin_nx, fin_err, fAdd_i, fSub_i, fNeg_i, fLt_i, fLe_i, fGt_i, fGe_i, fEq_s, fNe_s, fEq_i, fNe_i, fNe_b, fIx_l, fIx_t, fLen_l, fLen_t, fInt_i, fTuple_l, bnd_ok, dat_ok, List.map_cons, List.map_nil, List.replicate_succ, List.replicate_zero, List.cons_append, List.nil_append, List.length_cons, List.length_nil, List.getElem?_cons_zero, List.getElem?_cons_succ, List.set_cons_zero, List.set_cons_succ, Nat.sub_self, Nat.zero_add, Nat.reduceSub, Nat.reduceAdd, Option.bind_some, Option.map_some, Bool.not_true, Bool.not_false, a1]

theorem coverings_eq (n : Nat) (g : Hand) (h : n ≤ 16) : m_coverings [.dat (.int n)] g = .ok (.dat (.tuple (L (covs n)))) g := by
  unfold m_coverings b_coverings
  simp -implicitDefEqProofs only [bnd_err, dat_err, outR, outS, seq_nx, seq_ret, seq_brk, seq_ct, seq_err, seq_ap, nx_ap, brk_ap, ofO_some, var_ap, rVar_v, peek_ap, rPeek_v, rPeek_o, c_ap, op1_ap, kOp1_ap, op2_ap, kOp2a_ap, kOp2b_ap, test_ap, kTest_ap, and_ap, kAnd_t, kAnd_f, or_ap, kOr_t, kOr_f, not_ap, kNot_ap, andV_ap, kAndV_t, kAndV_f, orV_ap, kOrV_t, kOrV_f, notV_ap, kNotV_ap, if_ap, kIf_t, kIf_f, chain_ap, kCh1_ap, kCh2_ap, kCh3_t, kCh3_f, nilA_ap, consA_ap, kA1_ap, kA2_ap, nilO_ap, consO_ap, kO1_ap, kO2_ap, call_ap, disp_ap, tup_ap, kDisp_0, kDisp_1, kDisp_2, kDisp_3, kDisp_4, kDisp_5, kTupl_0, kTupl_1, kTupl_2, kTupl_3, cb_ap, kCB_ap, rN_some, cn_ap, kCN_ap, l_ap, kL_ap, lc_ap, items_ap, kIt_l, kIt_t, kIt_s, rng1_ap, rng2_ap, zip_ap, m1_ap, kM1a_ap, kM1b_ap, m0_ap, kM0_ap, sl_ap, kSl1_ap, kSl2_ap, kSl3_ap, noPart_ap, part_ap, kPart_ap, isi_ap, kIsi_ap, set_ap, kSet_ap, own_ap, kOwn_ap, ret_ap, kRet_ap, drop_ap, kDrop_ap, ifS_ap, kIfS_t, kIfS_f, par_ap, kPar_ap, par3_ap, kPar3_ap, rSt_some, unp_ap, kUnp_ap, kName_ap, kTup2_ap, kTup3_ap, for_ap, kFor_ap, raise_ap, app_ap, rApp_ap, ext_ap, rExt_ap, frz_ap, rFrz_o, rFrz_v, six_ap, kSix_ap, rSix_ap, aug_ap, rAug_ap, kAug_ap, ownD_ap, ownD0_ap, kvNil_ap, kvCons_ap, kKv1_ap, kKv2_ap, kKv3_i, kKv3_s, dget_ap, rDG_ap, kDG_i, kDG_s, dset_ap, kDS_ap, rDS_ap, hix_ap, rHix_ap, hGet0, hGet1, hGet2, hGet3, hGet4, hset_ap, kHS_ap, rHS1, rHS2, rHS3, rHS4, fn_ap, fin_ret, fin_nx, fin_err, fAdd_i, fSub_i, fNeg_i, fLt_i, fLe_i, fGt_i, fGe_i, fEq_s, fNe_s, fEq_i, fNe_i, fNe_b, fIx_l, fIx_t, fLen_l, fLen_t, fInt_i, fTuple_l, bnd_ok, dat_ok, List.map_cons, List.map_nil, List.replicate_succ, List.replicate_zero, List.cons_append, List.nil_append, List.length_cons, List.length_nil, List.getElem?_cons_zero, List.getElem?_cons_succ, List.set_cons_zero, List.set_cons_succ, Nat.sub_self, Nat.zero_add, Nat.reduceSub, Nat.reduceAdd, Option.bind_some, Option.map_some, Bool.not_true, Bool.not_false, check_number_ok (n : Nat) 0 16 g (by omega) (by omega), raw_coverings_eq n g h]

/-! the row of a base -/
def useq (p q a b : Int) : Nat → Int
  | 0 => a
  | 1 => b
  | n + 2 => p * useq p q a b (n + 1) - q * useq p q a b n
def urows (p q a b : Int) (k : Nat) : List D := (List.range k).map fun i => .int (useq p q a b i)
theorem urows_len (p q a b : Int) (k : Nat) : (urows p q a b k).length = k := by simp [urows]
theorem urows_succ (p q a b : Int) (k : Nat) : urows p q a b (k + 1) = urows p q a b k ++ [.int (useq p q a b k)] := by
  unfold urows
  rw [List.range_succ, List.map_append]; rfl
theorem urows_at {p q a b : Int} {k i : Nat} (h : i < k) : (urows p q a b k)[i]? = some (.int (useq p q a b i)) := by
  unfold urows
  rw [List.getElem?_map, List.getElem?_range h]; rfl
theorem urows_m1 {p q a b : Int} {k : Nat} (h : 1 ≤ k) : atI (urows p q a b k) (-1) = some (.int (useq p q a b (k - 1))) :=
  atI_neg (k := 1) (by omega) (by rw [urows_len]; omega) (by rw [urows_len]; exact urows_at (by omega))
theorem urows_m2 {p q a b : Int} {k : Nat} (h : 2 ≤ k) : atI (urows p q a b k) (-2) = some (.int (useq p q a b (k - 2))) :=
  atI_neg (k := 2) (by omega) (by rw [urows_len]; omega) (by rw [urows_len]; exact urows_at (by omega))
theorem useq_step {p q a b : Int} {k : Nat} (h : 2 ≤ k) : p * useq p q a b (k - 1) - q * useq p q a b (k - 2) = useq p q a b k := by
  obtain ⟨j, rfl⟩ : ∃ j, k = j + 2 := ⟨k - 2, by omega⟩
  rfl
/-- a number of no more than 2^64 -/
def small (x : Int) : Prop := -(2 ^ 64) < x ∧ x < 2 ^ 64
theorem small100 {p : Int} (h1 : -100 ≤ p) (h2 : p ≤ 100) : small p := ⟨by omega, by omega⟩
theorem small_mul {x y : Int} (h : small x) : fMul (.int x) (.int y) = some (.int (x * y)) := fMul_i (mulOk_l h.1 h.2)
theorem row_by_eq (p q a b : Int) (n : Nat) (g : Hand) (hp : small p) (hq : small q) (hn : n < 900) :
    m_row_by [.dat (.tuple [.int p, .int q]), .dat (.int a), .dat (.int b), .dat (.int n)] g = .ok (.dat (.list (urows p q a b (max 2 n)))) g := by
  unfold m_row_by b_row_by
  simp -implicitDefEqProofs only [bnd_err, dat_err, outR, outS, seq_nx, seq_ret, seq_brk, seq_ct, seq_err, seq_ap, nx_ap, brk_ap, ofO_some, var_ap, rVar_v, peek_ap, rPeek_v, rPeek_o, c_ap, op1_ap, kOp1_ap, op2_ap, kOp2a_ap, kOp2b_ap, test_ap, kTest_ap, and_ap, kAnd_t, kAnd_f, or_ap, kOr_t, kOr_f, not_ap, kNot_ap, andV_ap, kAndV_t, kAndV_f, orV_ap, kOrV_t, kOrV_f, notV_ap, kNotV_ap, if_ap, kIf_t, kIf_f, chain_ap, kCh1_ap, kCh2_ap, kCh3_t, kCh3_f, nilA_ap, consA_ap, kA1_ap, kA2_ap, nilO_ap, consO_ap, kO1_ap, kO2_ap, call_ap, disp_ap, tup_ap, kDisp_0, kDisp_1, kDisp_2, kDisp_3, kDisp_4, kDisp_5, kTupl_0, kTupl_1, kTupl_2, kTupl_3, cb_ap, kCB_ap, rN_some, cn_ap, kCN_ap, l_ap, kL_ap, lc_ap, items_ap, kIt_l, kIt_t, kIt_s, rng1_ap, rng2_ap, zip_ap, m1_ap, kM1a_ap, kM1b_ap, m0_ap, kM0_ap, sl_ap, kSl1_ap, kSl2_ap, kSl3_ap, noPart_ap, part_ap, kPart_ap, isi_ap, kIsi_ap, set_ap, kSet_ap, own_ap, kOwn_ap, ret_ap, kRet_ap, drop_ap, kDrop_ap, ifS_ap, kIfS_t, kIfS_f, par_ap, kPar_ap, par3_ap, kPar3_ap, rSt_some, unp_ap, kUnp_ap, kName_ap, kTup2_ap, kTup3_ap, for_ap, kFor_ap, raise_ap, app_ap, rApp_ap, ext_ap, rExt_ap, frz_ap, rFrz_o, rFrz_v, six_ap, kSix_ap, rSix_ap, aug_ap, rAug_ap, kAug_ap, ownD_ap, ownD0_ap, kvNil_ap, kvCons_ap, kKv1_ap, kKv2_ap, kKv3_i, kKv3_s, dget_ap, rDG_ap, kDG_i, kDG_s, dset_ap, kDS_ap, rDS_ap, hix_ap, rHix_ap, hGet0, hGet1, hGet2, hGet3, hGet4, hset_ap, kHS_ap, rHS1, rHS2, rHS3, rHS4, fn_ap, fin_ret, fin_nx, fin_err, fAdd_i, fSub_i, fNeg_i, fLt_i, fLe_i, fGt_i, fGe_i, fEq_s, fNe_s, fEq_i, fNe_i, fNe_b, fIx_l, fIx_t, fLen_l, fLen_t, fInt_i, fTuple_l, bnd_ok, dat_ok, List.map_cons, List.map_nil, List.replicate_succ, List.replicate_zero, List.cons_append, List.nil_append, List.length_cons, List.length_nil, List.getElem?_cons_zero, List.getElem?_cons_succ, List.set_cons_zero, List.set_cons_succ, Nat.sub_self, Nat.zero_add, Nat.reduceSub, Nat.reduceAdd, Option.bind_some, Option.map_some, Bool.not_true, Bool.not_false, kTup2_ap, kName_ap]
  refine while_P (P := fun r => fin (r.seq _) = _) (fun m e g' => ∃ k, 2 ≤ k ∧ e = [.val (.dat (.tuple [.int p, .int q])), .val (.dat (.int a)), .val (.dat (.int b)), .val (.dat (.int n)), .val (.dat (.int p)), .val (.dat (.int q)), .own (.lst (urows p q a b k))] ∧ g' = g ∧ k ≤ max 2 n ∧ m = max 2 n - k)
    (fun e g' => e = [.val (.dat (.tuple [.int p, .int q])), .val (.dat (.int a)), .val (.dat (.int b)), .val (.dat (.int n)), .val (.dat (.int p)), .val (.dat (.int q)), .own (.lst (urows p q a b (max 2 n)))] ∧ g' = g) (max 2 n - 2) ⟨2, by omega, rfl, rfl, by omega, rfl⟩ (by omega) ?_ ?_
  · rintro m e g' ⟨k, h1, rfl, rfl, h2, rfl⟩
    by_cases c : (k : Int) < (n : Nat)
    · right
      have p4 : (urows p q a b k).length < 1000000 := by rw [urows_len]; omega
      refine ⟨g', [.val (.dat (.tuple [.int p, .int q])), .val (.dat (.int a)), .val (.dat (.int b)), .val (.dat (.int n)), .val (.dat (.int p)), .val (.dat (.int q)), .own (.lst (urows p q a b (k + 1)))], g', max 2 n - (k + 1), ?_, .inl ?_, by omega, k + 1, by omega, rfl, rfl, by omega, rfl⟩
      · simp -implicitDefEqProofs only [bnd_err, dat_err, outR, outS, seq_nx, seq_ret, seq_brk, seq_ct, seq_err, seq_ap, nx_ap, brk_ap, ofO_some, var_ap, rVar_v, peek_ap, rPeek_v, rPeek_o, c_ap, op1_ap, kOp1_ap, op2_ap, kOp2a_ap, kOp2b_ap, test_ap, kTest_ap, and_ap, kAnd_t, kAnd_f, or_ap, kOr_t, kOr_f, not_ap, kNot_ap, andV_ap, kAndV_t, kAndV_f, orV_ap, kOrV_t, kOrV_f, notV_ap, kNotV_ap, if_ap, kIf_t, kIf_f, chain_ap, kCh1_ap, kCh2_ap, kCh3_t, kCh3_f, nilA_ap, consA_ap, kA1_ap, kA2_ap, nilO_ap, consO_ap, kO1_ap, kO2_ap, call_ap, disp_ap, tup_ap, kDisp_0, kDisp_1, kDisp_2, kDisp_3, kDisp_4, kDisp_5, kTupl_0, kTupl_1, kTupl_2, kTupl_3, cb_ap, kCB_ap, rN_some, cn_ap, kCN_ap, l_ap, kL_ap, lc_ap, items_ap, kIt_l, kIt_t, kIt_s, rng1_ap, rng2_ap, zip_ap, m1_ap, kM1a_ap, kM1b_ap, m0_ap, kM0_ap, sl_ap, kSl1_ap, kSl2_ap, kSl3_ap, noPart_ap, part_ap, kPart_ap, isi_ap, kIsi_ap, set_ap, kSet_ap, own_ap, kOwn_ap, ret_ap, kRet_ap, drop_ap, kDrop_ap, ifS_ap, kIfS_t, kIfS_f, par_ap, kPar_ap, par3_ap, kPar3_ap, rSt_some, unp_ap, kUnp_ap, kName_ap, kTup2_ap, kTup3_ap, for_ap, kFor_ap, raise_ap, app_ap, rApp_ap, ext_ap, rExt_ap, frz_ap, rFrz_o, rFrz_v, six_ap, kSix_ap, rSix_ap, aug_ap, rAug_ap, kAug_ap, ownD_ap, ownD0_ap, kvNil_ap, kvCons_ap, kKv1_ap, kKv2_ap, kKv3_i, kKv3_s, dget_ap, rDG_ap, kDG_i, kDG_s, dset_ap, kDS_ap, rDS_ap, hix_ap, rHix_ap, hGet0, hGet1, hGet2, hGet3, hGet4, hset_ap, kHS_ap, rHS1, rHS2, rHS3, rHS4, fn_ap, fin_ret, fin_nx, fin_err, fAdd_i, fSub_i, fNeg_i, fLt_i, fLe_i, fGt_i, fGe_i, fEq_s, fNe_s, fEq_i, fNe_i, fNe_b, fIx_l, fIx_t, fLen_l, fLen_t, fInt_i, fTuple_l, bnd_ok, dat_ok, List.map_cons, List.map_nil, List.replicate_succ, List.replicate_zero, List.cons_append, List.nil_append, List.length_cons, List.length_nil, List.getElem?_cons_zero, List.getElem?_cons_succ, List.set_cons_zero, List.set_cons_succ, Nat.sub_self, Nat.zero_add, Nat.reduceSub, Nat.reduceAdd, Option.bind_some, Option.map_some, Bool.not_true, Bool.not_false, urows_len, decide_eq_true c]
      · simp -implicitDefEqProofs only [bnd_err, dat_err, outR, outS, seq_nx, seq_ret, seq_brk, seq_ct, seq_err, seq_ap, nx_ap, brk_ap, ofO_some, var_ap, rVar_v, peek_ap, rPeek_v, rPeek_o, c_ap, op1_ap, kOp1_ap, op2_ap, kOp2a_ap, kOp2b_ap, test_ap, kTest_ap, and_ap, kAnd_t, kAnd_f, or_ap, kOr_t, kOr_f, not_ap, kNot_ap, andV_ap, kAndV_t, kAndV_f, orV_ap, kOrV_t, kOrV_f, notV_ap, kNotV_ap, if_ap, kIf_t, kIf_f, chain_ap, kCh1_ap, kCh2_ap, kCh3_t, kCh3_f, nilA_ap, consA_ap, kA1_ap, kA2_ap, nilO_ap, consO_ap, kO1_ap, kO2_ap, call_ap, disp_ap, tup_ap, kDisp_0, kDisp_1, kDisp_2, kDisp_3, kDisp_4, kDisp_5, kTupl_0, kTupl_1, kTupl_2, kTupl_3, cb_ap, kCB_ap, rN_some, cn_ap, kCN_ap, l_ap, kL_ap, lc_ap, items_ap, kIt_l, kIt_t, kIt_s, rng1_ap, rng2_ap, zip_ap, m1_ap, kM1a_ap, kM1b_ap, m0_ap, kM0_ap, sl_ap, kSl1_ap, kSl2_ap, kSl3_ap, noPart_ap, part_ap, kPart_ap, isi_ap, kIsi_ap, set_ap, kSet_ap, own_ap, kOwn_ap, ret_ap, kRet_ap, drop_ap, kDrop_ap, ifS_ap, kIfS_t, kIfS_f, par_ap, kPar_ap, par3_ap, kPar3_ap, rSt_some, unp_ap, kUnp_ap, kName_ap, kTup2_ap, kTup3_ap, for_ap, kFor_ap, raise_ap, app_ap, rApp_ap, ext_ap, rExt_ap, frz_ap, rFrz_o, rFrz_v, six_ap, kSix_ap, rSix_ap, aug_ap, rAug_ap, kAug_ap, ownD_ap, ownD0_ap, kvNil_ap, kvCons_ap, kKv1_ap, kKv2_ap, kKv3_i, kKv3_s, dget_ap, rDG_ap, kDG_i, kDG_s, dset_ap, kDS_ap, rDS_ap, hix_ap, rHix_ap, hGet0, hGet1, hGet2, hGet3, hGet4, hset_ap, kHS_ap, rHS1, rHS2, rHS3, rHS4, fn_ap, fin_ret, fin_nx, fin_err, fAdd_i, fSub_i, fNeg_i, fLt_i, fLe_i, fGt_i, fGe_i, fEq_s, fNe_s, fEq_i, fNe_i, fNe_b, fIx_l, fIx_t, fLen_l, fLen_t, fInt_i, fTuple_l, bnd_ok, dat_ok, List.map_cons, List.map_nil, List.replicate_succ, List.replicate_zero, List.cons_append, List.nil_append, List.length_cons, List.length_nil, List.getElem?_cons_zero, List.getElem?_cons_succ, List.set_cons_zero, List.set_cons_succ, Nat.sub_self, Nat.zero_add, Nat.reduceSub, Nat.reduceAdd, Option.bind_some, Option.map_some, Bool.not_true, Bool.not_false, urows_m1 (show 1 ≤ k by omega), urows_m2 h1, small_mul hp, small_mul hq, useq_step h1, kApp_ap p4, urows_succ]
    · left
      have ek : k = max 2 n := by omega
      refine ⟨g', ?_, by rw [ek], rfl⟩
      simp -implicitDefEqProofs only [bnd_err, dat_err, outR, outS, seq_nx, seq_ret, seq_brk, seq_ct, seq_err, seq_ap, nx_ap, brk_ap, ofO_some, var_ap, rVar_v, peek_ap, rPeek_v, rPeek_o, c_ap, op1_ap, kOp1_ap, op2_ap, kOp2a_ap, kOp2b_ap, test_ap, kTest_ap, and_ap, kAnd_t, kAnd_f, or_ap, kOr_t, kOr_f, not_ap, kNot_ap, andV_ap, kAndV_t, kAndV_f, orV_ap, kOrV_t, kOrV_f, notV_ap, kNotV_ap, if_ap, kIf_t, kIf_f, chain_ap, kCh1_ap, kCh2_ap, kCh3_t, kCh3_f, nilA_ap, consA_ap, kA1_ap, kA2_ap, nilO_ap, consO_ap, kO1_ap, kO2_ap, call_ap, disp_ap, tup_ap, kDisp_0, kDisp_1, kDisp_2, kDisp_3, kDisp_4, kDisp_5, kTupl_0, kTupl_1, kTupl_2, kTupl_3, cb_ap, kCB_ap, rN_some, cn_ap, kCN_ap, l_ap, kL_ap, lc_ap, items_ap, kIt_l, kIt_t, kIt_s, rng1_ap, rng2_ap, zip_ap, m1_ap, kM1a_ap, kM1b_ap, m0_ap, kM0_ap, sl_ap, kSl1_ap, kSl2_ap, kSl3_ap, noPart_ap, part_ap, kPart_ap, isi_ap, kIsi_ap, set_ap, kSet_ap, own_ap, kOwn_ap, ret_ap, kRet_ap, drop_ap, kDrop_ap, ifS_ap, kIfS_t, kIfS_f, par_ap, kPar_ap, par3_ap, kPar3_ap, rSt_some, unp_ap, kUnp_ap, kName_ap, kTup2_ap, kTup3_ap, for_ap, kFor_ap, raise_ap, app_ap, rApp_ap, ext_ap, rExt_ap, frz_ap, rFrz_o, rFrz_v, six_ap, kSix_ap, rSix_ap, aug_ap, rAug_ap, kAug_ap, ownD_ap, ownD0_ap, kvNil_ap, kvCons_ap, kKv1_ap, kKv2_ap, kKv3_i, kKv3_s, dget_ap, rDG_ap, kDG_i, kDG_s, dset_ap, kDS_ap, rDS_ap, hix_ap, rHix_ap, hGet0, hGet1, hGet2, hGet3, hGet4, hset_ap, kHS_ap, rHS1, rHS2, rHS3, rHS4, fn_ap, fin_ret, fin_nx, fin_err, fAdd_i, fSub_i, fNeg_i, fLt_i, fLe_i, fGt_i, fGe_i, fEq_s, fNe_s, fEq_i, fNe_i, fNe_b, fIx_l, fIx_t, fLen_l, fLen_t, fInt_i, fTuple_l, bnd_ok, dat_ok, List.map_cons, List.map_nil, List.replicate_succ, List.replicate_zero, List.cons_append, List.nil_append, List.length_cons, List.length_nil, List.getElem?_cons_zero, List.getElem?_cons_succ, List.set_cons_zero, List.set_cons_succ, Nat.sub_self, Nat.zero_add, Nat.reduceSub, Nat.reduceAdd, Option.bind_some, Option.map_some, Bool.not_true, Bool.not_false, urows_len, decide_eq_false c]
  · rintro e g' ⟨rfl, rfl⟩
    simp -implicitDefEqProofs only [bnd_err, dat_err, outR, outS, seq_nx, seq_ret, seq_brk, seq_ct, seq_err, seq_ap, nx_ap, brk_ap, ofO_some, var_ap, rVar_v, peek_ap, rPeek_v, rPeek_o, c_ap, op1_ap, kOp1_ap, op2_ap, kOp2a_ap, kOp2b_ap, test_ap, kTest_ap, and_ap, kAnd_t, kAnd_f, or_ap, kOr_t, kOr_f, not_ap, kNot_ap, andV_ap, kAndV_t, kAndV_f, orV_ap, kOrV_t, kOrV_f, notV_ap, kNotV_ap, if_ap, kIf_t, kIf_f, chain_ap, kCh1_ap, kCh2_ap, kCh3_t, kCh3_f, nilA_ap, consA_ap, kA1_ap, kA2_ap, nilO_ap, consO_ap, kO1_ap, kO2_ap, call_ap, disp_ap, tup_ap, kDisp_0, kDisp_1, kDisp_2, kDisp_3, kDisp_4, kDisp_5, kTupl_0, kTupl_1, kTupl_2, kTupl_3, cb_ap, kCB_ap, rN_some, cn_ap, kCN_ap, l_ap, kL_ap, lc_ap, items_ap, kIt_l, kIt_t, kIt_s, rng1_ap, rng2_ap, zip_ap, m1_ap, kM1a_ap, kM1b_ap, m0_ap, kM0_ap, sl_ap, kSl1_ap, kSl2_ap, kSl3_ap, noPart_ap, part_ap, kPart_ap, isi_ap, kIsi_ap, set_ap, kSet_ap, own_ap, kOwn_ap, ret_ap, kRet_ap, drop_ap, kDrop_ap, ifS_ap, kIfS_t, kIfS_f, par_ap, kPar_ap, par3_ap, kPar3_ap, rSt_some, unp_ap, kUnp_ap, kName_ap, kTup2_ap, kTup3_ap, for_ap, kFor_ap, raise_ap, app_ap, rApp_ap, ext_ap, rExt_ap, frz_ap, rFrz_o, rFrz_v, six_ap, kSix_ap, rSix_ap, aug_ap, rAug_ap, kAug_ap, ownD_ap, ownD0_ap, kvNil_ap, kvCons_ap, kKv1_ap, kKv2_ap, kKv3_i, kKv3_s, dget_ap, rDG_ap, kDG_i, kDG_s, dset_ap, kDS_ap, rDS_ap, hix_ap, rHix_ap, hGet0, hGet1, hGet2, hGet3, hGet4, hset_ap, kHS_ap, rHS1, rHS2, rHS3, rHS4, fn_ap, fin_ret, fin_nx, fin_err, fAdd_i, fSub_i, fNeg_i, fLt_i, fLe_i, fGt_i, fGe_i, fEq_s, fNe_s, fEq_i, fNe_i, fNe_b, fIx_l, fIx_t, fLen_l, fLen_t, fInt_i, fTuple_l, bnd_ok, dat_ok, List.map_cons, List.map_nil, List.replicate_succ, List.replicate_zero, List.cons_append, List.nil_append, List.length_cons, List.length_nil, List.getElem?_cons_zero, List.getElem?_cons_succ, List.set_cons_zero, List.set_cons_succ, Nat.sub_self, Nat.zero_add, Nat.reduceSub, Nat.reduceAdd, Option.bind_some, Option.map_some, Bool.not_true, Bool.not_false]

theorem is_base_ok (p q : Int) (g : Hand) (h1 : -100 ≤ p) (h2 : p ≤ 100) (h3 : -100 ≤ q) (h4 : q ≤ 100) : m_is_base [.dat (.tuple [.int p, .int q])] g = .ok (.dat (.bool true)) g := by
  have e1 : isiD ["tuple"] (.tuple [.int p, .int q]) = true := rfl
  have e2 : ∀ s0 s1 : Slot, mLcL (kName 1) mYes (mCall m_is_within (mACons (mVar 1) (mACons (mOp1 fNeg (mC (.int 100))) (mACons (mC (.int 100)) mANil)))) [1] [.int p, .int q] [s0, s1] g = .ok [.bool true, .bool true] g := by
    intro s0 s1
    rw [lc_map (fun _ => .bool true) [.int p, .int q] fun d hd => ?_]
    · rfl
    · simp only [List.mem_cons, List.not_mem_nil, or_false] at hd
      rcases hd with rfl | rfl
      · refine ⟨_, rfl, ?_⟩
        simp -implicitDefEqProofs only [bnd_err, dat_err, outR, outS, seq_nx, seq_ret, seq_brk, seq_ct, seq_err, seq_ap, nx_ap, brk_ap, ofO_some, var_ap, rVar_v, peek_ap, rPeek_v, rPeek_o, c_ap, op1_ap, kOp1_ap, op2_ap, kOp2a_ap, kOp2b_ap, test_ap, kTest_ap, and_ap, kAnd_t, kAnd_f, or_ap, kOr_t, kOr_f, not_ap, kNot_ap, andV_ap, kAndV_t, kAndV_f, orV_ap, kOrV_t, kOrV_f, notV_ap, kNotV_ap, if_ap, kIf_t, kIf_f, chain_ap, kCh1_ap, kCh2_ap, kCh3_t, kCh3_f, nilA_ap, consA_ap, kA1_ap, kA2_ap, nilO_ap, consO_ap, kO1_ap, kO2_ap, call_ap, disp_ap, tup_ap, kDisp_0, kDisp_1, kDisp_2, kDisp_3, kDisp_4, kDisp_5, kTupl_0, kTupl_1, kTupl_2, kTupl_3, cb_ap, kCB_ap, rN_some, cn_ap, kCN_ap, l_ap, kL_ap, lc_ap, items_ap, kIt_l, kIt_t, kIt_s, rng1_ap, rng2_ap, zip_ap, m1_ap, kM1a_ap, kM1b_ap, m0_ap, kM0_ap, sl_ap, kSl1_ap, kSl2_ap, kSl3_ap, noPart_ap, part_ap, kPart_ap, isi_ap, kIsi_ap, set_ap, kSet_ap, own_ap, kOwn_ap, ret_ap, kRet_ap, drop_ap, kDrop_ap, ifS_ap, kIfS_t, kIfS_f, par_ap, kPar_ap, par3_ap, kPar3_ap, rSt_some, unp_ap, kUnp_ap, kName_ap, kTup2_ap, kTup3_ap, for_ap, kFor_ap, raise_ap, app_ap, rApp_ap, ext_ap, rExt_ap, frz_ap, rFrz_o, rFrz_v, six_ap, kSix_ap, rSix_ap, aug_ap, rAug_ap, kAug_ap, ownD_ap, ownD0_ap, kvNil_ap, kvCons_ap, kKv1_ap, kKv2_ap, kKv3_i, kKv3_s, dget_ap, rDG_ap, kDG_i, kDG_s, dset_ap, kDS_ap, rDS_ap, hix_ap, rHix_ap, hGet0, hGet1, hGet2, hGet3, hGet4, hset_ap, kHS_ap, rHS1, rHS2, rHS3, rHS4, fn_ap, fin_ret, fin_nx, fin_err, fAdd_i, fSub_i, fNeg_i, fLt_i, fLe_i, fGt_i, fGe_i, fEq_s, fNe_s, fEq_i, fNe_i, fNe_b, fIx_l, fIx_t, fLen_l, fLen_t, fInt_i, fTuple_l, bnd_ok, dat_ok, List.map_cons, List.map_nil, List.replicate_succ, List.replicate_zero, List.cons_append, List.nil_append, List.length_cons, List.length_nil, List.getElem?_cons_zero, List.getElem?_cons_succ, List.set_cons_zero, List.set_cons_succ, Nat.sub_self, Nat.zero_add, Nat.reduceSub, Nat.reduceAdd, Option.bind_some, Option.map_some, Bool.not_true, Bool.not_false, wipeE, is_within_int, decide_eq_true h1, decide_eq_true h2, Bool.true_and]
      · refine ⟨_, rfl, ?_⟩
        simp -implicitDefEqProofs only [bnd_err, dat_err, outR, outS, seq_nx, seq_ret, seq_brk, seq_ct, seq_err, seq_ap, nx_ap, brk_ap, ofO_some, var_ap, rVar_v, peek_ap, rPeek_v, rPeek_o, c_ap, op1_ap, kOp1_ap, op2_ap, kOp2a_ap, kOp2b_ap, test_ap, kTest_ap, and_ap, kAnd_t, kAnd_f, or_ap, kOr_t, kOr_f, not_ap, kNot_ap, andV_ap, kAndV_t, kAndV_f, orV_ap, kOrV_t, kOrV_f, notV_ap, kNotV_ap, if_ap, kIf_t, kIf_f, chain_ap, kCh1_ap, kCh2_ap, kCh3_t, kCh3_f, nilA_ap, consA_ap, kA1_ap, kA2_ap, nilO_ap, consO_ap, kO1_ap, kO2_ap, call_ap, disp_ap, tup_ap, kDisp_0, kDisp_1, kDisp_2, kDisp_3, kDisp_4, kDisp_5, kTupl_0, kTupl_1, kTupl_2, kTupl_3, cb_ap, kCB_ap, rN_some, cn_ap, kCN_ap, l_ap, kL_ap, lc_ap, items_ap, kIt_l, kIt_t, kIt_s, rng1_ap, rng2_ap, zip_ap, m1_ap, kM1a_ap, kM1b_ap, m0_ap, kM0_ap, sl_ap, kSl1_ap, kSl2_ap, kSl3_ap, noPart_ap, part_ap, kPart_ap, isi_ap, kIsi_ap, set_ap, kSet_ap, own_ap, kOwn_ap, ret_ap, kRet_ap, drop_ap, kDrop_ap, ifS_ap, kIfS_t, kIfS_f, par_ap, kPar_ap, par3_ap, kPar3_ap, rSt_some, unp_ap, kUnp_ap, kName_ap, kTup2_ap, kTup3_ap, for_ap, kFor_ap, raise_ap, app_ap, rApp_ap, ext_ap, rExt_ap, frz_ap, rFrz_o, rFrz_v, six_ap, kSix_ap, rSix_ap, aug_ap, rAug_ap, kAug_ap, ownD_ap, ownD0_ap, kvNil_ap, kvCons_ap, kKv1_ap, kKv2_ap, kKv3_i, kKv3_s, dget_ap, rDG_ap, kDG_i, kDG_s, dset_ap, kDS_ap, rDS_ap, hix_ap, rHix_ap, hGet0, hGet1, hGet2, hGet3, hGet4, hset_ap, kHS_ap, rHS1, rHS2, rHS3, rHS4, fn_ap, fin_ret, fin_nx, fin_err, fAdd_i, fSub_i, fNeg_i, fLt_i, fLe_i, fGt_i, fGe_i, fEq_s, fNe_s, fEq_i, fNe_i, fNe_b, fIx_l, fIx_t, fLen_l, fLen_t, fInt_i, fTuple_l, bnd_ok, dat_ok, List.map_cons, List.map_nil, List.replicate_succ, List.replicate_zero, List.cons_append, List.nil_append, List.length_cons, List.length_nil, List.getElem?_cons_zero, List.getElem?_cons_succ, List.set_cons_zero, List.set_cons_succ, Nat.sub_self, Nat.zero_add, Nat.reduceSub, Nat.reduceAdd, Option.bind_some, Option.map_some, Bool.not_true, Bool.not_false, wipeE, is_within_int, decide_eq_true h3, decide_eq_true h4, Bool.true_and]
  have e3 : fAll [.list [.bool true, .bool true]] = some (.bool true) := rfl
  have e4 : decide ((2 : Nat) = (2 : Int)) = true := rfl
  unfold m_is_base b_is_base
  simp -implicitDefEqProofs only [bnd_err, dat_err, outR, outS, seq_nx, seq_ret, seq_brk, seq_ct, seq_err, seq_ap, nx_ap, brk_ap, ofO_some, var_ap, rVar_v, peek_ap, rPeek_v, rPeek_o, c_ap, op1_ap, kOp1_ap, op2_ap, kOp2a_ap, kOp2b_ap, test_ap, kTest_ap, and_ap, kAnd_t, kAnd_f, or_ap, kOr_t, kOr_f, not_ap, kNot_ap, andV_ap, kAndV_t, kAndV_f, orV_ap, kOrV_t, kOrV_f, notV_ap, kNotV_ap, if_ap, kIf_t, kIf_f, chain_ap, kCh1_ap, kCh2_ap, kCh3_t, kCh3_f, nilA_ap, consA_ap, kA1_ap, kA2_ap, nilO_ap, consO_ap, kO1_ap, kO2_ap, call_ap, disp_ap, tup_ap, kDisp_0, kDisp_1, kDisp_2, kDisp_3, kDisp_4, kDisp_5, kTupl_0, kTupl_1, kTupl_2, kTupl_3, cb_ap, kCB_ap, rN_some, cn_ap, kCN_ap, l_ap, kL_ap, lc_ap, items_ap, kIt_l, kIt_t, kIt_s, rng1_ap, rng2_ap, zip_ap, m1_ap, kM1a_ap, kM1b_ap, m0_ap, kM0_ap, sl_ap, kSl1_ap, kSl2_ap, kSl3_ap, noPart_ap, part_ap, kPart_ap, isi_ap, kIsi_ap, set_ap, kSet_ap, own_ap, kOwn_ap, ret_ap, kRet_ap, drop_ap, kDrop_ap, ifS_ap, kIfS_t, kIfS_f, par_ap, kPar_ap, par3_ap, kPar3_ap, rSt_some, unp_ap, kUnp_ap, kName_ap, kTup2_ap, kTup3_ap, for_ap, kFor_ap, raise_ap, app_ap, rApp_ap, ext_ap, rExt_ap, frz_ap, rFrz_o, rFrz_v, six_ap, kSix_ap, rSix_ap, aug_ap, rAug_ap, kAug_ap, ownD_ap, ownD0_ap, kvNil_ap, kvCons_ap, kKv1_ap, kKv2_ap, kKv3_i, kKv3_s, dget_ap, rDG_ap, kDG_i, kDG_s, dset_ap, kDS_ap, rDS_ap, hix_ap, rHix_ap, hGet0, hGet1, hGet2, hGet3, hGet4, hset_ap, kHS_ap, rHS1, rHS2, rHS3, rHS4, fn_ap, fin_ret, fin_nx, fin_err, fAdd_i, fSub_i, fNeg_i, fLt_i, fLe_i, fGt_i, fGe_i, fEq_s, fNe_s, fEq_i, fNe_i, fNe_b, fIx_l, fIx_t, fLen_l, fLen_t, fInt_i, fTuple_l, bnd_ok, dat_ok, List.map_cons, List.map_nil, List.replicate_succ, List.replicate_zero, List.cons_append, List.nil_append, List.length_cons, List.length_nil, List.getElem?_cons_zero, List.getElem?_cons_succ, List.set_cons_zero, List.set_cons_succ, Nat.sub_self, Nat.zero_add, Nat.reduceSub, Nat.reduceAdd, Option.bind_some, Option.map_some, Bool.not_true, Bool.not_false, e1]
  rw [show ((0 + 1 + 1 : Nat) : Int) = 2 from rfl]
  simp -implicitDefEqProofs only [bnd_err, dat_err, outR, outS, seq_nx, seq_ret, seq_brk, seq_ct, seq_err, seq_ap, nx_ap, brk_ap, ofO_some, var_ap, rVar_v, peek_ap, rPeek_v, rPeek_o, c_ap, op1_ap, kOp1_ap, op2_ap, kOp2a_ap, kOp2b_ap, test_ap, kTest_ap, and_ap, kAnd_t, kAnd_f, or_ap, kOr_t, kOr_f, not_ap, kNot_ap, andV_ap, kAndV_t, kAndV_f, orV_ap, kOrV_t, kOrV_f, notV_ap, kNotV_ap, if_ap, kIf_t, kIf_f, chain_ap, kCh1_ap, kCh2_ap, kCh3_t, kCh3_f, nilA_ap, consA_ap, kA1_ap, kA2_ap, nilO_ap, consO_ap, kO1_ap, kO2_ap, call_ap, disp_ap, tup_ap, kDisp_0, kDisp_1, kDisp_2, kDisp_3, kDisp_4, kDisp_5, kTupl_0, kTupl_1, kTupl_2, kTupl_3, cb_ap, kCB_ap, rN_some, cn_ap, kCN_ap, l_ap, kL_ap, lc_ap, items_ap, kIt_l, kIt_t, kIt_s, rng1_ap, rng2_ap, zip_ap, m1_ap, kM1a_ap, kM1b_ap, m0_ap, kM0_ap, sl_ap, kSl1_ap, kSl2_ap, kSl3_ap, noPart_ap, part_ap, kPart_ap, isi_ap, kIsi_ap, set_ap, kSet_ap, own_ap, kOwn_ap, ret_ap, kRet_ap, drop_ap, kDrop_ap, ifS_ap, kIfS_t, kIfS_f, par_ap, kPar_ap, par3_ap, kPar3_ap, rSt_some, unp_ap, kUnp_ap, kName_ap, kTup2_ap, kTup3_ap, for_ap, kFor_ap, raise_ap, app_ap, rApp_ap, ext_ap, rExt_ap, frz_ap, rFrz_o, rFrz_v, six_ap, kSix_ap, rSix_ap, aug_ap, rAug_ap, kAug_ap, ownD_ap, ownD0_ap, kvNil_ap, kvCons_ap, kKv1_ap, kKv2_ap, kKv3_i, kKv3_s, dget_ap, rDG_ap, kDG_i, kDG_s, dset_ap, kDS_ap, rDS_ap, hix_ap, rHix_ap, hGet0, hGet1, hGet2, hGet3, hGet4, hset_ap, kHS_ap, rHS1, rHS2, rHS3, rHS4, fn_ap, fin_ret, fin_nx, fin_err, fAdd_i, fSub_i, fNeg_i, fLt_i, fLe_i, fGt_i, fGe_i, fEq_s, fNe_s, fEq_i, fNe_i, fNe_b, fIx_l, fIx_t, fLen_l, fLen_t, fInt_i, fTuple_l, bnd_ok, dat_ok, List.map_cons, List.map_nil, List.replicate_succ, List.replicate_zero, List.cons_append, List.nil_append, List.length_cons, List.length_nil, List.getElem?_cons_zero, List.getElem?_cons_succ, List.set_cons_zero, List.set_cons_succ, Nat.sub_self, Nat.zero_add, Nat.reduceSub, Nat.reduceAdd, Option.bind_some, Option.map_some, Bool.not_true, Bool.not_false, decide_true, kLc_ap (show [PyData.int p, .int q].length < 1000000 by simp), e2, e3]
theorem check_base_ok (p q : Int) (g : Hand) (h1 : -100 ≤ p) (h2 : p ≤ 100) (h3 : -100 ≤ q) (h4 : q ≤ 100) : m_check_base [.dat (.tuple [.int p, .int q])] g = .ok (.dat .none) g := by
  unfold m_check_base b_check_base
  simp -implicitDefEqProofs only [bnd_err, dat_err, outR, outS, seq_nx, seq_ret, seq_brk, seq_ct, seq_err, seq_ap, nx_ap, brk_ap, ofO_some, var_ap, rVar_v, peek_ap, rPeek_v, rPeek_o, c_ap, op1_ap, kOp1_ap, op2_ap, kOp2a_ap, kOp2b_ap, test_ap, kTest_ap, and_ap, kAnd_t, kAnd_f, or_ap, kOr_t, kOr_f, not_ap, kNot_ap, andV_ap, kAndV_t, kAndV_f, orV_ap, kOrV_t, kOrV_f, notV_ap, kNotV_ap, if_ap, kIf_t, kIf_f, chain_ap, kCh1_ap, kCh2_ap, kCh3_t, kCh3_f, nilA_ap, consA_ap, kA1_ap, kA2_ap, nilO_ap, consO_ap, kO1_ap, kO2_ap, call_ap, disp_ap, tup_ap, kDisp_0, kDisp_1, kDisp_2, kDisp_3, kDisp_4, kDisp_5, kTupl_0, kTupl_1, kTupl_2, kTupl_3, cb_ap, kCB_ap, rN_some, cn_ap, kCN_ap, l_ap, kL_ap, lc_ap, items_ap, kIt_l, kIt_t, kIt_s, rng1_ap, rng2_ap, zip_ap, m1_ap, kM1a_ap, kM1b_ap, m0_ap, kM0_ap, sl_ap, kSl1_ap, kSl2_ap, kSl3_ap, noPart_ap, part_ap, kPart_ap, isi_ap, kIsi_ap, set_ap, kSet_ap, own_ap, kOwn_ap, ret_ap, kRet_ap, drop_ap, kDrop_ap, ifS_ap, kIfS_t, kIfS_f, par_ap, kPar_ap, par3_ap, kPar3_ap, rSt_some, unp_ap, kUnp_ap, kName_ap, kTup2_ap, kTup3_ap, for_ap, kFor_ap, raise_ap, app_ap, rApp_ap, ext_ap, rExt_ap, frz_ap, rFrz_o, rFrz_v, six_ap, kSix_ap, rSix_ap, aug_ap, rAug_ap, kAug_ap, ownD_ap, ownD0_ap, kvNil_ap, kvCons_ap, kKv1_ap, kKv2_ap, kKv3_i, kKv3_s, dget_ap, rDG_ap, kDG_i, kDG_s, dset_ap, kDS_ap, rDS_ap, hix_ap, rHix_ap, hGet0, hGet1, hGet2, hGet3, hGet4, hset_ap, kHS_ap, rHS1, rHS2, rHS3, rHS4, fn_ap, fin_ret, fin_nx, fin_err, fAdd_i, fSub_i, fNeg_i, fLt_i, fLe_i, fGt_i, fGe_i, fEq_s, fNe_s, fEq_i, fNe_i, fNe_b, fIx_l, fIx_t, fLen_l, fLen_t, fInt_i, fTuple_l, bnd_ok, dat_ok, List.map_cons, List.map_nil, List.replicate_succ, List.replicate_zero, List.cons_append, List.nil_append, List.length_cons, List.length_nil, List.getElem?_cons_zero, List.getElem?_cons_succ, List.set_cons_zero, List.set_cons_succ, Nat.sub_self, Nat.zero_add, Nat.reduceSub, Nat.reduceAdd, Option.bind_some, Option.map_some, Bool.not_true, Bool.not_false, is_base_ok p q g h1 h2 h3 h4]

theorem raw_u_eq (p q : Int) (n : Nat) (g : Hand) (hp : small p) (hq : small q) (hn : n < 800) : m_raw_u [.dat (.tuple [.int p, .int q]), .dat (.int n)] g = .ok (.dat (.int (useq p q 0 1 n))) g := by
  have e := row_by_eq p q 0 1 (n + 1) g hp hq (by omega)
  rw [show ((n + 1 : Nat) : Int) = (n : Int) + 1 from rfl] at e
  have a1 : atI (urows p q 0 1 (max 2 (n + 1))) (n : Nat) = some (.int (useq p q 0 1 n)) := atI_nat (urows_at (by omega))
  unfold m_raw_u b_raw_u
  simp -implicitDefEqProofs only [bnd_err, dat_err, outR, outS, seq_nx, seq_ret, seq_brk, seq_ct, seq_err, seq_ap, nx_ap, brk_ap, ofO_some, var_ap, rVar_v, peek_ap, rPeek_v, rPeek_o, c_ap, op1_ap, kOp1_ap, op2_ap, kOp2a_ap, kOp2b_ap, test_ap, kTest_ap, and_ap, kAnd_t, kAnd_f, or_ap, kOr_t, kOr_f, not_ap, kNot_ap, andV_ap, kAndV_t, kAndV_f, orV_ap, kOrV_t, kOrV_f, notV_ap, kNotV_ap, if_ap, kIf_t, kIf_f, chain_ap, kCh1_ap, kCh2_ap, kCh3_t, kCh3_f, nilA_ap, consA_ap, kA1_ap, kA2_ap, nilO_ap, consO_ap, kO1_ap, kO2_ap, call_ap, disp_ap, tup_ap, kDisp_0, kDisp_1, kDisp_2, kDisp_3, kDisp_4, kDisp_5, kTupl_0, kTupl_1, kTupl_2, kTupl_3, cb_ap, kCB_ap, rN_some, cn_ap, kCN_ap, l_ap, kL_ap, lc_ap, items_ap, kIt_l, kIt_t, kIt_s, rng1_ap, rng2_ap, zip_ap, m1_ap, kM1a_ap, kM1b_ap, m0_ap, kM0_ap, sl_ap, kSl1_ap, kSl2_ap, kSl3_ap, noPart_ap, part_ap, kPart_ap, isi_ap, kIsi_ap, set_ap, kSet_ap, own_ap, kOwn_ap, ret_ap, kRet_ap, drop_ap, kDrop_ap, ifS_ap, kIfS_t, kIfS_f, par_ap, kPar_ap, par3_ap, kPar3_ap, rSt_some, unp_ap, kUnp_ap, kName_ap, kTup2_ap, kTup3_ap, for_ap, kFor_ap, raise_ap, app_ap, rApp_ap, ext_ap, rExt_ap, frz_ap, rFrz_o, rFrz_v, six_ap, kSix_ap, rSix_ap, aug_ap, rAug_ap, kAug_ap, ownD_ap, ownD0_ap, kvNil_ap, kvCons_ap, kKv1_ap, kKv2_ap, kKv3_i, kKv3_s, dget_ap, rDG_ap, kDG_i, kDG_s, dset_ap, kDS_ap, rDS_ap, hix_ap, rHix_ap, hGet0, hGet1, hGet2, hGet3, hGet4, hset_ap, kHS_ap, rHS1, rHS2, rHS3, rHS4, fn_ap, fin_ret, fin_nx, fin_err, fAdd_i, fSub_i, fNeg_i, fLt_i, fLe_i, fGt_i, fGe_i, fEq_s, fNe_s, fEq_i, fNe_i, fNe_b, fIx_l, fIx_t, fLen_l, fLen_t, fInt_i, fTuple_l, bnd_ok, dat_ok, List.map_cons, List.map_nil, List.replicate_succ, List.replicate_zero, List.cons_append, List.nil_append, List.length_cons, List.length_nil, List.getElem?_cons_zero, List.getElem?_cons_succ, List.set_cons_zero, List.set_cons_succ, Nat.sub_self, Nat.zero_add, Nat.reduceSub, Nat.reduceAdd, Option.bind_some, Option.map_some, Bool.not_true, Bool.not_false, e, a1]
theorem u_term_eq (p q : Int) (n : Nat) (g : Hand) (h1 : -100 ≤ p) (h2 : p ≤ 100) (h3 : -100 ≤ q) (h4 : q ≤ 100) (hn : n ≤ 400) : m_u_term [.dat (.tuple [.int p, .int q]), .dat (.int n)] g = .ok (.dat (.int (useq p q 0 1 n))) g := by
  unfold m_u_term b_u_term
  simp -implicitDefEqProofs only [bnd_err, dat_err, outR, outS, seq_nx, seq_ret, seq_brk, seq_ct, seq_err, seq_ap, nx_ap, brk_ap, ofO_some, var_ap, rVar_v, peek_ap, rPeek_v, rPeek_o, c_ap, op1_ap, kOp1_ap, op2_ap, kOp2a_ap, kOp2b_ap, test_ap, kTest_ap, and_ap, kAnd_t, kAnd_f, or_ap, kOr_t, kOr_f, not_ap, kNot_ap, andV_ap, kAndV_t, kAndV_f, orV_ap, kOrV_t, kOrV_f, notV_ap, kNotV_ap, if_ap, kIf_t, kIf_f, chain_ap, kCh1_ap, kCh2_ap, kCh3_t, kCh3_f, nilA_ap, consA_ap, kA1_ap, kA2_ap, nilO_ap, consO_ap, kO1_ap, kO2_ap, call_ap, disp_ap, tup_ap, kDisp_0, kDisp_1, kDisp_2, kDisp_3, kDisp_4, kDisp_5, kTupl_0, kTupl_1, kTupl_2, kTupl_3, cb_ap, kCB_ap, rN_some, cn_ap, kCN_ap, l_ap, kL_ap, lc_ap, items_ap, kIt_l, kIt_t, kIt_s, rng1_ap, rng2_ap, zip_ap, m1_ap, kM1a_ap, kM1b_ap, m0_ap, kM0_ap, sl_ap, kSl1_ap, kSl2_ap, kSl3_ap, noPart_ap, part_ap, kPart_ap, isi_ap, kIsi_ap, set_ap, kSet_ap, own_ap, kOwn_ap, ret_ap, kRet_ap, drop_ap, kDrop_ap, ifS_ap, kIfS_t, kIfS_f, par_ap, kPar_ap, par3_ap, kPar3_ap, rSt_some, unp_ap, kUnp_ap, kName_ap, kTup2_ap, kTup3_ap, for_ap, kFor_ap, raise_ap, app_ap, rApp_ap, ext_ap, rExt_ap, frz_ap, rFrz_o, rFrz_v, six_ap, kSix_ap, rSix_ap, aug_ap, rAug_ap, kAug_ap, ownD_ap, ownD0_ap, kvNil_ap, kvCons_ap, kKv1_ap, kKv2_ap, kKv3_i, kKv3_s, dget_ap, rDG_ap, kDG_i, kDG_s, dset_ap, kDS_ap, rDS_ap, hix_ap, rHix_ap, hGet0, hGet1, hGet2, hGet3, hGet4, hset_ap, kHS_ap, rHS1, rHS2, rHS3, rHS4, fn_ap, fin_ret, fin_nx, fin_err, fAdd_i, fSub_i, fNeg_i, fLt_i, fLe_i, fGt_i, fGe_i, fEq_s, fNe_s, fEq_i, fNe_i, fNe_b, fIx_l, fIx_t, fLen_l, fLen_t, fInt_i, fTuple_l, bnd_ok, dat_ok, List.map_cons, List.map_nil, List.replicate_succ, List.replicate_zero, List.cons_append, List.nil_append, List.length_cons, List.length_nil, List.getElem?_cons_zero, List.getElem?_cons_succ, List.set_cons_zero, List.set_cons_succ, Nat.sub_self, Nat.zero_add, Nat.reduceSub, Nat.reduceAdd, Option.bind_some, Option.map_some, Bool.not_true, Bool.not_false, check_base_ok p q g h1 h2 h3 h4, check_number_ok (n : Nat) 0 400 g (by omega) (by omega), raw_u_eq p q n g (small100 h1 h2) (small100 h3 h4) (by omega)]

theorem useq_bound {p q : Int} (h1 : -100 ≤ p) (h2 : p ≤ 100) (h3 : -100 ≤ q) (h4 : q ≤ 100) : ∀ n : Nat, (useq p q 0 1 n).natAbs ≤ 201 ^ n
  | 0 => by show (0 : Int).natAbs ≤ _; simp
  | 1 => by show (1 : Int).natAbs ≤ _; simp
  | n + 2 => by
    have i1 := useq_bound h1 h2 h3 h4 n
    have i2 := useq_bound h1 h2 h3 h4 (n + 1)
    show (p * useq p q 0 1 (n + 1) - q * useq p q 0 1 n).natAbs ≤ _
    have a1 : (p * useq p q 0 1 (n + 1)).natAbs ≤ 100 * 201 ^ (n + 1) := by
      rw [Int.natAbs_mul]; exact Nat.mul_le_mul (by omega) i2
    have a2 : (q * useq p q 0 1 n).natAbs ≤ 100 * 201 ^ n := by
      rw [Int.natAbs_mul]; exact Nat.mul_le_mul (by omega) i1
    have e1 : 201 ^ (n + 1) = 201 * 201 ^ n := by rw [Nat.pow_succ]; omega
    have e2 : 201 ^ (n + 2) = 201 * 201 ^ (n + 1) := by rw [Nat.pow_succ]; omega
    omega
theorem mulOk_big {x y : Int} {j k : Nat} (hx : x.natAbs < 2 ^ j) (hy : y.natAbs < 2 ^ k) (hj : 0 < j) (hk : 0 < k) (h : j + k ≤ 1000000) : mulOk x y = true := by
  unfold mulOk
  rw [Bool.or_eq_true, decide_eq_true_eq]
  right
  have := log2_small hx hj
  have := log2_small hy hk
  omega
theorem pow201 (n : Nat) : 201 ^ n < 2 ^ (8 * n + 1) := by
  have : (201 : Nat) ^ n ≤ (2 ^ 8) ^ n := Nat.pow_le_pow_left (by decide) n
  rw [← Nat.pow_mul] at this
  have e : 2 ^ (8 * n + 1) = 2 * 2 ^ (8 * n) := by rw [Nat.pow_succ]; omega
  have : 0 < 2 ^ (8 * n) := Nat.pow_pos (by decide)
  omega
theorem useq_mul {p q : Int} {m n : Nat} (h1 : -100 ≤ p) (h2 : p ≤ 100) (h3 : -100 ≤ q) (h4 : q ≤ 100) (hm : m ≤ 1000) (hn : n ≤ 1000) : fMul (.int (useq p q 0 1 m)) (.int (useq p q 0 1 n)) = some (.int (useq p q 0 1 m * useq p q 0 1 n)) :=
  fMul_i (mulOk_big (Nat.lt_of_le_of_lt (useq_bound h1 h2 h3 h4 m) (pow201 m)) (Nat.lt_of_le_of_lt (useq_bound h1 h2 h3 h4 n) (pow201 n)) (by omega) (by omega) (by omega))
/-- the row, two places put together -/
theorem useq_add (p q : Int) (m : Nat) : ∀ k : Nat, useq p q 0 1 (m + k + 1) = useq p q 0 1 (m + 1) * useq p q 0 1 (k + 1) - q * useq p q 0 1 m * useq p q 0 1 k
  | 0 => by
    show useq p q 0 1 (m + 1) = useq p q 0 1 (m + 1) * 1 - q * useq p q 0 1 m * 0
    omega
  | 1 => by
    show p * useq p q 0 1 (m + 1) - q * useq p q 0 1 m = useq p q 0 1 (m + 1) * (p * 1 - q * 0) - q * useq p q 0 1 m * 1
    grind
  | k + 2 => by
    have i1 := useq_add p q m k
    have i2 := useq_add p q m (k + 1)
    have e1 : useq p q 0 1 (m + (k + 2) + 1) = p * useq p q 0 1 (m + (k + 1) + 1) - q * useq p q 0 1 (m + k + 1) := rfl
    have e2 : useq p q 0 1 (k + 2 + 1) = p * useq p q 0 1 (k + 1 + 1) - q * useq p q 0 1 (k + 1) := rfl
    have e3 : useq p q 0 1 (k + 2) = p * useq p q 0 1 (k + 1) - q * useq p q 0 1 k := rfl
    rw [e1, i1, i2, e2, e3]
    show _ = useq p q 0 1 (m + 1) * (p * useq p q 0 1 (k + 2) - q * useq p q 0 1 (k + 1)) - _
    have e4 : useq p q 0 1 (k + 1 + 1) = useq p q 0 1 (k + 2) := rfl
    rw [e4]
    rw [e3]
    grind

/-! weights -/
def wt (p q : Int) : List Nat → Int
  | [] => 1
  | c :: cs => (if c = 115 then p else -q) * wt p q cs
theorem wt_app (p q : Int) (a b : List Nat) : wt p q (a ++ b) = wt p q a * wt p q b := by
  induction a with
  | nil => show wt p q b = 1 * _; rw [Int.one_mul]
  | cons c a ih => show _ * wt p q (a ++ b) = _ * wt p q a * _; rw [ih, Int.mul_assoc]
theorem wt_pow (p q : Int) (cs : List Nat) : wt p q cs = p ^ (cs.count 115) * (-q) ^ (cs.length - cs.count 115) := by
  induction cs with
  | nil =>
    show (1 : Int) = p ^ 0 * (-q) ^ 0
    rw [Int.pow_zero, Int.pow_zero]; rfl
  | cons c cs ih =>
    have hl : cs.count 115 ≤ cs.length := List.count_le_length
    show (if c = 115 then p else -q) * wt p q cs = _
    rw [ih]
    by_cases h : c = 115
    · subst h
      rw [if_pos rfl, List.count_cons_self, List.length_cons, show cs.length + 1 - (cs.count 115 + 1) = cs.length - cs.count 115 by omega, Int.pow_succ]
      grind
    · rw [if_neg h, List.count_cons_of_ne h, List.length_cons, show cs.length + 1 - cs.count 115 = cs.length - cs.count 115 + 1 by omega, Int.pow_succ]
      grind
theorem raw_power_eq (x : Int) (n : Nat) (g : Hand) (hx : small x) (hn : n ≤ 1000000) : m_raw_power [.dat (.int x), .dat (.int n)] g = .ok (.dat (.int (x ^ n))) g := by
  unfold m_raw_power b_raw_power
  simp -implicitDefEqProofs only [bnd_err, dat_err, outR, outS, seq_nx, seq_ret, seq_brk, seq_ct, seq_err, seq_ap, nx_ap, brk_ap, ofO_some, var_ap, rVar_v, peek_ap, rPeek_v, rPeek_o, c_ap, op1_ap, kOp1_ap, op2_ap, kOp2a_ap, kOp2b_ap, test_ap, kTest_ap, and_ap, kAnd_t, kAnd_f, or_ap, kOr_t, kOr_f, not_ap, kNot_ap, andV_ap, kAndV_t, kAndV_f, orV_ap, kOrV_t, kOrV_f, notV_ap, kNotV_ap, if_ap, kIf_t, kIf_f, chain_ap, kCh1_ap, kCh2_ap, kCh3_t, kCh3_f, nilA_ap, consA_ap, kA1_ap, kA2_ap, nilO_ap, consO_ap, kO1_ap, kO2_ap, call_ap, disp_ap, tup_ap, kDisp_0, kDisp_1, kDisp_2, kDisp_3, kDisp_4, kDisp_5, kTupl_0, kTupl_1, kTupl_2, kTupl_3, cb_ap, kCB_ap, rN_some, cn_ap, kCN_ap, l_ap, kL_ap, lc_ap, items_ap, kIt_l, kIt_t, kIt_s, rng1_ap, rng2_ap, zip_ap, m1_ap, kM1a_ap, kM1b_ap, m0_ap, kM0_ap, sl_ap, kSl1_ap, kSl2_ap, kSl3_ap, noPart_ap, part_ap, kPart_ap, isi_ap, kIsi_ap, set_ap, kSet_ap, own_ap, kOwn_ap, ret_ap, kRet_ap, drop_ap, kDrop_ap, ifS_ap, kIfS_t, kIfS_f, par_ap, kPar_ap, par3_ap, kPar3_ap, rSt_some, unp_ap, kUnp_ap, kName_ap, kTup2_ap, kTup3_ap, for_ap, kFor_ap, raise_ap, app_ap, rApp_ap, ext_ap, rExt_ap, frz_ap, rFrz_o, rFrz_v, six_ap, kSix_ap, rSix_ap, aug_ap, rAug_ap, kAug_ap, ownD_ap, ownD0_ap, kvNil_ap, kvCons_ap, kKv1_ap, kKv2_ap, kKv3_i, kKv3_s, dget_ap, rDG_ap, kDG_i, kDG_s, dset_ap, kDS_ap, rDS_ap, hix_ap, rHix_ap, hGet0, hGet1, hGet2, hGet3, hGet4, hset_ap, kHS_ap, rHS1, rHS2, rHS3, rHS4, fn_ap, fin_ret, fin_nx, fin_err, fAdd_i, fSub_i, fNeg_i, fLt_i, fLe_i, fGt_i, fGe_i, fEq_s, fNe_s, fEq_i, fNe_i, fNe_b, fIx_l, fIx_t, fLen_l, fLen_t, fInt_i, fTuple_l, bnd_ok, dat_ok, List.map_cons, List.map_nil, List.replicate_succ, List.replicate_zero, List.cons_append, List.nil_append, List.length_cons, List.length_nil, List.getElem?_cons_zero, List.getElem?_cons_succ, List.set_cons_zero, List.set_cons_succ, Nat.sub_self, Nat.zero_add, Nat.reduceSub, Nat.reduceAdd, Option.bind_some, Option.map_some, Bool.not_true, Bool.not_false, kR1_ap (r62_of (show -1000000000 ≤ (n : Int) by omega) (by omega)), Int.toNat_natCast]
  refine forL_P (P := fun r => fin (r.seq _) = _) (fun i e g' => ∃ y, e = [.val (.dat (.int x)), .val (.dat (.int n)), .val (.dat (.int (x ^ i))), y] ∧ g' = g) ⟨_, by rw [Int.pow_zero], rfl⟩ ?_ ?_
  · rintro i d e g' hd ⟨y, rfl, rfl⟩
    have f1 : fMul (.int (x ^ i)) (.int x) = some (.int (x ^ (i + 1))) := by
      rw [fMul_i (mulOk_r hx.1 hx.2), Int.pow_succ]
    refine ⟨_, _, _, rfl, .inl ?_, .val (.dat d), rfl, rfl⟩
    simp -implicitDefEqProofs only [bnd_err, dat_err, outR, outS, seq_nx, seq_ret, seq_brk, seq_ct, seq_err, seq_ap, nx_ap, brk_ap, ofO_some, var_ap, rVar_v, peek_ap, rPeek_v, rPeek_o, c_ap, op1_ap, kOp1_ap, op2_ap, kOp2a_ap, kOp2b_ap, test_ap, kTest_ap, and_ap, kAnd_t, kAnd_f, or_ap, kOr_t, kOr_f, not_ap, kNot_ap, andV_ap, kAndV_t, kAndV_f, orV_ap, kOrV_t, kOrV_f, notV_ap, kNotV_ap, if_ap, kIf_t, kIf_f, chain_ap, kCh1_ap, kCh2_ap, kCh3_t, kCh3_f, nilA_ap, consA_ap, kA1_ap, kA2_ap, nilO_ap, consO_ap, kO1_ap, kO2_ap, call_ap, disp_ap, tup_ap, kDisp_0, kDisp_1, kDisp_2, kDisp_3, kDisp_4, kDisp_5, kTupl_0, kTupl_1, kTupl_2, kTupl_3, cb_ap, kCB_ap, rN_some, cn_ap, kCN_ap, l_ap, kL_ap, lc_ap, items_ap, kIt_l, kIt_t, kIt_s, rng1_ap, rng2_ap, zip_ap, m1_ap, kM1a_ap, kM1b_ap, m0_ap, kM0_ap, sl_ap, kSl1_ap, kSl2_ap, kSl3_ap, noPart_ap, part_ap, kPart_ap, isi_ap, kIsi_ap, set_ap, kSet_ap, own_ap, kOwn_ap, ret_ap, kRet_ap, drop_ap, kDrop_ap, ifS_ap, kIfS_t, kIfS_f, par_ap, kPar_ap, par3_ap, kPar3_ap, rSt_some, unp_ap, kUnp_ap, kName_ap, kTup2_ap, kTup3_ap, for_ap, kFor_ap, raise_ap, app_ap, rApp_ap, ext_ap, rExt_ap, frz_ap, rFrz_o, rFrz_v, six_ap, kSix_ap, rSix_ap, aug_ap, rAug_ap, kAug_ap, ownD_ap, ownD0_ap, kvNil_ap, kvCons_ap, kKv1_ap, kKv2_ap, kKv3_i, kKv3_s, dget_ap, rDG_ap, kDG_i, kDG_s, dset_ap, kDS_ap, rDS_ap, hix_ap, rHix_ap, hGet0, hGet1, hGet2, hGet3, hGet4, hset_ap, kHS_ap, rHS1, rHS2, rHS3, rHS4, fn_ap, fin_ret, fin_nx, fin_err, fAdd_i, fSub_i, fNeg_i, fLt_i, fLe_i, fGt_i, fGe_i, fEq_s, fNe_s, fEq_i, fNe_i, fNe_b, fIx_l, fIx_t, fLen_l, fLen_t, fInt_i, fTuple_l, bnd_ok, dat_ok, List.map_cons, List.map_nil, List.replicate_succ, List.replicate_zero, List.cons_append, List.nil_append, List.length_cons, List.length_nil, List.getElem?_cons_zero, List.getElem?_cons_succ, List.set_cons_zero, List.set_cons_succ, Nat.sub_self, Nat.zero_add, Nat.reduceSub, Nat.reduceAdd, Option.bind_some, Option.map_some, Bool.not_true, Bool.not_false, f1]
  · rintro e g' ⟨y, rfl, rfl⟩
    rw [range_len]
    simp -implicitDefEqProofs only [bnd_err, dat_err, outR, outS, seq_nx, seq_ret, seq_brk, seq_ct, seq_err, seq_ap, nx_ap, brk_ap, ofO_some, var_ap, rVar_v, peek_ap, rPeek_v, rPeek_o, c_ap, op1_ap, kOp1_ap, op2_ap, kOp2a_ap, kOp2b_ap, test_ap, kTest_ap, and_ap, kAnd_t, kAnd_f, or_ap, kOr_t, kOr_f, not_ap, kNot_ap, andV_ap, kAndV_t, kAndV_f, orV_ap, kOrV_t, kOrV_f, notV_ap, kNotV_ap, if_ap, kIf_t, kIf_f, chain_ap, kCh1_ap, kCh2_ap, kCh3_t, kCh3_f, nilA_ap, consA_ap, kA1_ap, kA2_ap, nilO_ap, consO_ap, kO1_ap, kO2_ap, call_ap, disp_ap, tup_ap, kDisp_0, kDisp_1, kDisp_2, kDisp_3, kDisp_4, kDisp_5, kTupl_0, kTupl_1, kTupl_2, kTupl_3, cb_ap, kCB_ap, rN_some, cn_ap, kCN_ap, l_ap, kL_ap, lc_ap, items_ap, kIt_l, kIt_t, kIt_s, rng1_ap, rng2_ap, zip_ap, m1_ap, kM1a_ap, kM1b_ap, m0_ap, kM0_ap, sl_ap, kSl1_ap, kSl2_ap, kSl3_ap, noPart_ap, part_ap, kPart_ap, isi_ap, kIsi_ap, set_ap, kSet_ap, own_ap, kOwn_ap, ret_ap, kRet_ap, drop_ap, kDrop_ap, ifS_ap, kIfS_t, kIfS_f, par_ap, kPar_ap, par3_ap, kPar3_ap, rSt_some, unp_ap, kUnp_ap, kName_ap, kTup2_ap, kTup3_ap, for_ap, kFor_ap, raise_ap, app_ap, rApp_ap, ext_ap, rExt_ap, frz_ap, rFrz_o, rFrz_v, six_ap, kSix_ap, rSix_ap, aug_ap, rAug_ap, kAug_ap, ownD_ap, ownD0_ap, kvNil_ap, kvCons_ap, kKv1_ap, kKv2_ap, kKv3_i, kKv3_s, dget_ap, rDG_ap, kDG_i, kDG_s, dset_ap, kDS_ap, rDS_ap, hix_ap, rHix_ap, hGet0, hGet1, hGet2, hGet3, hGet4, hset_ap, kHS_ap, rHS1, rHS2, rHS3, rHS4, fn_ap, fin_ret, fin_nx, fin_err, fAdd_i, fSub_i, fNeg_i, fLt_i, fLe_i, fGt_i, fGe_i, fEq_s, fNe_s, fEq_i, fNe_i, fNe_b, fIx_l, fIx_t, fLen_l, fLen_t, fInt_i, fTuple_l, bnd_ok, dat_ok, List.map_cons, List.map_nil, List.replicate_succ, List.replicate_zero, List.cons_append, List.nil_append, List.length_cons, List.length_nil, List.getElem?_cons_zero, List.getElem?_cons_succ, List.set_cons_zero, List.set_cons_succ, Nat.sub_self, Nat.zero_add, Nat.reduceSub, Nat.reduceAdd, Option.bind_some, Option.map_some, Bool.not_true, Bool.not_false]
theorem pow_bound {x : Int} (h : x.natAbs ≤ 100) (n : Nat) : (x ^ n).natAbs < 2 ^ (7 * n + 1) := by
  have h1 : (x ^ n).natAbs = x.natAbs ^ n := Int.natAbs_pow x n
  have h2 : x.natAbs ^ n ≤ (2 ^ 7) ^ n := Nat.pow_le_pow_left (by omega) n
  rw [← Nat.pow_mul] at h2
  have e : 2 ^ (7 * n + 1) = 2 * 2 ^ (7 * n) := by rw [Nat.pow_succ]; omega
  have : 0 < 2 ^ (7 * n) := Nat.pow_pos (by decide)
  omega
theorem raw_weight_eq (p q : Int) (cs : List Nat) (g : Hand) (h1 : -100 ≤ p) (h2 : p ≤ 100) (h3 : -100 ≤ q) (h4 : q ≤ 100) (hl : cs.length ≤ 10000) :
    m_raw_weight [.dat (.tuple [.int p, .int q]), .dat (.str (S cs))] g = .ok (.dat (.int (wt p q cs))) g := by
  have hc : cs.count 115 ≤ cs.length := List.count_le_length
  have e1 : fCount (S cs) (.str "s") = some (.int (cs.count 115 : Nat)) := by
    show some (PyData.int (Txt.count (S cs) "s")) = _
    rw [lit_s, count_S]
  have e2 : fLen [.str (S cs)] = some (.int cs.length) := by
    show (if (S cs).length ≤ 1000000 then some (PyData.int (S cs).length) else none) = _
    rw [S_len, if_pos (by omega)]
  have x0 : atI [PyData.int p, .int q] 0 = some (.int p) := rfl
  have x1 : atI [PyData.int p, .int q] 1 = some (.int q) := rfl
  have e3 := raw_power_eq p (cs.count 115) g (small100 h1 h2) (by omega)
  have e4 := raw_power_eq (-q) (cs.length - cs.count 115) g (small100 (by omega) (by omega)) (by omega)
  rw [show ((cs.length - cs.count 115 : Nat) : Int) = (cs.length : Int) - (cs.count 115 : Nat) by omega] at e4
  have e5 : fMul (.int (p ^ cs.count 115)) (.int ((-q) ^ (cs.length - cs.count 115))) = some (.int (wt p q cs)) := by
    rw [fMul_i (mulOk_big (pow_bound (by omega) _) (pow_bound (by omega) _) (by omega) (by omega) (by omega)), wt_pow]
  unfold m_raw_weight b_raw_weight
  simp -implicitDefEqProofs only [bnd_err, dat_err, outR, outS, seq_nx, seq_ret, seq_brk, seq_ct, seq_err, seq_ap, nx_ap, brk_ap, ofO_some, var_ap, rVar_v, peek_ap, rPeek_v, rPeek_o, c_ap, op1_ap, kOp1_ap, op2_ap, kOp2a_ap, kOp2b_ap, test_ap, kTest_ap, and_ap, kAnd_t, kAnd_f, or_ap, kOr_t, kOr_f, not_ap, kNot_ap, andV_ap, kAndV_t, kAndV_f, orV_ap, kOrV_t, kOrV_f, notV_ap, kNotV_ap, if_ap, kIf_t, kIf_f, chain_ap, kCh1_ap, kCh2_ap, kCh3_t, kCh3_f, nilA_ap, consA_ap, kA1_ap, kA2_ap, nilO_ap, consO_ap, kO1_ap, kO2_ap, call_ap, disp_ap, tup_ap, kDisp_0, kDisp_1, kDisp_2, kDisp_3, kDisp_4, kDisp_5, kTupl_0, kTupl_1, kTupl_2, kTupl_3, cb_ap, kCB_ap, rN_some, cn_ap, kCN_ap, l_ap, kL_ap, lc_ap, items_ap, kIt_l, kIt_t, kIt_s, rng1_ap, rng2_ap, zip_ap, m1_ap, kM1a_ap, kM1b_ap, m0_ap, kM0_ap, sl_ap, kSl1_ap, kSl2_ap, kSl3_ap, noPart_ap, part_ap, kPart_ap, isi_ap, kIsi_ap, set_ap, kSet_ap, own_ap, kOwn_ap, ret_ap, kRet_ap, drop_ap, kDrop_ap, ifS_ap, kIfS_t, kIfS_f, par_ap, kPar_ap, par3_ap, kPar3_ap, rSt_some, unp_ap, kUnp_ap, kName_ap, kTup2_ap, kTup3_ap, for_ap, kFor_ap, raise_ap, app_ap, rApp_ap, ext_ap, rExt_ap, frz_ap, rFrz_o, rFrz_v, six_ap, kSix_ap, rSix_ap, aug_ap, rAug_ap, kAug_ap, ownD_ap, ownD0_ap, kvNil_ap, kvCons_ap, kKv1_ap, kKv2_ap, kKv3_i, kKv3_s, dget_ap, rDG_ap, kDG_i, kDG_s, dset_ap, kDS_ap, rDS_ap, hix_ap, rHix_ap, hGet0, hGet1, hGet2, hGet3, hGet4, hset_ap, kHS_ap, rHS1, rHS2, rHS3, rHS4, fn_ap, fin_ret, fin_nx, fin_err, fAdd_i, fSub_i, fNeg_i, fLt_i, fLe_i, fGt_i, fGe_i, fEq_s, fNe_s, fEq_i, fNe_i, fNe_b, fIx_l, fIx_t, fLen_l, fLen_t, fInt_i, fTuple_l, bnd_ok, dat_ok, List.map_cons, List.map_nil, List.replicate_succ, List.replicate_zero, List.cons_append, List.nil_append, List.length_cons, List.length_nil, List.getElem?_cons_zero, List.getElem?_cons_succ, List.set_cons_zero, List.set_cons_succ, Nat.sub_self, Nat.zero_add, Nat.reduceSub, Nat.reduceAdd, Option.bind_some, Option.map_some, Bool.not_true, Bool.not_false, e1, e2, x0, x1, e3, e4, e5]
theorem law_weight_eq (p q : Int) (cs : List Nat) (g : Hand) (h1 : -100 ≤ p) (h2 : p ≤ 100) (h3 : -100 ≤ q) (h4 : q ≤ 100) :
    m__law_weight [.dat (.tuple [.int p, .int q]), .dat (.str (S cs))] g = .ok (.dat (.int (wt p q cs))) g := by
  have x0 : atI [PyData.int p, .int q] 0 = some (.int p) := rfl
  have x1 : atI [PyData.int p, .int q] 1 = some (.int q) := rfl
  unfold m__law_weight b__law_weight
  simp -implicitDefEqProofs only [bnd_err, dat_err, outR, outS, seq_nx, seq_ret, seq_brk, seq_ct, seq_err, seq_ap, nx_ap, brk_ap, ofO_some, var_ap, rVar_v, peek_ap, rPeek_v, rPeek_o, c_ap, op1_ap, kOp1_ap, op2_ap, kOp2a_ap, kOp2b_ap, test_ap, kTest_ap, and_ap, kAnd_t, kAnd_f, or_ap, kOr_t, kOr_f, not_ap, kNot_ap, andV_ap, kAndV_t, kAndV_f, orV_ap, kOrV_t, kOrV_f, notV_ap, kNotV_ap, if_ap, kIf_t, kIf_f, chain_ap, kCh1_ap, kCh2_ap, kCh3_t, kCh3_f, nilA_ap, consA_ap, kA1_ap, kA2_ap, nilO_ap, consO_ap, kO1_ap, kO2_ap, call_ap, disp_ap, tup_ap, kDisp_0, kDisp_1, kDisp_2, kDisp_3, kDisp_4, kDisp_5, kTupl_0, kTupl_1, kTupl_2, kTupl_3, cb_ap, kCB_ap, rN_some, cn_ap, kCN_ap, l_ap, kL_ap, lc_ap, items_ap, kIt_l, kIt_t, kIt_s, rng1_ap, rng2_ap, zip_ap, m1_ap, kM1a_ap, kM1b_ap, m0_ap, kM0_ap, sl_ap, kSl1_ap, kSl2_ap, kSl3_ap, noPart_ap, part_ap, kPart_ap, isi_ap, kIsi_ap, set_ap, kSet_ap, own_ap, kOwn_ap, ret_ap, kRet_ap, drop_ap, kDrop_ap, ifS_ap, kIfS_t, kIfS_f, par_ap, kPar_ap, par3_ap, kPar3_ap, rSt_some, unp_ap, kUnp_ap, kName_ap, kTup2_ap, kTup3_ap, for_ap, kFor_ap, raise_ap, app_ap, rApp_ap, ext_ap, rExt_ap, frz_ap, rFrz_o, rFrz_v, six_ap, kSix_ap, rSix_ap, aug_ap, rAug_ap, kAug_ap, ownD_ap, ownD0_ap, kvNil_ap, kvCons_ap, kKv1_ap, kKv2_ap, kKv3_i, kKv3_s, dget_ap, rDG_ap, kDG_i, kDG_s, dset_ap, kDS_ap, rDS_ap, hix_ap, rHix_ap, hGet0, hGet1, hGet2, hGet3, hGet4, hset_ap, kHS_ap, rHS1, rHS2, rHS3, rHS4, fn_ap, fin_ret, fin_nx, fin_err, fAdd_i, fSub_i, fNeg_i, fLt_i, fLe_i, fGt_i, fGe_i, fEq_s, fNe_s, fEq_i, fNe_i, fNe_b, fIx_l, fIx_t, fLen_l, fLen_t, fInt_i, fTuple_l, bnd_ok, dat_ok, List.map_cons, List.map_nil, List.replicate_succ, List.replicate_zero, List.cons_append, List.nil_append, List.length_cons, List.length_nil, List.getElem?_cons_zero, List.getElem?_cons_succ, List.set_cons_zero, List.set_cons_succ, Nat.sub_self, Nat.zero_add, Nat.reduceSub, Nat.reduceAdd, Option.bind_some, Option.map_some, Bool.not_true, Bool.not_false, S_list]
  rw [show (cs.map fun c => PyData.str ⟨#[c]⟩) = sgs cs from rfl]
  refine forL_P (P := fun r => fin (r.seq _) = _) (fun i e g' => ∃ y, e = [.val (.dat (.tuple [.int p, .int q])), .val (.dat (.str (S cs))), .val (.dat (.int (wt p q (cs.take i)))), y] ∧ g' = g) ⟨_, rfl, rfl⟩ ?_ ?_
  · rintro i d e g' hd ⟨y, rfl, rfl⟩
    obtain ⟨c, hc, rfl⟩ : ∃ c, cs[i]? = some c ∧ d = .str ⟨#[c]⟩ := by
      unfold sgs at hd
      rw [List.getElem?_map] at hd
      obtain ⟨c, h1, h2⟩ := Option.map_eq_some_iff.mp hd
      exact ⟨c, h1, h2.symm⟩
    have n1 : wt p q (cs.take (i + 1)) = wt p q (cs.take i) * (if c = 115 then p else -q) := by
      rw [List.take_add_one, hc]
      show wt p q (cs.take i ++ [c]) = _
      rw [wt_app]
      show _ * ((if c = 115 then p else -q) * 1) = _
      rw [Int.mul_one]
    refine ⟨_, [.val (.dat (.tuple [.int p, .int q])), .val (.dat (.str (S cs))), .val (.dat (.int (wt p q (cs.take (i + 1))))), .val (.dat (.str ⟨#[c]⟩))], _, rfl, .inl ?_, _, rfl, rfl⟩
    by_cases h : c = 115
    · rw [if_pos h] at n1
      have f1 : fMul (.int (wt p q (cs.take i))) (.int p) = some (.int (wt p q (cs.take (i + 1)))) := by rw [fMul_i (mulOk_r (by omega) (by omega)), n1]
      simp -implicitDefEqProofs only [bnd_err, dat_err, outR, outS, seq_nx, seq_ret, seq_brk, seq_ct, seq_err, seq_ap, nx_ap, brk_ap, ofO_some, var_ap, rVar_v, peek_ap, rPeek_v, rPeek_o, c_ap, op1_ap, kOp1_ap, op2_ap, kOp2a_ap, kOp2b_ap, test_ap, kTest_ap, and_ap, kAnd_t, kAnd_f, or_ap, kOr_t, kOr_f, not_ap, kNot_ap, andV_ap, kAndV_t, kAndV_f, orV_ap, kOrV_t, kOrV_f, notV_ap, kNotV_ap, if_ap, kIf_t, kIf_f, chain_ap, kCh1_ap, kCh2_ap, kCh3_t, kCh3_f, nilA_ap, consA_ap, kA1_ap, kA2_ap, nilO_ap, consO_ap, kO1_ap, kO2_ap, call_ap, disp_ap, tup_ap, kDisp_0, kDisp_1, kDisp_2, kDisp_3, kDisp_4, kDisp_5, kTupl_0, kTupl_1, kTupl_2, kTupl_3, cb_ap, kCB_ap, rN_some, cn_ap, kCN_ap, l_ap, kL_ap, lc_ap, items_ap, kIt_l, kIt_t, kIt_s, rng1_ap, rng2_ap, zip_ap, m1_ap, kM1a_ap, kM1b_ap, m0_ap, kM0_ap, sl_ap, kSl1_ap, kSl2_ap, kSl3_ap, noPart_ap, part_ap, kPart_ap, isi_ap, kIsi_ap, set_ap, kSet_ap, own_ap, kOwn_ap, ret_ap, kRet_ap, drop_ap, kDrop_ap, ifS_ap, kIfS_t, kIfS_f, par_ap, kPar_ap, par3_ap, kPar3_ap, rSt_some, unp_ap, kUnp_ap, kName_ap, kTup2_ap, kTup3_ap, for_ap, kFor_ap, raise_ap, app_ap, rApp_ap, ext_ap, rExt_ap, frz_ap, rFrz_o, rFrz_v, six_ap, kSix_ap, rSix_ap, aug_ap, rAug_ap, kAug_ap, ownD_ap, ownD0_ap, kvNil_ap, kvCons_ap, kKv1_ap, kKv2_ap, kKv3_i, kKv3_s, dget_ap, rDG_ap, kDG_i, kDG_s, dset_ap, kDS_ap, rDS_ap, hix_ap, rHix_ap, hGet0, hGet1, hGet2, hGet3, hGet4, hset_ap, kHS_ap, rHS1, rHS2, rHS3, rHS4, fn_ap, fin_ret, fin_nx, fin_err, fAdd_i, fSub_i, fNeg_i, fLt_i, fLe_i, fGt_i, fGe_i, fEq_s, fNe_s, fEq_i, fNe_i, fNe_b, fIx_l, fIx_t, fLen_l, fLen_t, fInt_i, fTuple_l, bnd_ok, dat_ok, List.map_cons, List.map_nil, List.replicate_succ, List.replicate_zero, List.cons_append, List.nil_append, List.length_cons, List.length_nil, List.getElem?_cons_zero, List.getElem?_cons_succ, List.set_cons_zero, List.set_cons_succ, Nat.sub_self, Nat.zero_add, Nat.reduceSub, Nat.reduceAdd, Option.bind_some, Option.map_some, Bool.not_true, Bool.not_false, sg_s, decide_eq_true h, x0, f1]
    · rw [if_neg h] at n1
      have f1 : fMul (.int (wt p q (cs.take i))) (.int (0 - q)) = some (.int (wt p q (cs.take (i + 1)))) := by rw [fMul_i (mulOk_r (by omega) (by omega)), n1, show 0 - q = -q by omega]
      simp -implicitDefEqProofs only [bnd_err, dat_err, outR, outS, seq_nx, seq_ret, seq_brk, seq_ct, seq_err, seq_ap, nx_ap, brk_ap, ofO_some, var_ap, rVar_v, peek_ap, rPeek_v, rPeek_o, c_ap, op1_ap, kOp1_ap, op2_ap, kOp2a_ap, kOp2b_ap, test_ap, kTest_ap, and_ap, kAnd_t, kAnd_f, or_ap, kOr_t, kOr_f, not_ap, kNot_ap, andV_ap, kAndV_t, kAndV_f, orV_ap, kOrV_t, kOrV_f, notV_ap, kNotV_ap, if_ap, kIf_t, kIf_f, chain_ap, kCh1_ap, kCh2_ap, kCh3_t, kCh3_f, nilA_ap, consA_ap, kA1_ap, kA2_ap, nilO_ap, consO_ap, kO1_ap, kO2_ap, call_ap, disp_ap, tup_ap, kDisp_0, kDisp_1, kDisp_2, kDisp_3, kDisp_4, kDisp_5, kTupl_0, kTupl_1, kTupl_2, kTupl_3, cb_ap, kCB_ap, rN_some, cn_ap, kCN_ap, l_ap, kL_ap, lc_ap, items_ap, kIt_l, kIt_t, kIt_s, rng1_ap, rng2_ap, zip_ap, m1_ap, kM1a_ap, kM1b_ap, m0_ap, kM0_ap, sl_ap, kSl1_ap, kSl2_ap, kSl3_ap, noPart_ap, part_ap, kPart_ap, isi_ap, kIsi_ap, set_ap, kSet_ap, own_ap, kOwn_ap, ret_ap, kRet_ap, drop_ap, kDrop_ap, ifS_ap, kIfS_t, kIfS_f, par_ap, kPar_ap, par3_ap, kPar3_ap, rSt_some, unp_ap, kUnp_ap, kName_ap, kTup2_ap, kTup3_ap, for_ap, kFor_ap, raise_ap, app_ap, rApp_ap, ext_ap, rExt_ap, frz_ap, rFrz_o, rFrz_v, six_ap, kSix_ap, rSix_ap, aug_ap, rAug_ap, kAug_ap, ownD_ap, ownD0_ap, kvNil_ap, kvCons_ap, kKv1_ap, kKv2_ap, kKv3_i, kKv3_s, dget_ap, rDG_ap, kDG_i, kDG_s, dset_ap, kDS_ap, rDS_ap, hix_ap, rHix_ap, hGet0, hGet1, hGet2, hGet3, hGet4, hset_ap, kHS_ap, rHS1, rHS2, rHS3, rHS4, fn_ap, fin_ret, fin_nx, fin_err, fAdd_i, fSub_i, fNeg_i, fLt_i, fLe_i, fGt_i, fGe_i, fEq_s, fNe_s, fEq_i, fNe_i, fNe_b, fIx_l, fIx_t, fLen_l, fLen_t, fInt_i, fTuple_l, bnd_ok, dat_ok, List.map_cons, List.map_nil, List.replicate_succ, List.replicate_zero, List.cons_append, List.nil_append, List.length_cons, List.length_nil, List.getElem?_cons_zero, List.getElem?_cons_succ, List.set_cons_zero, List.set_cons_succ, Nat.sub_self, Nat.zero_add, Nat.reduceSub, Nat.reduceAdd, Option.bind_some, Option.map_some, Bool.not_true, Bool.not_false, sg_s, decide_eq_false h, x1, f1]
  · rintro e g' ⟨y, rfl, rfl⟩
    rw [sgs_len, List.take_of_length_le (Nat.le_refl _)]
    simp -implicitDefEqProofs only [bnd_err, dat_err, outR, outS, seq_nx, seq_ret, seq_brk, seq_ct, seq_err, seq_ap, nx_ap, brk_ap, ofO_some, var_ap, rVar_v, peek_ap, rPeek_v, rPeek_o, c_ap, op1_ap, kOp1_ap, op2_ap, kOp2a_ap, kOp2b_ap, test_ap, kTest_ap, and_ap, kAnd_t, kAnd_f, or_ap, kOr_t, kOr_f, not_ap, kNot_ap, andV_ap, kAndV_t, kAndV_f, orV_ap, kOrV_t, kOrV_f, notV_ap, kNotV_ap, if_ap, kIf_t, kIf_f, chain_ap, kCh1_ap, kCh2_ap, kCh3_t, kCh3_f, nilA_ap, consA_ap, kA1_ap, kA2_ap, nilO_ap, consO_ap, kO1_ap, kO2_ap, call_ap, disp_ap, tup_ap, kDisp_0, kDisp_1, kDisp_2, kDisp_3, kDisp_4, kDisp_5, kTupl_0, kTupl_1, kTupl_2, kTupl_3, cb_ap, kCB_ap, rN_some, cn_ap, kCN_ap, l_ap, kL_ap, lc_ap, items_ap, kIt_l, kIt_t, kIt_s, rng1_ap, rng2_ap, zip_ap, m1_ap, kM1a_ap, kM1b_ap, m0_ap, kM0_ap, sl_ap, kSl1_ap, kSl2_ap, kSl3_ap, noPart_ap, part_ap, kPart_ap, isi_ap, kIsi_ap, set_ap, kSet_ap, own_ap, kOwn_ap, ret_ap, kRet_ap, drop_ap, kDrop_ap, ifS_ap, kIfS_t, kIfS_f, par_ap, kPar_ap, par3_ap, kPar3_ap, rSt_some, unp_ap, kUnp_ap, kName_ap, kTup2_ap, kTup3_ap, for_ap, kFor_ap, raise_ap, app_ap, rApp_ap, ext_ap, rExt_ap, frz_ap, rFrz_o, rFrz_v, six_ap, kSix_ap, rSix_ap, aug_ap, rAug_ap, kAug_ap, ownD_ap, ownD0_ap, kvNil_ap, kvCons_ap, kKv1_ap, kKv2_ap, kKv3_i, kKv3_s, dget_ap, rDG_ap, kDG_i, kDG_s, dset_ap, kDS_ap, rDS_ap, hix_ap, rHix_ap, hGet0, hGet1, hGet2, hGet3, hGet4, hset_ap, kHS_ap, rHS1, rHS2, rHS3, rHS4, fn_ap, fin_ret, fin_nx, fin_err, fAdd_i, fSub_i, fNeg_i, fLt_i, fLe_i, fGt_i, fGe_i, fEq_s, fNe_s, fEq_i, fNe_i, fNe_b, fIx_l, fIx_t, fLen_l, fLen_t, fInt_i, fTuple_l, bnd_ok, dat_ok, List.map_cons, List.map_nil, List.replicate_succ, List.replicate_zero, List.cons_append, List.nil_append, List.length_cons, List.length_nil, List.getElem?_cons_zero, List.getElem?_cons_succ, List.set_cons_zero, List.set_cons_succ, Nat.sub_self, Nat.zero_add, Nat.reduceSub, Nat.reduceAdd, Option.bind_some, Option.map_some, Bool.not_true, Bool.not_false]
/-- the weights of all coverings -/
theorem wt_sum_cons (p q : Int) (c : Nat) (css : List (List Nat)) : ((css.map (c :: ·)).map (wt p q)).sum = (if c = 115 then p else -q) * (css.map (wt p q)).sum := by
  induction css with
  | nil => simp
  | cons b css ih =>
    simp only [List.map_cons, List.sum_cons]
    rw [ih]
    show (if c = 115 then p else -q) * wt p q b + _ = _
    grind
theorem wt_sum_covs (p q : Int) : ∀ n : Nat, ((covs n).map (wt p q)).sum = useq p q 0 1 (n + 1)
  | 0 => by show (1 : Int) + 0 = 1; rfl
  | 1 => by
    show (if (115 : Nat) = 115 then p else -q) * 1 + 0 = p * 1 - q * 0
    rw [if_pos rfl]; omega
  | n + 2 => by
    rw [covs_cc, List.map_append, List.sum_append, wt_sum_cons, wt_sum_cons, wt_sum_covs p q n, wt_sum_covs p q (n + 1), if_neg (by decide), if_pos rfl]
    show _ = p * useq p q 0 1 (n + 2) - q * useq p q 0 1 (n + 1)
    grind

/-! ways to choose, their sums -/
def bn : Nat → Nat → Nat
  | _, 0 => 1
  | 0, _ + 1 => 0
  | m + 1, k + 1 => bn m k + bn m (k + 1)
theorem bn_zero (m : Nat) : bn m 0 = 1 := by cases m <;> rfl
theorem bn_over : ∀ {m k : Nat}, m < k → bn m k = 0
  | 0, k + 1, _ => rfl
  | m + 1, k + 1, h => by
    show bn m k + bn m (k + 1) = 0
    rw [bn_over (show m < k by omega), bn_over (show m < k + 1 by omega)]
theorem bn_le : ∀ m k : Nat, bn m k ≤ 2 ^ m
  | m, 0 => by rw [bn_zero]; exact Nat.one_le_two_pow
  | 0, k + 1 => by show 0 ≤ _; omega
  | m + 1, k + 1 => by
    have h1 := bn_le m k
    have h2 := bn_le m (k + 1)
    show bn m k + bn m (k + 1) ≤ 2 ^ (m + 1)
    rw [Nat.pow_succ]; omega
theorem bn_step : ∀ m k : Nat, ((k : Int) + 1) * bn m (k + 1) = ((m : Int) - k) * bn m k
  | 0, 0 => by show ((0 : Nat) + 1 : Int) * ((0 : Nat) : Int) = (((0 : Nat) : Int) - ((0 : Nat) : Int)) * ((1 : Nat) : Int); rfl
  | 0, k + 1 => by
    show (((k + 1 : Nat) : Int) + 1) * ((0 : Nat) : Int) = _ * ((0 : Nat) : Int)
    simp
  | m + 1, 0 => by
    have h := bn_step m 0
    rw [bn_zero] at h ⊢
    show (((0 : Nat) : Int) + 1) * ((bn m 0 + bn m 1 : Nat) : Int) = _
    rw [bn_zero, Int.natCast_add]
    simp at h ⊢
    omega
  | m + 1, j + 1 => by
    have h1 := bn_step m j
    have h2 := bn_step m (j + 1)
    show (((j + 1 : Nat) : Int) + 1) * ((bn m (j + 1) + bn m (j + 1 + 1) : Nat) : Int) = (((m + 1 : Nat) : Int) - ((j + 1 : Nat) : Int)) * ((bn m j + bn m (j + 1) : Nat) : Int)
    simp only [Int.natCast_add, Int.natCast_one] at *
    grind
theorem bn_div (m k : Nat) : (bn m k : Int) * ((m : Int) - k) / ((k : Int) + 1) = bn m (k + 1) := by
  rw [Int.mul_comm, ← bn_step, Int.mul_ediv_cancel_left]
  omega
/-- f 0 + .. + f (K - 1) -/
def sumTo : Nat → (Nat → Int) → Int
  | 0, _ => 0
  | K + 1, f => f 0 + sumTo K fun k => f (k + 1)
theorem sumTo_last : ∀ (K : Nat) (f : Nat → Int), sumTo (K + 1) f = sumTo K f + f K
  | 0, f => by show f 0 + 0 = 0 + f 0; omega
  | K + 1, f => by
    have := sumTo_last K fun k => f (k + 1)
    show f 0 + sumTo (K + 1) (fun k => f (k + 1)) = f 0 + sumTo K (fun k => f (k + 1)) + f (K + 1)
    rw [this]; omega
theorem sum_range (K : Nat) (f : Nat → Int) : ((List.range K).map f).sum = sumTo K f := by
  induction K with
  | zero => rfl
  | succ K ih => rw [List.range_succ, List.map_append, List.sum_append, ih, sumTo_last]; simp
theorem sumTo_lin (a b : Int) : ∀ (K : Nat) (f g : Nat → Int), sumTo K (fun k => a * f k + b * g k) = a * sumTo K f + b * sumTo K g
  | 0, f, g => by show (0 : Int) = a * 0 + b * 0; omega
  | K + 1, f, g => by
    have := sumTo_lin a b K (fun k => f (k + 1)) (fun k => g (k + 1))
    show a * f 0 + b * g 0 + sumTo K (fun k => a * f (k + 1) + b * g (k + 1)) = a * (f 0 + sumTo K fun k => f (k + 1)) + b * (g 0 + sumTo K fun k => g (k + 1))
    rw [this]; grind
def term (p q : Int) (n k : Nat) : Int := if 2 * k ≤ n then (bn (n - k) k : Int) * (p ^ (n - 2 * k) * (-q) ^ k) else 0
theorem term_zero (p q : Int) (n : Nat) : term p q (n + 1) 0 = p * term p q n 0 := by
  unfold term
  rw [if_pos (by omega), if_pos (by omega), bn_zero, bn_zero, show n + 1 - 2 * 0 = n - 2 * 0 + 1 by omega, Int.pow_succ]
  grind
theorem term_next (p q : Int) (n k : Nat) : term p q (n + 2) (k + 1) = p * term p q (n + 1) (k + 1) + (-q) * term p q n k := by
  unfold term
  by_cases h : 2 * k ≤ n
  · rw [if_pos (show 2 * (k + 1) ≤ n + 2 by omega), if_pos h, show n + 2 - (k + 1) = (n - k) + 1 by omega, show n + 2 - 2 * (k + 1) = n - 2 * k by omega]
    have e : bn ((n - k) + 1) (k + 1) = bn (n - k) k + bn (n - k) (k + 1) := rfl
    rw [e, Int.natCast_add]
    by_cases h2 : 2 * (k + 1) ≤ n + 1
    · rw [if_pos h2, show n + 1 - (k + 1) = n - k by omega, show n - 2 * k = (n + 1 - 2 * (k + 1)) + 1 by omega, Int.pow_succ, Int.pow_succ]
      grind
    · rw [if_neg h2, bn_over (show n - k < k + 1 by omega), Int.pow_succ]
      grind
  · rw [if_neg (by omega), if_neg (by omega), if_neg h]
    simp
def tot (p q : Int) (n : Nat) : Int := sumTo (n / 2 + 1) (term p q n)
theorem tot_more (p q : Int) (n : Nat) : ∀ K, n / 2 + 1 ≤ K → sumTo K (term p q n) = tot p q n := by
  intro K h
  induction K with
  | zero => omega
  | succ K ih =>
    by_cases e : n / 2 + 1 = K + 1
    · unfold tot; rw [e]
    · rw [sumTo_last, ih (by omega)]
      have : term p q n K = 0 := by unfold term; rw [if_neg (by omega)]
      rw [this]; omega
theorem tot_step (p q : Int) (n : Nat) : tot p q (n + 2) = p * tot p q (n + 1) - q * tot p q n := by
  have e1 : tot p q (n + 2) = term p q (n + 2) 0 + sumTo (n / 2 + 1) fun k => term p q (n + 2) (k + 1) := by
    unfold tot
    rw [show (n + 2) / 2 + 1 = (n / 2 + 1) + 1 by omega]; rfl
  have e2 : (fun k => term p q (n + 2) (k + 1)) = fun k => p * (fun k => term p q (n + 1) (k + 1)) k + (-q) * (term p q n) k := by
    funext k; exact term_next p q n k
  have e3 : tot p q (n + 1) = term p q (n + 1) 0 + sumTo (n / 2 + 1) fun k => term p q (n + 1) (k + 1) := by
    rw [← tot_more p q (n + 1) ((n / 2 + 1) + 1) (by omega)]; rfl
  rw [e1, e2, sumTo_lin, term_zero, e3]
  show p * term p q (n + 1) 0 + (p * _ + -q * tot p q n) = _
  grind
theorem tot_useq (p q : Int) : ∀ n : Nat, tot p q n = useq p q 0 1 (n + 1)
  | 0 => by
    show term p q 0 0 + 0 = 1
    unfold term
    rw [if_pos (by omega)]
    show (1 : Int) * (p ^ 0 * (-q) ^ 0) + 0 = 1
    rw [Int.pow_zero, Int.pow_zero]; rfl
  | 1 => by
    show term p q 1 0 + 0 = p * 1 - q * 0
    rw [term_zero]
    unfold term
    rw [if_pos (by omega)]
    show p * ((1 : Int) * (p ^ 0 * (-q) ^ 0)) + 0 = _
    rw [Int.pow_zero, Int.pow_zero]; omega
  | n + 2 => by
    rw [tot_step, tot_useq p q n, tot_useq p q (n + 1)]; rfl
theorem chosen_body (m k : Nat) (hm : m ≤ 1000) (hk : k ≤ 1000) (g : Hand) (b : MS) (hb : b = mSeq (mSet 2 (mC (.int 1))) (mSeq (mFor (mRng1 (mOCons (mVar 1) mONil)) (kName 3) (mSet 2 (mOp2 fDiv (mOp2 fMul (mVar 2) (mOp2 fSub (mVar 0) (mVar 3))) (mOp2 fAdd (mVar 3) (mC (.int 1)))))) (mRet (mVar 2)))) :
    fnM 4 b [.dat (.int m), .dat (.int k)] g = .ok (.dat (.int (bn m k))) g := by
  subst hb
  simp -implicitDefEqProofs only [bnd_err, dat_err, outR, outS, seq_nx, seq_ret, seq_brk, seq_ct, seq_err, seq_ap, nx_ap, brk_ap, ofO_some, var_ap, rVar_v, peek_ap, rPeek_v, rPeek_o, c_ap, op1_ap, kOp1_ap, op2_ap, kOp2a_ap, kOp2b_ap, test_ap, kTest_ap, and_ap, kAnd_t, kAnd_f, or_ap, kOr_t, kOr_f, not_ap, kNot_ap, andV_ap, kAndV_t, kAndV_f, orV_ap, kOrV_t, kOrV_f, notV_ap, kNotV_ap, if_ap, kIf_t, kIf_f, chain_ap, kCh1_ap, kCh2_ap, kCh3_t, kCh3_f, nilA_ap, consA_ap, kA1_ap, kA2_ap, nilO_ap, consO_ap, kO1_ap, kO2_ap, call_ap, disp_ap, tup_ap, kDisp_0, kDisp_1, kDisp_2, kDisp_3, kDisp_4, kDisp_5, kTupl_0, kTupl_1, kTupl_2, kTupl_3, cb_ap, kCB_ap, rN_some, cn_ap, kCN_ap, l_ap, kL_ap, lc_ap, items_ap, kIt_l, kIt_t, kIt_s, rng1_ap, rng2_ap, zip_ap, m1_ap, kM1a_ap, kM1b_ap, m0_ap, kM0_ap, sl_ap, kSl1_ap, kSl2_ap, kSl3_ap, noPart_ap, part_ap, kPart_ap, isi_ap, kIsi_ap, set_ap, kSet_ap, own_ap, kOwn_ap, ret_ap, kRet_ap, drop_ap, kDrop_ap, ifS_ap, kIfS_t, kIfS_f, par_ap, kPar_ap, par3_ap, kPar3_ap, rSt_some, unp_ap, kUnp_ap, kName_ap, kTup2_ap, kTup3_ap, for_ap, kFor_ap, raise_ap, app_ap, rApp_ap, ext_ap, rExt_ap, frz_ap, rFrz_o, rFrz_v, six_ap, kSix_ap, rSix_ap, aug_ap, rAug_ap, kAug_ap, ownD_ap, ownD0_ap, kvNil_ap, kvCons_ap, kKv1_ap, kKv2_ap, kKv3_i, kKv3_s, dget_ap, rDG_ap, kDG_i, kDG_s, dset_ap, kDS_ap, rDS_ap, hix_ap, rHix_ap, hGet0, hGet1, hGet2, hGet3, hGet4, hset_ap, kHS_ap, rHS1, rHS2, rHS3, rHS4, fn_ap, fin_ret, fin_nx, fin_err, fAdd_i, fSub_i, fNeg_i, fLt_i, fLe_i, fGt_i, fGe_i, fEq_s, fNe_s, fEq_i, fNe_i, fNe_b, fIx_l, fIx_t, fLen_l, fLen_t, fInt_i, fTuple_l, bnd_ok, dat_ok, List.map_cons, List.map_nil, List.replicate_succ, List.replicate_zero, List.cons_append, List.nil_append, List.length_cons, List.length_nil, List.getElem?_cons_zero, List.getElem?_cons_succ, List.set_cons_zero, List.set_cons_succ, Nat.sub_self, Nat.zero_add, Nat.reduceSub, Nat.reduceAdd, Option.bind_some, Option.map_some, Bool.not_true, Bool.not_false, kR1_ap (r62_of (show -1000000000 ≤ (k : Int) by omega) (by omega)), Int.toNat_natCast]
  refine forL_P (P := fun r => fin (r.seq _) = _) (fun i e g' => ∃ y, e = [.val (.dat (.int m)), .val (.dat (.int k)), .val (.dat (.int (bn m i))), y] ∧ g' = g) ⟨_, by rw [bn_zero]; rfl, rfl⟩ ?_ ?_
  · rintro i d e g' hd ⟨y, rfl, rfl⟩
    obtain ⟨rfl, hi⟩ := range_at hd
    rw [show (0 : Int) + i = i by omega]
    have f1 : fMul (.int (bn m i)) (.int ((m : Int) - i)) = some (.int ((bn m i : Int) * ((m : Int) - i))) := fMul_i (mulOk_r (by omega) (by omega))
    have f2 : fDiv (.int ((bn m i : Int) * ((m : Int) - i))) (.int ((i : Int) + 1)) = some (.int (bn m (i + 1))) := by
      rw [fDiv_i (by omega) (log2_i 9000 (Nat.lt_of_lt_of_le (show ((i : Int) + 1).natAbs < 2 ^ 20 by omega) (Nat.pow_le_pow_right (by omega) (by omega))) (by omega)), bn_div]
    refine ⟨_, _, _, rfl, .inl ?_, .val (.dat (.int i)), rfl, rfl⟩
    simp -implicitDefEqProofs only [bnd_err, dat_err, outR, outS, seq_nx, seq_ret, seq_brk, seq_ct, seq_err, seq_ap, nx_ap, brk_ap, ofO_some, var_ap, rVar_v, peek_ap, rPeek_v, rPeek_o, c_ap, op1_ap, kOp1_ap, op2_ap, kOp2a_ap, kOp2b_ap, test_ap, kTest_ap, and_ap, kAnd_t, kAnd_f, or_ap, kOr_t, kOr_f, not_ap, kNot_ap, andV_ap, kAndV_t, kAndV_f, orV_ap, kOrV_t, kOrV_f, notV_ap, kNotV_ap, if_ap, kIf_t, kIf_f, chain_ap, kCh1_ap, kCh2_ap, kCh3_t, kCh3_f, nilA_ap, consA_ap, kA1_ap, kA2_ap, nilO_ap, consO_ap, kO1_ap, kO2_ap, call_ap, disp_ap, tup_ap, kDisp_0, kDisp_1, kDisp_2, kDisp_3, kDisp_4, kDisp_5, kTupl_0, kTupl_1, kTupl_2, kTupl_3, cb_ap, kCB_ap, rN_some, cn_ap, kCN_ap, l_ap, kL_ap, lc_ap, items_ap, kIt_l, kIt_t, kIt_s, rng1_ap, rng2_ap, zip_ap, m1_ap, kM1a_ap, kM1b_ap, m0_ap, kM0_ap, sl_ap, kSl1_ap, kSl2_ap, kSl3_ap, noPart_ap, part_ap, kPart_ap, isi_ap, kIsi_ap, set_ap, kSet_ap, own_ap, kOwn_ap, ret_ap, kRet_ap, drop_ap, kDrop_ap, ifS_ap, kIfS_t, kIfS_f, par_ap, kPar_ap, par3_ap, kPar3_ap, rSt_some, unp_ap, kUnp_ap, kName_ap, kTup2_ap, kTup3_ap, for_ap, kFor_ap, raise_ap, app_ap, rApp_ap, ext_ap, rExt_ap, frz_ap, rFrz_o, rFrz_v, six_ap, kSix_ap, rSix_ap, aug_ap, rAug_ap, kAug_ap, ownD_ap, ownD0_ap, kvNil_ap, kvCons_ap, kKv1_ap, kKv2_ap, kKv3_i, kKv3_s, dget_ap, rDG_ap, kDG_i, kDG_s, dset_ap, kDS_ap, rDS_ap, hix_ap, rHix_ap, hGet0, hGet1, hGet2, hGet3, hGet4, hset_ap, kHS_ap, rHS1, rHS2, rHS3, rHS4, fn_ap, fin_ret, fin_nx, fin_err, fAdd_i, fSub_i, fNeg_i, fLt_i, fLe_i, fGt_i, fGe_i, fEq_s, fNe_s, fEq_i, fNe_i, fNe_b, fIx_l, fIx_t, fLen_l, fLen_t, fInt_i, fTuple_l, bnd_ok, dat_ok, List.map_cons, List.map_nil, List.replicate_succ, List.replicate_zero, List.cons_append, List.nil_append, List.length_cons, List.length_nil, List.getElem?_cons_zero, List.getElem?_cons_succ, List.set_cons_zero, List.set_cons_succ, Nat.sub_self, Nat.zero_add, Nat.reduceSub, Nat.reduceAdd, Option.bind_some, Option.map_some, Bool.not_true, Bool.not_false, f1, f2]
  · rintro e g' ⟨y, rfl, rfl⟩
    rw [range_len]
    simp -implicitDefEqProofs only [bnd_err, dat_err, outR, outS, seq_nx, seq_ret, seq_brk, seq_ct, seq_err, seq_ap, nx_ap, brk_ap, ofO_some, var_ap, rVar_v, peek_ap, rPeek_v, rPeek_o, c_ap, op1_ap, kOp1_ap, op2_ap, kOp2a_ap, kOp2b_ap, test_ap, kTest_ap, and_ap, kAnd_t, kAnd_f, or_ap, kOr_t, kOr_f, not_ap, kNot_ap, andV_ap, kAndV_t, kAndV_f, orV_ap, kOrV_t, kOrV_f, notV_ap, kNotV_ap, if_ap, kIf_t, kIf_f, chain_ap, kCh1_ap, kCh2_ap, kCh3_t, kCh3_f, nilA_ap, consA_ap, kA1_ap, kA2_ap, nilO_ap, consO_ap, kO1_ap, kO2_ap, call_ap, disp_ap, tup_ap, kDisp_0, kDisp_1, kDisp_2, kDisp_3, kDisp_4, kDisp_5, kTupl_0, kTupl_1, kTupl_2, kTupl_3, cb_ap, kCB_ap, rN_some, cn_ap, kCN_ap, l_ap, kL_ap, lc_ap, items_ap, kIt_l, kIt_t, kIt_s, rng1_ap, rng2_ap, zip_ap, m1_ap, kM1a_ap, kM1b_ap, m0_ap, kM0_ap, sl_ap, kSl1_ap, kSl2_ap, kSl3_ap, noPart_ap, part_ap, kPart_ap, isi_ap, kIsi_ap, set_ap, kSet_ap, own_ap, kOwn_ap, ret_ap, kRet_ap, drop_ap, kDrop_ap, ifS_ap, kIfS_t, kIfS_f, par_ap, kPar_ap, par3_ap, kPar3_ap, rSt_some, unp_ap, kUnp_ap, kName_ap, kTup2_ap, kTup3_ap, for_ap, kFor_ap, raise_ap, app_ap, rApp_ap, ext_ap, rExt_ap, frz_ap, rFrz_o, rFrz_v, six_ap, kSix_ap, rSix_ap, aug_ap, rAug_ap, kAug_ap, ownD_ap, ownD0_ap, kvNil_ap, kvCons_ap, kKv1_ap, kKv2_ap, kKv3_i, kKv3_s, dget_ap, rDG_ap, kDG_i, kDG_s, dset_ap, kDS_ap, rDS_ap, hix_ap, rHix_ap, hGet0, hGet1, hGet2, hGet3, hGet4, hset_ap, kHS_ap, rHS1, rHS2, rHS3, rHS4, fn_ap, fin_ret, fin_nx, fin_err, fAdd_i, fSub_i, fNeg_i, fLt_i, fLe_i, fGt_i, fGe_i, fEq_s, fNe_s, fEq_i, fNe_i, fNe_b, fIx_l, fIx_t, fLen_l, fLen_t, fInt_i, fTuple_l, bnd_ok, dat_ok, List.map_cons, List.map_nil, List.replicate_succ, List.replicate_zero, List.cons_append, List.nil_append, List.length_cons, List.length_nil, List.getElem?_cons_zero, List.getElem?_cons_succ, List.set_cons_zero, List.set_cons_succ, Nat.sub_self, Nat.zero_add, Nat.reduceSub, Nat.reduceAdd, Option.bind_some, Option.map_some, Bool.not_true, Bool.not_false]

theorem chosen_eq (m k : Nat) (hm : m ≤ 1000) (hk : k ≤ 1000) (g : Hand) : m_chosen [.dat (.int m), .dat (.int k)] g = .ok (.dat (.int (bn m k))) g := chosen_body m k hm hk g b_chosen rfl
theorem law_binomial_eq (m k : Nat) (hm : m ≤ 1000) (hk : k ≤ 1000) (g : Hand) : m__law_binomial [.dat (.int m), .dat (.int k)] g = .ok (.dat (.int (bn m k))) g := chosen_body m k hm hk g b__law_binomial rfl
def tl (p q : Int) (n K : Nat) : List D := (List.range K).map fun k => .int (term p q n k)
theorem tl_len (p q : Int) (n K : Nat) : (tl p q n K).length = K := by simp [tl]
theorem tl_succ (p q : Int) (n K : Nat) : tl p q n (K + 1) = tl p q n K ++ [.int (term p q n K)] := by
  unfold tl
  rw [List.range_succ, List.map_append]; rfl
theorem pows_bound {p q : Int} (h1 : -100 ≤ p) (h2 : p ≤ 100) (h3 : -100 ≤ q) (h4 : q ≤ 100) (a b : Nat) : (p ^ a * (-q) ^ b).natAbs < 2 ^ (7 * a + 1 + (7 * b + 1)) := by
  rw [Int.natAbs_mul, Nat.pow_add]
  exact Nat.mul_lt_mul'' (pow_bound (by omega) a) (pow_bound (by omega) b)
theorem bn_bound (m k : Nat) : (bn m k : Int).natAbs < 2 ^ (m + 1) := by
  show bn m k < _
  exact Nat.lt_of_le_of_lt (bn_le m k) (Nat.pow_lt_pow_right (by omega) (by omega))
theorem term_of {p q : Int} {n k : Nat} (h : 2 * k ≤ n) : term p q n k = (bn (n - k) k : Int) * (p ^ (n - 2 * k) * (-q) ^ k) := if_pos h
theorem weights_of_eq (p q : Int) (n : Nat) (g : Hand) (h1 : -100 ≤ p) (h2 : p ≤ 100) (h3 : -100 ≤ q) (h4 : q ≤ 100) (hn : n ≤ 200) : m_weights_of [.dat (.tuple [.int p, .int q]), .dat (.int n)] g = .ok (.dat (.tuple (tl p q n (n / 2 + 1)))) g := by
  have x0 : atI [PyData.int p, .int q] 0 = some (.int p) := rfl
  have x1 : atI [PyData.int p, .int q] 1 = some (.int q) := rfl
  have d1 : fDiv (.int n) (.int 2) = some (.int (n / 2 : Nat)) := by
    rw [fDiv_i (by decide) (by decide), show ((n / 2 : Nat) : Int) = (n : Int) / 2 by omega]
  have e0 : ((n / 2 : Nat) : Int) + 1 = ((n / 2 + 1 : Nat) : Int) := by omega
  unfold m_weights_of b_weights_of
  simp -implicitDefEqProofs only [bnd_err, dat_err, outR, outS, seq_nx, seq_ret, seq_brk, seq_ct, seq_err, seq_ap, nx_ap, brk_ap, ofO_some, var_ap, rVar_v, peek_ap, rPeek_v, rPeek_o, c_ap, op1_ap, kOp1_ap, op2_ap, kOp2a_ap, kOp2b_ap, test_ap, kTest_ap, and_ap, kAnd_t, kAnd_f, or_ap, kOr_t, kOr_f, not_ap, kNot_ap, andV_ap, kAndV_t, kAndV_f, orV_ap, kOrV_t, kOrV_f, notV_ap, kNotV_ap, if_ap, kIf_t, kIf_f, chain_ap, kCh1_ap, kCh2_ap, kCh3_t, kCh3_f, nilA_ap, consA_ap, kA1_ap, kA2_ap, nilO_ap, consO_ap, kO1_ap, kO2_ap, call_ap, disp_ap, tup_ap, kDisp_0, kDisp_1, kDisp_2, kDisp_3, kDisp_4, kDisp_5, kTupl_0, kTupl_1, kTupl_2, kTupl_3, cb_ap, kCB_ap, rN_some, cn_ap, kCN_ap, l_ap, kL_ap, lc_ap, items_ap, kIt_l, kIt_t, kIt_s, rng1_ap, rng2_ap, zip_ap, m1_ap, kM1a_ap, kM1b_ap, m0_ap, kM0_ap, sl_ap, kSl1_ap, kSl2_ap, kSl3_ap, noPart_ap, part_ap, kPart_ap, isi_ap, kIsi_ap, set_ap, kSet_ap, own_ap, kOwn_ap, ret_ap, kRet_ap, drop_ap, kDrop_ap, ifS_ap, kIfS_t, kIfS_f, par_ap, kPar_ap, par3_ap, kPar3_ap, rSt_some, unp_ap, kUnp_ap, kName_ap, kTup2_ap, kTup3_ap, for_ap, kFor_ap, raise_ap, app_ap, rApp_ap, ext_ap, rExt_ap, frz_ap, rFrz_o, rFrz_v, six_ap, kSix_ap, rSix_ap, aug_ap, rAug_ap, kAug_ap, ownD_ap, ownD0_ap, kvNil_ap, kvCons_ap, kKv1_ap, kKv2_ap, kKv3_i, kKv3_s, dget_ap, rDG_ap, kDG_i, kDG_s, dset_ap, kDS_ap, rDS_ap, hix_ap, rHix_ap, hGet0, hGet1, hGet2, hGet3, hGet4, hset_ap, kHS_ap, rHS1, rHS2, rHS3, rHS4, fn_ap, fin_ret, fin_nx, fin_err, fAdd_i, fSub_i, fNeg_i, fLt_i, fLe_i, fGt_i, fGe_i, fEq_s, fNe_s, fEq_i, fNe_i, fNe_b, fIx_l, fIx_t, fLen_l, fLen_t, fInt_i, fTuple_l, bnd_ok, dat_ok, List.map_cons, List.map_nil, List.replicate_succ, List.replicate_zero, List.cons_append, List.nil_append, List.length_cons, List.length_nil, List.getElem?_cons_zero, List.getElem?_cons_succ, List.set_cons_zero, List.set_cons_succ, Nat.sub_self, Nat.zero_add, Nat.reduceSub, Nat.reduceAdd, Option.bind_some, Option.map_some, Bool.not_true, Bool.not_false, check_base_ok p q g h1 h2 h3 h4, check_number_ok (n : Nat) 0 200 g (by omega) (by omega), d1, e0, kR1_ap (r62_of (show -1000000000 ≤ ((n / 2 + 1 : Nat) : Int) by omega) (by omega)), Int.toNat_natCast]
  refine forL_P (P := fun r => fin (r.seq _) = _) (fun i e g' => ∃ y z, e = [.val (.dat (.tuple [.int p, .int q])), .val (.dat (.int n)), .own (.lst (tl p q n i)), y, z] ∧ g' = g) ⟨_, _, rfl, rfl⟩ ?_ ?_
  · rintro i d e g' hd ⟨y, z, rfl, rfl⟩
    obtain ⟨rfl, hi⟩ := range_at hd
    rw [show (0 : Int) + i = i by omega]
    have hi2 : 2 * i ≤ n := by omega
    have f0 : fMul (.int 2) (.int i) = some (.int (2 * i)) := fMul_i (mulOk_l (by decide) (by decide))
    have f1 : m_raw_power [.dat (.int p), .dat (.int ((n : Int) - 2 * i))] g' = .ok (.dat (.int (p ^ (n - 2 * i)))) g' := by
      rw [show (n : Int) - 2 * i = ((n - 2 * i : Nat) : Int) by omega]; exact raw_power_eq p _ g' (small100 h1 h2) (by omega)
    have f2 := raw_power_eq (-q) i g' (small100 (by omega) (by omega)) (by omega)
    have f3 : fMul (.int (p ^ (n - 2 * i))) (.int ((-q) ^ i)) = some (.int (p ^ (n - 2 * i) * (-q) ^ i)) := fMul_i (mulOk_big (pow_bound (by omega) _) (pow_bound (by omega) _) (by omega) (by omega) (by omega))
    have f4 : m_chosen [.dat (.int ((n : Int) - i)), .dat (.int i)] g' = .ok (.dat (.int (bn (n - i) i))) g' := by
      rw [show (n : Int) - i = ((n - i : Nat) : Int) by omega]; exact chosen_eq _ _ (by omega) (by omega) g'
    have f5 : fMul (.int (bn (n - i) i)) (.int (p ^ (n - 2 * i) * (-q) ^ i)) = some (.int (term p q n i)) := by
      rw [fMul_i (mulOk_big (bn_bound _ _) (pows_bound h1 h2 h3 h4 _ _) (by omega) (by omega) (by omega)), term_of hi2]
    have p4 : (tl p q n i).length < 1000000 := by rw [tl_len]; omega
    refine ⟨_, [.val (.dat (.tuple [.int p, .int q])), .val (.dat (.int n)), .own (.lst (tl p q n (i + 1))), .val (.dat (.int i)), .val (.dat (.int (p ^ (n - 2 * i) * (-q) ^ i)))], _, rfl, .inl ?_, _, _, rfl, rfl⟩
    simp -implicitDefEqProofs only [bnd_err, dat_err, outR, outS, seq_nx, seq_ret, seq_brk, seq_ct, seq_err, seq_ap, nx_ap, brk_ap, ofO_some, var_ap, rVar_v, peek_ap, rPeek_v, rPeek_o, c_ap, op1_ap, kOp1_ap, op2_ap, kOp2a_ap, kOp2b_ap, test_ap, kTest_ap, and_ap, kAnd_t, kAnd_f, or_ap, kOr_t, kOr_f, not_ap, kNot_ap, andV_ap, kAndV_t, kAndV_f, orV_ap, kOrV_t, kOrV_f, notV_ap, kNotV_ap, if_ap, kIf_t, kIf_f, chain_ap, kCh1_ap, kCh2_ap, kCh3_t, kCh3_f, nilA_ap, consA_ap, kA1_ap, kA2_ap, nilO_ap, consO_ap, kO1_ap, kO2_ap, call_ap, disp_ap, tup_ap, kDisp_0, kDisp_1, kDisp_2, kDisp_3, kDisp_4, kDisp_5, kTupl_0, kTupl_1, kTupl_2, kTupl_3, cb_ap, kCB_ap, rN_some, cn_ap, kCN_ap, l_ap, kL_ap, lc_ap, items_ap, kIt_l, kIt_t, kIt_s, rng1_ap, rng2_ap, zip_ap, m1_ap, kM1a_ap, kM1b_ap, m0_ap, kM0_ap, sl_ap, kSl1_ap, kSl2_ap, kSl3_ap, noPart_ap, part_ap, kPart_ap, isi_ap, kIsi_ap, set_ap, kSet_ap, own_ap, kOwn_ap, ret_ap, kRet_ap, drop_ap, kDrop_ap, ifS_ap, kIfS_t, kIfS_f, par_ap, kPar_ap, par3_ap, kPar3_ap, rSt_some, unp_ap, kUnp_ap, kName_ap, kTup2_ap, kTup3_ap, for_ap, kFor_ap, raise_ap, app_ap, rApp_ap, ext_ap, rExt_ap, frz_ap, rFrz_o, rFrz_v, six_ap, kSix_ap, rSix_ap, aug_ap, rAug_ap, kAug_ap, ownD_ap, ownD0_ap, kvNil_ap, kvCons_ap, kKv1_ap, kKv2_ap, kKv3_i, kKv3_s, dget_ap, rDG_ap, kDG_i, kDG_s, dset_ap, kDS_ap, rDS_ap, hix_ap, rHix_ap, hGet0, hGet1, hGet2, hGet3, hGet4, hset_ap, kHS_ap, rHS1, rHS2, rHS3, rHS4, fn_ap, fin_ret, fin_nx, fin_err, fAdd_i, fSub_i, fNeg_i, fLt_i, fLe_i, fGt_i, fGe_i, fEq_s, fNe_s, fEq_i, fNe_i, fNe_b, fIx_l, fIx_t, fLen_l, fLen_t, fInt_i, fTuple_l, bnd_ok, dat_ok, List.map_cons, List.map_nil, List.replicate_succ, List.replicate_zero, List.cons_append, List.nil_append, List.length_cons, List.length_nil, List.getElem?_cons_zero, List.getElem?_cons_succ, List.set_cons_zero, List.set_cons_succ, Nat.sub_self, Nat.zero_add, Nat.reduceSub, Nat.reduceAdd, Option.bind_some, Option.map_some, Bool.not_true, Bool.not_false, x0, x1, f0, f1, f2, f3, f4, f5, kApp_ap p4, tl_succ]
  · rintro e g' ⟨y, z, rfl, rfl⟩
    rw [range_len]
    simp -implicitDefEqProofs only [bnd_err, dat_err, outR, outS, seq_nx, seq_ret, seq_brk, seq_ct, seq_err, seq_ap, nx_ap, brk_ap, ofO_some, var_ap, rVar_v, peek_ap, rPeek_v, rPeek_o, c_ap, op1_ap, kOp1_ap, op2_ap, kOp2a_ap, kOp2b_ap, test_ap, kTest_ap, and_ap, kAnd_t, kAnd_f, or_ap, kOr_t, kOr_f, not_ap, kNot_ap, andV_ap, kAndV_t, kAndV_f, orV_ap, kOrV_t, kOrV_f, notV_ap, kNotV_ap, if_ap, kIf_t, kIf_f, chain_ap, kCh1_ap, kCh2_ap, kCh3_t, kCh3_f, nilA_ap, consA_ap, kA1_ap, kA2_ap, nilO_ap, consO_ap, kO1_ap, kO2_ap, call_ap, disp_ap, tup_ap, kDisp_0, kDisp_1, kDisp_2, kDisp_3, kDisp_4, kDisp_5, kTupl_0, kTupl_1, kTupl_2, kTupl_3, cb_ap, kCB_ap, rN_some, cn_ap, kCN_ap, l_ap, kL_ap, lc_ap, items_ap, kIt_l, kIt_t, kIt_s, rng1_ap, rng2_ap, zip_ap, m1_ap, kM1a_ap, kM1b_ap, m0_ap, kM0_ap, sl_ap, kSl1_ap, kSl2_ap, kSl3_ap, noPart_ap, part_ap, kPart_ap, isi_ap, kIsi_ap, set_ap, kSet_ap, own_ap, kOwn_ap, ret_ap, kRet_ap, drop_ap, kDrop_ap, ifS_ap, kIfS_t, kIfS_f, par_ap, kPar_ap, par3_ap, kPar3_ap, rSt_some, unp_ap, kUnp_ap, kName_ap, kTup2_ap, kTup3_ap, for_ap, kFor_ap, raise_ap, app_ap, rApp_ap, ext_ap, rExt_ap, frz_ap, rFrz_o, rFrz_v, six_ap, kSix_ap, rSix_ap, aug_ap, rAug_ap, kAug_ap, ownD_ap, ownD0_ap, kvNil_ap, kvCons_ap, kKv1_ap, kKv2_ap, kKv3_i, kKv3_s, dget_ap, rDG_ap, kDG_i, kDG_s, dset_ap, kDS_ap, rDS_ap, hix_ap, rHix_ap, hGet0, hGet1, hGet2, hGet3, hGet4, hset_ap, kHS_ap, rHS1, rHS2, rHS3, rHS4, fn_ap, fin_ret, fin_nx, fin_err, fAdd_i, fSub_i, fNeg_i, fLt_i, fLe_i, fGt_i, fGe_i, fEq_s, fNe_s, fEq_i, fNe_i, fNe_b, fIx_l, fIx_t, fLen_l, fLen_t, fInt_i, fTuple_l, bnd_ok, dat_ok, List.map_cons, List.map_nil, List.replicate_succ, List.replicate_zero, List.cons_append, List.nil_append, List.length_cons, List.length_nil, List.getElem?_cons_zero, List.getElem?_cons_succ, List.set_cons_zero, List.set_cons_succ, Nat.sub_self, Nat.zero_add, Nat.reduceSub, Nat.reduceAdd, Option.bind_some, Option.map_some, Bool.not_true, Bool.not_false]
theorem law_sums_eq (p q : Int) (n : Nat) (g : Hand) (h1 : -100 ≤ p) (h2 : p ≤ 100) (h3 : -100 ≤ q) (h4 : q ≤ 100) (hn : n ≤ 200) : m__law_sums [.dat (.tuple [.int p, .int q]), .dat (.int n)] g = .ok (.dat (.list (tl p q n (n / 2 + 1)))) g := by
  have x0 : atI [PyData.int p, .int q] 0 = some (.int p) := rfl
  have x1 : atI [PyData.int p, .int q] 1 = some (.int q) := rfl
  have d1 : fDiv (.int n) (.int 2) = some (.int (n / 2 : Nat)) := by
    rw [fDiv_i (by decide) (by decide), show ((n / 2 : Nat) : Int) = (n : Int) / 2 by omega]
  have e0 : ((n / 2 : Nat) : Int) + 1 = ((n / 2 + 1 : Nat) : Int) := by omega
  have sq : 0 - q = -q := by omega
  unfold m__law_sums b__law_sums
  simp -implicitDefEqProofs only [bnd_err, dat_err, outR, outS, seq_nx, seq_ret, seq_brk, seq_ct, seq_err, seq_ap, nx_ap, brk_ap, ofO_some, var_ap, rVar_v, peek_ap, rPeek_v, rPeek_o, c_ap, op1_ap, kOp1_ap, op2_ap, kOp2a_ap, kOp2b_ap, test_ap, kTest_ap, and_ap, kAnd_t, kAnd_f, or_ap, kOr_t, kOr_f, not_ap, kNot_ap, andV_ap, kAndV_t, kAndV_f, orV_ap, kOrV_t, kOrV_f, notV_ap, kNotV_ap, if_ap, kIf_t, kIf_f, chain_ap, kCh1_ap, kCh2_ap, kCh3_t, kCh3_f, nilA_ap, consA_ap, kA1_ap, kA2_ap, nilO_ap, consO_ap, kO1_ap, kO2_ap, call_ap, disp_ap, tup_ap, kDisp_0, kDisp_1, kDisp_2, kDisp_3, kDisp_4, kDisp_5, kTupl_0, kTupl_1, kTupl_2, kTupl_3, cb_ap, kCB_ap, rN_some, cn_ap, kCN_ap, l_ap, kL_ap, lc_ap, items_ap, kIt_l, kIt_t, kIt_s, rng1_ap, rng2_ap, zip_ap, m1_ap, kM1a_ap, kM1b_ap, m0_ap, kM0_ap, sl_ap, kSl1_ap, kSl2_ap, kSl3_ap, noPart_ap, part_ap, kPart_ap, isi_ap, kIsi_ap, set_ap, kSet_ap, own_ap, kOwn_ap, ret_ap, kRet_ap, drop_ap, kDrop_ap, ifS_ap, kIfS_t, kIfS_f, par_ap, kPar_ap, par3_ap, kPar3_ap, rSt_some, unp_ap, kUnp_ap, kName_ap, kTup2_ap, kTup3_ap, for_ap, kFor_ap, raise_ap, app_ap, rApp_ap, ext_ap, rExt_ap, frz_ap, rFrz_o, rFrz_v, six_ap, kSix_ap, rSix_ap, aug_ap, rAug_ap, kAug_ap, ownD_ap, ownD0_ap, kvNil_ap, kvCons_ap, kKv1_ap, kKv2_ap, kKv3_i, kKv3_s, dget_ap, rDG_ap, kDG_i, kDG_s, dset_ap, kDS_ap, rDS_ap, hix_ap, rHix_ap, hGet0, hGet1, hGet2, hGet3, hGet4, hset_ap, kHS_ap, rHS1, rHS2, rHS3, rHS4, fn_ap, fin_ret, fin_nx, fin_err, fAdd_i, fSub_i, fNeg_i, fLt_i, fLe_i, fGt_i, fGe_i, fEq_s, fNe_s, fEq_i, fNe_i, fNe_b, fIx_l, fIx_t, fLen_l, fLen_t, fInt_i, fTuple_l, bnd_ok, dat_ok, List.map_cons, List.map_nil, List.replicate_succ, List.replicate_zero, List.cons_append, List.nil_append, List.length_cons, List.length_nil, List.getElem?_cons_zero, List.getElem?_cons_succ, List.set_cons_zero, List.set_cons_succ, Nat.sub_self, Nat.zero_add, Nat.reduceSub, Nat.reduceAdd, Option.bind_some, Option.map_some, Bool.not_true, Bool.not_false, d1, e0, kR1_ap (r62_of (show -1000000000 ≤ ((n / 2 + 1 : Nat) : Int) by omega) (by omega)), Int.toNat_natCast]
  refine forL_P (P := fun r => fin (r.seq _) = _) (fun i e g' => ∃ y z x, e = [.val (.dat (.tuple [.int p, .int q])), .val (.dat (.int n)), .own (.lst (tl p q n i)), y, z, x] ∧ g' = g) ⟨_, _, _, rfl, rfl⟩ ?_ ?_
  · rintro i d e g' hd ⟨y, z, x, rfl, rfl⟩
    obtain ⟨rfl, hi⟩ := range_at hd
    rw [show (0 : Int) + i = i by omega]
    have hi2 : 2 * i ≤ n := by omega
    have f0 : fMul (.int 2) (.int i) = some (.int (2 * i)) := fMul_i (mulOk_l (by decide) (by decide))
    have f4 : m__law_binomial [.dat (.int ((n : Int) - i)), .dat (.int i)] g' = .ok (.dat (.int (bn (n - i) i))) g' := by
      rw [show (n : Int) - i = ((n - i : Nat) : Int) by omega]; exact law_binomial_eq _ _ (by omega) (by omega) g'
    have p4 : (tl p q n i).length < 1000000 := by rw [tl_len]; omega
    have e1 : (n : Int) - 2 * i = ((n - 2 * i : Nat) : Int) := by omega
    obtain ⟨e', g2, i1, y2, i2, i3⟩ := forL_nx (t := kName 5) (b := mSet 4 (mOp2 fMul (mVar 4) (mOp2 fIx (mVar 0) (mC (.int 0))))) (fun j e g2 => ∃ y, e = [.val (.dat (.tuple [.int p, .int q])), .val (.dat (.int n)), .own (.lst (tl p q n i)), .val (.dat (.int i)), .val (.dat (.int ((bn (n - i) i : Int) * p ^ j))), y] ∧ g2 = g') (rangeD 0 (n - 2 * i)) 0
      [.val (.dat (.tuple [.int p, .int q])), .val (.dat (.int n)), .own (.lst (tl p q n i)), .val (.dat (.int i)), .val (.dat (.int (bn (n - i) i))), x] g' ⟨x, by rw [Int.pow_zero, Int.mul_one], rfl⟩ fun j d e g2 hd ⟨y, he, hg⟩ => by
        subst he; subst hg
        have m1 : fMul (.int ((bn (n - i) i : Int) * p ^ j)) (.int p) = some (.int ((bn (n - i) i : Int) * p ^ (j + 1))) := by
          rw [fMul_i (mulOk_r (by omega) (by omega)), Int.pow_succ, Int.mul_assoc]
        refine ⟨_, _, _, rfl, .inl ?_, .val (.dat d), rfl, rfl⟩
        simp -implicitDefEqProofs only [bnd_err, dat_err, outR, outS, seq_nx, seq_ret, seq_brk, seq_ct, seq_err, seq_ap, nx_ap, brk_ap, ofO_some, var_ap, rVar_v, peek_ap, rPeek_v, rPeek_o, c_ap, op1_ap, kOp1_ap, op2_ap, kOp2a_ap, kOp2b_ap, test_ap, kTest_ap, and_ap, kAnd_t, kAnd_f, or_ap, kOr_t, kOr_f, not_ap, kNot_ap, andV_ap, kAndV_t, kAndV_f, orV_ap, kOrV_t, kOrV_f, notV_ap, kNotV_ap, if_ap, kIf_t, kIf_f, chain_ap, kCh1_ap, kCh2_ap, kCh3_t, kCh3_f, nilA_ap, consA_ap, kA1_ap, kA2_ap, nilO_ap, consO_ap, kO1_ap, kO2_ap, call_ap, disp_ap, tup_ap, kDisp_0, kDisp_1, kDisp_2, kDisp_3, kDisp_4, kDisp_5, kTupl_0, kTupl_1, kTupl_2, kTupl_3, cb_ap, kCB_ap, rN_some, cn_ap, kCN_ap, l_ap, kL_ap, lc_ap, items_ap, kIt_l, kIt_t, kIt_s, rng1_ap, rng2_ap, zip_ap, m1_ap, kM1a_ap, kM1b_ap, m0_ap, kM0_ap, sl_ap, kSl1_ap, kSl2_ap, kSl3_ap, noPart_ap, part_ap, kPart_ap, isi_ap, kIsi_ap, set_ap, kSet_ap, own_ap, kOwn_ap, ret_ap, kRet_ap, drop_ap, kDrop_ap, ifS_ap, kIfS_t, kIfS_f, par_ap, kPar_ap, par3_ap, kPar3_ap, rSt_some, unp_ap, kUnp_ap, kName_ap, kTup2_ap, kTup3_ap, for_ap, kFor_ap, raise_ap, app_ap, rApp_ap, ext_ap, rExt_ap, frz_ap, rFrz_o, rFrz_v, six_ap, kSix_ap, rSix_ap, aug_ap, rAug_ap, kAug_ap, ownD_ap, ownD0_ap, kvNil_ap, kvCons_ap, kKv1_ap, kKv2_ap, kKv3_i, kKv3_s, dget_ap, rDG_ap, kDG_i, kDG_s, dset_ap, kDS_ap, rDS_ap, hix_ap, rHix_ap, hGet0, hGet1, hGet2, hGet3, hGet4, hset_ap, kHS_ap, rHS1, rHS2, rHS3, rHS4, fn_ap, fin_ret, fin_nx, fin_err, fAdd_i, fSub_i, fNeg_i, fLt_i, fLe_i, fGt_i, fGe_i, fEq_s, fNe_s, fEq_i, fNe_i, fNe_b, fIx_l, fIx_t, fLen_l, fLen_t, fInt_i, fTuple_l, bnd_ok, dat_ok, List.map_cons, List.map_nil, List.replicate_succ, List.replicate_zero, List.cons_append, List.nil_append, List.length_cons, List.length_nil, List.getElem?_cons_zero, List.getElem?_cons_succ, List.set_cons_zero, List.set_cons_succ, Nat.sub_self, Nat.zero_add, Nat.reduceSub, Nat.reduceAdd, Option.bind_some, Option.map_some, Bool.not_true, Bool.not_false, x0, m1]
    rw [range_len, Nat.zero_add] at i2
    subst i2; subst i3
    obtain ⟨e'', g3, j1, y3, j2, j3⟩ := forL_nx (t := kName 5) (b := mSet 4 (mOp2 fMul (mVar 4) (mOp2 fSub (mC (.int 0)) (mOp2 fIx (mVar 0) (mC (.int 1)))))) (fun j e g3 => ∃ y, e = [.val (.dat (.tuple [.int p, .int q])), .val (.dat (.int n)), .own (.lst (tl p q n i)), .val (.dat (.int i)), .val (.dat (.int ((bn (n - i) i : Int) * p ^ (n - 2 * i) * (-q) ^ j))), y] ∧ g3 = g2) (rangeD 0 i) 0
      [.val (.dat (.tuple [.int p, .int q])), .val (.dat (.int n)), .own (.lst (tl p q n i)), .val (.dat (.int i)), .val (.dat (.int ((bn (n - i) i : Int) * p ^ (n - 2 * i)))), y2] g2 ⟨y2, by rw [Int.pow_zero, Int.mul_one], rfl⟩ fun j d e g3 hd ⟨y, he, hg⟩ => by
        subst he; subst hg
        have m1 : fMul (.int ((bn (n - i) i : Int) * p ^ (n - 2 * i) * (-q) ^ j)) (.int (-q)) = some (.int ((bn (n - i) i : Int) * p ^ (n - 2 * i) * (-q) ^ (j + 1))) := by
          rw [fMul_i (mulOk_r (by omega) (by omega)), Int.pow_succ, Int.mul_assoc (_ * _)]
        refine ⟨_, _, _, rfl, .inl ?_, .val (.dat d), rfl, rfl⟩
        simp -implicitDefEqProofs only [bnd_err, dat_err, outR, outS, seq_nx, seq_ret, seq_brk, seq_ct, seq_err, seq_ap, nx_ap, brk_ap, ofO_some, var_ap, rVar_v, peek_ap, rPeek_v, rPeek_o, c_ap, op1_ap, kOp1_ap, op2_ap, kOp2a_ap, kOp2b_ap, test_ap, kTest_ap, and_ap, kAnd_t, kAnd_f, or_ap, kOr_t, kOr_f, not_ap, kNot_ap, andV_ap, kAndV_t, kAndV_f, orV_ap, kOrV_t, kOrV_f, notV_ap, kNotV_ap, if_ap, kIf_t, kIf_f, chain_ap, kCh1_ap, kCh2_ap, kCh3_t, kCh3_f, nilA_ap, consA_ap, kA1_ap, kA2_ap, nilO_ap, consO_ap, kO1_ap, kO2_ap, call_ap, disp_ap, tup_ap, kDisp_0, kDisp_1, kDisp_2, kDisp_3, kDisp_4, kDisp_5, kTupl_0, kTupl_1, kTupl_2, kTupl_3, cb_ap, kCB_ap, rN_some, cn_ap, kCN_ap, l_ap, kL_ap, lc_ap, items_ap, kIt_l, kIt_t, kIt_s, rng1_ap, rng2_ap, zip_ap, m1_ap, kM1a_ap, kM1b_ap, m0_ap, kM0_ap, sl_ap, kSl1_ap, kSl2_ap, kSl3_ap, noPart_ap, part_ap, kPart_ap, isi_ap, kIsi_ap, set_ap, kSet_ap, own_ap, kOwn_ap, ret_ap, kRet_ap, drop_ap, kDrop_ap, ifS_ap, kIfS_t, kIfS_f, par_ap, kPar_ap, par3_ap, kPar3_ap, rSt_some, unp_ap, kUnp_ap, kName_ap, kTup2_ap, kTup3_ap, for_ap, kFor_ap, raise_ap, app_ap, rApp_ap, ext_ap, rExt_ap, frz_ap, rFrz_o, rFrz_v, six_ap, kSix_ap, rSix_ap, aug_ap, rAug_ap, kAug_ap, ownD_ap, ownD0_ap, kvNil_ap, kvCons_ap, kKv1_ap, kKv2_ap, kKv3_i, kKv3_s, dget_ap, rDG_ap, kDG_i, kDG_s, dset_ap, kDS_ap, rDS_ap, hix_ap, rHix_ap, hGet0, hGet1, hGet2, hGet3, hGet4, hset_ap, kHS_ap, rHS1, rHS2, rHS3, rHS4, fn_ap, fin_ret, fin_nx, fin_err, fAdd_i, fSub_i, fNeg_i, fLt_i, fLe_i, fGt_i, fGe_i, fEq_s, fNe_s, fEq_i, fNe_i, fNe_b, fIx_l, fIx_t, fLen_l, fLen_t, fInt_i, fTuple_l, bnd_ok, dat_ok, List.map_cons, List.map_nil, List.replicate_succ, List.replicate_zero, List.cons_append, List.nil_append, List.length_cons, List.length_nil, List.getElem?_cons_zero, List.getElem?_cons_succ, List.set_cons_zero, List.set_cons_succ, Nat.sub_self, Nat.zero_add, Nat.reduceSub, Nat.reduceAdd, Option.bind_some, Option.map_some, Bool.not_true, Bool.not_false, x1, sq, m1]
    rw [range_len, Nat.zero_add] at j2
    subst j2; subst j3
    have et : (bn (n - i) i : Int) * p ^ (n - 2 * i) * (-q) ^ i = term p q n i := by rw [term_of hi2, Int.mul_assoc]
    rw [et] at j1
    refine ⟨_, [.val (.dat (.tuple [.int p, .int q])), .val (.dat (.int n)), .own (.lst (tl p q n (i + 1))), .val (.dat (.int i)), .val (.dat (.int (term p q n i))), y3], _, rfl, .inl ?_, _, _, _, rfl, rfl⟩
    simp -implicitDefEqProofs only [bnd_err, dat_err, outR, outS, seq_nx, seq_ret, seq_brk, seq_ct, seq_err, seq_ap, nx_ap, brk_ap, ofO_some, var_ap, rVar_v, peek_ap, rPeek_v, rPeek_o, c_ap, op1_ap, kOp1_ap, op2_ap, kOp2a_ap, kOp2b_ap, test_ap, kTest_ap, and_ap, kAnd_t, kAnd_f, or_ap, kOr_t, kOr_f, not_ap, kNot_ap, andV_ap, kAndV_t, kAndV_f, orV_ap, kOrV_t, kOrV_f, notV_ap, kNotV_ap, if_ap, kIf_t, kIf_f, chain_ap, kCh1_ap, kCh2_ap, kCh3_t, kCh3_f, nilA_ap, consA_ap, kA1_ap, kA2_ap, nilO_ap, consO_ap, kO1_ap, kO2_ap, call_ap, disp_ap, tup_ap, kDisp_0, kDisp_1, kDisp_2, kDisp_3, kDisp_4, kDisp_5, kTupl_0, kTupl_1, kTupl_2, kTupl_3, cb_ap, kCB_ap, rN_some, cn_ap, kCN_ap, l_ap, kL_ap, lc_ap, items_ap, kIt_l, kIt_t, kIt_s, rng1_ap, rng2_ap, zip_ap, m1_ap, kM1a_ap, kM1b_ap, m0_ap, kM0_ap, sl_ap, kSl1_ap, kSl2_ap, kSl3_ap, noPart_ap, part_ap, kPart_ap, isi_ap, kIsi_ap, set_ap, kSet_ap, own_ap, kOwn_ap, ret_ap, kRet_ap, drop_ap, kDrop_ap, ifS_ap, kIfS_t, kIfS_f, par_ap, kPar_ap, par3_ap, kPar3_ap, rSt_some, unp_ap, kUnp_ap, kName_ap, kTup2_ap, kTup3_ap, for_ap, kFor_ap, raise_ap, app_ap, rApp_ap, ext_ap, rExt_ap, frz_ap, rFrz_o, rFrz_v, six_ap, kSix_ap, rSix_ap, aug_ap, rAug_ap, kAug_ap, ownD_ap, ownD0_ap, kvNil_ap, kvCons_ap, kKv1_ap, kKv2_ap, kKv3_i, kKv3_s, dget_ap, rDG_ap, kDG_i, kDG_s, dset_ap, kDS_ap, rDS_ap, hix_ap, rHix_ap, hGet0, hGet1, hGet2, hGet3, hGet4, hset_ap, kHS_ap, rHS1, rHS2, rHS3, rHS4, fn_ap, fin_ret, fin_nx, fin_err, fAdd_i, fSub_i, fNeg_i, fLt_i, fLe_i, fGt_i, fGe_i, fEq_s, fNe_s, fEq_i, fNe_i, fNe_b, fIx_l, fIx_t, fLen_l, fLen_t, fInt_i, fTuple_l, bnd_ok, dat_ok, List.map_cons, List.map_nil, List.replicate_succ, List.replicate_zero, List.cons_append, List.nil_append, List.length_cons, List.length_nil, List.getElem?_cons_zero, List.getElem?_cons_succ, List.set_cons_zero, List.set_cons_succ, Nat.sub_self, Nat.zero_add, Nat.reduceSub, Nat.reduceAdd, Option.bind_some, Option.map_some, Bool.not_true, Bool.not_false, f0, f4, e1, kR1_ap (r62_of (show -1000000000 ≤ ((n - 2 * i : Nat) : Int) by omega) (by omega)), kR1_ap (r62_of (show -1000000000 ≤ (i : Int) by omega) (by omega)), Int.toNat_natCast, i1, j1, kApp_ap p4, tl_succ]
  · rintro e g' ⟨y, z, x, rfl, rfl⟩
    rw [range_len]
    simp -implicitDefEqProofs only [bnd_err, dat_err, outR, outS, seq_nx, seq_ret, seq_brk, seq_ct, seq_err, seq_ap, nx_ap, brk_ap, ofO_some, var_ap, rVar_v, peek_ap, rPeek_v, rPeek_o, c_ap, op1_ap, kOp1_ap, op2_ap, kOp2a_ap, kOp2b_ap, test_ap, kTest_ap, and_ap, kAnd_t, kAnd_f, or_ap, kOr_t, kOr_f, not_ap, kNot_ap, andV_ap, kAndV_t, kAndV_f, orV_ap, kOrV_t, kOrV_f, notV_ap, kNotV_ap, if_ap, kIf_t, kIf_f, chain_ap, kCh1_ap, kCh2_ap, kCh3_t, kCh3_f, nilA_ap, consA_ap, kA1_ap, kA2_ap, nilO_ap, consO_ap, kO1_ap, kO2_ap, call_ap, disp_ap, tup_ap, kDisp_0, kDisp_1, kDisp_2, kDisp_3, kDisp_4, kDisp_5, kTupl_0, kTupl_1, kTupl_2, kTupl_3, cb_ap, kCB_ap, rN_some, cn_ap, kCN_ap, l_ap, kL_ap, lc_ap, items_ap, kIt_l, kIt_t, kIt_s, rng1_ap, rng2_ap, zip_ap, m1_ap, kM1a_ap, kM1b_ap, m0_ap, kM0_ap, sl_ap, kSl1_ap, kSl2_ap, kSl3_ap, noPart_ap, part_ap, kPart_ap, isi_ap, kIsi_ap, set_ap, kSet_ap, own_ap, kOwn_ap, ret_ap, kRet_ap, drop_ap, kDrop_ap, ifS_ap, kIfS_t, kIfS_f, par_ap, kPar_ap, par3_ap, kPar3_ap, rSt_some, unp_ap, kUnp_ap, kName_ap, kTup2_ap, kTup3_ap, for_ap, kFor_ap, raise_ap, app_ap, rApp_ap, ext_ap, rExt_ap, frz_ap, rFrz_o, rFrz_v, six_ap, kSix_ap, rSix_ap, aug_ap, rAug_ap, kAug_ap, ownD_ap, ownD0_ap, kvNil_ap, kvCons_ap, kKv1_ap, kKv2_ap, kKv3_i, kKv3_s, dget_ap, rDG_ap, kDG_i, kDG_s, dset_ap, kDS_ap, rDS_ap, hix_ap, rHix_ap, hGet0, hGet1, hGet2, hGet3, hGet4, hset_ap, kHS_ap, rHS1, rHS2, rHS3, rHS4, fn_ap, fin_ret, fin_nx, fin_err, fAdd_i, fSub_i, fNeg_i, fLt_i, fLe_i, fGt_i, fGe_i, fEq_s, fNe_s, fEq_i, fNe_i, fNe_b, fIx_l, fIx_t, fLen_l, fLen_t, fInt_i, fTuple_l, bnd_ok, dat_ok, List.map_cons, List.map_nil, List.replicate_succ, List.replicate_zero, List.cons_append, List.nil_append, List.length_cons, List.length_nil, List.getElem?_cons_zero, List.getElem?_cons_succ, List.set_cons_zero, List.set_cons_succ, Nat.sub_self, Nat.zero_add, Nat.reduceSub, Nat.reduceAdd, Option.bind_some, Option.map_some, Bool.not_true, Bool.not_false]

/-- the law's own drawn covering -/
theorem join_signs (cs : List Nat) : Txt.join "" (cs.map fun c => S [c]) = S cs := by
  refine TL.ext_tl ?_
  rw [TL.join_eq, TL.tl_join, lit_e]
  show TL.joinL [] ((cs.map fun c => S [c]).map TL.tl) = cs
  rw [List.map_map]
  induction cs with
  | nil => rfl
  | cons c cs ih =>
    cases cs with
    | nil => rfl
    | cons d cs =>
      show [c] ++ ([] ++ TL.joinL [] ((d :: cs).map (TL.tl ∘ fun c => S [c]))) = c :: d :: cs
      rw [ih]; rfl
theorem law_covering_ok (g : Hand) (m : Nat) (hg : HOk g) (hm : m < 1000) : ∃ cs g', m__law_covering [.hand, .dat (.int m)] g = .ok (.dat (.str (S cs))) g' ∧ cs.all sd = true ∧ cs.length ≤ m ∧ HOk g' := by
  obtain ⟨n, g1, e1, h1, h2⟩ := draw_nat g (m + 1) hg (by omega) (by omega)
  rw [show ((m + 1 : Nat) : Int) = (m : Int) + 1 from rfl] at e1
  have e2 : ∀ s0 s1 s2 : Slot, s0 = .val .hand → ∃ ys g', mLcL (kName 2) mYes (mCall m__law_any (mACons (mVar 0) (mACons (mL (mDisp (mACons (mC (.str "s")) (mACons (mC (.str "d")) mANil)))) mANil))) [2] (rangeD 0 n) [s0, s1, s2] g1 = .ok ys g' ∧ HOk g' ∧ ys.length = (rangeD 0 n).length ∧ ∀ y ∈ ys, y = .str "s" ∨ y = .str "d" := by
    intro s0 s1 s2 hs
    subst hs
    refine lc_hand HOk (fun y => y = .str "s" ∨ y = .str "d") _ _ h2 fun d hd g hg => ?_
    obtain ⟨y, g', e, hy, hg'⟩ := any_ok g [.str "s", .str "d"] hg (by simp) (by simp)
    refine ⟨_, y, g', rfl, ?_, hg', by simpa using hy⟩
    simp -implicitDefEqProofs only [bnd_err, dat_err, outR, outS, seq_nx, seq_ret, seq_brk, seq_ct, seq_err, seq_ap, nx_ap, brk_ap, ofO_some, var_ap, rVar_v, peek_ap, rPeek_v, rPeek_o, c_ap, op1_ap, kOp1_ap, op2_ap, kOp2a_ap, kOp2b_ap, test_ap, kTest_ap, and_ap, kAnd_t, kAnd_f, or_ap, kOr_t, kOr_f, not_ap, kNot_ap, andV_ap, kAndV_t, kAndV_f, orV_ap, kOrV_t, kOrV_f, notV_ap, kNotV_ap, if_ap, kIf_t, kIf_f, chain_ap, kCh1_ap, kCh2_ap, kCh3_t, kCh3_f, nilA_ap, consA_ap, kA1_ap, kA2_ap, nilO_ap, consO_ap, kO1_ap, kO2_ap, call_ap, disp_ap, tup_ap, kDisp_0, kDisp_1, kDisp_2, kDisp_3, kDisp_4, kDisp_5, kTupl_0, kTupl_1, kTupl_2, kTupl_3, cb_ap, kCB_ap, rN_some, cn_ap, kCN_ap, l_ap, kL_ap, lc_ap, items_ap, kIt_l, kIt_t, kIt_s, rng1_ap, rng2_ap, zip_ap, m1_ap, kM1a_ap, kM1b_ap, m0_ap, kM0_ap, sl_ap, kSl1_ap, kSl2_ap, kSl3_ap, noPart_ap, part_ap, kPart_ap, isi_ap, kIsi_ap, set_ap, kSet_ap, own_ap, kOwn_ap, ret_ap, kRet_ap, drop_ap, kDrop_ap, ifS_ap, kIfS_t, kIfS_f, par_ap, kPar_ap, par3_ap, kPar3_ap, rSt_some, unp_ap, kUnp_ap, kName_ap, kTup2_ap, kTup3_ap, for_ap, kFor_ap, raise_ap, app_ap, rApp_ap, ext_ap, rExt_ap, frz_ap, rFrz_o, rFrz_v, six_ap, kSix_ap, rSix_ap, aug_ap, rAug_ap, kAug_ap, ownD_ap, ownD0_ap, kvNil_ap, kvCons_ap, kKv1_ap, kKv2_ap, kKv3_i, kKv3_s, dget_ap, rDG_ap, kDG_i, kDG_s, dset_ap, kDS_ap, rDS_ap, hix_ap, rHix_ap, hGet0, hGet1, hGet2, hGet3, hGet4, hset_ap, kHS_ap, rHS1, rHS2, rHS3, rHS4, fn_ap, fin_ret, fin_nx, fin_err, fAdd_i, fSub_i, fNeg_i, fLt_i, fLe_i, fGt_i, fGe_i, fEq_s, fNe_s, fEq_i, fNe_i, fNe_b, fIx_l, fIx_t, fLen_l, fLen_t, fInt_i, fTuple_l, bnd_ok, dat_ok, List.map_cons, List.map_nil, List.replicate_succ, List.replicate_zero, List.cons_append, List.nil_append, List.length_cons, List.length_nil, List.getElem?_cons_zero, List.getElem?_cons_succ, List.set_cons_zero, List.set_cons_succ, Nat.sub_self, Nat.zero_add, Nat.reduceSub, Nat.reduceAdd, Option.bind_some, Option.map_some, Bool.not_true, Bool.not_false, wipeE, e]
  obtain ⟨ys, g2, e3, h3, h4, h5⟩ := e2 (.val .hand) (.val (.dat (.int m))) .no rfl
  rw [range_len] at h4
  obtain ⟨cs, rfl, hcs⟩ : ∃ cs : List Nat, ys = cs.map (fun c => .str (S [c])) ∧ cs.all sd = true := by
    clear e3 h4
    induction ys with
    | nil => exact ⟨[], rfl, rfl⟩
    | cons y ys ih =>
      obtain ⟨cs, rfl, hcs⟩ := ih fun y hy => h5 y (List.mem_cons_of_mem _ hy)
      rcases h5 y List.mem_cons_self with rfl | rfl
      · exact ⟨115 :: cs, by rw [lit_s]; rfl, by rw [List.all_cons, hcs]; rfl⟩
      · exact ⟨100 :: cs, by rw [lit_d]; rfl, by rw [List.all_cons, hcs]; rfl⟩
  have hl : cs.length = n := by simpa using h4
  have e4 : fJoin "" (.list (cs.map fun c => .str (S [c]))) = some (.str (S cs)) := by
    have q : strsD (cs.map fun c => .str (S [c])) = some (cs.map fun c => S [c]) := by
      clear hl h4 h5 e3 hcs
      induction cs with
      | nil => rfl
      | cons c cs ih => show (strsD (cs.map fun c => .str (S [c]))).map (S [c] :: ·) = _; rw [ih]; rfl
    have q2 : ((cs.map fun c => S [c]).map (·.length)).sum ≤ cs.length := by
      clear hl h4 h5 e3 hcs q
      induction cs with
      | nil => simp
      | cons c cs ih => simp only [List.map_cons, List.sum_cons, List.length_cons, S_len]; simp only [S_len, List.length_cons, List.length_nil] at ih ⊢; omega
    show ((strsD (cs.map fun c => .str (S [c]))).bind fun ys => if (ys.map (·.length)).sum + ys.length * Str.length "" ≤ 1000000 then some (PyData.str (Txt.join "" ys)) else none) = _
    rw [q, Option.bind_some, if_pos (by rw [lit_e, S_len]; simp only [List.length_nil, Nat.mul_zero]; omega), join_signs]
  refine ⟨cs, g2, ?_, hcs, by omega, h3⟩
  unfold m__law_covering b__law_covering
  simp -implicitDefEqProofs only [bnd_err, dat_err, outR, outS, seq_nx, seq_ret, seq_brk, seq_ct, seq_err, seq_ap, nx_ap, brk_ap, ofO_some, var_ap, rVar_v, peek_ap, rPeek_v, rPeek_o, c_ap, op1_ap, kOp1_ap, op2_ap, kOp2a_ap, kOp2b_ap, test_ap, kTest_ap, and_ap, kAnd_t, kAnd_f, or_ap, kOr_t, kOr_f, not_ap, kNot_ap, andV_ap, kAndV_t, kAndV_f, orV_ap, kOrV_t, kOrV_f, notV_ap, kNotV_ap, if_ap, kIf_t, kIf_f, chain_ap, kCh1_ap, kCh2_ap, kCh3_t, kCh3_f, nilA_ap, consA_ap, kA1_ap, kA2_ap, nilO_ap, consO_ap, kO1_ap, kO2_ap, call_ap, disp_ap, tup_ap, kDisp_0, kDisp_1, kDisp_2, kDisp_3, kDisp_4, kDisp_5, kTupl_0, kTupl_1, kTupl_2, kTupl_3, cb_ap, kCB_ap, rN_some, cn_ap, kCN_ap, l_ap, kL_ap, lc_ap, items_ap, kIt_l, kIt_t, kIt_s, rng1_ap, rng2_ap, zip_ap, m1_ap, kM1a_ap, kM1b_ap, m0_ap, kM0_ap, sl_ap, kSl1_ap, kSl2_ap, kSl3_ap, noPart_ap, part_ap, kPart_ap, isi_ap, kIsi_ap, set_ap, kSet_ap, own_ap, kOwn_ap, ret_ap, kRet_ap, drop_ap, kDrop_ap, ifS_ap, kIfS_t, kIfS_f, par_ap, kPar_ap, par3_ap, kPar3_ap, rSt_some, unp_ap, kUnp_ap, kName_ap, kTup2_ap, kTup3_ap, for_ap, kFor_ap, raise_ap, app_ap, rApp_ap, ext_ap, rExt_ap, frz_ap, rFrz_o, rFrz_v, six_ap, kSix_ap, rSix_ap, aug_ap, rAug_ap, kAug_ap, ownD_ap, ownD0_ap, kvNil_ap, kvCons_ap, kKv1_ap, kKv2_ap, kKv3_i, kKv3_s, dget_ap, rDG_ap, kDG_i, kDG_s, dset_ap, kDS_ap, rDS_ap, hix_ap, rHix_ap, hGet0, hGet1, hGet2, hGet3, hGet4, hset_ap, kHS_ap, rHS1, rHS2, rHS3, rHS4, fn_ap, fin_ret, fin_nx, fin_err, fAdd_i, fSub_i, fNeg_i, fLt_i, fLe_i, fGt_i, fGe_i, fEq_s, fNe_s, fEq_i, fNe_i, fNe_b, fIx_l, fIx_t, fLen_l, fLen_t, fInt_i, fTuple_l, bnd_ok, dat_ok, List.map_cons, List.map_nil, List.replicate_succ, List.replicate_zero, List.cons_append, List.nil_append, List.length_cons, List.length_nil, List.getElem?_cons_zero, List.getElem?_cons_succ, List.set_cons_zero, List.set_cons_succ, Nat.sub_self, Nat.zero_add, Nat.reduceSub, Nat.reduceAdd, Option.bind_some, Option.map_some, Bool.not_true, Bool.not_false, e1, kR1_ap (r62_of (show -1000000000 ≤ (n : Int) by omega) (by omega)), Int.toNat_natCast, kLc_ap (show (rangeD 0 n).length < 1000000 by rw [range_len]; omega), e3, e4]

theorem law_base_ok (g : Hand) (hg : HOk g) : ∃ p q g', m__law_base [.hand] g = .ok (.dat (.tuple [.int p, .int q])) g' ∧ -100 ≤ p ∧ p ≤ 100 ∧ -100 ≤ q ∧ q ≤ 100 ∧ HOk g' := by
  obtain ⟨d, g1, e1, h1, hg1⟩ := any_ok g [.int 3, .int 3, .int 12, .int 100] hg (by simp) (by simp)
  obtain ⟨w, rfl, hw⟩ : ∃ w : Nat, d = .int (w : Nat) ∧ w ≤ 100 := by
    simp only [List.mem_cons, List.not_mem_nil, or_false] at h1
    rcases h1 with rfl | rfl | rfl | rfl
    · exact ⟨3, rfl, by omega⟩
    · exact ⟨3, rfl, by omega⟩
    · exact ⟨12, rfl, by omega⟩
    · exact ⟨100, rfl, by omega⟩
  obtain ⟨a, g2, e2, h2, hg2⟩ := draw_nat g1 (2 * w + 1) hg1 (by omega) (by omega)
  obtain ⟨b, g3, e3, h3, hg3⟩ := draw_nat g2 (2 * w + 1) hg2 (by omega) (by omega)
  rw [show ((2 * w + 1 : Nat) : Int) = 2 * (w : Int) + 1 by omega] at e2 e3
  have m1 : fMul (.int 2) (.int w) = some (.int (2 * w)) := fMul_i (mulOk_l (by decide) (by decide))
  refine ⟨(a : Int) - w, (b : Int) - w, g3, ?_, by omega, by omega, by omega, by omega, hg3⟩
  unfold m__law_base b__law_base
  simp -implicitDefEqProofs only [bnd_err, dat_err, outR, outS, seq_nx, seq_ret, seq_brk, seq_ct, seq_err, seq_ap, nx_ap, brk_ap, ofO_some, var_ap, rVar_v, peek_ap, rPeek_v, rPeek_o, c_ap, op1_ap, kOp1_ap, op2_ap, kOp2a_ap, kOp2b_ap, test_ap, kTest_ap, and_ap, kAnd_t, kAnd_f, or_ap, kOr_t, kOr_f, not_ap, kNot_ap, andV_ap, kAndV_t, kAndV_f, orV_ap, kOrV_t, kOrV_f, notV_ap, kNotV_ap, if_ap, kIf_t, kIf_f, chain_ap, kCh1_ap, kCh2_ap, kCh3_t, kCh3_f, nilA_ap, consA_ap, kA1_ap, kA2_ap, nilO_ap, consO_ap, kO1_ap, kO2_ap, call_ap, disp_ap, tup_ap, kDisp_0, kDisp_1, kDisp_2, kDisp_3, kDisp_4, kDisp_5, kTupl_0, kTupl_1, kTupl_2, kTupl_3, cb_ap, kCB_ap, rN_some, cn_ap, kCN_ap, l_ap, kL_ap, lc_ap, items_ap, kIt_l, kIt_t, kIt_s, rng1_ap, rng2_ap, zip_ap, m1_ap, kM1a_ap, kM1b_ap, m0_ap, kM0_ap, sl_ap, kSl1_ap, kSl2_ap, kSl3_ap, noPart_ap, part_ap, kPart_ap, isi_ap, kIsi_ap, set_ap, kSet_ap, own_ap, kOwn_ap, ret_ap, kRet_ap, drop_ap, kDrop_ap, ifS_ap, kIfS_t, kIfS_f, par_ap, kPar_ap, par3_ap, kPar3_ap, rSt_some, unp_ap, kUnp_ap, kName_ap, kTup2_ap, kTup3_ap, for_ap, kFor_ap, raise_ap, app_ap, rApp_ap, ext_ap, rExt_ap, frz_ap, rFrz_o, rFrz_v, six_ap, kSix_ap, rSix_ap, aug_ap, rAug_ap, kAug_ap, ownD_ap, ownD0_ap, kvNil_ap, kvCons_ap, kKv1_ap, kKv2_ap, kKv3_i, kKv3_s, dget_ap, rDG_ap, kDG_i, kDG_s, dset_ap, kDS_ap, rDS_ap, hix_ap, rHix_ap, hGet0, hGet1, hGet2, hGet3, hGet4, hset_ap, kHS_ap, rHS1, rHS2, rHS3, rHS4, fn_ap, fin_ret, fin_nx, fin_err, fAdd_i, fSub_i, fNeg_i, fLt_i, fLe_i, fGt_i, fGe_i, fEq_s, fNe_s, fEq_i, fNe_i, fNe_b, fIx_l, fIx_t, fLen_l, fLen_t, fInt_i, fTuple_l, bnd_ok, dat_ok, List.map_cons, List.map_nil, List.replicate_succ, List.replicate_zero, List.cons_append, List.nil_append, List.length_cons, List.length_nil, List.getElem?_cons_zero, List.getElem?_cons_succ, List.set_cons_zero, List.set_cons_succ, Nat.sub_self, Nat.zero_add, Nat.reduceSub, Nat.reduceAdd, Option.bind_some, Option.map_some, Bool.not_true, Bool.not_false, e1, m1, e2, e3]

theorem okN_int {n : Nat} {x : Int} (h : x.natAbs < 2 ^ 1920) : okN (n + 1) (.int x) = true := decide_eq_true (log2_i 1920 h (by omega))
theorem okN_small {n : Nat} {x : Int} (h : x.natAbs < 2 ^ 64) : okN (n + 1) (.int x) = true := okN_int (Nat.lt_trans h (Nat.pow_lt_pow_right (by omega) (by omega)))
theorem okN_S {n : Nat} {c : List Nat} (h : ∀ x ∈ c, x < 1114112) (hl : c.length ≤ 1000) : okN (n + 1) (.str (S c)) = true := decide_eq_true (repr_S (fun x hx => by have := h x hx; omega) (by omega))
theorem okN_L {n : Nat} {css : List (List Nat)} (h : ∀ c ∈ css, (∀ x ∈ c, x < 1114112) ∧ c.length ≤ 1000) (hl : css.length < 1000000) : okN (n + 2) (.tuple (L css)) = true := by
  show ((L css).all (okN (n + 1)) && decide ((L css).length < 1000000)) = true
  rw [L_len, decide_eq_true hl, Bool.and_true]
  refine List.all_eq_true.mpr fun d hd => ?_
  obtain ⟨c, hc, rfl⟩ := List.mem_map.mp hd
  exact okN_S (h c hc).1 (h c hc).2
theorem okN_l2 {n : Nat} {a b : D} (h1 : okN n a = true) (h2 : okN n b = true) : okN (n + 1) (.list [a, b]) = true := by
  show ([a, b].all (okN n) && decide (2 < 1000000)) = true
  rw [List.all_cons, List.all_cons, List.all_nil, h1, h2]; rfl
theorem okN_t2 {n : Nat} {a b : D} (h1 : okN n a = true) (h2 : okN n b = true) : okN (n + 1) (.tuple [a, b]) = true := by
  show ([a, b].all (okN n) && decide (2 < 1000000)) = true
  rw [List.all_cons, List.all_cons, List.all_nil, h1, h2]; rfl
theorem all_trues {ys : List D} (h : ∀ y ∈ ys, y = .bool true) : fAll [.list ys] = some (.bool true) := by
  rw [show ys = ys.map fun _ => .bool true from by
    induction ys with
    | nil => rfl
    | cons y ys ih => rw [List.map_cons, ← ih fun y hy => h y (List.mem_cons_of_mem _ hy), h y List.mem_cons_self]]
  exact fAll_t ys

def covsSeen (n : Nat) : Bool := (covs n).all (fun c => decide (2 * c.count 100 ≤ n) && decide (c.count 115 = n - 2 * c.count 100) && decide (c.length = n - c.count 100)) && (List.range (n / 2 + 1)).all fun k => decide (((covs n).filter fun c => decide (c.count 100 = k)).length = bn (n - k) k)
theorem covs_seen : ∀ n, n < 11 → covsSeen n = true := by decide +kernel
theorem covs_counts {n : Nat} (h : n < 11) : (∀ c ∈ covs n, 2 * c.count 100 ≤ n ∧ c.count 115 = n - 2 * c.count 100 ∧ c.length = n - c.count 100) ∧ ∀ k, k < n / 2 + 1 → ((covs n).filter fun c => decide (c.count 100 = k)).length = bn (n - k) k := by
  have q := covs_seen n h
  unfold covsSeen at q
  simp only [Bool.and_eq_true, List.all_eq_true, decide_eq_true_eq, List.mem_range] at q
  exact ⟨fun c hc => ⟨(q.1 c hc).1.1, (q.1 c hc).1.2, (q.1 c hc).2⟩, q.2⟩
theorem weight_eq (p q : Int) (cs : List Nat) (g : Hand) (h1 : -100 ≤ p) (h2 : p ≤ 100) (h3 : -100 ≤ q) (h4 : q ≤ 100) (h : isCov cs = true) (hl : cs.length ≤ 1000) : m_weight [.dat (.tuple [.int p, .int q]), .dat (.str (S cs))] g = .ok (.dat (.int (wt p q cs))) g := by
  unfold m_weight b_weight
  simp -implicitDefEqProofs only [bnd_err, dat_err, outR, outS, seq_nx, seq_ret, seq_brk, seq_ct, seq_err, seq_ap, nx_ap, brk_ap, ofO_some, var_ap, rVar_v, peek_ap, rPeek_v, rPeek_o, c_ap, op1_ap, kOp1_ap, op2_ap, kOp2a_ap, kOp2b_ap, test_ap, kTest_ap, and_ap, kAnd_t, kAnd_f, or_ap, kOr_t, kOr_f, not_ap, kNot_ap, andV_ap, kAndV_t, kAndV_f, orV_ap, kOrV_t, kOrV_f, notV_ap, kNotV_ap, if_ap, kIf_t, kIf_f, chain_ap, kCh1_ap, kCh2_ap, kCh3_t, kCh3_f, nilA_ap, consA_ap, kA1_ap, kA2_ap, nilO_ap, consO_ap, kO1_ap, kO2_ap, call_ap, disp_ap, tup_ap, kDisp_0, kDisp_1, kDisp_2, kDisp_3, kDisp_4, kDisp_5, kTupl_0, kTupl_1, kTupl_2, kTupl_3, cb_ap, kCB_ap, rN_some, cn_ap, kCN_ap, l_ap, kL_ap, lc_ap, items_ap, kIt_l, kIt_t, kIt_s, rng1_ap, rng2_ap, zip_ap, m1_ap, kM1a_ap, kM1b_ap, m0_ap, kM0_ap, sl_ap, kSl1_ap, kSl2_ap, kSl3_ap, noPart_ap, part_ap, kPart_ap, isi_ap, kIsi_ap, set_ap, kSet_ap, own_ap, kOwn_ap, ret_ap, kRet_ap, drop_ap, kDrop_ap, ifS_ap, kIfS_t, kIfS_f, par_ap, kPar_ap, par3_ap, kPar3_ap, rSt_some, unp_ap, kUnp_ap, kName_ap, kTup2_ap, kTup3_ap, for_ap, kFor_ap, raise_ap, app_ap, rApp_ap, ext_ap, rExt_ap, frz_ap, rFrz_o, rFrz_v, six_ap, kSix_ap, rSix_ap, aug_ap, rAug_ap, kAug_ap, ownD_ap, ownD0_ap, kvNil_ap, kvCons_ap, kKv1_ap, kKv2_ap, kKv3_i, kKv3_s, dget_ap, rDG_ap, kDG_i, kDG_s, dset_ap, kDS_ap, rDS_ap, hix_ap, rHix_ap, hGet0, hGet1, hGet2, hGet3, hGet4, hset_ap, kHS_ap, rHS1, rHS2, rHS3, rHS4, fn_ap, fin_ret, fin_nx, fin_err, fAdd_i, fSub_i, fNeg_i, fLt_i, fLe_i, fGt_i, fGe_i, fEq_s, fNe_s, fEq_i, fNe_i, fNe_b, fIx_l, fIx_t, fLen_l, fLen_t, fInt_i, fTuple_l, bnd_ok, dat_ok, List.map_cons, List.map_nil, List.replicate_succ, List.replicate_zero, List.cons_append, List.nil_append, List.length_cons, List.length_nil, List.getElem?_cons_zero, List.getElem?_cons_succ, List.set_cons_zero, List.set_cons_succ, Nat.sub_self, Nat.zero_add, Nat.reduceSub, Nat.reduceAdd, Option.bind_some, Option.map_some, Bool.not_true, Bool.not_false, check_base_ok p q g h1 h2 h3 h4, check_covering_ok cs g h (by omega), raw_weight_eq p q cs g h1 h2 h3 h4 (by omega)]
def dueN (p q : Int) (xs : List (List Nat)) (k : Nat) : Int := ((xs.filter fun c => decide (c.count 100 = k)).map (wt p q)).sum
def dueL (p q : Int) (xs : List (List Nat)) (K : Nat) : List D := (List.range K).map fun k => .int (dueN p q xs k)
theorem dueL_len (p q : Int) (xs : List (List Nat)) (K : Nat) : (dueL p q xs K).length = K := by simp [dueL]
theorem dueL_at {p q : Int} {xs : List (List Nat)} {K j : Nat} (h : j < K) : (dueL p q xs K)[j]? = some (.int (dueN p q xs j)) := by
  unfold dueL
  rw [List.getElem?_map, List.getElem?_range h]; rfl
theorem dueN_snoc (p q : Int) (xs : List (List Nat)) (c : List Nat) (k : Nat) : dueN p q (xs ++ [c]) k = dueN p q xs k + if c.count 100 = k then wt p q c else 0 := by
  unfold dueN
  rw [List.filter_append, List.map_append, List.sum_append]
  by_cases h : c.count 100 = k
  · rw [if_pos h]; simp [h]
  · rw [if_neg h]; simp [h]
theorem dueL_set (p q : Int) (xs : List (List Nat)) (c : List Nat) (K : Nat) (h : c.count 100 < K) : (dueL p q xs K).set (c.count 100) (.int (dueN p q xs (c.count 100) + wt p q c)) = dueL p q (xs ++ [c]) K := by
  refine List.ext_getElem? fun i => ?_
  by_cases hi : i < K
  · rw [dueL_at hi, dueN_snoc]
    by_cases e : c.count 100 = i
    · subst e
      rw [List.getElem?_set_self (by rw [dueL_len]; exact h), if_pos rfl]
    · rw [List.getElem?_set_ne e, dueL_at hi, if_neg e, Int.add_zero]
  · rw [List.getElem?_eq_none (by rw [List.length_set, dueL_len]; omega), List.getElem?_eq_none (by rw [dueL_len]; omega)]
theorem dueL_nil (p q : Int) (K : Nat) : (List.replicate K [PyData.int 0]).flatten = dueL p q [] K := by
  have : ∀ K : Nat, (List.replicate K [PyData.int 0]).flatten = List.replicate K (PyData.int 0) := by
    intro K
    induction K with
    | zero => rfl
    | succ K ih => rw [List.replicate_succ, List.flatten_cons, ih, List.replicate_succ]; rfl
  rw [this]
  refine List.ext_getElem? fun i => ?_
  by_cases hi : i < K
  · rw [dueL_at hi, List.getElem?_replicate, if_pos hi]; rfl
  · rw [List.getElem?_eq_none (by simp; omega), List.getElem?_eq_none (by rw [dueL_len]; omega)]
theorem sum_const {α : Type} (f : α → Int) (w : Int) : ∀ xs : List α, (∀ x ∈ xs, f x = w) → (xs.map f).sum = (xs.length : Int) * w
  | [], _ => by simp
  | x :: xs, h => by
    rw [List.map_cons, List.sum_cons, sum_const f w xs fun y hy => h y (List.mem_cons_of_mem _ hy), h x List.mem_cons_self, List.length_cons, Int.natCast_add, Int.add_mul]
    simp
    omega
theorem due_all (p q : Int) {n : Nat} (h : n < 11) : dueL p q (covs n) (n / 2 + 1) = tl p q n (n / 2 + 1) := by
  obtain ⟨c1, c2⟩ := covs_counts h
  unfold dueL tl
  refine List.map_congr_left fun k hk => ?_
  have hk := List.mem_range.mp hk
  congr 1
  unfold dueN
  rw [sum_const (wt p q) (p ^ (n - 2 * k) * (-q) ^ k) _ fun c hc => ?_, c2 k hk, term_of (by omega)]
  obtain ⟨h1, h2⟩ := List.mem_filter.mp hc
  have h2 : c.count 100 = k := of_decide_eq_true h2
  obtain ⟨a1, a2, a3⟩ := c1 c h1
  rw [wt_pow, a2, a3, h2, show n - k - (n - 2 * k) = k by omega]
theorem tl_sum (p q : Int) (n : Nat) : (intsD (tl p q n (n / 2 + 1))).map (fun ns => PyData.int ns.sum) = some (.int (useq p q 0 1 (n + 1))) := by
  unfold tl
  rw [intsD_map, Option.map_some, sum_range]
  show some (PyData.int (tot p q n)) = _
  rw [tot_useq]
theorem tl_ok {p q : Int} (h1 : -100 ≤ p) (h2 : p ≤ 100) (h3 : -100 ≤ q) (h4 : q ≤ 100) {n : Nat} (hn : n ≤ 80) : okN 6 (.tuple (tl p q n (n / 2 + 1))) = true := by
  show ((tl p q n (n / 2 + 1)).all (okN 5) && decide ((tl p q n (n / 2 + 1)).length < 1000000)) = true
  rw [tl_len, decide_eq_true (by omega), Bool.and_true]
  refine List.all_eq_true.mpr fun d hd => ?_
  obtain ⟨k, hk, rfl⟩ := List.mem_map.mp hd
  have hk := List.mem_range.mp hk
  refine okN_int ?_
  rw [term_of (by omega), Int.natAbs_mul]
  have b1 := bn_bound (n - k) k
  have b2 := pows_bound h1 h2 h3 h4 (n - 2 * k) k
  refine Nat.lt_of_lt_of_le (Nat.mul_lt_mul'' b1 b2) ?_
  rw [← Nat.pow_add]
  exact Nat.pow_le_pow_right (by omega) (by omega)
theorem isCov_sd {cs : List Nat} (h : cs.all sd = true) (hl : cs.length ≤ 20) : isCov cs = true := by
  unfold isCov
  rw [h, decide_eq_true (by unfold cellsN; have := List.length_filter_le (fun c => !decide (c = 115)) cs; omega)]; rfl
theorem isCov_covs {n : Nat} {c : List Nat} (h : c ∈ covs n) (hn : n ≤ 40) : isCov c = true := by
  obtain ⟨h1, h2⟩ := covs_mem n c h
  unfold isCov
  rw [h1, h2, decide_eq_true hn]; rfl
theorem wt_bound {p q : Int} (h1 : -100 ≤ p) (h2 : p ≤ 100) (h3 : -100 ≤ q) (h4 : q ≤ 100) : ∀ cs : List Nat, (wt p q cs).natAbs < 2 ^ (7 * cs.length + 1)
  | [] => by show (1 : Int).natAbs < _; decide
  | c :: cs => by
    have ih := wt_bound h1 h2 h3 h4 cs
    show ((if c = 115 then p else -q) * wt p q cs).natAbs < 2 ^ (7 * (cs.length + 1) + 1)
    rw [Int.natAbs_mul, show 7 * (cs.length + 1) + 1 = 7 + (7 * cs.length + 1) by omega, Nat.pow_add]
    have : (if c = 115 then p else -q).natAbs ≤ 2 ^ 7 := by split <;> omega
    exact Nat.lt_of_le_of_lt (Nat.mul_le_mul_right _ this) (Nat.mul_lt_mul_of_pos_left ih (by decide))
theorem law_is_right_ok (g : Hand) (hg : HOk g) : ∃ g', m__law_is_right [.hand] g = .ok (.dat (.bool true)) g' ∧ HOk g' := by
  obtain ⟨p, q, g1, e1, h1, h2, h3, h4, hg1⟩ := law_base_ok g hg
  obtain ⟨a, g2, e2, ha, la, hg2⟩ := law_covering_ok g1 9 hg1 (by omega)
  obtain ⟨b, g3, e3, hb, lb, hg3⟩ := law_covering_ok g2 9 hg2 (by omega)
  rw [show ((9 : Nat) : Int) = 9 from rfl] at e2 e3
  have w1 := weight_eq p q a g3 h1 h2 h3 h4 (isCov_sd ha (by omega)) (by omega)
  have w2 := weight_eq p q b g3 h1 h2 h3 h4 (isCov_sd hb (by omega)) (by omega)
  have w3 := law_weight_eq p q a g3 h1 h2 h3 h4
  have w4 := law_weight_eq p q b g3 h1 h2 h3 h4
  have k1 := wt_bound h1 h2 h3 h4 a
  have k2 := wt_bound h1 h2 h3 h4 b
  have big : ∀ {x : Int} {l : Nat}, l ≤ 9 → x.natAbs < 2 ^ (7 * l + 1) → x.natAbs < 2 ^ 1920 := fun hl h => Nat.lt_of_lt_of_le h (Nat.pow_le_pow_right (by omega) (by omega))
  have w5 := law_is_refl 6 _ g3 (okN_l2 (okN_int (n := 4) (big la k1)) (okN_int (big lb k2)))
  have f1 : fAdd (.str (S a)) (.str (S b)) = some (.str (S (a ++ b))) := by rw [fAdd_s (by rw [S_len, S_len]; omega), S_app]
  have w6 := weight_eq p q (a ++ b) g3 h1 h2 h3 h4 (isCov_sd (by rw [List.all_append, ha, hb]; rfl) (by rw [List.length_append]; omega)) (by rw [List.length_append]; omega)
  rw [wt_app] at w6
  have f2 : fMul (.int (wt p q a)) (.int (wt p q b)) = some (.int (wt p q a * wt p q b)) := fMul_i (mulOk_big k1 k2 (by omega) (by omega) (by omega))
  obtain ⟨n, g4, e4, hn, hg4⟩ := draw_nat g3 11 hg3 (by omega) (by omega)
  rw [show ((11 : Nat) : Int) = 11 from rfl] at e4
  have e5 := coverings_eq n g4 (by omega)
  have d1 : fDiv (.int n) (.int 2) = some (.int (n / 2 : Nat)) := by
    rw [fDiv_i (by decide) (by decide), show ((n / 2 : Nat) : Int) = (n : Int) / 2 by omega]
  have e0 : ((n / 2 : Nat) : Int) + 1 = ((n / 2 + 1 : Nat) : Int) := by omega
  have f3 : fMul (.list [.int 0]) (.int ((n / 2 + 1 : Nat) : Int)) = some (.list (dueL p q [] (n / 2 + 1))) := by
    show (if ((n / 2 + 1 : Nat) : Int) ≤ 1000000 ∧ 1 * ((n / 2 + 1 : Nat) : Int).toNat ≤ 1000000 ∧ -1000000 ≤ ((n / 2 + 1 : Nat) : Int) then some (PyData.list (List.replicate ((n / 2 + 1 : Nat) : Int).toNat [PyData.int 0]).flatten) else none) = _
    rw [if_pos ⟨by omega, by omega, by omega⟩, Int.toNat_natCast, dueL_nil p q]
  have e6 := weights_of_eq p q n g4 h1 h2 h3 h4 (by omega)
  have e7 := law_is_refl 6 _ g4 (tl_ok h1 h2 h3 h4 (show n ≤ 80 by omega))
  have s1 : fSumT [.list (tl p q n (n / 2 + 1))] = some (.int (useq p q 0 1 (n + 1))) := tl_sum p q n
  have e8 : m_u_term [.dat (.tuple [.int p, .int q]), .dat (.int ((n : Int) + 1))] g4 = .ok (.dat (.int (useq p q 0 1 (n + 1)))) g4 := u_term_eq p q (n + 1) g4 h1 h2 h3 h4 (by omega)
  obtain ⟨m, g5, e9, hm, hg5⟩ := draw_nat g4 80 hg4 (by omega) (by omega)
  rw [show ((80 : Nat) : Int) = 80 from rfl] at e9
  have e10 := weights_of_eq p q m g5 h1 h2 h3 h4 (by omega)
  have e11 := law_sums_eq p q m g5 h1 h2 h3 h4 (by omega)
  have e12 := law_is_refl 6 _ g5 (tl_ok h1 h2 h3 h4 (show m ≤ 80 by omega))
  have s2 : fSumT [.tuple (tl p q m (m / 2 + 1))] = some (.int (useq p q 0 1 (m + 1))) := tl_sum p q m
  have e13 : m_u_term [.dat (.tuple [.int p, .int q]), .dat (.int ((m : Int) + 1))] g5 = .ok (.dat (.int (useq p q 0 1 (m + 1)))) g5 := u_term_eq p q (m + 1) g5 h1 h2 h3 h4 (by omega)
  unfold m__law_is_right b__law_is_right
  simp -implicitDefEqProofs only [bnd_err, dat_err, outR, outS, seq_nx, seq_ret, seq_brk, seq_ct, seq_err, seq_ap, nx_ap, brk_ap, ofO_some, var_ap, rVar_v, peek_ap, rPeek_v, rPeek_o, c_ap, op1_ap, kOp1_ap, op2_ap, kOp2a_ap, kOp2b_ap, test_ap, kTest_ap, and_ap, kAnd_t, kAnd_f, or_ap, kOr_t, kOr_f, not_ap, kNot_ap, andV_ap, kAndV_t, kAndV_f, orV_ap, kOrV_t, kOrV_f, notV_ap, kNotV_ap, if_ap, kIf_t, kIf_f, chain_ap, kCh1_ap, kCh2_ap, kCh3_t, kCh3_f, nilA_ap, consA_ap, kA1_ap, kA2_ap, nilO_ap, consO_ap, kO1_ap, kO2_ap, call_ap, disp_ap, tup_ap, kDisp_0, kDisp_1, kDisp_2, kDisp_3, kDisp_4, kDisp_5, kTupl_0, kTupl_1, kTupl_2, kTupl_3, cb_ap, kCB_ap, rN_some, cn_ap, kCN_ap, l_ap, kL_ap, lc_ap, items_ap, kIt_l, kIt_t, kIt_s, rng1_ap, rng2_ap, zip_ap, m1_ap, kM1a_ap, kM1b_ap, m0_ap, kM0_ap, sl_ap, kSl1_ap, kSl2_ap, kSl3_ap, noPart_ap, part_ap, kPart_ap, isi_ap, kIsi_ap, set_ap, kSet_ap, own_ap, kOwn_ap, ret_ap, kRet_ap, drop_ap, kDrop_ap, ifS_ap, kIfS_t, kIfS_f, par_ap, kPar_ap, par3_ap, kPar3_ap, rSt_some, unp_ap, kUnp_ap, kName_ap, kTup2_ap, kTup3_ap, for_ap, kFor_ap, raise_ap, app_ap, rApp_ap, ext_ap, rExt_ap, frz_ap, rFrz_o, rFrz_v, six_ap, kSix_ap, rSix_ap, aug_ap, rAug_ap, kAug_ap, ownD_ap, ownD0_ap, kvNil_ap, kvCons_ap, kKv1_ap, kKv2_ap, kKv3_i, kKv3_s, dget_ap, rDG_ap, kDG_i, kDG_s, dset_ap, kDS_ap, rDS_ap, hix_ap, rHix_ap, hGet0, hGet1, hGet2, hGet3, hGet4, hset_ap, kHS_ap, rHS1, rHS2, rHS3, rHS4, fn_ap, fin_ret, fin_nx, fin_err, fAdd_i, fSub_i, fNeg_i, fLt_i, fLe_i, fGt_i, fGe_i, fEq_s, fNe_s, fEq_i, fNe_i, fNe_b, fIx_l, fIx_t, fLen_l, fLen_t, fInt_i, fTuple_l, bnd_ok, dat_ok, List.map_cons, List.map_nil, List.replicate_succ, List.replicate_zero, List.cons_append, List.nil_append, List.length_cons, List.length_nil, List.getElem?_cons_zero, List.getElem?_cons_succ, List.set_cons_zero, List.set_cons_succ, Nat.sub_self, Nat.zero_add, Nat.reduceSub, Nat.reduceAdd, Option.bind_some, Option.map_some, Bool.not_true, Bool.not_false, e1, e2, e3, w1, w2, w3, w4, w5, f1, w6, f2, eq_self, decide_true, e4, e5, d1, e0, rep_ap, kRepA_ap, kRepB_ap, f3, rLst_ap]
  obtain ⟨e', g', i1, x, y, i2, i3⟩ := forL_nx (t := kName 7) (b := mSeq (mSet 8 (mM1 fCount (mVar 7) (mC (.str "d")))) (mSetIx 6 (mVar 8) (mOp2 fAdd (mOp2 fIx (mPeek 6) (mVar 8)) (mCall m__law_weight (mACons (mVar 1) (mACons (mVar 7) mANil))))))
    (fun i e g' => ∃ x y, e = [.val .hand, .val (.dat (.tuple [.int p, .int q])), .val (.dat (.str (S a))), .val (.dat (.str (S b))), .val (.dat (.int n)), .val (.dat (.tuple (L (covs n)))), .own (.lst (dueL p q ((covs n).take i) (n / 2 + 1))), x, y, .no, .no] ∧ g' = g4) (L (covs n)) 0
    [.val .hand, .val (.dat (.tuple [.int p, .int q])), .val (.dat (.str (S a))), .val (.dat (.str (S b))), .val (.dat (.int n)), .val (.dat (.tuple (L (covs n)))), .own (.lst (dueL p q [] (n / 2 + 1))), .no, .no, .no, .no] g4 ⟨.no, .no, rfl, rfl⟩ fun i d e g' hd ⟨x, y, he, hg'⟩ => by
      subst he; subst hg'
      rw [Nat.zero_add]
      unfold L at hd
      rw [List.getElem?_map] at hd
      obtain ⟨c, hc, rfl⟩ := Option.map_eq_some_iff.mp hd
      have hmem := List.mem_of_getElem? hc
      obtain ⟨a1, a2, a3⟩ := (covs_counts hn).1 c hmem
      have t1 : (covs n).take (i + 1) = (covs n).take i ++ [c] := by rw [List.take_add_one, hc]; rfl
      have c1 : fCount (S c) (.str "d") = some (.int (c.count 100 : Nat)) := by
        show some (PyData.int (Txt.count (S c) "d")) = _
        rw [lit_d, count_S]
      have c2 : atI (dueL p q ((covs n).take i) (n / 2 + 1)) (c.count 100 : Nat) = some (.int (dueN p q ((covs n).take i) (c.count 100))) := atI_nat (dueL_at (by omega))
      have c3 := law_weight_eq p q c g' h1 h2 h3 h4
      have c4 : ixN (dueL p q ((covs n).take i) (n / 2 + 1)).length (c.count 100 : Nat) = some (c.count 100) := by
        rw [dueL_len]
        unfold ixN
        rw [if_pos (by omega), if_pos (by omega), Int.toNat_natCast]
      refine ⟨_, [.val .hand, .val (.dat (.tuple [.int p, .int q])), .val (.dat (.str (S a))), .val (.dat (.str (S b))), .val (.dat (.int n)), .val (.dat (.tuple (L (covs n)))), .own (.lst (dueL p q ((covs n).take (i + 1)) (n / 2 + 1))), .val (.dat (.str (S c))), .val (.dat (.int (c.count 100 : Nat))), .no, .no], _, rfl, .inl ?_, _, _, rfl, rfl⟩
      simp -implicitDefEqProofs only [bnd_err, dat_err, outR, outS, seq_nx, seq_ret, seq_brk, seq_ct, seq_err, seq_ap, nx_ap, brk_ap, ofO_some, var_ap, rVar_v, peek_ap, rPeek_v, rPeek_o, c_ap, op1_ap, kOp1_ap, op2_ap, kOp2a_ap, kOp2b_ap, test_ap, kTest_ap, and_ap, kAnd_t, kAnd_f, or_ap, kOr_t, kOr_f, not_ap, kNot_ap, andV_ap, kAndV_t, kAndV_f, orV_ap, kOrV_t, kOrV_f, notV_ap, kNotV_ap, if_ap, kIf_t, kIf_f, chain_ap, kCh1_ap, kCh2_ap, kCh3_t, kCh3_f, nilA_ap, consA_ap, kA1_ap, kA2_ap, nilO_ap, consO_ap, kO1_ap, kO2_ap, call_ap, disp_ap, tup_ap, kDisp_0, kDisp_1, kDisp_2, kDisp_3, kDisp_4, kDisp_5, kTupl_0, kTupl_1, kTupl_2, kTupl_3, cb_ap, kCB_ap, rN_some, cn_ap, kCN_ap, l_ap, kL_ap, lc_ap, items_ap, kIt_l, kIt_t, kIt_s, rng1_ap, rng2_ap, zip_ap, m1_ap, kM1a_ap, kM1b_ap, m0_ap, kM0_ap, sl_ap, kSl1_ap, kSl2_ap, kSl3_ap, noPart_ap, part_ap, kPart_ap, isi_ap, kIsi_ap, set_ap, kSet_ap, own_ap, kOwn_ap, ret_ap, kRet_ap, drop_ap, kDrop_ap, ifS_ap, kIfS_t, kIfS_f, par_ap, kPar_ap, par3_ap, kPar3_ap, rSt_some, unp_ap, kUnp_ap, kName_ap, kTup2_ap, kTup3_ap, for_ap, kFor_ap, raise_ap, app_ap, rApp_ap, ext_ap, rExt_ap, frz_ap, rFrz_o, rFrz_v, six_ap, kSix_ap, rSix_ap, aug_ap, rAug_ap, kAug_ap, ownD_ap, ownD0_ap, kvNil_ap, kvCons_ap, kKv1_ap, kKv2_ap, kKv3_i, kKv3_s, dget_ap, rDG_ap, kDG_i, kDG_s, dset_ap, kDS_ap, rDS_ap, hix_ap, rHix_ap, hGet0, hGet1, hGet2, hGet3, hGet4, hset_ap, kHS_ap, rHS1, rHS2, rHS3, rHS4, fn_ap, fin_ret, fin_nx, fin_err, fAdd_i, fSub_i, fNeg_i, fLt_i, fLe_i, fGt_i, fGe_i, fEq_s, fNe_s, fEq_i, fNe_i, fNe_b, fIx_l, fIx_t, fLen_l, fLen_t, fInt_i, fTuple_l, bnd_ok, dat_ok, List.map_cons, List.map_nil, List.replicate_succ, List.replicate_zero, List.cons_append, List.nil_append, List.length_cons, List.length_nil, List.getElem?_cons_zero, List.getElem?_cons_succ, List.set_cons_zero, List.set_cons_succ, Nat.sub_self, Nat.zero_add, Nat.reduceSub, Nat.reduceAdd, Option.bind_some, Option.map_some, Bool.not_true, Bool.not_false, c1, c2, c3, kSix2_ap c4, dueL_set p q _ c _ (show c.count 100 < n / 2 + 1 by omega), t1]
  rw [L_len, Nat.zero_add, List.take_of_length_le (Nat.le_refl _), due_all p q hn] at i2
  subst i2; subst i3
  simp -implicitDefEqProofs only [bnd_err, dat_err, outR, outS, seq_nx, seq_ret, seq_brk, seq_ct, seq_err, seq_ap, nx_ap, brk_ap, ofO_some, var_ap, rVar_v, peek_ap, rPeek_v, rPeek_o, c_ap, op1_ap, kOp1_ap, op2_ap, kOp2a_ap, kOp2b_ap, test_ap, kTest_ap, and_ap, kAnd_t, kAnd_f, or_ap, kOr_t, kOr_f, not_ap, kNot_ap, andV_ap, kAndV_t, kAndV_f, orV_ap, kOrV_t, kOrV_f, notV_ap, kNotV_ap, if_ap, kIf_t, kIf_f, chain_ap, kCh1_ap, kCh2_ap, kCh3_t, kCh3_f, nilA_ap, consA_ap, kA1_ap, kA2_ap, nilO_ap, consO_ap, kO1_ap, kO2_ap, call_ap, disp_ap, tup_ap, kDisp_0, kDisp_1, kDisp_2, kDisp_3, kDisp_4, kDisp_5, kTupl_0, kTupl_1, kTupl_2, kTupl_3, cb_ap, kCB_ap, rN_some, cn_ap, kCN_ap, l_ap, kL_ap, lc_ap, items_ap, kIt_l, kIt_t, kIt_s, rng1_ap, rng2_ap, zip_ap, m1_ap, kM1a_ap, kM1b_ap, m0_ap, kM0_ap, sl_ap, kSl1_ap, kSl2_ap, kSl3_ap, noPart_ap, part_ap, kPart_ap, isi_ap, kIsi_ap, set_ap, kSet_ap, own_ap, kOwn_ap, ret_ap, kRet_ap, drop_ap, kDrop_ap, ifS_ap, kIfS_t, kIfS_f, par_ap, kPar_ap, par3_ap, kPar3_ap, rSt_some, unp_ap, kUnp_ap, kName_ap, kTup2_ap, kTup3_ap, for_ap, kFor_ap, raise_ap, app_ap, rApp_ap, ext_ap, rExt_ap, frz_ap, rFrz_o, rFrz_v, six_ap, kSix_ap, rSix_ap, aug_ap, rAug_ap, kAug_ap, ownD_ap, ownD0_ap, kvNil_ap, kvCons_ap, kKv1_ap, kKv2_ap, kKv3_i, kKv3_s, dget_ap, rDG_ap, kDG_i, kDG_s, dset_ap, kDS_ap, rDS_ap, hix_ap, rHix_ap, hGet0, hGet1, hGet2, hGet3, hGet4, hset_ap, kHS_ap, rHS1, rHS2, rHS3, rHS4, fn_ap, fin_ret, fin_nx, fin_err, fAdd_i, fSub_i, fNeg_i, fLt_i, fLe_i, fGt_i, fGe_i, fEq_s, fNe_s, fEq_i, fNe_i, fNe_b, fIx_l, fIx_t, fLen_l, fLen_t, fInt_i, fTuple_l, bnd_ok, dat_ok, List.map_cons, List.map_nil, List.replicate_succ, List.replicate_zero, List.cons_append, List.nil_append, List.length_cons, List.length_nil, List.getElem?_cons_zero, List.getElem?_cons_succ, List.set_cons_zero, List.set_cons_succ, Nat.sub_self, Nat.zero_add, Nat.reduceSub, Nat.reduceAdd, Option.bind_some, Option.map_some, Bool.not_true, Bool.not_false, i1, e6, e7, s1, e8, eq_self, decide_true, e9, e10, e11, e12, s2, e13]
  exact ⟨_, rfl, hg5⟩
theorem law_true : ∀ (v : V) (cs : List Int) (acc : Int), ∃ g, b_law (.val (.ref v) :: .val .hand :: List.replicate 1 .no) (hand0 cs acc) = .ret (.dat (.bool true)) g := by
  intro v cs acc
  have h0 : HOk (hand0 cs acc) := by show (0 : Int) ≤ 0; omega
  have s1 : ("sds" : Str) = S [115, 100, 115] := by decide +kernel
  have e1 : ∀ g, m_weight [.dat (.tuple [.int 3, .int 2]), .dat (.str "sds")] g = .ok (.dat (.int (-18))) g := fun g => by rw [s1]; exact weight_eq 3 2 [115, 100, 115] g (by omega) (by omega) (by omega) (by omega) (by decide) (by simp)
  have e2 : ∀ g, m_weight [.dat (.tuple [.int 3, .int 2]), .dat (.str "")] g = .ok (.dat (.int 1)) g := fun g => by rw [lit_e]; exact weight_eq 3 2 [] g (by omega) (by omega) (by omega) (by omega) (by decide) (by simp)
  have e3 : ∀ g, m_weights_of [.dat (.tuple [.int 3, .int 2]), .dat (.int 3)] g = .ok (.dat (.tuple [.int 27, .int (-12)])) g := fun g => by
    have := weights_of_eq 3 2 3 g (by omega) (by omega) (by omega) (by omega) (by omega)
    rw [show tl 3 2 3 (3 / 2 + 1) = [PyData.int 27, .int (-12)] from by
      have t0 : term 3 2 3 0 = 27 := by decide +kernel
      have t1 : term 3 2 3 1 = -12 := by decide +kernel
      show [PyData.int (term 3 2 3 0), .int (term 3 2 3 1)] = _
      rw [t0, t1]] at this
    exact this
  have n1 : fNe (.tuple [.int 27, .int (-12)]) (.tuple [.int 27, .int (-12)]) = some (.bool false) := fNe_tt (c := true) (by decide +kernel) (by decide +kernel)
  obtain ⟨ys, g', e7, h7, h8, h9⟩ := lc_hand (t := kName 2) (el := mCall m__law_is_right (mACons (mVar 1) mANil)) (vs := [2]) (e := [.val (.ref v), .val .hand, .no]) HOk (fun y => y = .bool true) (rangeD 0 6) (hand0 cs acc) h0 fun d hd g hg => by
    obtain ⟨g', e, hg'⟩ := law_is_right_ok g hg
    refine ⟨_, .bool true, g', rfl, ?_, hg', rfl⟩
    simp -implicitDefEqProofs only [bnd_err, dat_err, outR, outS, seq_nx, seq_ret, seq_brk, seq_ct, seq_err, seq_ap, nx_ap, brk_ap, ofO_some, var_ap, rVar_v, peek_ap, rPeek_v, rPeek_o, c_ap, op1_ap, kOp1_ap, op2_ap, kOp2a_ap, kOp2b_ap, test_ap, kTest_ap, and_ap, kAnd_t, kAnd_f, or_ap, kOr_t, kOr_f, not_ap, kNot_ap, andV_ap, kAndV_t, kAndV_f, orV_ap, kOrV_t, kOrV_f, notV_ap, kNotV_ap, if_ap, kIf_t, kIf_f, chain_ap, kCh1_ap, kCh2_ap, kCh3_t, kCh3_f, nilA_ap, consA_ap, kA1_ap, kA2_ap, nilO_ap, consO_ap, kO1_ap, kO2_ap, call_ap, disp_ap, tup_ap, kDisp_0, kDisp_1, kDisp_2, kDisp_3, kDisp_4, kDisp_5, kTupl_0, kTupl_1, kTupl_2, kTupl_3, cb_ap, kCB_ap, rN_some, cn_ap, kCN_ap, l_ap, kL_ap, lc_ap, items_ap, kIt_l, kIt_t, kIt_s, rng1_ap, rng2_ap, zip_ap, m1_ap, kM1a_ap, kM1b_ap, m0_ap, kM0_ap, sl_ap, kSl1_ap, kSl2_ap, kSl3_ap, noPart_ap, part_ap, kPart_ap, isi_ap, kIsi_ap, set_ap, kSet_ap, own_ap, kOwn_ap, ret_ap, kRet_ap, drop_ap, kDrop_ap, ifS_ap, kIfS_t, kIfS_f, par_ap, kPar_ap, par3_ap, kPar3_ap, rSt_some, unp_ap, kUnp_ap, kName_ap, kTup2_ap, kTup3_ap, for_ap, kFor_ap, raise_ap, app_ap, rApp_ap, ext_ap, rExt_ap, frz_ap, rFrz_o, rFrz_v, six_ap, kSix_ap, rSix_ap, aug_ap, rAug_ap, kAug_ap, ownD_ap, ownD0_ap, kvNil_ap, kvCons_ap, kKv1_ap, kKv2_ap, kKv3_i, kKv3_s, dget_ap, rDG_ap, kDG_i, kDG_s, dset_ap, kDS_ap, rDS_ap, hix_ap, rHix_ap, hGet0, hGet1, hGet2, hGet3, hGet4, hset_ap, kHS_ap, rHS1, rHS2, rHS3, rHS4, fn_ap, fin_ret, fin_nx, fin_err, fAdd_i, fSub_i, fNeg_i, fLt_i, fLe_i, fGt_i, fGe_i, fEq_s, fNe_s, fEq_i, fNe_i, fNe_b, fIx_l, fIx_t, fLen_l, fLen_t, fInt_i, fTuple_l, bnd_ok, dat_ok, List.map_cons, List.map_nil, List.replicate_succ, List.replicate_zero, List.cons_append, List.nil_append, List.length_cons, List.length_nil, List.getElem?_cons_zero, List.getElem?_cons_succ, List.set_cons_zero, List.set_cons_succ, Nat.sub_self, Nat.zero_add, Nat.reduceSub, Nat.reduceAdd, Option.bind_some, Option.map_some, Bool.not_true, Bool.not_false, wipeE, e]
  unfold b_law
  simp -implicitDefEqProofs only [bnd_err, dat_err, outR, outS, seq_nx, seq_ret, seq_brk, seq_ct, seq_err, seq_ap, nx_ap, brk_ap, ofO_some, var_ap, rVar_v, peek_ap, rPeek_v, rPeek_o, c_ap, op1_ap, kOp1_ap, op2_ap, kOp2a_ap, kOp2b_ap, test_ap, kTest_ap, and_ap, kAnd_t, kAnd_f, or_ap, kOr_t, kOr_f, not_ap, kNot_ap, andV_ap, kAndV_t, kAndV_f, orV_ap, kOrV_t, kOrV_f, notV_ap, kNotV_ap, if_ap, kIf_t, kIf_f, chain_ap, kCh1_ap, kCh2_ap, kCh3_t, kCh3_f, nilA_ap, consA_ap, kA1_ap, kA2_ap, nilO_ap, consO_ap, kO1_ap, kO2_ap, call_ap, disp_ap, tup_ap, kDisp_0, kDisp_1, kDisp_2, kDisp_3, kDisp_4, kDisp_5, kTupl_0, kTupl_1, kTupl_2, kTupl_3, cb_ap, kCB_ap, rN_some, cn_ap, kCN_ap, l_ap, kL_ap, lc_ap, items_ap, kIt_l, kIt_t, kIt_s, rng1_ap, rng2_ap, zip_ap, m1_ap, kM1a_ap, kM1b_ap, m0_ap, kM0_ap, sl_ap, kSl1_ap, kSl2_ap, kSl3_ap, noPart_ap, part_ap, kPart_ap, isi_ap, kIsi_ap, set_ap, kSet_ap, own_ap, kOwn_ap, ret_ap, kRet_ap, drop_ap, kDrop_ap, ifS_ap, kIfS_t, kIfS_f, par_ap, kPar_ap, par3_ap, kPar3_ap, rSt_some, unp_ap, kUnp_ap, kName_ap, kTup2_ap, kTup3_ap, for_ap, kFor_ap, raise_ap, app_ap, rApp_ap, ext_ap, rExt_ap, frz_ap, rFrz_o, rFrz_v, six_ap, kSix_ap, rSix_ap, aug_ap, rAug_ap, kAug_ap, ownD_ap, ownD0_ap, kvNil_ap, kvCons_ap, kKv1_ap, kKv2_ap, kKv3_i, kKv3_s, dget_ap, rDG_ap, kDG_i, kDG_s, dset_ap, kDS_ap, rDS_ap, hix_ap, rHix_ap, hGet0, hGet1, hGet2, hGet3, hGet4, hset_ap, kHS_ap, rHS1, rHS2, rHS3, rHS4, fn_ap, fin_ret, fin_nx, fin_err, fAdd_i, fSub_i, fNeg_i, fLt_i, fLe_i, fGt_i, fGe_i, fEq_s, fNe_s, fEq_i, fNe_i, fNe_b, fIx_l, fIx_t, fLen_l, fLen_t, fInt_i, fTuple_l, bnd_ok, dat_ok, List.map_cons, List.map_nil, List.replicate_succ, List.replicate_zero, List.cons_append, List.nil_append, List.length_cons, List.length_nil, List.getElem?_cons_zero, List.getElem?_cons_succ, List.set_cons_zero, List.set_cons_succ, Nat.sub_self, Nat.zero_add, Nat.reduceSub, Nat.reduceAdd, Option.bind_some, Option.map_some, Bool.not_true, Bool.not_false, e1, e2, e3, n1, eq_self, decide_true, kR1_ap (show r62 6 = true by decide)]
  rw [kLc_ap (by rw [range_len]; decide), show (6 : Int).toNat = 6 from rfl, e7]
  simp -implicitDefEqProofs only [bnd_err, dat_err, outR, outS, seq_nx, seq_ret, seq_brk, seq_ct, seq_err, seq_ap, nx_ap, brk_ap, ofO_some, var_ap, rVar_v, peek_ap, rPeek_v, rPeek_o, c_ap, op1_ap, kOp1_ap, op2_ap, kOp2a_ap, kOp2b_ap, test_ap, kTest_ap, and_ap, kAnd_t, kAnd_f, or_ap, kOr_t, kOr_f, not_ap, kNot_ap, andV_ap, kAndV_t, kAndV_f, orV_ap, kOrV_t, kOrV_f, notV_ap, kNotV_ap, if_ap, kIf_t, kIf_f, chain_ap, kCh1_ap, kCh2_ap, kCh3_t, kCh3_f, nilA_ap, consA_ap, kA1_ap, kA2_ap, nilO_ap, consO_ap, kO1_ap, kO2_ap, call_ap, disp_ap, tup_ap, kDisp_0, kDisp_1, kDisp_2, kDisp_3, kDisp_4, kDisp_5, kTupl_0, kTupl_1, kTupl_2, kTupl_3, cb_ap, kCB_ap, rN_some, cn_ap, kCN_ap, l_ap, kL_ap, lc_ap, items_ap, kIt_l, kIt_t, kIt_s, rng1_ap, rng2_ap, zip_ap, m1_ap, kM1a_ap, kM1b_ap, m0_ap, kM0_ap, sl_ap, kSl1_ap, kSl2_ap, kSl3_ap, noPart_ap, part_ap, kPart_ap, isi_ap, kIsi_ap, set_ap, kSet_ap, own_ap, kOwn_ap, ret_ap, kRet_ap, drop_ap, kDrop_ap, ifS_ap, kIfS_t, kIfS_f, par_ap, kPar_ap, par3_ap, kPar3_ap, rSt_some, unp_ap, kUnp_ap, kName_ap, kTup2_ap, kTup3_ap, for_ap, kFor_ap, raise_ap, app_ap, rApp_ap, ext_ap, rExt_ap, frz_ap, rFrz_o, rFrz_v, six_ap, kSix_ap, rSix_ap, aug_ap, rAug_ap, kAug_ap, ownD_ap, ownD0_ap, kvNil_ap, kvCons_ap, kKv1_ap, kKv2_ap, kKv3_i, kKv3_s, dget_ap, rDG_ap, kDG_i, kDG_s, dset_ap, kDS_ap, rDS_ap, hix_ap, rHix_ap, hGet0, hGet1, hGet2, hGet3, hGet4, hset_ap, kHS_ap, rHS1, rHS2, rHS3, rHS4, fn_ap, fin_ret, fin_nx, fin_err, fAdd_i, fSub_i, fNeg_i, fLt_i, fLe_i, fGt_i, fGe_i, fEq_s, fNe_s, fEq_i, fNe_i, fNe_b, fIx_l, fIx_t, fLen_l, fLen_t, fInt_i, fTuple_l, bnd_ok, dat_ok, List.map_cons, List.map_nil, List.replicate_succ, List.replicate_zero, List.cons_append, List.nil_append, List.length_cons, List.length_nil, List.getElem?_cons_zero, List.getElem?_cons_succ, List.set_cons_zero, List.set_cons_succ, Nat.sub_self, Nat.zero_add, Nat.reduceSub, Nat.reduceAdd, Option.bind_some, Option.map_some, Bool.not_true, Bool.not_false, all_trues h9]
  exact ⟨_, rfl⟩

theorem all_mk {l : PySem.W.OpenLaw} {w : World} {K : PySem.W.Frag} {h : Heap} {mg : Str → Option Value} {fa : Addr} (X : K.In h) (G : h.Ns mainGlobals mg) (hfa : mg "law" = some (.ref fa))
    {f0 : Addr} {od0 an0 : Option Addr} {sl0 : Array (Option Value)} {oc0 kV0 dc0 pm0 cd0 ct0 : Value} (a0 : PySem.W.nsIn K mainGlobals "_law_hand" = some (some (.ref f0))) (l0 : K.lookup f0 = some ⟨oc0, od0, .func (PySem.W.fnOf "_law_hand" "_law_hand" (defArgs s__law_hand) (defBody s__law_hand) (defScope s__law_hand) .none kV0 dc0 pm0 an0 cd0 ct0), sl0⟩) (c0 : PySem.W.codeIn K cd0 "_law_hand" = true) (k0 : PySem.W.keepIn K (.ref f0) = true)
    {f1 : Addr} {od1 an1 : Option Addr} {sl1 : Array (Option Value)} {oc1 kV1 dc1 pm1 cd1 ct1 : Value} (a1 : PySem.W.nsIn K mainGlobals "_law_draw" = some (some (.ref f1))) (l1 : K.lookup f1 = some ⟨oc1, od1, .func (PySem.W.fnOf "_law_draw" "_law_draw" (defArgs s__law_draw) (defBody s__law_draw) (defScope s__law_draw) .none kV1 dc1 pm1 an1 cd1 ct1), sl1⟩) (c1 : PySem.W.codeIn K cd1 "_law_draw" = true) (k1 : PySem.W.keepIn K (.ref f1) = true)
    {f2 : Addr} {od2 an2 : Option Addr} {sl2 : Array (Option Value)} {oc2 kV2 dc2 pm2 cd2 ct2 : Value} (a2 : PySem.W.nsIn K mainGlobals "_law_any" = some (some (.ref f2))) (l2 : K.lookup f2 = some ⟨oc2, od2, .func (PySem.W.fnOf "_law_any" "_law_any" (defArgs s__law_any) (defBody s__law_any) (defScope s__law_any) .none kV2 dc2 pm2 an2 cd2 ct2), sl2⟩) (c2 : PySem.W.codeIn K cd2 "_law_any" = true) (k2 : PySem.W.keepIn K (.ref f2) = true)
    {f3 : Addr} {od3 an3 : Option Addr} {sl3 : Array (Option Value)} {oc3 kV3 dc3 pm3 cd3 ct3 : Value} (a3 : PySem.W.nsIn K mainGlobals "_law_base" = some (some (.ref f3))) (l3 : K.lookup f3 = some ⟨oc3, od3, .func (PySem.W.fnOf "_law_base" "_law_base" (defArgs s__law_base) (defBody s__law_base) (defScope s__law_base) .none kV3 dc3 pm3 an3 cd3 ct3), sl3⟩) (c3 : PySem.W.codeIn K cd3 "_law_base" = true) (k3 : PySem.W.keepIn K (.ref f3) = true)
    {f4 : Addr} {od4 an4 : Option Addr} {sl4 : Array (Option Value)} {oc4 kV4 dc4 pm4 cd4 ct4 : Value} (a4 : PySem.W.nsIn K mainGlobals "_law_covering" = some (some (.ref f4))) (l4 : K.lookup f4 = some ⟨oc4, od4, .func (PySem.W.fnOf "_law_covering" "_law_covering" (defArgs s__law_covering) (defBody s__law_covering) (defScope s__law_covering) .none kV4 dc4 pm4 an4 cd4 ct4), sl4⟩) (c4 : PySem.W.codeIn K cd4 "_law_covering" = true) (k4 : PySem.W.keepIn K (.ref f4) = true)
    {f5 : Addr} {od5 an5 : Option Addr} {sl5 : Array (Option Value)} {oc5 kV5 dc5 pm5 cd5 ct5 : Value} (a5 : PySem.W.nsIn K mainGlobals "_law_is" = some (some (.ref f5))) (l5 : K.lookup f5 = some ⟨oc5, od5, .func (PySem.W.fnOf "_law_is" "_law_is" (defArgs s__law_is) (defBody s__law_is) (defScope s__law_is) .none kV5 dc5 pm5 an5 cd5 ct5), sl5⟩) (c5 : PySem.W.codeIn K cd5 "_law_is" = true) (k5 : PySem.W.keepIn K (.ref f5) = true)
    {f6 : Addr} {od6 an6 : Option Addr} {sl6 : Array (Option Value)} {oc6 kV6 dc6 pm6 cd6 ct6 : Value} (a6 : PySem.W.nsIn K mainGlobals "_law_binomial" = some (some (.ref f6))) (l6 : K.lookup f6 = some ⟨oc6, od6, .func (PySem.W.fnOf "_law_binomial" "_law_binomial" (defArgs s__law_binomial) (defBody s__law_binomial) (defScope s__law_binomial) .none kV6 dc6 pm6 an6 cd6 ct6), sl6⟩) (c6 : PySem.W.codeIn K cd6 "_law_binomial" = true) (k6 : PySem.W.keepIn K (.ref f6) = true)
    {f7 : Addr} {od7 an7 : Option Addr} {sl7 : Array (Option Value)} {oc7 kV7 dc7 pm7 cd7 ct7 : Value} (a7 : PySem.W.nsIn K mainGlobals "_law_sums" = some (some (.ref f7))) (l7 : K.lookup f7 = some ⟨oc7, od7, .func (PySem.W.fnOf "_law_sums" "_law_sums" (defArgs s__law_sums) (defBody s__law_sums) (defScope s__law_sums) .none kV7 dc7 pm7 an7 cd7 ct7), sl7⟩) (c7 : PySem.W.codeIn K cd7 "_law_sums" = true) (k7 : PySem.W.keepIn K (.ref f7) = true)
    {f8 : Addr} {od8 an8 : Option Addr} {sl8 : Array (Option Value)} {oc8 kV8 dc8 pm8 cd8 ct8 : Value} (a8 : PySem.W.nsIn K mainGlobals "_law_weight" = some (some (.ref f8))) (l8 : K.lookup f8 = some ⟨oc8, od8, .func (PySem.W.fnOf "_law_weight" "_law_weight" (defArgs s__law_weight) (defBody s__law_weight) (defScope s__law_weight) .none kV8 dc8 pm8 an8 cd8 ct8), sl8⟩) (c8 : PySem.W.codeIn K cd8 "_law_weight" = true) (k8 : PySem.W.keepIn K (.ref f8) = true)
    {f9 : Addr} {od9 an9 : Option Addr} {sl9 : Array (Option Value)} {oc9 kV9 dc9 pm9 cd9 ct9 : Value} (a9 : PySem.W.nsIn K mainGlobals "is_integer" = some (some (.ref f9))) (l9 : K.lookup f9 = some ⟨oc9, od9, .func (PySem.W.fnOf "is_integer" "is_integer" (defArgs s_is_integer) (defBody s_is_integer) (defScope s_is_integer) .none kV9 dc9 pm9 an9 cd9 ct9), sl9⟩) (c9 : PySem.W.codeIn K cd9 "is_integer" = true) (k9 : PySem.W.keepIn K (.ref f9) = true)
    {f10 : Addr} {od10 an10 : Option Addr} {sl10 : Array (Option Value)} {oc10 kV10 dc10 pm10 cd10 ct10 : Value} (a10 : PySem.W.nsIn K mainGlobals "is_within" = some (some (.ref f10))) (l10 : K.lookup f10 = some ⟨oc10, od10, .func (PySem.W.fnOf "is_within" "is_within" (defArgs s_is_within) (defBody s_is_within) (defScope s_is_within) .none kV10 dc10 pm10 an10 cd10 ct10), sl10⟩) (c10 : PySem.W.codeIn K cd10 "is_within" = true) (k10 : PySem.W.keepIn K (.ref f10) = true)
    {f11 : Addr} {od11 an11 : Option Addr} {sl11 : Array (Option Value)} {oc11 kV11 dc11 pm11 cd11 ct11 : Value} (a11 : PySem.W.nsIn K mainGlobals "check_number" = some (some (.ref f11))) (l11 : K.lookup f11 = some ⟨oc11, od11, .func (PySem.W.fnOf "check_number" "check_number" (defArgs s_check_number) (defBody s_check_number) (defScope s_check_number) .none kV11 dc11 pm11 an11 cd11 ct11), sl11⟩) (c11 : PySem.W.codeIn K cd11 "check_number" = true) (k11 : PySem.W.keepIn K (.ref f11) = true)
    {f12 : Addr} {od12 an12 : Option Addr} {sl12 : Array (Option Value)} {oc12 kV12 dc12 pm12 cd12 ct12 : Value} (a12 : PySem.W.nsIn K mainGlobals "raw_coverings" = some (some (.ref f12))) (l12 : K.lookup f12 = some ⟨oc12, od12, .func (PySem.W.fnOf "raw_coverings" "raw_coverings" (defArgs s_raw_coverings) (defBody s_raw_coverings) (defScope s_raw_coverings) .none kV12 dc12 pm12 an12 cd12 ct12), sl12⟩) (c12 : PySem.W.codeIn K cd12 "raw_coverings" = true) (k12 : PySem.W.keepIn K (.ref f12) = true)
    {f13 : Addr} {od13 an13 : Option Addr} {sl13 : Array (Option Value)} {oc13 kV13 dc13 pm13 cd13 ct13 : Value} (a13 : PySem.W.nsIn K mainGlobals "coverings" = some (some (.ref f13))) (l13 : K.lookup f13 = some ⟨oc13, od13, .func (PySem.W.fnOf "coverings" "coverings" (defArgs s_coverings) (defBody s_coverings) (defScope s_coverings) .none kV13 dc13 pm13 an13 cd13 ct13), sl13⟩) (c13 : PySem.W.codeIn K cd13 "coverings" = true) (k13 : PySem.W.keepIn K (.ref f13) = true)
    {f14 : Addr} {od14 an14 : Option Addr} {sl14 : Array (Option Value)} {oc14 kV14 dc14 pm14 cd14 ct14 : Value} (a14 : PySem.W.nsIn K mainGlobals "is_base" = some (some (.ref f14))) (l14 : K.lookup f14 = some ⟨oc14, od14, .func (PySem.W.fnOf "is_base" "is_base" (defArgs s_is_base) (defBody s_is_base) (defScope s_is_base) .none kV14 dc14 pm14 an14 cd14 ct14), sl14⟩) (c14 : PySem.W.codeIn K cd14 "is_base" = true) (k14 : PySem.W.keepIn K (.ref f14) = true)
    {f15 : Addr} {od15 an15 : Option Addr} {sl15 : Array (Option Value)} {oc15 kV15 dc15 pm15 cd15 ct15 : Value} (a15 : PySem.W.nsIn K mainGlobals "check_base" = some (some (.ref f15))) (l15 : K.lookup f15 = some ⟨oc15, od15, .func (PySem.W.fnOf "check_base" "check_base" (defArgs s_check_base) (defBody s_check_base) (defScope s_check_base) .none kV15 dc15 pm15 an15 cd15 ct15), sl15⟩) (c15 : PySem.W.codeIn K cd15 "check_base" = true) (k15 : PySem.W.keepIn K (.ref f15) = true)
    {f16 : Addr} {od16 an16 : Option Addr} {sl16 : Array (Option Value)} {oc16 kV16 dc16 pm16 cd16 ct16 : Value} (a16 : PySem.W.nsIn K mainGlobals "row_by" = some (some (.ref f16))) (l16 : K.lookup f16 = some ⟨oc16, od16, .func (PySem.W.fnOf "row_by" "row_by" (defArgs s_row_by) (defBody s_row_by) (defScope s_row_by) .none kV16 dc16 pm16 an16 cd16 ct16), sl16⟩) (c16 : PySem.W.codeIn K cd16 "row_by" = true) (k16 : PySem.W.keepIn K (.ref f16) = true)
    {f17 : Addr} {od17 an17 : Option Addr} {sl17 : Array (Option Value)} {oc17 kV17 dc17 pm17 cd17 ct17 : Value} (a17 : PySem.W.nsIn K mainGlobals "raw_u" = some (some (.ref f17))) (l17 : K.lookup f17 = some ⟨oc17, od17, .func (PySem.W.fnOf "raw_u" "raw_u" (defArgs s_raw_u) (defBody s_raw_u) (defScope s_raw_u) .none kV17 dc17 pm17 an17 cd17 ct17), sl17⟩) (c17 : PySem.W.codeIn K cd17 "raw_u" = true) (k17 : PySem.W.keepIn K (.ref f17) = true)
    {f18 : Addr} {od18 an18 : Option Addr} {sl18 : Array (Option Value)} {oc18 kV18 dc18 pm18 cd18 ct18 : Value} (a18 : PySem.W.nsIn K mainGlobals "u_term" = some (some (.ref f18))) (l18 : K.lookup f18 = some ⟨oc18, od18, .func (PySem.W.fnOf "u_term" "u_term" (defArgs s_u_term) (defBody s_u_term) (defScope s_u_term) .none kV18 dc18 pm18 an18 cd18 ct18), sl18⟩) (c18 : PySem.W.codeIn K cd18 "u_term" = true) (k18 : PySem.W.keepIn K (.ref f18) = true)
    {f19 : Addr} {od19 an19 : Option Addr} {sl19 : Array (Option Value)} {oc19 kV19 dc19 pm19 cd19 ct19 : Value} (a19 : PySem.W.nsIn K mainGlobals "raw_cells" = some (some (.ref f19))) (l19 : K.lookup f19 = some ⟨oc19, od19, .func (PySem.W.fnOf "raw_cells" "raw_cells" (defArgs s_raw_cells) (defBody s_raw_cells) (defScope s_raw_cells) .none kV19 dc19 pm19 an19 cd19 ct19), sl19⟩) (c19 : PySem.W.codeIn K cd19 "raw_cells" = true) (k19 : PySem.W.keepIn K (.ref f19) = true)
    {f20 : Addr} {od20 an20 : Option Addr} {sl20 : Array (Option Value)} {oc20 kV20 dc20 pm20 cd20 ct20 : Value} (a20 : PySem.W.nsIn K mainGlobals "is_covering" = some (some (.ref f20))) (l20 : K.lookup f20 = some ⟨oc20, od20, .func (PySem.W.fnOf "is_covering" "is_covering" (defArgs s_is_covering) (defBody s_is_covering) (defScope s_is_covering) .none kV20 dc20 pm20 an20 cd20 ct20), sl20⟩) (c20 : PySem.W.codeIn K cd20 "is_covering" = true) (k20 : PySem.W.keepIn K (.ref f20) = true)
    {f21 : Addr} {od21 an21 : Option Addr} {sl21 : Array (Option Value)} {oc21 kV21 dc21 pm21 cd21 ct21 : Value} (a21 : PySem.W.nsIn K mainGlobals "check_covering" = some (some (.ref f21))) (l21 : K.lookup f21 = some ⟨oc21, od21, .func (PySem.W.fnOf "check_covering" "check_covering" (defArgs s_check_covering) (defBody s_check_covering) (defScope s_check_covering) .none kV21 dc21 pm21 an21 cd21 ct21), sl21⟩) (c21 : PySem.W.codeIn K cd21 "check_covering" = true) (k21 : PySem.W.keepIn K (.ref f21) = true)
    {f22 : Addr} {od22 an22 : Option Addr} {sl22 : Array (Option Value)} {oc22 kV22 dc22 pm22 cd22 ct22 : Value} (a22 : PySem.W.nsIn K mainGlobals "raw_power" = some (some (.ref f22))) (l22 : K.lookup f22 = some ⟨oc22, od22, .func (PySem.W.fnOf "raw_power" "raw_power" (defArgs s_raw_power) (defBody s_raw_power) (defScope s_raw_power) .none kV22 dc22 pm22 an22 cd22 ct22), sl22⟩) (c22 : PySem.W.codeIn K cd22 "raw_power" = true) (k22 : PySem.W.keepIn K (.ref f22) = true)
    {f23 : Addr} {od23 an23 : Option Addr} {sl23 : Array (Option Value)} {oc23 kV23 dc23 pm23 cd23 ct23 : Value} (a23 : PySem.W.nsIn K mainGlobals "raw_weight" = some (some (.ref f23))) (l23 : K.lookup f23 = some ⟨oc23, od23, .func (PySem.W.fnOf "raw_weight" "raw_weight" (defArgs s_raw_weight) (defBody s_raw_weight) (defScope s_raw_weight) .none kV23 dc23 pm23 an23 cd23 ct23), sl23⟩) (c23 : PySem.W.codeIn K cd23 "raw_weight" = true) (k23 : PySem.W.keepIn K (.ref f23) = true)
    {f24 : Addr} {od24 an24 : Option Addr} {sl24 : Array (Option Value)} {oc24 kV24 dc24 pm24 cd24 ct24 : Value} (a24 : PySem.W.nsIn K mainGlobals "weight" = some (some (.ref f24))) (l24 : K.lookup f24 = some ⟨oc24, od24, .func (PySem.W.fnOf "weight" "weight" (defArgs s_weight) (defBody s_weight) (defScope s_weight) .none kV24 dc24 pm24 an24 cd24 ct24), sl24⟩) (c24 : PySem.W.codeIn K cd24 "weight" = true) (k24 : PySem.W.keepIn K (.ref f24) = true)
    {f25 : Addr} {od25 an25 : Option Addr} {sl25 : Array (Option Value)} {oc25 kV25 dc25 pm25 cd25 ct25 : Value} (a25 : PySem.W.nsIn K mainGlobals "chosen" = some (some (.ref f25))) (l25 : K.lookup f25 = some ⟨oc25, od25, .func (PySem.W.fnOf "chosen" "chosen" (defArgs s_chosen) (defBody s_chosen) (defScope s_chosen) .none kV25 dc25 pm25 an25 cd25 ct25), sl25⟩) (c25 : PySem.W.codeIn K cd25 "chosen" = true) (k25 : PySem.W.keepIn K (.ref f25) = true)
    {f26 : Addr} {od26 an26 : Option Addr} {sl26 : Array (Option Value)} {oc26 kV26 dc26 pm26 cd26 ct26 : Value} (a26 : PySem.W.nsIn K mainGlobals "weights_of" = some (some (.ref f26))) (l26 : K.lookup f26 = some ⟨oc26, od26, .func (PySem.W.fnOf "weights_of" "weights_of" (defArgs s_weights_of) (defBody s_weights_of) (defScope s_weights_of) .none kV26 dc26 pm26 an26 cd26 ct26), sl26⟩) (c26 : PySem.W.codeIn K cd26 "weights_of" = true) (k26 : PySem.W.keepIn K (.ref f26) = true)
    {f27 : Addr} {od27 an27 : Option Addr} {sl27 : Array (Option Value)} {oc27 kV27 dc27 pm27 cd27 ct27 : Value} (a27 : PySem.W.nsIn K mainGlobals "_law_is_right" = some (some (.ref f27))) (l27 : K.lookup f27 = some ⟨oc27, od27, .func (PySem.W.fnOf "_law_is_right" "_law_is_right" (defArgs s__law_is_right) (defBody s__law_is_right) (defScope s__law_is_right) .none kV27 dc27 pm27 an27 cd27 ct27), sl27⟩) (c27 : PySem.W.codeIn K cd27 "_law_is_right" = true) (k27 : PySem.W.keepIn K (.ref f27) = true)
    {f28 : Addr} {od28 an28 : Option Addr} {sl28 : Array (Option Value)} {oc28 kV28 dc28 pm28 cd28 ct28 : Value} (a28 : PySem.W.nsIn K mainGlobals "law" = some (some (.ref f28))) (l28 : K.lookup f28 = some ⟨oc28, od28, .func (PySem.W.fnOf "law" "law" (defArgs s_law) (defBody s_law) (defScope s_law) .none kV28 dc28 pm28 an28 cd28 ct28), sl28⟩) (c28 : PySem.W.codeIn K cd28 "law" = true) (k28 : PySem.W.keepIn K (.ref f28) = true)
    (z_abs : PySem.W.nsIn K mainGlobals "abs" = some none)
    (z_all : PySem.W.nsIn K mainGlobals "all" = some none)
    (z_bool : PySem.W.nsIn K mainGlobals "bool" = some none)
    (z_int : PySem.W.nsIn K mainGlobals "int" = some none)
    (z_isinstance : PySem.W.nsIn K mainGlobals "isinstance" = some none)
    (z_len : PySem.W.nsIn K mainGlobals "len" = some none)
    (z_list : PySem.W.nsIn K mainGlobals "list" = some none)
    (z_range : PySem.W.nsIn K mainGlobals "range" = some none)
    (z_repr : PySem.W.nsIn K mainGlobals "repr" = some none)
    (z_str : PySem.W.nsIn K mainGlobals "str" = some none)
    (z_sum : PySem.W.nsIn K mainGlobals "sum" = some none)
    (z_tuple : PySem.W.nsIn K mainGlobals "tuple" = some none)
    (z_zip : PySem.W.nsIn K mainGlobals "zip" = some none)
    {t_LONG : Tok} (v_LONG : PySem.W.nsIn K mainGlobals "LONG" = some (some (.str "d" t_LONG)))
    {t_MOST_BASE : Tok} (v_MOST_BASE : PySem.W.nsIn K mainGlobals "MOST_BASE" = some (some (.int 100 t_MOST_BASE)))
    {t_MOST_CELLS : Tok} (v_MOST_CELLS : PySem.W.nsIn K mainGlobals "MOST_CELLS" = some (some (.int 40 t_MOST_CELLS)))
    {t_MOST_LISTED : Tok} (v_MOST_LISTED : PySem.W.nsIn K mainGlobals "MOST_LISTED" = some (some (.int 16 t_MOST_LISTED)))
    {t_MOST_PLACE : Tok} (v_MOST_PLACE : PySem.W.nsIn K mainGlobals "MOST_PLACE" = some (some (.int 400 t_MOST_PLACE)))
    {t_MOST_WEIGHED : Tok} (v_MOST_WEIGHED : PySem.W.nsIn K mainGlobals "MOST_WEIGHED" = some (some (.int 200 t_MOST_WEIGHED)))
    {t_SHORT : Tok} (v_SHORT : PySem.W.nsIn K mainGlobals "SHORT" = some (some (.str "s" t_SHORT)))
    {C_NoBase : Addr} (ea_NoBase : PySem.W.nsIn K mainGlobals "NoBase" = some (some (.ref C_NoBase))) (ex_NoBase : PySem.W.excIn K C_NoBase [.type "ValueError", .type "Exception", .type "BaseException", .type "object"] "ValueError.__new__" = true) (ek_NoBase : PySem.W.keepIn K (.ref C_NoBase) = true) (eb_NoBase : PySem.W.subIn K (.ref C_NoBase) (.type "BaseException") = some true) (et_NoBase : PySem.W.typeIn K (.ref C_NoBase) = some (.type "type"))
    {C_NoCovering : Addr} (ea_NoCovering : PySem.W.nsIn K mainGlobals "NoCovering" = some (some (.ref C_NoCovering))) (ex_NoCovering : PySem.W.excIn K C_NoCovering [.type "ValueError", .type "Exception", .type "BaseException", .type "object"] "ValueError.__new__" = true) (ek_NoCovering : PySem.W.keepIn K (.ref C_NoCovering) = true) (eb_NoCovering : PySem.W.subIn K (.ref C_NoCovering) (.type "BaseException") = some true) (et_NoCovering : PySem.W.typeIn K (.ref C_NoCovering) = some (.type "type"))
    {C_NoNumber : Addr} (ea_NoNumber : PySem.W.nsIn K mainGlobals "NoNumber" = some (some (.ref C_NoNumber))) (ex_NoNumber : PySem.W.excIn K C_NoNumber [.type "ValueError", .type "Exception", .type "BaseException", .type "object"] "ValueError.__new__" = true) (ek_NoNumber : PySem.W.keepIn K (.ref C_NoNumber) = true) (eb_NoNumber : PySem.W.subIn K (.ref C_NoNumber) (.type "BaseException") = some true) (et_NoNumber : PySem.W.typeIn K (.ref C_NoNumber) = some (.type "type")) :
    ∃ fd : FuncData, (∀ (s : Shared) (v : Value), BindsTo s fd ⟨[v], []⟩ [("script", v)]) ∧ ∀ base : Heap, K.In base → base.Ns mainGlobals mg → FnOk l.prog w K mg base (L2.CX l.prog w) 9 fa fd ["script"] (spLaw K) := by
  have e := hfa.symm.trans (PySem.W.mg_of X G a28)
  cases e
  have T : Txt K mg := {
    f__law_hand := ⟨_, _, PySem.W.mg_of X G a0, fun_mk (st := s__law_hand) l0 c0 k0, (fun_mk (st := s__law_hand) l0 c0 k0).binds (ps := ["script"]) fun _ _ _ _ _ _ us hl => match us, hl with | [_], _ => rfl⟩,
    f__law_draw := ⟨_, _, PySem.W.mg_of X G a1, fun_mk (st := s__law_draw) l1 c1 k1, (fun_mk (st := s__law_draw) l1 c1 k1).binds (ps := ["hand", "many"]) fun _ _ _ _ _ _ us hl => match us, hl with | [_, _], _ => rfl⟩,
    f__law_any := ⟨_, _, PySem.W.mg_of X G a2, fun_mk (st := s__law_any) l2 c2 k2, (fun_mk (st := s__law_any) l2 c2 k2).binds (ps := ["hand", "things"]) fun _ _ _ _ _ _ us hl => match us, hl with | [_, _], _ => rfl⟩,
    f__law_base := ⟨_, _, PySem.W.mg_of X G a3, fun_mk (st := s__law_base) l3 c3 k3, (fun_mk (st := s__law_base) l3 c3 k3).binds (ps := ["hand"]) fun _ _ _ _ _ _ us hl => match us, hl with | [_], _ => rfl⟩,
    f__law_covering := ⟨_, _, PySem.W.mg_of X G a4, fun_mk (st := s__law_covering) l4 c4 k4, (fun_mk (st := s__law_covering) l4 c4 k4).binds (ps := ["hand", "most"]) fun _ _ _ _ _ _ us hl => match us, hl with | [_, _], _ => rfl⟩,
    f__law_is := ⟨_, _, PySem.W.mg_of X G a5, fun_mk (st := s__law_is) l5 c5 k5, (fun_mk (st := s__law_is) l5 c5 k5).binds (ps := ["came", "due"]) fun _ _ _ _ _ _ us hl => match us, hl with | [_, _], _ => rfl⟩,
    f__law_binomial := ⟨_, _, PySem.W.mg_of X G a6, fun_mk (st := s__law_binomial) l6 c6 k6, (fun_mk (st := s__law_binomial) l6 c6 k6).binds (ps := ["many", "some"]) fun _ _ _ _ _ _ us hl => match us, hl with | [_, _], _ => rfl⟩,
    f__law_sums := ⟨_, _, PySem.W.mg_of X G a7, fun_mk (st := s__law_sums) l7 c7 k7, (fun_mk (st := s__law_sums) l7 c7 k7).binds (ps := ["base", "cells"]) fun _ _ _ _ _ _ us hl => match us, hl with | [_, _], _ => rfl⟩,
    f__law_weight := ⟨_, _, PySem.W.mg_of X G a8, fun_mk (st := s__law_weight) l8 c8 k8, (fun_mk (st := s__law_weight) l8 c8 k8).binds (ps := ["base", "covering"]) fun _ _ _ _ _ _ us hl => match us, hl with | [_, _], _ => rfl⟩,
    f_is_integer := ⟨_, _, PySem.W.mg_of X G a9, fun_mk (st := s_is_integer) l9 c9 k9, (fun_mk (st := s_is_integer) l9 c9 k9).binds (ps := ["thing"]) fun _ _ _ _ _ _ us hl => match us, hl with | [_], _ => rfl⟩,
    f_is_within := ⟨_, _, PySem.W.mg_of X G a10, fun_mk (st := s_is_within) l10 c10 k10, (fun_mk (st := s_is_within) l10 c10 k10).binds (ps := ["thing", "low", "high"]) fun _ _ _ _ _ _ us hl => match us, hl with | [_, _, _], _ => rfl⟩,
    f_check_number := ⟨_, _, PySem.W.mg_of X G a11, fun_mk (st := s_check_number) l11 c11 k11, (fun_mk (st := s_check_number) l11 c11 k11).binds (ps := ["thing", "low", "high"]) fun _ _ _ _ _ _ us hl => match us, hl with | [_, _, _], _ => rfl⟩,
    f_raw_coverings := ⟨_, _, PySem.W.mg_of X G a12, fun_mk (st := s_raw_coverings) l12 c12 k12, (fun_mk (st := s_raw_coverings) l12 c12 k12).binds (ps := ["cells"]) fun _ _ _ _ _ _ us hl => match us, hl with | [_], _ => rfl⟩,
    f_coverings := ⟨_, _, PySem.W.mg_of X G a13, fun_mk (st := s_coverings) l13 c13 k13, (fun_mk (st := s_coverings) l13 c13 k13).binds (ps := ["cells"]) fun _ _ _ _ _ _ us hl => match us, hl with | [_], _ => rfl⟩,
    f_is_base := ⟨_, _, PySem.W.mg_of X G a14, fun_mk (st := s_is_base) l14 c14 k14, (fun_mk (st := s_is_base) l14 c14 k14).binds (ps := ["thing"]) fun _ _ _ _ _ _ us hl => match us, hl with | [_], _ => rfl⟩,
    f_check_base := ⟨_, _, PySem.W.mg_of X G a15, fun_mk (st := s_check_base) l15 c15 k15, (fun_mk (st := s_check_base) l15 c15 k15).binds (ps := ["thing"]) fun _ _ _ _ _ _ us hl => match us, hl with | [_], _ => rfl⟩,
    f_row_by := ⟨_, _, PySem.W.mg_of X G a16, fun_mk (st := s_row_by) l16 c16 k16, (fun_mk (st := s_row_by) l16 c16 k16).binds (ps := ["base", "first", "second", "many"]) fun _ _ _ _ _ _ us hl => match us, hl with | [_, _, _, _], _ => rfl⟩,
    f_raw_u := ⟨_, _, PySem.W.mg_of X G a17, fun_mk (st := s_raw_u) l17 c17 k17, (fun_mk (st := s_raw_u) l17 c17 k17).binds (ps := ["base", "n"]) fun _ _ _ _ _ _ us hl => match us, hl with | [_, _], _ => rfl⟩,
    f_u_term := ⟨_, _, PySem.W.mg_of X G a18, fun_mk (st := s_u_term) l18 c18 k18, (fun_mk (st := s_u_term) l18 c18 k18).binds (ps := ["base", "n"]) fun _ _ _ _ _ _ us hl => match us, hl with | [_, _], _ => rfl⟩,
    f_raw_cells := ⟨_, _, PySem.W.mg_of X G a19, fun_mk (st := s_raw_cells) l19 c19 k19, (fun_mk (st := s_raw_cells) l19 c19 k19).binds (ps := ["covering"]) fun _ _ _ _ _ _ us hl => match us, hl with | [_], _ => rfl⟩,
    f_is_covering := ⟨_, _, PySem.W.mg_of X G a20, fun_mk (st := s_is_covering) l20 c20 k20, (fun_mk (st := s_is_covering) l20 c20 k20).binds (ps := ["thing"]) fun _ _ _ _ _ _ us hl => match us, hl with | [_], _ => rfl⟩,
    f_check_covering := ⟨_, _, PySem.W.mg_of X G a21, fun_mk (st := s_check_covering) l21 c21 k21, (fun_mk (st := s_check_covering) l21 c21 k21).binds (ps := ["thing"]) fun _ _ _ _ _ _ us hl => match us, hl with | [_], _ => rfl⟩,
    f_raw_power := ⟨_, _, PySem.W.mg_of X G a22, fun_mk (st := s_raw_power) l22 c22 k22, (fun_mk (st := s_raw_power) l22 c22 k22).binds (ps := ["number", "times"]) fun _ _ _ _ _ _ us hl => match us, hl with | [_, _], _ => rfl⟩,
    f_raw_weight := ⟨_, _, PySem.W.mg_of X G a23, fun_mk (st := s_raw_weight) l23 c23 k23, (fun_mk (st := s_raw_weight) l23 c23 k23).binds (ps := ["base", "signs"]) fun _ _ _ _ _ _ us hl => match us, hl with | [_, _], _ => rfl⟩,
    f_weight := ⟨_, _, PySem.W.mg_of X G a24, fun_mk (st := s_weight) l24 c24 k24, (fun_mk (st := s_weight) l24 c24 k24).binds (ps := ["base", "covering"]) fun _ _ _ _ _ _ us hl => match us, hl with | [_, _], _ => rfl⟩,
    f_chosen := ⟨_, _, PySem.W.mg_of X G a25, fun_mk (st := s_chosen) l25 c25 k25, (fun_mk (st := s_chosen) l25 c25 k25).binds (ps := ["many", "size"]) fun _ _ _ _ _ _ us hl => match us, hl with | [_, _], _ => rfl⟩,
    f_weights_of := ⟨_, _, PySem.W.mg_of X G a26, fun_mk (st := s_weights_of) l26 c26 k26, (fun_mk (st := s_weights_of) l26 c26 k26).binds (ps := ["base", "cells"]) fun _ _ _ _ _ _ us hl => match us, hl with | [_, _], _ => rfl⟩,
    f__law_is_right := ⟨_, _, PySem.W.mg_of X G a27, fun_mk (st := s__law_is_right) l27 c27 k27, (fun_mk (st := s__law_is_right) l27 c27 k27).binds (ps := ["hand"]) fun _ _ _ _ _ _ us hl => match us, hl with | [_], _ => rfl⟩,
    n_abs := PySem.W.mg_none_of X G z_abs,
    n_all := PySem.W.mg_none_of X G z_all,
    n_bool := PySem.W.mg_none_of X G z_bool,
    n_int := PySem.W.mg_none_of X G z_int,
    n_isinstance := PySem.W.mg_none_of X G z_isinstance,
    n_len := PySem.W.mg_none_of X G z_len,
    n_list := PySem.W.mg_none_of X G z_list,
    n_range := PySem.W.mg_none_of X G z_range,
    n_repr := PySem.W.mg_none_of X G z_repr,
    n_str := PySem.W.mg_none_of X G z_str,
    n_sum := PySem.W.mg_none_of X G z_sum,
    n_tuple := PySem.W.mg_none_of X G z_tuple,
    n_zip := PySem.W.mg_none_of X G z_zip,
    i_LONG := ⟨_, PySem.W.mg_of X G v_LONG⟩,
    i_MOST_BASE := ⟨_, PySem.W.mg_of X G v_MOST_BASE⟩,
    i_MOST_CELLS := ⟨_, PySem.W.mg_of X G v_MOST_CELLS⟩,
    i_MOST_LISTED := ⟨_, PySem.W.mg_of X G v_MOST_LISTED⟩,
    i_MOST_PLACE := ⟨_, PySem.W.mg_of X G v_MOST_PLACE⟩,
    i_MOST_WEIGHED := ⟨_, PySem.W.mg_of X G v_MOST_WEIGHED⟩,
    i_SHORT := ⟨_, PySem.W.mg_of X G v_SHORT⟩,
    e_NoBase := ⟨_, PySem.W.mg_of X G ea_NoBase, ex_NoBase, ek_NoBase, eb_NoBase, et_NoBase⟩,
    e_NoCovering := ⟨_, PySem.W.mg_of X G ea_NoCovering, ex_NoCovering, ek_NoCovering, eb_NoCovering, et_NoCovering⟩,
    e_NoNumber := ⟨_, PySem.W.mg_of X G ea_NoNumber, ex_NoNumber, ek_NoNumber, eb_NoNumber, et_NoNumber⟩ }
  exact ⟨PySem.W.fnOf "law" "law" (defArgs s_law) (defBody s_law) (defScope s_law) .none kV28 dc28 pm28 an28 cd28 ct28, fun s v => .of_eq rfl, fun base _ _ => ok_law T (fun_mk (st := s_law) l28 c28 k28) law_true⟩
end Sm.k45
open PySem PySem.W PyProof.Rows
set_option maxHeartbeats 0 in
theorem PySem.Challenge.cw_rankrows_k45_whole_weights_of_coverings_holds : PySem.Challenge.rw_rankrows_k45_whole_weights_of_coverings.Holds := by
  w_on; o_law; k_head; (case hw => w_witness2)
  k_fill
  refine L2.walk_of (l := PySem.Challenge.rw_rankrows_k45_whole_weights_of_coverings) (n := 63) (k := 9) (x := "script") (CX := fun w => L2.CX PySem.Challenge.pw_rankrows_k45_whole_weights_of_coverings w) (sp := fun w => Sm.spLaw _) rfl (by decide) rfl ⟨rfl, by decide, by decide⟩ (fun w h Y => PySem.W.kIn_of Y) ?F (fun _ _ a ns hl _ hS => ⟨a, ns, rfl, hS, hl, fun _ => rfl⟩) ?Z
  case F =>
    intro w mg fa h KX G hmg
    refine' Sm.k45.all_mk KX G hmg ?a0 ?l0 ?c0 ?k0 ?a1 ?l1 ?c1 ?k1 ?a2 ?l2 ?c2 ?k2 ?a3 ?l3 ?c3 ?k3 ?a4 ?l4 ?c4 ?k4 ?a5 ?l5 ?c5 ?k5 ?a6 ?l6 ?c6 ?k6 ?a7 ?l7 ?c7 ?k7 ?a8 ?l8 ?c8 ?k8 ?a9 ?l9 ?c9 ?k9 ?a10 ?l10 ?c10 ?k10 ?a11 ?l11 ?c11 ?k11 ?a12 ?l12 ?c12 ?k12 ?a13 ?l13 ?c13 ?k13 ?a14 ?l14 ?c14 ?k14 ?a15 ?l15 ?c15 ?k15 ?a16 ?l16 ?c16 ?k16 ?a17 ?l17 ?c17 ?k17 ?a18 ?l18 ?c18 ?k18 ?a19 ?l19 ?c19 ?k19 ?a20 ?l20 ?c20 ?k20 ?a21 ?l21 ?c21 ?k21 ?a22 ?l22 ?c22 ?k22 ?a23 ?l23 ?c23 ?k23 ?a24 ?l24 ?c24 ?k24 ?a25 ?l25 ?c25 ?k25 ?a26 ?l26 ?c26 ?k26 ?a27 ?l27 ?c27 ?k27 ?a28 ?l28 ?c28 ?k28 ?z_abs ?z_all ?z_bool ?z_int ?z_isinstance ?z_len ?z_list ?z_range ?z_repr ?z_str ?z_sum ?z_tuple ?z_zip ?v_LONG ?v_MOST_BASE ?v_MOST_CELLS ?v_MOST_LISTED ?v_MOST_PLACE ?v_MOST_WEIGHED ?v_SHORT ?ea_NoBase ?ex_NoBase ?ek_NoBase ?eb_NoBase ?et_NoBase ?ea_NoCovering ?ex_NoCovering ?ek_NoCovering ?eb_NoCovering ?et_NoCovering ?ea_NoNumber ?ex_NoNumber ?ek_NoNumber ?eb_NoNumber ?et_NoNumber
    (case a0 => k_is); (case l0 => k_is); (case c0 => k_is); (case k0 => k_is); (case a1 => k_is); (case l1 => k_is); (case c1 => k_is); (case k1 => k_is); (case a2 => k_is); (case l2 => k_is); (case c2 => k_is); (case k2 => k_is); (case a3 => k_is); (case l3 => k_is); (case c3 => k_is); (case k3 => k_is); (case a4 => k_is); (case l4 => k_is); (case c4 => k_is); (case k4 => k_is); (case a5 => k_is); (case l5 => k_is); (case c5 => k_is); (case k5 => k_is); (case a6 => k_is); (case l6 => k_is); (case c6 => k_is); (case k6 => k_is); (case a7 => k_is); (case l7 => k_is); (case c7 => k_is); (case k7 => k_is); (case a8 => k_is); (case l8 => k_is); (case c8 => k_is); (case k8 => k_is); (case a9 => k_is); (case l9 => k_is); (case c9 => k_is); (case k9 => k_is); (case a10 => k_is); (case l10 => k_is); (case c10 => k_is); (case k10 => k_is); (case a11 => k_is); (case l11 => k_is); (case c11 => k_is); (case k11 => k_is); (case a12 => k_is); (case l12 => k_is); (case c12 => k_is); (case k12 => k_is); (case a13 => k_is); (case l13 => k_is); (case c13 => k_is); (case k13 => k_is); (case a14 => k_is); (case l14 => k_is); (case c14 => k_is); (case k14 => k_is); (case a15 => k_is); (case l15 => k_is); (case c15 => k_is); (case k15 => k_is); (case a16 => k_is); (case l16 => k_is); (case c16 => k_is); (case k16 => k_is); (case a17 => k_is); (case l17 => k_is); (case c17 => k_is); (case k17 => k_is); (case a18 => k_is); (case l18 => k_is); (case c18 => k_is); (case k18 => k_is); (case a19 => k_is); (case l19 => k_is); (case c19 => k_is); (case k19 => k_is); (case a20 => k_is); (case l20 => k_is); (case c20 => k_is); (case k20 => k_is); (case a21 => k_is); (case l21 => k_is); (case c21 => k_is); (case k21 => k_is); (case a22 => k_is); (case l22 => k_is); (case c22 => k_is); (case k22 => k_is); (case a23 => k_is); (case l23 => k_is); (case c23 => k_is); (case k23 => k_is); (case a24 => k_is); (case l24 => k_is); (case c24 => k_is); (case k24 => k_is); (case a25 => k_is); (case l25 => k_is); (case c25 => k_is); (case k25 => k_is); (case a26 => k_is); (case l26 => k_is); (case c26 => k_is); (case k26 => k_is); (case a27 => k_is); (case l27 => k_is); (case c27 => k_is); (case k27 => k_is); (case a28 => k_is); (case l28 => k_is); (case c28 => k_is); (case k28 => k_is); (case z_abs => k_is); (case z_all => k_is); (case z_bool => k_is); (case z_int => k_is); (case z_isinstance => k_is); (case z_len => k_is); (case z_list => k_is); (case z_range => k_is); (case z_repr => k_is); (case z_str => k_is); (case z_sum => k_is); (case z_tuple => k_is); (case z_zip => k_is); (case v_LONG => k_is); (case v_MOST_BASE => k_is); (case v_MOST_CELLS => k_is); (case v_MOST_LISTED => k_is); (case v_MOST_PLACE => k_is); (case v_MOST_WEIGHED => k_is); (case v_SHORT => k_is); (case ea_NoBase => k_is); (case ex_NoBase => k_exc); (case ek_NoBase => k_is); (case eb_NoBase => k_is); (case et_NoBase => k_is); (case ea_NoCovering => k_is); (case ex_NoCovering => k_exc); (case ek_NoCovering => k_is); (case eb_NoCovering => k_is); (case et_NoCovering => k_is); (case ea_NoNumber => k_is); (case ex_NoNumber => k_exc); (case ek_NoNumber => k_is); (case eb_NoNumber => k_is); (case et_NoNumber => k_is)
  case Z =>
    intro w H s e s' z
    obtain ⟨_, _, _, _, _, _, _, _, _, _, _, _, z⟩ := z
    exact z
