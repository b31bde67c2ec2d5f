import PyProof.Rows.All
import Wide.All
import OpenK.AllK
import Wide.FinOn
import HandS.ForMost
import HandS.Wide
import HandS.Defaults
import HandS.Gcd
import HandS.EndBits
import PyProof.MaxThree
import Flt.RightSqrt
import PySem.Interp
import KE.KStateDown
import Lean
import HandS.Head0
import HandS.Head1
import HandS.Head2
import HandS.Head3
import HandS.HeadEnd
import HandS.HeadHook1
import HandS.HeadHook2
import HandS.HeadHook3
import HandS.HeadHook4
import PySem.Challenge.RW_orrery_k23_whole_meetings_are_true_of_al
section
set_option Elab.async false
set_option linter.all false
set_option maxRecDepth 100000
set_option maxHeartbeats 4000000
/-! The frame: readings by types. A type says of a value, in a part of the heap that stands still, exactly which data it holds. -/
namespace T
open PySem PySem.Spec PyProof.Rows L2
abbrev St := L2.St

/-! ### types -/
structure Ty (K : PySem.W.Frag) where
  ok : Hp → V → Prop
  mono : ∀ {F F' : Hp} {v : V}, Same F F' → ok F v → ok F' v
section
variable {K : PySem.W.Frag}
def All2 (F : Hp) : List (Ty K) → List V → Prop
  | [], [] => True
  | t :: ts, x :: xs => t.ok F x ∧ All2 F ts xs
  | _, _ => False
theorem All2.mono {F F' : Hp} (e : Same F F') : ∀ {ts : List (Ty K)} {xs : List V}, All2 F ts xs → All2 F' ts xs
  | [], [], _ => trivial
  | t :: ts, x :: xs, h => ⟨t.mono e h.1, All2.mono e h.2⟩
  | [], _ :: _, h => h.elim
  | _ :: _, [], h => h.elim
theorem All2.len {F : Hp} : ∀ {ts : List (Ty K)} {xs : List V}, All2 F ts xs → xs.length = ts.length
  | [], [], _ => rfl
  | t :: ts, x :: xs, h => congrArg Nat.succ (All2.len h.2)
  | [], _ :: _, h => h.elim
  | _ :: _, [], h => h.elim
theorem All2.get {F : Hp} : ∀ {ts : List (Ty K)} {xs : List V} {i : Nat} {t : Ty K}, All2 F ts xs → ts[i]? = some t → ∃ x, xs[i]? = some x ∧ t.ok F x
  | [], [], i, t, _, e => by simp at e
  | t :: ts, x :: xs, 0, u, h, e => by
    have e2 : t = u := Option.some.inj e
    subst e2
    exact ⟨x, rfl, h.1⟩
  | t :: ts, x :: xs, i + 1, u, h, e => All2.get (i := i) h.2 e
  | [], _ :: _, _, _, h, _ => h.elim
  | _ :: _, [], _, _, h, _ => h.elim
theorem All2.get' {F : Hp} {ts : List (Ty K)} {xs : List V} {i : Nat} {x : V} (h : All2 F ts xs) (e : xs[i]? = some x) : ∃ t, ts[i]? = some t ∧ t.ok F x := by
  obtain ⟨hi, _⟩ := List.getElem?_eq_some_iff.mp e
  have hi2 : i < ts.length := by rw [← h.len]; exact hi
  obtain ⟨y, e2, o⟩ := h.get (List.getElem?_eq_getElem hi2)
  rw [e] at e2
  cases e2
  exact ⟨_, List.getElem?_eq_getElem hi2, o⟩
theorem All2.app {F : Hp} : ∀ {ts us : List (Ty K)} {xs ys : List V}, All2 F ts xs → All2 F us ys → All2 F (ts ++ us) (xs ++ ys)
  | [], _, [], _, _, h => h
  | t :: ts, _, x :: xs, _, h, h2 => ⟨h.1, All2.app h.2 h2⟩
  | [], _, _ :: _, _, h, _ => h.elim
  | _ :: _, _, [], _, h, _ => h.elim
theorem All2.set {F : Hp} : ∀ {ts : List (Ty K)} {xs : List V} {i : Nat} {t : Ty K} {x : V}, All2 F ts xs → t.ok F x → All2 F (ts.set i t) (xs.set i x)
  | [], [], _, _, _, _, _ => trivial
  | t :: ts, x :: xs, 0, u, y, h, k => ⟨k, h.2⟩
  | t :: ts, x :: xs, i + 1, u, y, h, k => ⟨h.1, All2.set (i := i) h.2 k⟩
  | [], _ :: _, _, _, _, h, _ => h.elim
  | _ :: _, [], _, _, _, h, _ => h.elim
def AllF (F : Hp) : List (Str × Ty K) → List (Str × V) → Prop
  | [], [] => True
  | t :: ts, x :: xs => t.1 = x.1 ∧ t.2.ok F x.2 ∧ AllF F ts xs
  | _, _ => False
theorem AllF.mono {F F' : Hp} (e : Same F F') : ∀ {ts : List (Str × Ty K)} {xs : List (Str × V)}, AllF F ts xs → AllF F' ts xs
  | [], [], _ => trivial
  | t :: ts, x :: xs, h => ⟨h.1, t.2.mono e h.2.1, AllF.mono e h.2.2⟩
  | [], _ :: _, h => h.elim
  | _ :: _, [], h => h.elim
theorem AllF.get {F : Hp} {f : Str} {t : Ty K} : ∀ {ts : List (Str × Ty K)} {xs : List (Str × V)}, AllF F ts xs → ts.lookup f = some t → ∃ x, xs.lookup f = some x ∧ t.ok F x
  | [], [], _, e => by cases e
  | (g, u) :: ts, (k, x) :: xs, h, e => by
    have h1 : g = k := h.1
    subst h1
    rw [List.lookup_cons] at e ⊢
    cases q : f == g with
    | true =>
      rw [q] at e
      have e2 : u = t := Option.some.inj e
      subst e2
      exact ⟨x, rfl, h.2.1⟩
    | false =>
      rw [q] at e
      exact AllF.get h.2.2 e
  | [], _ :: _, h, _ => h.elim
  | _ :: _, [], h, _ => h.elim
theorem AllF.no {F : Hp} {f : Str} : ∀ {ts : List (Str × Ty K)} {xs : List (Str × V)}, AllF F ts xs → ts.lookup f = none → xs.lookup f = none
  | [], [], _, _ => rfl
  | (g, u) :: ts, (k, x) :: xs, h, e => by
    have h1 : g = k := h.1
    subst h1
    rw [List.lookup_cons] at e ⊢
    cases q : f == g with
    | true =>
      rw [q] at e
      cases e
    | false =>
      rw [q] at e
      exact AllF.no h.2.2 e
  | [], _ :: _, h, _ => h.elim
  | _ :: _, [], h, _ => h.elim
theorem AllF.len {F : Hp} : ∀ {ts : List (Str × Ty K)} {xs : List (Str × V)}, AllF F ts xs → xs.length = ts.length
  | [], [], _ => rfl
  | t :: ts, x :: xs, h => congrArg Nat.succ (AllF.len h.2.2)
  | [], _ :: _, h => h.elim
  | _ :: _, [], h => h.elim
def putT (f : Str) (t : Ty K) : List (Str × Ty K) → List (Str × Ty K)
  | [] => [(f, t)]
  | (g, u) :: r => if g = f then (g, t) :: r else (g, u) :: putT f t r
theorem AllF.put {F : Hp} {f : Str} {t : Ty K} {v : V} (k : t.ok F v) : ∀ {ts : List (Str × Ty K)} {xs : List (Str × V)}, AllF F ts xs → AllF F (putT f t ts) (putF f v xs)
  | [], [], _ => ⟨rfl, k, trivial⟩
  | (g, u) :: ts, (j, x) :: xs, h => by
    have h1 : g = j := h.1
    subst h1
    show AllF F (if g = f then (g, t) :: ts else (g, u) :: putT f t ts) (if g = f then (g, v) :: xs else (g, x) :: putF f v xs)
    by_cases q : g = f
    · rw [if_pos q, if_pos q]
      exact ⟨rfl, k, h.2.2⟩
    · rw [if_neg q, if_neg q]
      exact ⟨rfl, h.2.1, AllF.put k h.2.2⟩
  | [], _ :: _, h => h.elim
  | _ :: _, [], h => h.elim

def tI (i : Int) : Ty K := ⟨fun _ v => v = .int i, fun _ h => h⟩
def tB (b : Bool) : Ty K := ⟨fun _ v => v = .bl b, fun _ h => h⟩
def tS (s : Str) : Ty K := ⟨fun _ v => v = .str s, fun _ h => h⟩
def tN : Ty K := ⟨fun _ v => v = .non, fun _ h => h⟩
theorem Same.seqT {H H' : Hp} {a : Addr} {xs : List V} (e : Same H H') (h : SqT K H a xs) : SqT K H' a xs := by
  rcases h with (h | ⟨o, h⟩) | h
  · exact .inl (.inl (e _ _ h))
  · exact .inl (.inr ⟨o, e _ _ h⟩)
  · exact .inr h
/-- a tuple -/
def tT (ts : List (Ty K)) : Ty K := ⟨fun F v => ∃ p xs, v = .ref p ∧ SqT K F p xs ∧ All2 F ts xs, fun e ⟨p, xs, h1, h2, h3⟩ => ⟨p, xs, h1, Same.seqT e h2, h3.mono e⟩⟩
/-- a list that stands still -/
def tL (ts : List (Ty K)) : Ty K := ⟨fun F v => ∃ p xs, v = .ref p ∧ F p = some (.lst xs) ∧ All2 F ts xs, fun e ⟨p, xs, h1, h2, h3⟩ => ⟨p, xs, h1, e _ _ h2, h3.mono e⟩⟩
/-- a list that is known by any way (the script) -/
def tQ (ts : List (Ty K)) : Ty K := ⟨fun F v => ∃ p xs, v = .ref p ∧ SqL K F p xs ∧ All2 F ts xs, fun e ⟨p, xs, h1, h2, h3⟩ => ⟨p, xs, h1, e.seq h2, h3.mono e⟩⟩
theorem tL_Q {ts : List (Ty K)} {F : Hp} {v : V} (h : (tL ts).ok F v) : (tQ ts).ok F v := by
  obtain ⟨p, xs, h1, h2, h3⟩ := h
  exact ⟨p, xs, h1, SqL.of h2, h3⟩
/-- an instance that stands still -/
def tIn (C : Addr) (fs : List (Str × Ty K)) : Ty K := ⟨fun F v => ∃ p dx gs, v = .ref p ∧ F p = some (.ins C dx gs) ∧ AllF F fs gs, fun e ⟨p, dx, gs, h1, h2, h3⟩ => ⟨p, dx, gs, h1, e _ _ h2, h3.mono e⟩⟩
/-- some data of which φ holds -/
def tEx {α : Type} (φ : α → Prop) (f : α → Ty K) : Ty K := ⟨fun F v => ∃ a, φ a ∧ (f a).ok F v, fun e ⟨a, h1, h2⟩ => ⟨a, h1, (f a).mono e h2⟩⟩
/-- None, or .. -/
def tO {α : Type} (f : α → Ty K) : Option α → Ty K
  | none => tN
  | some a => f a

/-! ### the owned thing -/
structure OT (K : PySem.W.Frag) where
  ok : Hp → Addr → HO → Prop
  mono : ∀ {F F' : Hp} {p : Addr} {o : HO}, Same F F' → ok F p o → ok F' p o
def oL (ts : List (Ty K)) : OT K := ⟨fun F _ o => ∃ xs, o = .lst xs ∧ All2 F ts xs, fun e ⟨xs, h1, h2⟩ => ⟨xs, h1, h2.mono e⟩⟩
/-- the instance a -/
def oIn (a C : Addr) (fs : List (Str × Ty K)) : OT K := ⟨fun F p o => p = a ∧ ∃ dx gs, o = .ins C dx gs ∧ AllF F fs gs, fun e ⟨h0, dx, gs, h1, h2⟩ => ⟨h0, dx, gs, h1, h2.mono e⟩⟩
/-- what a dict holds of an int key -/
def Dh (F : Hp) (zs : List (Key × V)) (i : Int) : Option (Ty K) → Prop
  | none => valV zs (.inl i) = none
  | some t => ∃ v, valV zs (.inl i) = some v ∧ t.ok F v
theorem Dh.mono {F F' : Hp} {zs : List (Key × V)} {i : Int} (e : Same F F') : ∀ {o : Option (Ty K)}, Dh F zs i o → Dh F' zs i o
  | none, h => h
  | some t, ⟨v, h1, h2⟩ => ⟨v, h1, t.mono e h2⟩
/-- a dict of int keys, by what it holds of them -/
def oD (n : Nat) (g : Int → Option (Ty K)) : OT K := ⟨fun F _ o => ∃ zs : List (Key × V), o = .dK zs ∧ zs.length ≤ n ∧ ∀ i, Dh F zs i (g i), fun e ⟨zs, h1, h2, h3⟩ => ⟨zs, h1, h2, fun i => (h3 i).mono e⟩⟩

/-! ### the world -/
/-- F is what stands still, H all that is tracked; F0, H0 those at the entry -/
structure Wd (F0 H0 F H : Hp) : Prop where
  ff : Same F0 F
  fh : Same F H
  hh : Same H0 H
  nw : ∀ p, F0 p = none → H0 p ≠ none → F p = none
theorem Wd.refl {F H : Hp} (h : Same F H) : Wd F H F H := ⟨Same.refl _, h, Same.refl _, fun _ h _ => h⟩
theorem Wd.trans {F0 H0 F H F' H' : Hp} (a : Wd F0 H0 F H) (b : Wd F H F' H') : Wd F0 H0 F' H' :=
  ⟨a.ff.trans b.ff, b.fh, a.hh.trans b.hh, fun p h1 h2 => b.nw p (a.nw p h1 h2) fun q => by
    cases e : H0 p with
    | none => exact h2 e
    | some o =>
      have := a.hh p o e
      rw [q] at this
      cases this⟩
/-- a new thing that stands still at once -/
theorem Wd.new {F H : Hp} {p : Addr} {o : HO} (h : Same F H) (n : H p = none) : Wd F H (upd F p o) (upd H p o) := by
  have nf : F p = none := h.free n
  refine ⟨fun b u e => ?_, fun b u e => ?_, fun b u e => ?_, fun q h1 h2 => ?_⟩
  · rw [upd_ne (ne_of_none e nf)]; exact e
  · by_cases hb : b = p
    · subst hb; rw [upd_same] at e ⊢; exact e
    · rw [upd_ne hb] at e ⊢; exact h b u e
  · rw [upd_ne (ne_of_none e n)]; exact e
  · have hq : q ≠ p := fun z => h2 (by rw [z]; exact n)
    rw [upd_ne hq]; exact h1
/-- a new thing that is owned -/
theorem Wd.own {F H : Hp} {p : Addr} {o : HO} (h : Same F H) (n : H p = none) : Wd F H F (upd H p o) :=
  ⟨Same.refl _, fun b u e => by rw [upd_ne (ne_of_none (h b u e) n)]; exact h b u e, fun b u e => by rw [upd_ne (ne_of_none e n)]; exact e, fun _ h _ => h⟩
/-- the owned thing is changed -/
theorem Wd.chg {F0 H0 F H : Hp} {p : Addr} {o : HO} (w : Wd F0 H0 F H) (n0 : H0 p = none) (nf : F p = none) : Wd F0 H0 F (upd H p o) :=
  ⟨w.ff, fun b u e => by rw [upd_ne (ne_of_none e nf)]; exact w.fh b u e, fun b u e => by rw [upd_ne (ne_of_none e n0)]; exact w.hh b u e, w.nw⟩
/-- the owned thing stands still from here on -/
theorem Wd.frz {F0 H0 F H : Hp} {p : Addr} {o : HO} (w : Wd F0 H0 F H) (n0 : H0 p = none) (nf : F p = none) (ho : H p = some o) : Wd F0 H0 (upd F p o) H := by
  refine ⟨fun b u e => ?_, fun b u e => ?_, w.hh, fun q h1 h2 => ?_⟩
  · have hb : b ≠ p := fun z => by
      subst z
      have := w.ff b u e
      rw [nf] at this
      cases this
    rw [upd_ne hb]; exact w.ff b u e
  · by_cases hb : b = p
    · subst hb; rw [upd_same] at e; rw [← e]; exact ho
    · rw [upd_ne hb] at e; exact w.fh b u e
  · have hq : q ≠ p := fun z => h2 (by rw [z]; exact n0)
    rw [upd_ne hq]; exact w.nw q h1 h2
theorem same_frz {F : Hp} {p : Addr} {o : HO} (nf : F p = none) : Same F (upd F p o) := fun b u e => by
  rw [upd_ne (ne_of_none e nf)]
  exact e

/-! ### the slots -/
abbrev Env1 (K : PySem.W.Frag) := List (Option (Ty K))
abbrev Ow (K : PySem.W.Frag) := Option (Nat × OT K)
def TyEnv (F : Hp) : Env1 K → St → Prop
  | [], [] => True
  | none :: Γ, _ :: σ => TyEnv F Γ σ
  | some t :: Γ, o :: σ => (∃ v, o = some v ∧ t.ok F v) ∧ TyEnv F Γ σ
  | _, _ => False
theorem TyEnv.mono {F F' : Hp} (e : Same F F') : ∀ {Γ : Env1 K} {σ : St}, TyEnv F Γ σ → TyEnv F' Γ σ
  | [], [], _ => trivial
  | none :: Γ, _ :: σ, h => TyEnv.mono (Γ := Γ) (σ := σ) e h
  | some t :: Γ, o :: σ, ⟨⟨v, h1, h2⟩, h3⟩ => ⟨⟨v, h1, t.mono e h2⟩, TyEnv.mono e h3⟩
  | [], _ :: _, h => h.elim
  | none :: _, [], h => h.elim
  | some _ :: _, [], h => h.elim
theorem TyEnv.get {F : Hp} : ∀ {Γ : Env1 K} {σ : St} {i : Nat} {t : Ty K}, TyEnv F Γ σ → Γ[i]? = some (some t) → ∃ v, σ[i]? = some (some v) ∧ t.ok F v
  | [], [], i, t, _, e => by simp at e
  | none :: Γ, o :: σ, 0, t, h, e => by cases e
  | none :: Γ, o :: σ, i + 1, t, h, e => TyEnv.get (Γ := Γ) (σ := σ) (i := i) h e
  | some u :: Γ, o :: σ, 0, t, ⟨⟨v, h1, h2⟩, h3⟩, e => by
    have e2 : u = t := Option.some.inj (Option.some.inj e)
    subst e2
    exact ⟨v, congrArg some h1, h2⟩
  | some u :: Γ, o :: σ, i + 1, t, ⟨_, h3⟩, e => TyEnv.get (Γ := Γ) (σ := σ) (i := i) h3 e
  | [], _ :: _, _, _, h, _ => h.elim
  | none :: _, [], _, _, h, _ => h.elim
  | some _ :: _, [], _, _, h, _ => h.elim
theorem TyEnv.set {F : Hp} {t : Ty K} {v : V} (k : t.ok F v) : ∀ {Γ : Env1 K} {σ : St} {i : Nat}, TyEnv F Γ σ → TyEnv F (Γ.set i (some t)) (σ.set i (some v))
  | [], [], _, _ => trivial
  | none :: Γ, o :: σ, 0, h => ⟨⟨v, rfl, k⟩, h⟩
  | none :: Γ, o :: σ, i + 1, h => TyEnv.set (Γ := Γ) (σ := σ) (i := i) k h
  | some u :: Γ, o :: σ, 0, h => ⟨⟨v, rfl, k⟩, h.2⟩
  | some u :: Γ, o :: σ, i + 1, h => ⟨h.1, TyEnv.set (Γ := Γ) (σ := σ) (i := i) k h.2⟩
  | [], _ :: _, _, h => h.elim
  | none :: _, [], _, h => h.elim
  | some _ :: _, [], _, h => h.elim
theorem TyEnv.setN {F : Hp} {o : Option V} : ∀ {Γ : Env1 K} {σ : St} {i : Nat}, TyEnv F Γ σ → TyEnv F (Γ.set i none) (σ.set i o)
  | [], [], _, _ => trivial
  | none :: Γ, _ :: σ, 0, h => h
  | none :: Γ, _ :: σ, i + 1, h => TyEnv.setN (Γ := Γ) (σ := σ) (i := i) h
  | some u :: Γ, _ :: σ, 0, h => h.2
  | some u :: Γ, _ :: σ, i + 1, h => ⟨h.1, TyEnv.setN (Γ := Γ) (σ := σ) (i := i) h.2⟩
  | [], _ :: _, _, h => h.elim
  | none :: _, [], _, h => h.elim
  | some _ :: _, [], _, h => h.elim
theorem TyEnv.len {F : Hp} : ∀ {Γ : Env1 K} {σ : St}, TyEnv F Γ σ → σ.length = Γ.length
  | [], [], _ => rfl
  | none :: Γ, _ :: σ, h => congrArg Nat.succ (TyEnv.len (Γ := Γ) (σ := σ) h)
  | some t :: Γ, o :: σ, h => congrArg Nat.succ (TyEnv.len h.2)
  | [], _ :: _, h => h.elim
  | none :: _, [], h => h.elim
  | some _ :: _, [], h => h.elim
/-- less is told -/
def Less : Env1 K → Env1 K → Prop
  | [], [] => True
  | none :: Γ, _ :: Δ => Less Γ Δ
  | some t :: Γ, some u :: Δ => (∀ F v, u.ok F v → t.ok F v) ∧ Less Γ Δ
  | _, _ => False
theorem TyEnv.less {F : Hp} : ∀ {Γ Δ : Env1 K} {σ : St}, Less Γ Δ → TyEnv F Δ σ → TyEnv F Γ σ
  | [], [], [], _, _ => trivial
  | none :: Γ, none :: Δ, _ :: σ, l, h => TyEnv.less (Γ := Γ) (Δ := Δ) (σ := σ) l h
  | none :: Γ, some u :: Δ, _ :: σ, l, h => TyEnv.less (Γ := Γ) (Δ := Δ) (σ := σ) l h.2
  | some t :: Γ, some u :: Δ, _ :: σ, l, ⟨⟨v, h1, h2⟩, h3⟩ => ⟨⟨v, h1, l.1 _ _ h2⟩, TyEnv.less l.2 h3⟩
  | some t :: Γ, none :: Δ, _, l, _ => l.elim
  | [], _ :: _, _, l, _ => l.elim
  | none :: _, [], _, l, _ => l.elim
  | some _ :: _, [], _, l, _ => l.elim
  | [], [], _ :: _, _, h => h.elim
  | none :: _, none :: _, [], _, h => h.elim
  | none :: _, some _ :: _, [], _, h => h.elim
  | some _ :: _, some _ :: _, [], _, h => h.elim
theorem Less.refl : ∀ {Γ : Env1 K}, Less Γ Γ
  | [] => trivial
  | none :: Γ => Less.refl (Γ := Γ)
  | some t :: Γ => ⟨fun _ _ h => h, Less.refl⟩
/-- the owned thing in slot i: not there at the entry, not among what stands still -/
def OwnOk (H0 F H : Hp) (σ : St) : Ow K → Prop
  | none => True
  | some (i, ot) => ∃ p o, σ[i]? = some (some (.ref p)) ∧ H0 p = none ∧ F p = none ∧ H p = some o ∧ ot.ok F p o
structure Pre (Γ : Env1 K) (Ω : Ow K) (H0 : Hp) (σ : St) (F H : Hp) : Prop where
  fh : Same F H
  env : TyEnv F Γ σ
  own : OwnOk H0 F H σ Ω
theorem OwnOk.mono {H0 F H F' H' : Hp} {σ : St} {Ω : Ow K} (w : Wd F H F' H') (h : OwnOk H0 F H σ Ω) : OwnOk H0 F' H' σ Ω := by
  cases Ω with
  | none => trivial
  | some q =>
    obtain ⟨i, ot⟩ := q
    obtain ⟨p, o, h1, h2, h3, h4, h5⟩ := h
    exact ⟨p, o, h1, h2, w.nw p h3 (by rw [h4]; simp), w.hh _ _ h4, ot.mono w.ff h5⟩
theorem Pre.mono {Γ : Env1 K} {Ω : Ow K} {H0 F H F' H' : Hp} {σ : St} (w : Wd F H F' H') (h : Pre Γ Ω H0 σ F H) : Pre Γ Ω H0 σ F' H' := ⟨w.fh, h.env.mono w.ff, h.own.mono w⟩
end

/-! ### the judgements -/
/-- what an expression, a test, arguments, statements surely do: the weakest reading -/
def teU (X : Cx) (e : Expr) : TE := fun σ H Q => ∀ pins s, Inv X pins σ H s → wpAny (model X.prog X.w) X.A (eval e X.env) (EP X pins σ Q) X.xe s
theorem peU {X : Cx} {e : Expr} : PE X e (teU X e) := ⟨fun pins s _ _ _ I h => h pins s I⟩
theorem teU_of {X : Cx} {e : Expr} {te : TE} {σ : St} {H : Hp} {Q : VK} (h : PE X e te) (q : te σ H Q) : teU X e σ H Q := fun pins s I => h.run pins s σ H Q I q
def ttU (X : Cx) (e : Expr) : TT := fun σ H Q => ∀ pins s, Inv X pins σ H s → wpAny (model X.prog X.w) X.A (isTrue e X.env (eval e X.env)) (TP X pins σ Q) X.xe s
theorem ptU {X : Cx} {e : Expr} : PT X e (ttU X e) := ⟨fun pins s _ _ _ I h => h pins s I⟩
theorem ttU_of {X : Cx} {e : Expr} {tt : TT} {σ : St} {H : Hp} {Q : Bool → Hp → Prop} (h : PT X e tt) (q : tt σ H Q) : ttU X e σ H Q := fun pins s I => h.run pins s σ H Q I q
def twU (X : Cx) (e : Expr) : TT := fun σ H Q => ∀ whole pins s, Inv X pins σ H s → wpAny (model X.prog X.w) X.A (isTrue e X.env whole) (TP X pins σ Q) X.xe s
theorem pwU {X : Cx} {e : Expr} : PW X e (twU X e) := ⟨fun whole pins s _ _ _ I h => h whole pins s I⟩
theorem twU_of {X : Cx} {e : Expr} {tt : TT} {σ : St} {H : Hp} {Q : Bool → Hp → Prop} (h : PW X e tt) (q : tt σ H Q) : twU X e σ H Q := fun whole pins s I => h.run whole pins s σ H Q I q
def taU (X : Cx) (es : List Expr) : TA := fun σ H Q => ∀ pos pins s, Inv X pins σ H s → wpAny (model X.prog X.w) X.A (spliced (backTo pos (starEach es X.env))) (AP X pins σ Q) X.xe s
theorem paU {X : Cx} {es : List Expr} : PA X es (taU X es) := ⟨fun pos pins s _ _ _ I h => h pos pins s I⟩
theorem taU_of {X : Cx} {es : List Expr} {ta : TA} {σ : St} {H : Hp} {Q : List V → Hp → Prop} (h : PA X es ta) (q : ta σ H Q) : taU X es σ H Q := fun pos pins s I => h.run pos pins s σ H Q I q
def pssU (X : Cx) (sts : List Stmt) : TS := fun D σ H => ∀ pins s, Inv X pins σ H s → wpAny (model X.prog X.w) X.A (execs sts X.env) (SP X pins D) X.xe s
theorem psU {X : Cx} {sts : List Stmt} : PSs X sts (pssU X sts) := ⟨fun pins s _ _ _ I h => h pins s I⟩
theorem pssU_of {X : Cx} {sts : List Stmt} {ts : TS} {σ : St} {H : Hp} {D : Ends} (h : PSs X sts ts) (q : ts D σ H) : pssU X sts D σ H := fun pins s I => h.run pins s σ H D I q

variable {X : Cx}
def EJ (X : Cx) {K : PySem.W.Frag} (Γ : Env1 K) (Ω : Ow K) (e : Expr) (t : Ty K) : Prop :=
  ∀ H0 σ F H, Pre Γ Ω H0 σ F H → ∀ Q : VK, (∀ v F' H', Wd F H F' H' → t.ok F' v → Q v H') → teU X e σ H Q
def BJ (X : Cx) {K : PySem.W.Frag} (Γ : Env1 K) (Ω : Ow K) (e : Expr) (b : Bool) : Prop :=
  ∀ H0 σ F H, Pre Γ Ω H0 σ F H → ∀ Q : Bool → Hp → Prop, (∀ F' H', Wd F H F' H' → Q b H') → ttU X e σ H Q
def WJ (X : Cx) {K : PySem.W.Frag} (Γ : Env1 K) (Ω : Ow K) (e : Expr) (b : Bool) : Prop :=
  ∀ H0 σ F H, Pre Γ Ω H0 σ F H → ∀ Q : Bool → Hp → Prop, (∀ F' H', Wd F H F' H' → Q b H') → twU X e σ H Q
def AJ (X : Cx) {K : PySem.W.Frag} (Γ : Env1 K) (Ω : Ow K) (es : List Expr) (ts : List (Ty K)) : Prop :=
  ∀ H0 σ F H, Pre Γ Ω H0 σ F H → ∀ Q : List V → Hp → Prop, (∀ vs F' H', Wd F H F' H' → All2 F' ts vs → Q vs H') → taU X es σ H Q
abbrev As := Hp → St → Hp → Hp → Prop
structure Dn where
  nx : As
  rt : V → Hp → Prop
  bk : As := fun _ _ _ _ => False
  ct : As := fun _ _ _ _ => False
structure Lets (D : Dn) (F0 H0 : Hp) (E : Ends) : Prop where
  nx : ∀ σ F H, Wd F0 H0 F H → D.nx H0 σ F H → E.nx σ H
  rt : ∀ v F H, Wd F0 H0 F H → D.rt v F → E.rt v H
  bk : ∀ σ F H, Wd F0 H0 F H → D.bk H0 σ F H → E.bk σ H
  ct : ∀ σ F H, Wd F0 H0 F H → D.ct H0 σ F H → E.ct σ H
def HJ (X : Cx) (sts : List Stmt) (P : As) (D : Dn) : Prop :=
  ∀ F0 H0 σ F H E, Wd F0 H0 F H → P H0 σ F H → Lets D F0 H0 E → pssU X sts E σ H
def A {K : PySem.W.Frag} (Γ : Env1 K) (Ω : Ow K) : As := fun H0 σ F H => TyEnv F Γ σ ∧ OwnOk H0 F H σ Ω
end T
end
section
set_option Elab.async false
set_option linter.all false
set_option maxRecDepth 100000
set_option maxHeartbeats 4000000
namespace T
open PySem PySem.Spec PyProof.Rows L2
section
variable {X : Cx} {K : PySem.W.Frag} {Γ : Env1 K} {Ω : Ow K} {e a b c : Expr} {es : List Expr} {pos p : Pos} {x : Str} {t ta tb tc : Ty K} {ts us : List (Ty K)} {i j k : Int}

/-! ### names, constants -/
theorem ej_v (n : Nat) (hg : Γ[n]? = some (some t) := by rfl) (hN : X.N[n]? = some x := by rfl) (hv : Vis X.env.scope x := by first | exact Or.inl rfl | exact Or.inr (Or.inl rfl) | exact Or.inr (Or.inr rfl))
    (hd : (x == ("__debug__" : Str)) = false := by decide) (hcd : (x == ("__classdict__" : Str)) = false := by decide) : EJ X Γ Ω (.Name x pos) t := fun H0 σ F H P Q q => by
  obtain ⟨v, e1, o⟩ := P.env.get hg
  exact teU_of (pe_var hN hv hd hcd) ⟨v, e1, q v F H (Wd.refl P.fh) o⟩
theorem ej_c {v : V} (h : PE X e (L2.tC v)) (ht : ∀ F, t.ok F v) : EJ X Γ Ω e t := fun H0 σ F H P Q q => teU_of h (q v F H (Wd.refl P.fh) (ht F))
theorem ej_int {n : Nat} : EJ X Γ Ω (.Constant (.int i) n pos) (tI i) := ej_c pe_int fun _ => rfl
theorem ej_bl {n : Nat} {b : Bool} : EJ X Γ Ω (.Constant (.bool b) n pos) (tB b) := ej_c pe_bl fun _ => rfl
theorem ej_non {n : Nat} : EJ X Γ Ω (.Constant .none n pos) tN := ej_c pe_non fun _ => rfl
theorem ej_str {n : Nat} {z : Str} : EJ X Γ Ω (.Constant (.str z) n pos) (tS z) := ej_c pe_str fun _ => rfl
theorem ej_glob {v : V} {u : Value} (hm : X.mg x = some u) (r : RelV v u) (ht : ∀ F, t.ok F v) (hg : Gl X x := by rfl) (hd : (x == ("__debug__" : Str)) = false := by decide) : EJ X Γ Ω (.Name x pos) t := ej_c (pe_glob hg hm r hd) ht
theorem EJ.to (h : EJ X Γ Ω e ta) (hs : ∀ F v, ta.ok F v → t.ok F v) : EJ X Γ Ω e t := fun H0 σ F H P Q q => h H0 σ F H P Q fun v F' H' w o => q v F' H' w (hs F' v o)
theorem EJ.eq (h : EJ X Γ Ω e ta) (hs : ta = t) : EJ X Γ Ω e t := hs ▸ h
theorem BJ.eq {b d : Bool} (h : BJ X Γ Ω e b) (hs : b = d) : BJ X Γ Ω e d := hs ▸ h

/-! ### operators -/
def R2ok (r : R2) (ta tb t : Ty K) : Prop := ∀ F H x y, Same F H → ta.ok F x → tb.ok F y → ∀ Q : VK, (∀ v F' H', Wd F H F' H' → t.ok F' v → Q v H') → r x y H Q
theorem bin2 {te : TE} (h : PE X c te) {r : R2} (ha : EJ X Γ Ω a ta) (hb : EJ X Γ Ω b tb) (hte : ∀ σ H Q, tOp r (teU X a) (teU X b) σ H Q → te σ H Q) (hr : R2ok r ta tb t) : EJ X Γ Ω c t := fun H0 σ F H P Q q =>
  teU_of h (hte _ _ _ (ha H0 σ F H P _ fun x F1 H1 w1 o1 => hb H0 σ F1 H1 (P.mono w1) _ fun y F2 H2 w2 o2 => hr F2 H2 x y w2.fh (ta.mono w2.ff o1) o2 _ fun v F3 H3 w3 o3 => q v F3 H3 (w1.trans (w2.trans w3)) o3))
theorem ej_op {op : Operator} {r : R2} (ho : OpR X (binaryOp op) r) (ha : EJ X Γ Ω a ta) (hb : EJ X Γ Ω b tb) (hr : R2ok r ta tb t) : EJ X Γ Ω (.BinOp a op b pos) t := bin2 (pe_op ho peU peU) ha hb (fun _ _ _ h => h) hr
theorem r2_I {C : Int → Int → Prop} {g : Int → Int → Int} (h : C i j) : R2ok (K := K) (rI C fun i j => .int (g i j)) (tI i) (tI j) (tI (g i j)) := fun F H x y s hx hy Q q => ⟨i, j, hx, hy, h, q _ F H (Wd.refl s) rfl⟩
theorem r2_I0 {g : Int → Int → Int} : R2ok (K := K) (rI0 fun i j => .int (g i j)) (tI i) (tI j) (tI (g i j)) := fun F H x y s hx hy Q q => ⟨i, j, hx, hy, q _ F H (Wd.refl s) rfl⟩
theorem r2_B0 {g : Int → Int → Bool} : R2ok (K := K) (rI0 fun i j => .bl (g i j)) (tI i) (tI j) (tB (g i j)) := fun F H x y s hx hy Q q => ⟨i, j, hx, hy, q _ F H (Wd.refl s) rfl⟩
theorem ej_add (ha : EJ X Γ Ω a (tI i)) (hb : EJ X Γ Ω b (tI j)) : EJ X Γ Ω (.BinOp a .Add b pos) (tI (i + j)) := ej_op op_add ha hb r2_I0
theorem ej_sub (ha : EJ X Γ Ω a (tI i)) (hb : EJ X Γ Ω b (tI j)) : EJ X Γ Ω (.BinOp a .Sub b pos) (tI (i - j)) := ej_op op_sub ha hb r2_I0
theorem ej_mul (ha : EJ X Γ Ω a (tI i)) (hb : EJ X Γ Ω b (tI j)) (h : CMulW i j) : EJ X Γ Ω (.BinOp a .Mult b pos) (tI (i * j)) := ej_op op_mulW ha hb (r2_I h)
theorem ej_mulS (ha : EJ X Γ Ω a (tI i)) (hb : EJ X Γ Ω b (tI j)) (h : CMul i j) : EJ X Γ Ω (.BinOp a .Mult b pos) (tI (i * j)) := ej_op op_mul ha hb (r2_I h)
theorem ej_div (ha : EJ X Γ Ω a (tI i)) (hb : EJ X Γ Ω b (tI j)) (h : CDivW i j) : EJ X Γ Ω (.BinOp a .FloorDiv b pos) (tI (i / j)) := ej_op op_fdivW ha hb (r2_I h)
theorem ej_mod (ha : EJ X Γ Ω a (tI i)) (hb : EJ X Γ Ω b (tI j)) (h : 0 < j) : EJ X Γ Ω (.BinOp a .Mod b pos) (tI (i % j)) := ej_op op_mod ha hb (r2_I h)
theorem ej_pow (ha : EJ X Γ Ω a (tI i)) (hb : EJ X Γ Ω b (tI j)) (h : CPow i j) : EJ X Γ Ω (.BinOp a .Pow b pos) (tI (i ^ j.toNat)) := ej_op op_pow ha hb (r2_I h)
theorem ej_neg (ha : EJ X Γ Ω a (tI i)) : EJ X Γ Ω (.UnaryOp .USub a pos) (tI (-i)) := fun H0 σ F H P Q q =>
  teU_of (pe_un un_neg peU) (ha H0 σ F H P _ fun x F1 H1 w1 o1 => ⟨i, o1, q _ F1 H1 w1 rfl⟩)

/-! ### arguments, displays -/
theorem aj_nil : AJ X Γ Ω [] ([] : List (Ty K)) := fun H0 σ F H P Q q => taU_of pa_nil (q [] F H (Wd.refl P.fh) trivial)
theorem aj_cons (ha : EJ X Γ Ω e t) (hr : AJ X Γ Ω es ts) (hs : starEach (e :: es) X.env = (false, eval e X.env) :: starEach es X.env := by rfl) : AJ X Γ Ω (e :: es) (t :: ts) := fun H0 σ F H P Q q =>
  taU_of (pa_cons peU paU hs) (ha H0 σ F H P _ fun x F1 H1 w1 o1 => hr H0 σ F1 H1 (P.mono w1) _ fun xs F2 H2 w2 o2 => q (x :: xs) F2 H2 (w1.trans w2) ⟨t.mono w2.ff o1, o2⟩)
theorem ej_tup {x1} (h : AJ X Γ Ω es ts) (hz : ts.length ≤ 1000 := by exact Nat.le_of_ble_eq_true rfl) : EJ X Γ Ω (.Tuple es x1 pos) (tT ts) := fun H0 σ F H P Q q =>
  teU_of (pe_tup paU) (h H0 σ F H P _ fun xs F1 H1 w1 o1 => ⟨by rw [o1.len]; exact Nat.le_of_lt (small1000 hz), fun p hp =>
    q (.ref p) (upd F1 p (.tup xs)) _ (w1.trans (Wd.new w1.fh hp)) ⟨p, xs, rfl, SqT.of upd_same, o1.mono (same_frz (w1.fh.free hp))⟩⟩)
theorem ej_lst (h : AJ X Γ Ω es ts) (hz : ts.length ≤ 1000 := by exact Nat.le_of_ble_eq_true rfl) : EJ X Γ Ω (.List es pos) (tL ts) := fun H0 σ F H P Q q =>
  teU_of (pe_lst paU) (h H0 σ F H P _ fun xs F1 H1 w1 o1 => ⟨by rw [o1.len]; exact Nat.le_of_lt (small1000 hz), fun p hp =>
    q (.ref p) (upd F1 p (.lst xs)) _ (w1.trans (Wd.new w1.fh hp)) ⟨p, xs, rfl, upd_same, o1.mono (same_frz (w1.fh.free hp))⟩⟩)

/-! ### subscripts -/
theorem All2.at {F : Hp} {xs : List V} (h : All2 F ts xs) (e : atI ts k = some t) : ∃ x, atI xs k = some x ∧ t.ok F x := by
  unfold atI at e ⊢
  rw [h.len]
  cases q : ixN ts.length k with
  | none =>
    rw [q] at e
    cases e
  | some n =>
    rw [q] at e
    exact h.get (i := n) e
theorem ej_ixT (ha : EJ X Γ Ω a (tT ts)) (hb : EJ X Γ Ω b (tI k)) (h : atI ts k = some t := by rfl) (hs : PlainIx b := by exact fun _ _ => rfl) (hK : X.K = K := by rfl) : EJ X Γ Ω (.Subscript a b pos) t := by
  subst hK
  refine bin2 (pe_ix ix_tup peU peU hs) ha hb (fun _ _ _ h => h) fun F H x y s hx hy Q q => ?_
  obtain ⟨p, xs, rfl, h1, h2⟩ := hx
  obtain ⟨v, e1, o1⟩ := h2.at h
  exact ⟨p, xs, k, v, rfl, hy, Same.seqT s h1, e1, q v F H (Wd.refl s) o1⟩
theorem ej_ixQ (ha : EJ X Γ Ω a (tQ ts)) (hb : EJ X Γ Ω b (tI k)) (h : atI ts k = some t := by rfl) (hs : PlainIx b := by exact fun _ _ => rfl) (hK : X.K = K := by rfl) : EJ X Γ Ω (.Subscript a b pos) t := by
  subst hK
  refine bin2 (pe_ix ix_list peU peU hs) ha hb (fun _ _ _ h => h) fun F H x y s hx hy Q q => ?_
  obtain ⟨p, xs, rfl, h1, h2⟩ := hx
  obtain ⟨v, e1, o1⟩ := h2.at h
  exact ⟨p, xs, k, v, rfl, hy, s.seq h1, e1, q v F H (Wd.refl s) o1⟩
theorem ej_ixL (ha : EJ X Γ Ω a (tL ts)) (hb : EJ X Γ Ω b (tI k)) (h : atI ts k = some t := by rfl) (hs : PlainIx b := by exact fun _ _ => rfl) (hK : X.K = K := by rfl) : EJ X Γ Ω (.Subscript a b pos) t := ej_ixQ (ha.to fun _ _ => tL_Q) hb h hs hK
/-- xs + ys -/
theorem ej_cat (ha : EJ X Γ Ω a (tL ts)) (hb : EJ X Γ Ω b (tL us)) (hz : ts.length + us.length ≤ 100000) : EJ X Γ Ω (.BinOp a .Add b pos) (tL (ts ++ us)) :=
  ej_op op_cat ha hb fun F H x y s hx hy Q q => by
    obtain ⟨p, xs, rfl, h1, h2⟩ := hx
    obtain ⟨p', ys, rfl, h3, h4⟩ := hy
    refine ⟨p, p', xs, ys, rfl, rfl, s _ _ h1, s _ _ h3, by rw [h2.len, h4.len, sizeLine_eq]; omega, fun l hl => ?_⟩
    exact q (.ref l) _ _ (Wd.new s hl) ⟨l, xs ++ ys, rfl, upd_same, (h2.app h4).mono (same_frz (s.free hl))⟩
/-- the owned thing's name -/
theorem te_own {n : Nat} {ot : OT K} {H0 σ F H} (P : Pre Γ (some (n, ot)) H0 σ F H) {Q : VK} (q : ∀ p o, σ[n]? = some (some (.ref p)) → H0 p = none → F p = none → H p = some o → ot.ok F p o → Q (.ref p) H) (hN : X.N[n]? = some x) (hv : Vis X.env.scope x)
    (hd : (x == ("__debug__" : Str)) = false) (hcd : (x == ("__classdict__" : Str)) = false) : teU X (.Name x pos) σ H Q := by
  obtain ⟨p, o, h1, h2, h3, h4, h5⟩ := P.own
  exact teU_of (pe_var hN hv hd hcd) ⟨.ref p, h1, q p o h1 h2 h3 h4 h5⟩
theorem ej_ixO {n : Nat} {px : Pos} (hb : EJ X Γ (some (n, oL ts)) b (tI k)) (h : atI ts k = some t := by rfl) (hN : X.N[n]? = some x := by rfl) (hv : Vis X.env.scope x := by first | exact Or.inl rfl | exact Or.inr (Or.inl rfl) | exact Or.inr (Or.inr rfl)) (hs : PlainIx b := by exact fun _ _ => rfl) (hK : X.K = K := by rfl)
    (hd : (x == ("__debug__" : Str)) = false := by decide) (hcd : (x == ("__classdict__" : Str)) = false := by decide) : EJ X Γ (some (n, oL ts)) (.Subscript (.Name x px) b pos) t := fun H0 σ F H P Q q => by
  subst hK
  refine teU_of (pe_ix ix_list peU peU hs) (te_own P (fun p o _ h0 hf hp ho => ?_) hN hv hd hcd)
  refine hb H0 σ F H P _ fun y F1 H1 w1 o1 => ?_
  obtain ⟨xs, rfl, ha⟩ := ho
  obtain ⟨v, e1, ov⟩ := (ha.mono w1.ff).at h
  exact ⟨p, xs, k, v, rfl, o1, SqL.of (w1.hh _ _ hp), e1, q v F1 H1 w1 ov⟩

/-! ### comparisons and tests -/
theorem ej_cmp {op : CmpOp} {r : R2} (ho : OpR X (compareOp op) r) (ha : EJ X Γ Ω a ta) (hb : EJ X Γ Ω b tb) (hr : R2ok r ta tb t) (hm : behindInMarks op b = false) : EJ X Γ Ω (.Compare a [op] [b] pos) t := bin2 (pe_cmpR ho peU peU hm) ha hb (fun _ _ _ h => h) hr
theorem bj_cmp {op : CmpOp} {r : R2} {d : Bool} (ho : OpR X (compareOp op) r) (ha : EJ X Γ Ω a ta) (hb : EJ X Γ Ω b tb) (hr : R2ok r ta tb (tB d)) (hm : behindInMarks op b = false) : BJ X Γ Ω (.Compare a [op] [b] pos) d := fun H0 σ F H P Q q =>
  ttU_of (pt_cmpR ho peU peU hm) (ha H0 σ F H P _ fun x F1 H1 w1 o1 => hb H0 σ F1 H1 (P.mono w1) _ fun y F2 H2 w2 o2 => hr F2 H2 x y w2.fh (ta.mono w2.ff o1) o2 _ fun v F3 H3 w3 o3 => ⟨d, o3, q F3 H3 (w1.trans (w2.trans w3))⟩)
theorem bj_lt (ha : EJ X Γ Ω a (tI i)) (hb : EJ X Γ Ω b (tI j)) : BJ X Γ Ω (.Compare a [.Lt] [b] pos) (decide (i < j)) := bj_cmp op_lt ha hb r2_B0 (nomark _)
theorem bj_le (ha : EJ X Γ Ω a (tI i)) (hb : EJ X Γ Ω b (tI j)) : BJ X Γ Ω (.Compare a [.LtE] [b] pos) (decide (i ≤ j)) := bj_cmp op_le ha hb r2_B0 (nomark _)
theorem bj_gt (ha : EJ X Γ Ω a (tI i)) (hb : EJ X Γ Ω b (tI j)) : BJ X Γ Ω (.Compare a [.Gt] [b] pos) (decide (j < i)) := bj_cmp op_gt ha hb r2_B0 (nomark _)
theorem bj_ge (ha : EJ X Γ Ω a (tI i)) (hb : EJ X Γ Ω b (tI j)) : BJ X Γ Ω (.Compare a [.GtE] [b] pos) (decide (j ≤ i)) := bj_cmp op_ge ha hb r2_B0 (nomark _)
theorem r2_eqI : R2ok (K := K) rEq (tI i) (tI j) (tB (decide (i = j))) := fun F H x y s hx hy Q q => by
  have e1 : x = .int i := hx
  have e2 : y = .int j := hy
  subst e1 e2
  refine ⟨rfl, q _ F H (Wd.refl s) ?_⟩
  show V.bl _ = V.bl _
  rw [dec_int, Bool.beq_eq_decide_eq]
theorem r2_neI : R2ok (K := K) rNe (tI i) (tI j) (tB (!decide (i = j))) := fun F H x y s hx hy Q q => by
  have e1 : x = .int i := hx
  have e2 : y = .int j := hy
  subst e1 e2
  refine ⟨rfl, q _ F H (Wd.refl s) ?_⟩
  show V.bl _ = V.bl _
  rw [dec_int, Bool.beq_eq_decide_eq]
theorem r2_eqS {z w : Str} : R2ok (K := K) rEq (tS z) (tS w) (tB (decide (z = w))) := fun F H x y s hx hy Q q => by
  have e1 : x = .str z := hx
  have e2 : y = .str w := hy
  subst e1 e2
  refine ⟨rfl, q _ F H (Wd.refl s) ?_⟩
  show V.bl _ = V.bl _
  rw [dec_str, Bool.beq_eq_decide_eq]
theorem bj_eq (ha : EJ X Γ Ω a (tI i)) (hb : EJ X Γ Ω b (tI j)) : BJ X Γ Ω (.Compare a [.Eq] [b] pos) (decide (i = j)) := bj_cmp op_eq ha hb r2_eqI (nomark _)
theorem ej_eq (ha : EJ X Γ Ω a (tI i)) (hb : EJ X Γ Ω b (tI j)) : EJ X Γ Ω (.Compare a [.Eq] [b] pos) (tB (decide (i = j))) := ej_cmp op_eq ha hb r2_eqI (nomark _)
theorem ej_lt (ha : EJ X Γ Ω a (tI i)) (hb : EJ X Γ Ω b (tI j)) : EJ X Γ Ω (.Compare a [.Lt] [b] pos) (tB (decide (i < j))) := ej_cmp op_lt ha hb r2_B0 (nomark _)
theorem ej_le (ha : EJ X Γ Ω a (tI i)) (hb : EJ X Γ Ω b (tI j)) : EJ X Γ Ω (.Compare a [.LtE] [b] pos) (tB (decide (i ≤ j))) := ej_cmp op_le ha hb r2_B0 (nomark _)
theorem bj_ne (ha : EJ X Γ Ω a (tI i)) (hb : EJ X Γ Ω b (tI j)) : BJ X Γ Ω (.Compare a [.NotEq] [b] pos) (!decide (i = j)) := bj_cmp op_ne ha hb r2_neI (nomark _)
theorem bj_eqS {z w : Str} (ha : EJ X Γ Ω a (tS z)) (hb : EJ X Γ Ω b (tS w)) : BJ X Γ Ω (.Compare a [.Eq] [b] pos) (decide (z = w)) := bj_cmp op_eq ha hb r2_eqS (nomark _)
/-- a type of which it is known whether it is None -/
def NonIs (t : Ty K) (d : Bool) : Prop := ∀ F v, t.ok F v → decide (v = .non) = d
theorem nonIs_N : NonIs (K := K) tN true := fun _ _ h => decide_eq_true h
theorem nonIs_I : NonIs (K := K) (tI i) false := fun _ v h => decide_eq_false (by rw [show v = .int i from h]; exact fun z => nomatch z)
theorem nonIs_S {z : Str} : NonIs (K := K) (tS z) false := fun _ v h => decide_eq_false (by rw [show v = .str z from h]; exact fun z => nomatch z)
theorem nonIs_T : NonIs (tT ts) false := fun _ v ⟨p, _, h, _⟩ => decide_eq_false (by rw [h]; exact fun z => nomatch z)
theorem nonIs_L : NonIs (tL ts) false := fun _ v ⟨p, _, h, _⟩ => decide_eq_false (by rw [h]; exact fun z => nomatch z)
theorem nonIs_C {C : Addr} {fs : List (Str × Ty K)} : NonIs (tIn C fs) false := fun _ v ⟨p, _, _, h, _⟩ => decide_eq_false (by rw [h]; exact fun z => nomatch z)
theorem nonIs_O {α : Type} {f : α → Ty K} (h : ∀ a, NonIs (f a) false) : ∀ o : Option α, NonIs (tO f o) o.isNone
  | none => nonIs_N
  | some a => h a
theorem r2_isN {d : Bool} (h : NonIs ta d) : R2ok (fun x y H Q => y = .non ∧ Q (.bl (decide (x = .non))) H) ta (tN (K := K)) (tB d) := fun F H x y s hx hy Q q => ⟨hy, q _ F H (Wd.refl s) (by show V.bl _ = V.bl _; rw [h F x hx])⟩
theorem r2_notN {d : Bool} (h : NonIs ta d) : R2ok (fun x y H Q => y = .non ∧ Q (.bl (!decide (x = .non))) H) ta (tN (K := K)) (tB (!d)) := fun F H x y s hx hy Q q => ⟨hy, q _ F H (Wd.refl s) (by show V.bl _ = V.bl _; rw [h F x hx])⟩
theorem bj_isN {d : Bool} (ha : EJ X Γ Ω a ta) (hb : EJ X Γ Ω b tN) (h : NonIs ta d) : BJ X Γ Ω (.Compare a [.Is] [b] pos) d := bj_cmp op_isN ha hb (r2_isN h) (nomark _)
theorem bj_notN {d : Bool} (ha : EJ X Γ Ω a ta) (hb : EJ X Γ Ω b tN) (h : NonIs ta d) : BJ X Γ Ω (.Compare a [.IsNot] [b] pos) (!d) := bj_cmp op_notN ha hb (r2_notN h) (nomark _)
theorem ej_isN {d : Bool} (ha : EJ X Γ Ω a ta) (hb : EJ X Γ Ω b tN) (h : NonIs ta d) : EJ X Γ Ω (.Compare a [.Is] [b] pos) (tB d) := ej_cmp op_isN ha hb (r2_isN h) (nomark _)

theorem wj_bj {d : Bool} (h : WJ X Γ Ω e d) : BJ X Γ Ω e d := fun H0 σ F H P Q q => ttU_of (pwU.pt) (h H0 σ F H P Q q)
theorem wj_and1 {d : Bool} (h : BJ X Γ Ω a d) : WJ X Γ Ω (.BoolOp .And [a] pos) d := fun H0 σ F H P Q q => twU_of (pw_and1 ptU) (h H0 σ F H P Q q)
theorem wj_or1 {d : Bool} (h : BJ X Γ Ω a d) : WJ X Γ Ω (.BoolOp .Or [a] pos) d := fun H0 σ F H P Q q => twU_of (pw_or1 ptU) (h H0 σ F H P Q q)
theorem wj_and {d d' : Bool} (h : BJ X Γ Ω a d) (h2 : d = true → WJ X Γ Ω (.BoolOp .And (b :: es) pos) d') : WJ X Γ Ω (.BoolOp .And (a :: b :: es) pos) (d && d') := fun H0 σ F H P Q q =>
  twU_of (pw_and ptU pwU) (h H0 σ F H P _ fun F1 H1 w1 => by
    cases d with
    | true => exact iteT (h2 rfl H0 σ F1 H1 (P.mono w1) _ fun F2 H2 w2 => q F2 H2 (w1.trans w2))
    | false => exact iteF (q F1 H1 w1))
theorem wj_or {d d' : Bool} (h : BJ X Γ Ω a d) (h2 : d = false → WJ X Γ Ω (.BoolOp .Or (b :: es) pos) d') : WJ X Γ Ω (.BoolOp .Or (a :: b :: es) pos) (d || d') := fun H0 σ F H P Q q =>
  twU_of (pw_or ptU pwU) (h H0 σ F H P _ fun F1 H1 w1 => by
    cases d with
    | true => exact iteT (q F1 H1 w1)
    | false => exact iteF (h2 rfl H0 σ F1 H1 (P.mono w1) _ fun F2 H2 w2 => q F2 H2 (w1.trans w2)))
theorem bj_not {d : Bool} (h : BJ X Γ Ω a d) : BJ X Γ Ω (.UnaryOp .Not a pos) (!d) := fun H0 σ F H P Q q => ttU_of (pt_not ptU) (h H0 σ F H P _ fun F1 H1 w1 => q F1 H1 w1)
theorem bj_val {d : Bool} (h : EJ X Γ Ω a (tB d)) (he : ∀ whole, isTrue a X.env whole = (do let v ← whole; standAt a.pos; holding [v] (truthy v)) := by intro _; rfl) : BJ X Γ Ω a d := fun H0 σ F H P Q q =>
  ttU_of (pt_val peU he) (h H0 σ F H P _ fun x F1 H1 w1 o1 => ⟨d, o1, q F1 H1 w1⟩)
theorem ej_one {op} (h : EJ X Γ Ω a t) : EJ X Γ Ω (.BoolOp op [a] pos) t := fun H0 σ F H P Q q => teU_of (pe_one peU) (h H0 σ F H P Q q)
theorem ej_and {d d' : Bool} (h : EJ X Γ Ω a (tB d)) (h2 : d = true → EJ X Γ Ω (.BoolOp .And (b :: es) pos) (tB d')) : EJ X Γ Ω (.BoolOp .And (a :: b :: es) pos) (tB (d && d')) := fun H0 σ F H P Q q =>
  teU_of (pe_and peU peU) (h H0 σ F H P _ fun x F1 H1 w1 o1 => ⟨d, o1, by
    cases d with
    | true => exact iteT (h2 rfl H0 σ F1 H1 (P.mono w1) _ fun v F2 H2 w2 o2 => q v F2 H2 (w1.trans w2) o2)
    | false => exact iteF (q _ F1 H1 w1 rfl)⟩)
/-- a if c else b -/
theorem ej_ife {d : Bool} (h : BJ X Γ Ω c d) (h1 : d = true → EJ X Γ Ω a t) (h2 : d = false → EJ X Γ Ω b t) : EJ X Γ Ω (.IfExp c a b pos) t := fun H0 σ F H P Q q =>
  teU_of (pe_ifExp ptU peU peU) (h H0 σ F H P _ fun F1 H1 w1 => by
    cases d with
    | true => exact iteT (h1 rfl H0 σ F1 H1 (P.mono w1) _ fun v F2 H2 w2 o2 => q v F2 H2 (w1.trans w2) o2)
    | false => exact iteF (h2 rfl H0 σ F1 H1 (P.mono w1) _ fun v F2 H2 w2 o2 => q v F2 H2 (w1.trans w2) o2))
/-- chains of ints -/
theorem ej_ch2 {op op' : CmpOp} {g g' : Int → Int → Bool} (ho : OpR X (compareOp op) (rI0 fun i j => .bl (g i j))) (ho' : OpR X (compareOp op') (rI0 fun i j => .bl (g' i j))) (ha : EJ X Γ Ω a (tI i)) (hb : EJ X Γ Ω b (tI j)) (hc : EJ X Γ Ω c (tI k))
    (hm : lastMarks [op, op'] [b, c] = false := by with_unfolding_all rfl) : EJ X Γ Ω (.Compare a [op, op'] [b, c] pos) (tB (g i j && g' j k)) := fun H0 σ F H P Q q =>
  teU_of (pe_chain ho ho' peU peU peU hm) (ha H0 σ F H P _ fun x F1 H1 w1 o1 => hb H0 σ F1 H1 (P.mono w1) _ fun y F2 H2 w2 o2 => ⟨i, j, o1, o2, g i j, rfl, by
    cases hg : g i j with
    | true => exact iteT (hc H0 σ F2 H2 (P.mono (w1.trans w2)) _ fun z F3 H3 w3 o3 => ⟨j, k, o2, o3, q _ F3 H3 ((w1.trans w2).trans w3) (by show V.bl _ = V.bl _; rw [hg, Bool.true_and])⟩)
    | false => exact iteF (q _ F2 H2 (w1.trans w2) (by show V.bl _ = V.bl _; rw [hg, Bool.false_and]))⟩)
theorem bj_ch2 {op op' : CmpOp} {g g' : Int → Int → Bool} (ho : OpR X (compareOp op) (rI0 fun i j => .bl (g i j))) (ho' : OpR X (compareOp op') (rI0 fun i j => .bl (g' i j))) (ha : EJ X Γ Ω a (tI i)) (hb : EJ X Γ Ω b (tI j)) (hc : EJ X Γ Ω c (tI k))
    (hm : lastMarks [op, op'] [b, c] = false := by with_unfolding_all rfl) : BJ X Γ Ω (.Compare a [op, op'] [b, c] pos) (g i j && g' j k) := fun H0 σ F H P Q q =>
  ttU_of (pt_chain ho ho' peU peU peU hm) (ha H0 σ F H P _ fun x F1 H1 w1 o1 => hb H0 σ F1 H1 (P.mono w1) _ fun y F2 H2 w2 o2 => ⟨i, j, o1, o2, g i j, rfl, by
    cases hg : g i j with
    | true => exact iteT (hc H0 σ F2 H2 (P.mono (w1.trans w2)) _ fun z F3 H3 w3 o3 => ⟨j, k, o2, o3, g' j k, rfl, by have := q F3 H3 ((w1.trans w2).trans w3); rw [hg, Bool.true_and] at this; exact this⟩)
    | false => exact iteF ⟨false, rfl, by have := q F2 H2 (w1.trans w2); rw [hg, Bool.false_and] at this; exact this⟩⟩)
end

section
variable {X : Cx}
/-- three comparisons in a row, as a test -/
def tCh3 (r r' r'' : R2) (ta tb tc td : TE) : TT := fun σ H Q => ta σ H fun x H1 => tb σ H1 fun y H2 => r x y H2 fun z H3 => ∃ k, z = .bl k ∧
  (if k = true then tc σ H3 fun y2 H4 => r' y y2 H4 fun z2 H5 => ∃ k2, z2 = .bl k2 ∧ (if k2 = true then td σ H5 fun y3 H6 => r'' y2 y3 H6 fun z3 H7 => ∃ k3, z3 = .bl k3 ∧ Q k3 H7 else Q false H5) else Q false H3)
theorem pt_ch3 {op op' op'' : CmpOp} {r r' r'' : R2} {a b c d : Expr} {ta tb tc td : TE} {pos : Pos} (ho : OpR X (compareOp op) r) (ho' : OpR X (compareOp op') r') (ho'' : OpR X (compareOp op'') r'') (ha : PE X a ta) (hb : PE X b tb) (hc : PE X c tc) (hd : PE X d td)
    (hm : lastMarks [op, op', op''] [b, c, d] = false := by with_unfolding_all rfl) : PT X (.Compare a [op, op', op''] [b, c, d] pos) (tCh3 r r' r'' ta tb tc td) := by
  refine ⟨fun pins s σ H Q I h => ?_⟩
  refine isTrue_chain (thn (ha.run pins s σ H _ I h) fun v s1 ⟨x, H1, I1, r1, q1⟩ => test_link (thn (hb.run pins s1 σ H1 _ I1 q1) fun u s2 ⟨y, H2, I2, r2, q2⟩ =>
    thn (ho pins s2 σ H2 x y v u _ I2 r1 r2 q2) fun d s3 ⟨z, H3, I3, r3, k, e, q3⟩ => ?_)) hm
  subst e
  cases r3
  refine wpAny_truthy_bool ?_
  cases k with
  | false => exact ite_ff ⟨H3, I3, q3⟩
  | true =>
    refine ite_tt (test_link (thn (hc.run pins s3 σ H3 _ I3 q3) fun u2 s4 ⟨y2, H4, I4, r4, q4⟩ => thn (ho' pins s4 σ H4 y y2 u u2 _ I4 r2 r4 q4) fun d2 s5 ⟨z2, H5, I5, r5, k2, e2, q5⟩ => ?_))
    subst e2
    cases r5
    refine wpAny_truthy_bool ?_
    cases k2 with
    | false => exact ite_ff ⟨H5, I5, q5⟩
    | true =>
      refine ite_tt (test_last (thn (hd.run pins s5 σ H5 _ I5 q5) fun u3 s6 ⟨y3, H6, I6, r6, q6⟩ => thn (ho'' pins s6 σ H6 y2 y3 u2 u3 _ I6 r4 r6 q6) fun d3 s7 ⟨z3, H7, I7, r7, k3, e3, q7⟩ => ?_))
      subst e3
      cases r7
      exact wpAny_truthy_bool ⟨H7, I7, q7⟩
end
end T
end
section
set_option Elab.async false
set_option linter.all false
set_option maxRecDepth 100000
set_option maxHeartbeats 4000000
namespace T
open PySem PySem.Spec PyProof.Rows L2
/-- what a def's context is over -/
structure XIs (X : Cx) (P : Program) (w : World) (K : PySem.W.Frag) (mg : Str → Option Value) (base : Heap) : Prop where
  prog : X.prog = P
  w : X.w = w
  K : X.K = K
  mg : X.mg = mg
  base : X.base = base
structure Bd (X : Cx) : Prop where
  nd : X.N.Nodup
  calm : X.calm = true
  pass : PassesOwn (model X.prog X.w) X.A X.env X.xe
  hu : X.A.units + 64 < cLine
section
variable {K : PySem.W.Frag}
abbrev Dom (K : PySem.W.Frag) := List (Ty K) → Ty K → Prop
def spT (n : Nat) (dom : Dom K) : Sp := fun vs H Q _ => vs.length = n ∧ ∃ F ts t, dom ts t ∧ Same F H ∧ All2 F ts vs ∧ ∀ v F' H', Wd F H F' H' → t.ok F' v → Q v H'
structure Fn (P : Program) (w : World) (K : PySem.W.Frag) (mg : Str → Option Value) (base : Heap) (name : Str) (k n : Nat) (dom : Dom K) : Prop where
  ex : ∃ f fd ps, FnOk P w K mg base CX0 k f fd ps (spT n dom) ∧ mg name = some (.ref f) ∧ PySem.W.keepIn K (.ref f) = true ∧ Binds K fd ps []
structure Mt (P : Program) (w : World) (K : PySem.W.Frag) (mg : Str → Option Value) (base : Heap) (C : Addr) (name : Str) (k n : Nat) (dom : Dom K) : Prop where
  cl : Cls K C
  ex : ∃ f fd ps, FnOk P w K mg base CX0 k f fd ps (spT n dom) ∧ Meth K C name f ∧ Binds K fd ps []
def hide (H : Hp) (p : Addr) : Hp := fun a => if a = p then none else H a
abbrev DomI (K : PySem.W.Frag) := List (Ty K) → List (Str × Ty K) → Prop
def spI (C : Addr) (n : Nat) (dom : DomI K) : Sp := fun vs H Q _ => vs.length = n + 1 ∧ ∃ p rest F ts fs dx, vs = .ref p :: rest ∧ dom ts fs ∧ Same F H ∧ F p = none ∧ H p = some (.ins C dx []) ∧ All2 F ts rest ∧
  ∀ F' H' dx' gs, Wd F (hide H p) F' H' → H' p = some (.ins C dx' gs) → F' p = none → AllF F' fs gs → Q .non H'
structure Cs (P : Program) (w : World) (K : PySem.W.Frag) (mg : Str → Option Value) (base : Heap) (name : Str) (C : Addr) (k n : Nat) (dom : DomI K) : Prop where
  cl : Cls K C
  ex : ∃ f fd ps, FnOk P w K mg base CX0 k f fd ps (spI C n dom) ∧ mg name = some (.ref C) ∧ Mk K C f ∧ Binds K fd ps []
end
section
variable {X : Cx} {K : PySem.W.Frag} {P : Program} {w : World} {mg : Str → Option Value} {base : Heap} {Γ Δ : Env1 K} {Ω : Ow K} {e a b c it tg : Expr} {es : List Expr} {pos p px : Pos} {x name : Str} {t ta tb tc : Ty K} {ts us : List (Ty K)} {i j : Int} {k m n : Nat}
  {rest body as bs : List Stmt} {D : Dn}

/-! ### calls -/
theorem ej_call {dom : Dom K} (F : Fn P w K mg base name k m dom) (hr : Room k X.A) (ha : AJ X Γ Ω (e :: es) ts) (hd : dom ts t) (hm : ts.length = m := by rfl) (hX : XIs X P w K mg base := by exact ⟨rfl, rfl, rfl, rfl, rfl⟩) (hg : Gl X name := by rfl) (hdb : (name == ("__debug__" : Str)) = false := by decide)
    (he : starEach (e :: es) X.env = (false, eval e X.env) :: starEach es X.env := by rfl) (hpl : (backTo pos (starEach es X.env)).any (·.1) = false := by rfl) : EJ X Γ Ω (.Call (.Name name p) (e :: es) [] pos) t := by
  obtain ⟨f, fd, ps, G, g1, g2, g3⟩ := F.ex
  cases hX.prog
  cases hX.w
  cases hX.K
  cases hX.mg
  cases hX.base
  intro H0 σ F H P Q q
  refine teU_of (pe_call (E := E0) G hr hg g1 g2 g3 .nil pass0 paU hdb he hpl) (ha H0 σ F H P _ fun vs F1 H1 w1 o1 => ?_)
  rw [List.append_nil]
  exact ⟨o1.len.trans hm, F1, ts, t, hd, w1.fh, o1, fun v F' H' w2 o2 => q v F' H' (w1.trans w2) o2⟩
theorem ej_meth {C : Addr} {fs : List (Str × Ty K)} {dom : Dom K} {apos : Pos} {pl : Sem Bool} (F : Mt P w K mg base C name k (m + 1) dom) (hr : Room k X.A) (ho : EJ X Γ Ω a (tIn C fs)) (ha : AJ X Γ Ω (e :: es) ts) (hd : dom (tIn C fs :: ts) t) (hl : fs.lookup name = none := by rfl) (hm : ts.length = m := by rfl) (hX : XIs X P w K mg base := by exact ⟨rfl, rfl, rfl, rfl, rfl⟩)
    (hst : starEach (e :: es) X.env = (false, eval e X.env) :: starEach es X.env := by rfl) (hpl : (backTo pos (starEach es X.env)).any (·.1) = false := by rfl)
    (ht : eval (.Call (.Attribute a name apos) (e :: es) [] pos) X.env = (do
      let ov ← eval a X.env
      standAt apos.atName
      let (f, first) ← holding [ov] (getMethod ov name pl)
      callWith pos f first (backTo pos (starEach (e :: es) X.env)) (backToKw pos (keywordEach [] X.env))) := by rfl) : EJ X Γ Ω (.Call (.Attribute a name apos) (e :: es) [] pos) t := by
  obtain ⟨f, fd, ps, G, g1, g3⟩ := F.ex
  have cl := F.cl
  cases hX.prog
  cases hX.w
  cases hX.K
  cases hX.mg
  cases hX.base
  intro H0 σ F H P Q q
  refine teU_of (pe_meth (E := E0) peU cl g1 G hr g3 .nil pass0 paU hst hpl ht) (ho H0 σ F H P _ fun v F1 H1 w1 o1 => ?_)
  obtain ⟨p, dx, gs, rfl, h1, h2⟩ := o1
  refine ⟨p, dx, gs, rfl, w1.fh _ _ h1, h2.no hl, ha H0 σ F1 H1 (P.mono w1) _ fun vs F2 H2 w2 o2 => ?_⟩
  rw [List.append_nil]
  refine ⟨by rw [List.length_cons, o2.len, hm], F2, tIn C fs :: ts, t, hd, w2.fh, ⟨⟨p, dx, gs, rfl, w2.ff _ _ h1, h2.mono w2.ff⟩, o2⟩, fun v F' H' w3 o3 => q v F' H' ((w1.trans w2).trans w3) o3⟩
theorem ej_make {C : Addr} {fs : List (Str × Ty K)} {dom : DomI K} (F : Cs P w K mg base name C k m dom) (hr : Room (k + 1) X.A) (ha : AJ X Γ Ω (e :: es) ts) (hd : dom ts fs) (hm : ts.length = m := by rfl) (hX : XIs X P w K mg base := by exact ⟨rfl, rfl, rfl, rfl, rfl⟩) (hg : Gl X name := by rfl) (hdb : (name == ("__debug__" : Str)) = false := by decide)
    (he : starEach (e :: es) X.env = (false, eval e X.env) :: starEach es X.env := by rfl) (hpl : (backTo pos (starEach es X.env)).any (·.1) = false := by rfl) : EJ X Γ Ω (.Call (.Name name p) (e :: es) [] pos) (tIn C fs) := by
  obtain ⟨f, fd, ps, G, g1, g2, g3⟩ := F.ex
  cases hX.prog
  cases hX.w
  cases hX.K
  cases hX.mg
  cases hX.base
  intro H0 σ F H P Q q
  refine teU_of (pe_make (E := E0) g2 G hr hg g1 g3 .nil pass0 paU hdb he hpl) (ha H0 σ F H P _ fun vs F1 H1 w1 o1 => ?_)
  intro x dx nx ndx ne
  rw [List.append_nil]
  have nfx : F1 x = none := w1.fh.free nx
  have nfd : F1 dx = none := w1.fh.free ndx
  have s1 : Same H1 (upd (upd H1 dx (.own x)) x (.ins C dx [])) := fun b o e => by
    rw [upd_ne (ne_of_none e nx), upd_ne (ne_of_none e ndx)]
    exact e
  refine ⟨by rw [List.length_cons, o1.len, hm], x, vs, F1, ts, fs, dx, rfl, hd, w1.fh.trans s1, nfx, upd_same, o1, fun F' H' dx' gs w2 h1 h2 h3 => ⟨rfl, ?_⟩⟩
  have hs : Same H1 (hide (upd (upd H1 dx (.own x)) x (.ins C dx [])) x) := fun b o e => by
    unfold hide
    rw [if_neg (ne_of_none e nx)]
    exact s1 b o e
  have w3 : Wd F1 H1 F' H' := ⟨w2.ff, w2.fh, hs.trans w2.hh, fun p q1 q2 => w2.nw p q1 fun z => by
    cases e : H1 p with
    | none => exact q2 e
    | some o =>
      rw [hs p o e] at z
      cases z⟩
  refine q (.ref x) (upd F' x (.ins C dx' gs)) H' (w1.trans (w3.frz nx h2 h1)) ⟨x, dx', gs, rfl, upd_same, h3.mono (same_frz h2)⟩

/-! ### fields -/
theorem ej_fld {C : Addr} {fs : List (Str × Ty K)} {f : Str} (cl : Cls K C) (na : NoAttr K C f) (ho : EJ X Γ Ω a (tIn C fs)) (hl : fs.lookup f = some t := by rfl) (hb : attributeBase a f X.env (eval a X.env) = eval a X.env := by rfl) (hK : X.K = K := by rfl) : EJ X Γ Ω (.Attribute a f pos) t := by
  subst hK
  intro H0 σ F H P Q q
  refine teU_of (pe_fld peU hb) (ho H0 σ F H P _ fun v F1 H1 w1 o1 => ?_)
  obtain ⟨p, dx, gs, rfl, h1, h2⟩ := o1
  obtain ⟨v, e1, o⟩ := h2.get hl
  exact ⟨p, C, dx, gs, v, rfl, w1.fh _ _ h1, cl, na, e1, q v F1 H1 w1 o⟩

/-! ### built-ins -/
def Rok (r : List V → Hp → VK → Prop) (ts : List (Ty K)) (t : Ty K) : Prop := ∀ F H vs, Same F H → All2 F ts vs → ∀ Q : VK, (∀ v F' H', Wd F H F' H' → t.ok F' v → Q v H') → r vs H Q
theorem ej_callB {id : String} {r : List V → Hp → VK → Prop} (hc : CallR X (.builtin id) r) (hm : X.mg x = none) (hv : bootBuiltins x = some (.builtin id)) (ha : AJ X Γ Ω (e :: es) ts) (hr : Rok r ts t) (hg : Gl X x := by rfl) (hn : x ≠ "__name__" := by decide) (hdb : (x == ("__debug__" : Str)) = false := by decide)
    (he : starEach (e :: es) X.env = (false, eval e X.env) :: starEach es X.env := by rfl) (hpl : (backTo pos (starEach es X.env)).any (·.1) = false := by rfl) : EJ X Γ Ω (.Call (.Name x p) (e :: es) [] pos) t := fun H0 σ F H P Q q =>
  teU_of (pe_callB hc hg hm hv paU hn hdb he hpl) (ha H0 σ F H P _ fun vs F1 H1 w1 o1 => hr F1 H1 vs w1.fh o1 _ fun v F2 H2 w2 o2 => q v F2 H2 (w1.trans w2) o2)
theorem ej_callTy {Tn : String} {r : List V → Hp → VK → Prop} (hc : CallR X (.type Tn) r) (hm : X.mg x = none) (hv : bootBuiltins x = some (.type Tn)) (ha : AJ X Γ Ω (e :: es) ts) (hr : Rok r ts t) (hg : Gl X x := by rfl) (hn : x ≠ "__name__" := by decide) (hdb : (x == ("__debug__" : Str)) = false := by decide)
    (he : starEach (e :: es) X.env = (false, eval e X.env) :: starEach es X.env := by rfl) (hpl : (backTo pos (starEach es X.env)).any (·.1) = false := by rfl) : EJ X Γ Ω (.Call (.Name x p) (e :: es) [] pos) t := fun H0 σ F H P Q q =>
  teU_of (pe_callTy hc hg hm hv paU hn hdb he hpl) (ha H0 σ F H P _ fun vs F1 H1 w1 o1 => hr F1 H1 vs w1.fh o1 _ fun v F2 H2 w2 o2 => q v F2 H2 (w1.trans w2) o2)
theorem all2_1 {F : Hp} {vs : List V} (h : All2 F [t] vs) : ∃ v, vs = [v] ∧ t.ok F v := by
  match vs, h with
  | [v], h => exact ⟨v, rfl, h.1⟩
theorem all2_2 {F : Hp} {vs : List V} (h : All2 F [ta, tb] vs) : ∃ v u, vs = [v, u] ∧ ta.ok F v ∧ tb.ok F u := by
  match vs, h with
  | [v, u], h => exact ⟨v, u, rfl, h.1, h.2.1⟩
theorem all2_3 {F : Hp} {vs : List V} (h : All2 F [ta, tb, tc] vs) : ∃ v u z, vs = [v, u, z] ∧ ta.ok F v ∧ tb.ok F u ∧ tc.ok F z := by
  match vs, h with
  | [v, u, z], h => exact ⟨v, u, z, rfl, h.1, h.2.1, h.2.2.1⟩
theorem rok_max2 : Rok (K := K) (fun xs H Q => ∃ i j, xs = [.int i, .int j] ∧ Q (.int (if j > i then j else i)) H) [tI i, tI j] (tI (max i j)) := fun F H vs s h Q q => by
  obtain ⟨v, u, rfl, e1, e2⟩ := all2_2 h
  refine ⟨i, j, by rw [show v = .int i from e1, show u = .int j from e2], q _ F H (Wd.refl s) ?_⟩
  show V.int _ = V.int _
  congr 1
  by_cases hj : j > i
  · rw [if_pos hj]; omega
  · rw [if_neg hj]; omega
theorem rok_min2 : Rok (K := K) (fun xs H Q => ∃ i j, xs = [.int i, .int j] ∧ Q (.int (if j < i then j else i)) H) [tI i, tI j] (tI (min i j)) := fun F H vs s h Q q => by
  obtain ⟨v, u, rfl, e1, e2⟩ := all2_2 h
  refine ⟨i, j, by rw [show v = .int i from e1, show u = .int j from e2], q _ F H (Wd.refl s) ?_⟩
  show V.int _ = V.int _
  congr 1
  by_cases hj : j < i
  · rw [if_pos hj]; omega
  · rw [if_neg hj]; omega
theorem rok_abs : Rok (K := K) (fun xs H Q => ∃ i, xs = [.int i] ∧ Q (.int (if i < 0 then -i else i)) H) [tI i] (tI (i.natAbs : Int)) := fun F H vs s h Q q => by
  obtain ⟨v, rfl, e1⟩ := all2_1 h
  refine ⟨i, by rw [show v = .int i from e1], q _ F H (Wd.refl s) ?_⟩
  show V.int _ = V.int _
  congr 1
  by_cases hj : i < 0
  · rw [if_pos hj]; omega
  · rw [if_neg hj]; omega
theorem vals3 {x y z : V} {us : List Value} (r : Vals [x, y, z] us) : ∃ u v w', us = [u, v, w'] ∧ RelV x u ∧ RelV y v ∧ RelV z w' := by
  cases r with
  | cons r1 r2 =>
    cases r2 with
    | cons r3 r4 =>
      cases r4 with
      | cons r5 r6 => cases r6; exact ⟨_, _, _, rfl, r1, r3, r5⟩
def rMax3 : List V → Hp → VK → Prop := fun xs H Q => ∃ i j k : Int, xs = [.int i, .int j, .int k] ∧ Q (.int (max i (max j k))) H
theorem call_max3 (hc : X.calm = true) : CallR X (.builtin "max") rMax3 := by
  intro pins s σ H xs us Q I r h
  obtain ⟨i, j, k, rfl, q⟩ := h
  obtain ⟨u, v, w', rfl, ⟨t, rfl⟩, ⟨t', rfl⟩, ⟨t2, rfl⟩⟩ := vals3 r
  refine PySem.max_three_ints (I.ok.hd hc) fun h' tk k' => ⟨_, H, I.kept k', ?_, q⟩
  by_cases h1 : j > i
  · rw [if_pos h1]
    by_cases h2 : k > j
    · rw [if_pos h2]; exact ⟨_, by rw [show max i (max j k) = k by omega]⟩
    · rw [if_neg h2]; exact ⟨_, by rw [show max i (max j k) = j by omega]⟩
  · rw [if_neg h1]
    by_cases h2 : k > i
    · rw [if_pos h2]; exact ⟨_, by rw [show max i (max j k) = k by omega]⟩
    · rw [if_neg h2]; exact ⟨_, by rw [show max i (max j k) = i by omega]⟩
theorem rok_max3 {k : Int} : Rok (K := K) rMax3 [tI i, tI j, tI k] (tI (max i (max j k))) := fun F H vs s h Q q => by
  obtain ⟨v, u, z, rfl, e1, e2, e3⟩ := all2_3 h
  exact ⟨i, j, k, by rw [show v = .int i from e1, show u = .int j from e2, show z = .int k from e3], q _ F H (Wd.refl s) rfl⟩
theorem all2_ints {F : Hp} : ∀ {ns : List Int} {xs : List V}, All2 F (ns.map (tI (K := K))) xs → xs = ns.map V.int
  | [], [], _ => rfl
  | n :: ns, x :: xs, h => by
    rw [List.map_cons, ← all2_ints (ns := ns) (xs := xs) h.2, show x = .int n from h.1]
  | [], _ :: _, h => h.elim
  | _ :: _, [], h => h.elim
theorem ints_all2 {F : Hp} : ∀ {ns : List Int}, All2 F (ns.map (tI (K := K))) (ns.map V.int)
  | [] => trivial
  | n :: ns => ⟨rfl, ints_all2⟩
theorem rok_minL {ns : List Int} {z : Int} (hz : z ∈ ns) (hle : ∀ y ∈ ns, z ≤ y) : Rok (K := K) (rMin K) [tL (ns.map tI)] (tI z) := fun F H vs s h Q q => by
  obtain ⟨v, rfl, p, xs, rfl, h1, h2⟩ := all2_1 h
  rw [all2_ints h2] at h1
  refine ⟨p, ns, rfl, SqL.of (s _ _ h1), List.length_pos_of_mem hz, fun m hm hl => ?_⟩
  have e : m = z := Int.le_antisymm (hl z hz) (hle m hm)
  exact q _ F H (Wd.refl s) (by show V.int m = V.int z; rw [e])
theorem rok_maxL {ns : List Int} {z : Int} (hz : z ∈ ns) (hle : ∀ y ∈ ns, y ≤ z) : Rok (K := K) (rMax K) [tL (ns.map tI)] (tI z) := fun F H vs s h Q q => by
  obtain ⟨v, rfl, p, xs, rfl, h1, h2⟩ := all2_1 h
  rw [all2_ints h2] at h1
  refine ⟨p, ns, rfl, SqL.of (s _ _ h1), List.length_pos_of_mem hz, fun m hm hl => ?_⟩
  have e : m = z := Int.le_antisymm (hle m hm) (hl z hz)
  exact q _ F H (Wd.refl s) (by show V.int m = V.int z; rw [e])
theorem rok_sum {ns : List Int} : Rok (K := K) (rSum K) [tL (ns.map tI)] (tI ns.sum) := fun F H vs s h Q q => by
  obtain ⟨v, rfl, p, xs, rfl, h1, h2⟩ := all2_1 h
  rw [all2_ints h2] at h1
  exact ⟨p, ns, rfl, SqL.of (s _ _ h1), q _ F H (Wd.refl s) rfl⟩
theorem rok_lenQ : Rok (K := K) (fun xs H Q => ∃ p ys, xs = [.ref p] ∧ (SqL K H p ys ∨ SqT K H p ys) ∧ Q (.int ys.length) H) [tQ ts] (tI (ts.length : Int)) := fun F H vs s h Q q => by
  obtain ⟨v, rfl, p, xs, rfl, h1, h2⟩ := all2_1 h
  exact ⟨p, xs, rfl, .inl (s.seq h1), q _ F H (Wd.refl s) (by show V.int _ = V.int _; rw [h2.len])⟩
theorem rok_lenL : Rok (K := K) (fun xs H Q => ∃ p ys, xs = [.ref p] ∧ (SqL K H p ys ∨ SqT K H p ys) ∧ Q (.int ys.length) H) [tL ts] (tI (ts.length : Int)) := fun F H vs s h Q q => by
  obtain ⟨v, rfl, o⟩ := all2_1 h
  exact rok_lenQ F H [v] s ⟨tL_Q o, trivial⟩ Q q
theorem rok_lenS {z : Str} (hz : z.length ≤ sizeLine) : Rok (K := K) (fun xs H Q => ∃ z, xs = [.str z] ∧ z.length ≤ sizeLine ∧ Q (.int z.length) H) [tS z] (tI (z.length : Int)) := fun F H vs s h Q q => by
  obtain ⟨v, rfl, e⟩ := all2_1 h
  exact ⟨z, by rw [show v = .str z from e], hz, q _ F H (Wd.refl s) rfl⟩
theorem rok_int : Rok (K := K) (fun xs H Q => (∃ i, xs = [.int i] ∧ Q (.int i) H) ∨ ∃ k, xs = [.bl k] ∧ Q (.int (if k then 1 else 0)) H) [tI i] (tI i) := fun F H vs s h Q q => by
  obtain ⟨v, rfl, e⟩ := all2_1 h
  exact .inl ⟨i, by rw [show v = .int i from e], q _ F H (Wd.refl s) rfl⟩
/-- list(..) of a list, of a tuple -/
theorem rok_listL : Rok (K := K) (fun xs H Q => ∃ p ys, xs = [.ref p] ∧ (SqL K H p ys ∨ SqT K H p ys) ∧ ∀ l, H l = none → Q (.ref l) (upd H l (.lst ys))) [tL ts] (tL ts) := fun F H vs s h Q q => by
  obtain ⟨v, rfl, p, xs, rfl, h1, h2⟩ := all2_1 h
  exact ⟨p, xs, rfl, .inl (SqL.of (s _ _ h1)), fun l hl => q (.ref l) _ _ (Wd.new s hl) ⟨l, xs, rfl, upd_same, h2.mono (same_frz (s.free hl))⟩⟩
theorem rok_listT : Rok (K := K) (fun xs H Q => ∃ p ys, xs = [.ref p] ∧ (SqL K H p ys ∨ SqT K H p ys) ∧ ∀ l, H l = none → Q (.ref l) (upd H l (.lst ys))) [tT ts] (tL ts) := fun F H vs s h Q q => by
  obtain ⟨v, rfl, p, xs, rfl, h1, h2⟩ := all2_1 h
  exact ⟨p, xs, rfl, .inr (Same.seqT s h1), fun l hl => q (.ref l) _ _ (Wd.new s hl) ⟨l, xs, rfl, upd_same, h2.mono (same_frz (s.free hl))⟩⟩
theorem rok_tupL : Rok (K := K) (fun xs H Q => ∃ a ys, xs = [.ref a] ∧ ((SqL K H a ys ∧ ∀ l, H l = none → Q (.ref l) (upd H l (.tup ys))) ∨ (SqT K H a ys ∧ Q (.ref a) H))) [tL ts] (tT ts) := fun F H vs s h Q q => by
  obtain ⟨v, rfl, p, xs, rfl, h1, h2⟩ := all2_1 h
  exact ⟨p, xs, rfl, .inl ⟨SqL.of (s _ _ h1), fun l hl => q (.ref l) _ _ (Wd.new s hl) ⟨l, xs, rfl, SqT.of upd_same, h2.mono (same_frz (s.free hl))⟩⟩⟩
def rIsqrt : List V → Hp → VK → Prop := fun xs H Q => ∃ i : Int, xs = [.int i] ∧ 0 ≤ i ∧ i.toNat.log2 < 13000 ∧ Q (.int ((Float64.isqrt i.toNat : Nat) : Int)) H
theorem call_isqrt : CallR X (.builtin "math.isqrt") rIsqrt := by
  intro pins s σ H xs us Q I r h
  obtain ⟨i, rfl, h0, h1, q⟩ := h
  obtain ⟨u, rfl, t, rfl⟩ := vals1 r
  exact PySem.call_function_meets PySem.W.MGF.kind_isqrt PySem.W.MGF.plain_isqrt PySem.W.MGF.entry_isqrt (PySem.W.MGF.args_isqrt _) (PySem.W.mg_run_isqrt i t (by omega) (by omega) (by omega)).meets ⟨.int _, H, I.tok _, ⟨_, rfl⟩, q⟩
theorem rok_isqrt (h0 : 0 ≤ i) (h1 : i.toNat.log2 < 13000) : Rok (K := K) rIsqrt [tI i] (tI ((Float64.isqrt i.toNat : Nat) : Int)) := fun F H vs s h Q q => by
  obtain ⟨v, rfl, e⟩ := all2_1 h
  exact ⟨i, by rw [show v = .int i from e], h0, h1, q _ F H (Wd.refl s) rfl⟩
theorem ej_isqrt (hm : X.mg "isqrt" = some (.builtin "math.isqrt")) (ha : EJ X Γ Ω a (tI i)) (h0 : 0 ≤ i) (h1 : i.toNat.log2 < 13000) (hg : Gl X "isqrt" := by rfl) (hs : starEach [a] X.env = [(false, eval a X.env)] := by rfl) (hs0 : starEach [] X.env = [] := by rfl) : EJ X Γ Ω (.Call (.Name "isqrt" p) [a] [] pos) (tI ((Float64.isqrt i.toNat : Nat) : Int)) := fun H0 σ F H P Q q =>
  teU_of (pe_callBfun call_isqrt hg hm paU (by decide) (by rw [hs, hs0]) (by rw [hs0]; rfl)) ((aj_cons ha aj_nil (by rw [hs, hs0])) H0 σ F H P _ fun vs F1 H1 w1 o1 => rok_isqrt h0 h1 F1 H1 vs w1.fh o1 _ fun v F2 H2 w2 o2 => q v F2 H2 (w1.trans w2) o2)
end
end T
end
section
set_option Elab.async false
set_option linter.all false
set_option maxRecDepth 100000
set_option maxHeartbeats 4000000
namespace T
open PySem PySem.Spec PyProof.Rows L2
section
variable {X : Cx} {K : PySem.W.Frag} {P : Program} {w : World} {mg : Str → Option Value} {base : Heap} {Γ Δ : Env1 K} {Ω : Ow K} {e a b c it tg : Expr} {es : List Expr} {pos p px py : Pos} {x y name : Str} {t ta tb tc : Ty K} {ts us : List (Ty K)} {i j : Int} {k m n : Nat}
  {rest body as bs : List Stmt} {D : Dn} {st : Stmt} {M : As}

/-! ### states -/
def Le (P Q : As) : Prop := ∀ H0 σ F H, P H0 σ F H → Q H0 σ F H
theorem Le.refl {P : As} : Le P P := fun _ _ _ _ h => h
theorem le_less (h : Less Γ Δ) : Le (A Δ Ω) (A Γ Ω) := fun _ _ _ _ q => ⟨q.1.less h, q.2⟩
/-- the owned thing is let go -/
theorem le_drop : Le (A Γ Ω) (A Γ none) := fun _ _ _ _ q => ⟨q.1, trivial⟩
theorem HJ.pre {P Q : As} (h : Le P Q) (q : HJ X body Q D) : HJ X body P D := fun F0 H0 σ F H E w p l => q F0 H0 σ F H E w (h _ _ _ _ p) l
def Ex1 {δ : Type} (φ : δ → Prop) (G : δ → Env1 K) (O : δ → Ow K) : As := fun H0 σ F H => ∃ d, φ d ∧ A (G d) (O d) H0 σ F H
theorem HJ.ex {δ : Type} {φ : δ → Prop} {G : δ → Env1 K} {O : δ → Ow K} (h : ∀ d, φ d → HJ X body (A (G d) (O d)) D) : HJ X body (Ex1 φ G O) D := fun F0 H0 σ F H E w ⟨d, q, p⟩ l => h d q F0 H0 σ F H E w p l
theorem le_ex {δ : Type} {φ : δ → Prop} {G : δ → Env1 K} {O : δ → Ow K} (d : δ) (h : φ d) (l : Le (A Γ Ω) (A (G d) (O d))) : Le (A Γ Ω) (Ex1 φ G O) := fun _ _ _ _ q => ⟨d, h, l _ _ _ _ q⟩
/-- what holds of no state -/
def bot : As := fun _ _ _ _ => False

/-! ### one statement, then the rest -/
theorem seq1 {u : TS} {E : Ends} {σ : St} {H : Hp} (h : PS X st u) (q : u { E with nx := pssU X rest E } σ H) : pssU X (st :: rest) E σ H := pssU_of (pss_cons h psU) q
theorem hj_nil (h : Le M D.nx) : HJ X [] M D := fun F0 H0 σ F H E w p l => pssU_of pss_nil (l.nx σ F H w (h _ _ _ _ p))
def ownNe : Ow K → Nat → Bool
  | none, _ => true
  | some (m, _), n => !(m == n)
theorem OwnOk.set {H0 F H : Hp} {σ : St} {o : Option V} (h : OwnOk H0 F H σ Ω) (hn : ownNe Ω n = true) : OwnOk H0 F H (σ.set n o) Ω := by
  cases Ω with
  | none => trivial
  | some q =>
    obtain ⟨m, ot⟩ := q
    obtain ⟨p, o', h1, h2⟩ := h
    have hne : n ≠ m := fun z => by
      subst z
      have z2 : (!(n == n)) = true := hn
      rw [beq_self_eq_true] at z2
      cases z2
    exact ⟨p, o', by rw [List.getElem?_set_ne hne]; exact h1, h2⟩
theorem preOf {F0 H0 F H : Hp} {σ : St} (w : Wd F0 H0 F H) (p : A Γ Ω H0 σ F H) : Pre Γ Ω H0 σ F H := ⟨w.fh, p.1, p.2⟩
theorem hj_set (B : Bd X) (n : Nat) (he : EJ X Γ Ω e t) (hr : HJ X rest (A (Γ.set n (some t)) Ω) D) (hn : ownNe Ω n = true := by rfl) (hi : X.N[n]? = some x := by rfl) (hx : Loc X.env.scope x := by first | exact Or.inl rfl | exact Or.inr rfl)
    (hs : swapsWith e (some (.Name x px)) pos.line X.env = pure false := by rfl) (hf : X.fn x = true ∨ X.env.scope.names.lookup x = some .local := by first | exact Or.inl rfl | exact Or.inr rfl) : HJ X (.Assign [.Name x px] e pos :: rest) (A Γ Ω) D := fun F0 H0 σ F H E w p l =>
  seq1 (ps_set B.nd hi hx peU hs hf) (he H0 σ F H (preOf w p) _ fun v F1 H1 w1 o1 => hr F0 H0 _ F1 H1 E (w.trans w1) ⟨(p.1.mono w1.ff).set o1, (p.2.mono w1).set hn⟩ l)
/-- x = [..]: an owned list -/
theorem hj_ownL (B : Bd X) (n : Nat) (he : AJ X Γ none es ts) (hr : HJ X rest (A (Γ.set n none) (some (n, oL ts))) D) (hz : ts.length ≤ 1000 := by exact Nat.le_of_ble_eq_true rfl) (hΓ : n < Γ.length := by exact Nat.le_of_ble_eq_true rfl) (hi : X.N[n]? = some x := by rfl) (hx : Loc X.env.scope x := by first | exact Or.inl rfl | exact Or.inr rfl)
    (hs : swapsWith (.List es py) (some (.Name x px)) pos.line X.env = pure false := by rfl) (hf : X.fn x = true ∨ X.env.scope.names.lookup x = some .local := by first | exact Or.inl rfl | exact Or.inr rfl) : HJ X (.Assign [.Name x px] (.List es py) pos :: rest) (A Γ none) D := fun F0 H0 σ F H E w p l =>
  seq1 (ps_set B.nd hi hx (pe_lst paU) hs hf) (he H0 σ F H (preOf w p) _ fun vs F1 H1 w1 o1 => ⟨by rw [o1.len]; exact Nat.le_of_lt (small1000 hz), fun q nq => by
    have hq : H0 q = none := (w.trans w1).hh.free nq
    refine hr F0 H0 _ F1 _ E ((w.trans w1).trans (Wd.own w1.fh nq)) ⟨(p.1.mono w1.ff).setN, q, .lst vs, ?_, hq, w1.fh.free nq, upd_same, vs, rfl, o1⟩ l
    rw [List.getElem?_set_self (by rw [p.1.len]; exact hΓ)]⟩)
/-- x = {}: an owned dict -/
theorem hj_ownD (B : Bd X) (n : Nat) (hr : HJ X rest (A (Γ.set n none) (some (n, oD 0 fun _ => none))) D) (hΓ : n < Γ.length := by exact Nat.le_of_ble_eq_true rfl) (hi : X.N[n]? = some x := by rfl) (hx : Loc X.env.scope x := by first | exact Or.inl rfl | exact Or.inr rfl)
    (hs : swapsWith (.Dict [] [] py) (some (.Name x px)) pos.line X.env = pure false := by rfl) (hf : X.fn x = true ∨ X.env.scope.names.lookup x = some .local := by first | exact Or.inl rfl | exact Or.inr rfl) : HJ X (.Assign [.Name x px] (.Dict [] [] py) pos :: rest) (A Γ none) D := fun F0 H0 σ F H E w p l =>
  seq1 (ps_set B.nd hi hx pe_dnewK hs hf) fun q nq => by
    have hq : H0 q = none := w.hh.free nq
    refine hr F0 H0 _ F _ E (w.trans (Wd.own w.fh nq)) ⟨p.1.setN, q, .dK [], ?_, hq, w.fh.free nq, upd_same, [], rfl, Nat.le_refl _, fun i => rfl⟩ l
    rw [List.getElem?_set_self (by rw [p.1.len]; exact hΓ)]
/-- x.append(e) -/
theorem hj_app (n : Nat) {pa : Pos} {pc : Pos} {pe : Pos} (he : EJ X Γ (some (n, oL ts)) e t) (hr : HJ X rest (A Γ (some (n, oL (ts ++ [t])))) D) (hz : ts.length < 100000) (hN : X.N[n]? = some x := by rfl) (hv : Vis X.env.scope x := by first | exact Or.inl rfl | exact Or.inr (Or.inl rfl)) (hK : X.K = K := by rfl)
    (hd : (x == ("__debug__" : Str)) = false := by decide) (hcd : (x == ("__classdict__" : Str)) = false := by decide)
    (hp : PE X (.Call (.Attribute (.Name x px) "append" pa) [e] [] pc) (tBM X.K "list" rAppend (teU X (.Name x px)) (tCons (teU X e) tNil)) := by exact pe_bm PySem.F.plainAttrs_list PySem.F.slot_list_append PySem.F.type_list_append mt_append peU (pa_cons peU pa_nil))
    (hs : swapsWith (.Call (.Attribute (.Name x px) "append" pa) [e] [] pc) none pe.line X.env = pure false := by rfl) : HJ X (.Expr (.Call (.Attribute (.Name x px) "append" pa) [e] [] pc) pe :: rest) (A Γ (some (n, oL ts))) D := fun F0 H0 σ F H E w p l => by
  subst hK
  refine seq1 (ps_expr hp hs) (te_own (preOf w p) (fun q o hσ h0 hf hq ho => ?_) hN hv hd hcd)
  obtain ⟨xs, rfl, hxs⟩ := ho
  refine ⟨.inl ⟨rfl, _, SqL.of hq⟩, he H0 σ F H (preOf w p) _ fun v F1 H1 w1 o1 => ?_⟩
  have hq1 : H1 q = some (.lst xs) := w1.hh _ _ hq
  have hf1 : F1 q = none := w1.nw q hf (by rw [hq]; simp)
  refine ⟨q, xs, v, rfl, rfl, hq1, Nat.lt_of_lt_of_le (by rw [hxs.len]; exact hz) (by decide), ?_⟩
  refine hr F0 H0 σ F1 _ E ((w.trans w1).chg h0 hf1) ⟨p.1.mono w1.ff, q, .lst (xs ++ [v]), hσ, h0, hf1, upd_same, xs ++ [v], rfl, (hxs.mono w1.ff).app ⟨o1, trivial⟩⟩ l
end
end T
end
section
set_option Elab.async false
set_option linter.all false
set_option maxRecDepth 100000
set_option maxHeartbeats 4000000
namespace T
open PySem PySem.Spec PyProof.Rows L2
section
variable {X : Cx} {K : PySem.W.Frag} {P : Program} {w : World} {mg : Str → Option Value} {base : Heap} {Γ Δ : Env1 K} {Ω : Ow K} {e a b c it tg : Expr} {es : List Expr} {pos p px py : Pos} {x y name : Str} {t ta tb tc : Ty K} {ts us : List (Ty K)} {i j : Int} {k m n : Nat}
  {rest body as bs : List Stmt} {D : Dn} {st : Stmt} {M : As}

/-! ### the owned thing: frozen, read, changed -/
theorem set_self {σ : St} {o : Option V} : ∀ {n : Nat}, σ[n]? = some o → σ.set n o = σ := by
  induction σ with
  | nil => intro n h; cases h
  | cons z σ ih =>
    intro n h
    cases n with
    | zero =>
      have e : z = o := Option.some.inj h
      subst e
      rfl
    | succ n =>
      show z :: σ.set n o = z :: σ
      rw [ih h]
/-- the owned list stands still from here on -/
theorem hj_frz (n : Nat) (h : HJ X body (A (Γ.set n (some (tL ts))) none) D) : HJ X body (A Γ (some (n, oL ts))) D := fun F0 H0 σ F H E w p l => by
  obtain ⟨q, o, h1, h2, h3, h4, xs, rfl, h5⟩ := p.2
  refine h F0 H0 σ (upd F q (.lst xs)) H E (w.frz h2 h3 h4) ⟨?_, trivial⟩ l
  have z := (p.1.mono (same_frz (o := .lst xs) h3)).set (t := tL ts) (v := .ref q) ⟨q, xs, rfl, upd_same, h5.mono (same_frz h3)⟩ (i := n)
  rw [set_self h1] at z
  exact z
theorem hj_ret (he : EJ X Γ Ω e t) (hr : ∀ v F, t.ok F v → D.rt v F) : HJ X (.Return (some e) pos :: rest) (A Γ Ω) D := fun F0 H0 σ F H E w p l =>
  seq1 (ps_ret peU) (he H0 σ F H (preOf w p) _ fun v F1 H1 w1 o1 => l.rt v F1 H1 (w.trans w1) (hr v F1 o1))
theorem hj_expr (he : EJ X Γ Ω e t) (hr : HJ X rest (A Γ Ω) D) (hs : swapsWith e none pos.line X.env = pure false := by rfl) : HJ X (.Expr e pos :: rest) (A Γ Ω) D := fun F0 H0 σ F H E w p l =>
  seq1 (ps_expr peU hs) (he H0 σ F H (preOf w p) _ fun v F1 H1 w1 o1 => hr F0 H0 σ F1 H1 E (w.trans w1) ⟨p.1.mono w1.ff, p.2.mono w1⟩ l)
def Few (n : Nat) (fs : List (Str × Ty K)) : Prop := fs.length + n ≤ 900
theorem few_nil {n : Nat} (h : n ≤ 900) : Few n ([] : List (Str × Ty K)) := by
  unfold Few
  rw [List.length_nil]
  omega
theorem putT_len (f : Str) (t : Ty K) : ∀ fs : List (Str × Ty K), (putT f t fs).length ≤ fs.length + 1
  | [] => Nat.le_refl _
  | (g, u) :: r => by
    show (if g = f then (g, t) :: r else (g, u) :: putT f t r).length ≤ _
    split
    · rw [List.length_cons, List.length_cons]
      omega
    · have := putT_len f t r
      rw [List.length_cons, List.length_cons]
      omega
theorem few_put {n : Nat} {f : Str} {t : Ty K} {fs : List (Str × Ty K)} (h : Few (n + 1) fs) : Few n (putT f t fs) := by
  have := putT_len f t fs
  unfold Few at *
  omega
/-- self.f = e, self owned -/
theorem hj_fld {q C : Addr} {fs : List (Str × Ty K)} {f : Str} (n : Nat) (cl : Cls K C) (na : NoAttr K C f) (he : EJ X Γ (some (n, oIn q C fs)) e t) (hr : HJ X rest (A Γ (some (n, oIn q C (putT f t fs)))) D) (hz : Few 0 fs := by repeat (first | exact few_nil (by decide) | refine few_put ?_))
    (hN : X.N[n]? = some x := by rfl) (hv : Vis X.env.scope x := by first | exact Or.inl rfl | exact Or.inr (Or.inl rfl)) (hd : (x == ("__debug__" : Str)) = false := by decide) (hcd : (x == ("__classdict__" : Str)) = false := by decide)
    (hs : swapsWith e (some (.Attribute (.Name x px) f py)) pos.line X.env = pure false := by rfl) (hK : X.K = K := by rfl) : HJ X (.Assign [.Attribute (.Name x px) f py] e pos :: rest) (A Γ (some (n, oIn q C fs))) D := fun F0 H0 σ F H E w p l => by
  subst hK
  refine seq1 (ps_fld peU peU hs) (he H0 σ F H (preOf w p) _ fun v F1 H1 w1 o1 => ?_)
  have w2 := w.trans w1
  have p2 : A Γ (some (n, oIn q C fs)) H0 σ F1 H1 := ⟨p.1.mono w1.ff, p.2.mono w1⟩
  refine te_own (preOf w2 p2) (fun r o hσ h0 hf hp ho => ?_) hN hv hd hcd
  obtain ⟨rfl, dx, gs, rfl, hg⟩ := ho
  refine ⟨r, C, dx, gs, rfl, hp, cl, na, by rw [hg.len]; exact Nat.lt_of_le_of_lt hz (by decide), ?_⟩
  exact hr F0 H0 σ F1 _ E (w2.chg h0 hf) ⟨p2.1, r, _, hσ, h0, hf, upd_same, rfl, dx, _, rfl, hg.put o1⟩ l
/-- x[i] = e, x owned -/
theorem hj_setO (n : Nat) {jj : Nat} {px2 : Pos} (he : EJ X Γ (some (n, oL ts)) e t) (hi : EJ X Γ (some (n, oL ts)) a (tI i)) (hj : ixN ts.length i = some jj) (hr : HJ X rest (A Γ (some (n, oL (ts.set jj t)))) D)
    (hN : X.N[n]? = some x := by rfl) (hv : Vis X.env.scope x := by first | exact Or.inl rfl | exact Or.inr (Or.inl rfl)) (hd : (x == ("__debug__" : Str)) = false := by decide) (hcd : (x == ("__classdict__" : Str)) = false := by decide)
    (hs : swapsWithSole [.Subscript (.Name x px) a py] e pos.line X.env = pure false := by rfl) (hw : swappedStores [.Subscript (.Name x px) a py] e X.env = pure none := by rfl) (h1 : (assignEach [.Subscript (.Name x px) a py] X.env).map (·.2) = [assign (.Subscript (.Name x px) a py) X.env] := by rfl)
    (ha : ∀ v, assign (.Subscript (.Name x px) a py) X.env v = (do
      let ov ← holding [v] (eval (.Name x px) X.env)
      let iv ← holding [v, ov] (eval a X.env)
      standAt py
      holding [v, ov, iv] (setItem ov iv v)
      release [v, ov, iv] []) := by intro _; rfl) : HJ X (.Assign [.Subscript (.Name x px) a py] e pos :: rest) (A Γ (some (n, oL ts))) D := fun F0 H0 σ F H E w p l => by
  refine seq1 (ps_asg peU (pg_sub peU peU set_list ha) hs hw h1) (he H0 σ F H (preOf w p) _ fun v F1 H1 w1 o1 => ?_)
  have w2 := w.trans w1
  have p2 : A Γ (some (n, oL ts)) H0 σ F1 H1 := ⟨p.1.mono w1.ff, p.2.mono w1⟩
  refine te_own (preOf w2 p2) (fun r o hσ h0 hf hp ho => ?_) hN hv hd hcd
  refine hi H0 σ F1 H1 (preOf w2 p2) _ fun u F2 H2 w3 o2 => ?_
  obtain ⟨xs, rfl, hx⟩ := ho
  have hf2 : F2 r = none := w3.nw r hf (by rw [hp]; simp)
  refine ⟨r, xs, i, jj, rfl, o2, w3.hh _ _ hp, by rw [hx.len]; exact hj, ?_⟩
  exact hr F0 H0 σ F2 _ E ((w2.trans w3).chg h0 hf2) ⟨p2.1.mono w3.ff, r, _, hσ, h0, hf2, upd_same, _, rfl, (hx.mono w3.ff).set (t.mono w3.ff o1)⟩ l
theorem ej_lenO (hm : X.mg "len" = none) (hN : X.N[n]? = some x := by rfl) (hv : Vis X.env.scope x := by first | exact Or.inl rfl | exact Or.inr (Or.inl rfl)) (hd : (x == ("__debug__" : Str)) = false := by decide) (hcd : (x == ("__classdict__" : Str)) = false := by decide)
    (hg : Gl X "len" := by rfl) (hs : starEach [.Name x px] X.env = [(false, eval (.Name x px) X.env)] := by rfl) (hs0 : starEach [] X.env = [] := by rfl) (hK : X.K = K := by rfl) : EJ X Γ (some (n, oL ts)) (.Call (.Name "len" p) [.Name x px] [] pos) (tI (ts.length : Int)) := fun H0 σ F H P Q q => by
  subst hK
  refine teU_of (pe_callB call_len_seq hg hm PySem.boot_len (pa_cons peU pa_nil (by rw [hs, hs0])) (by decide) (by decide) (by rw [hs, hs0]) (by rw [hs0]; rfl)) (te_own P (fun r o hσ h0 hf hp ho => ?_) hN hv hd hcd)
  obtain ⟨xs, rfl, hx⟩ := ho
  exact ⟨r, xs, rfl, .inl (SqL.of hp), q _ F H (Wd.refl P.fh) (by show V.int _ = V.int _; rw [hx.len])⟩
/-- d[k] = e, d an owned dict -/
theorem hj_put (B : Bd X) (n : Nat) {g : Int → Option (Ty K)} (he : EJ X Γ (some (n, oD m g)) e t) (hi : EJ X Γ (some (n, oD m g)) a (tI i)) (hz : m < 100000) (hr : HJ X rest (A Γ (some (n, oD (m + 1) fun z => if z = i then some t else g z))) D)
    (hN : X.N[n]? = some x := by rfl) (hv : Vis X.env.scope x := by first | exact Or.inl rfl | exact Or.inr (Or.inl rfl)) (hd : (x == ("__debug__" : Str)) = false := by decide) (hcd : (x == ("__classdict__" : Str)) = false := by decide)
    (hs : swapsWith e (some (.Subscript (.Name x px) a py)) pos.line X.env = pure false := by rfl) : HJ X (.Assign [.Subscript (.Name x px) a py] e pos :: rest) (A Γ (some (n, oD m g))) D := fun F0 H0 σ F H E w p l => by
  refine seq1 (ps_dput (by have := B.hu; omega) peU peU peU hs) (he H0 σ F H (preOf w p) _ fun v F1 H1 w1 o1 => ?_)
  have w2 := w.trans w1
  have p2 : A Γ (some (n, oD m g)) H0 σ F1 H1 := ⟨p.1.mono w1.ff, p.2.mono w1⟩
  refine te_own (preOf w2 p2) (fun r o hσ h0 hf hp ho => ?_) hN hv hd hcd
  refine hi H0 σ F1 H1 (preOf w2 p2) _ fun u F2 H2 w3 o2 => ?_
  obtain ⟨zs, rfl, hl, hx⟩ := ho
  have hf2 : F2 r = none := w3.nw r hf (by rw [hp]; simp)
  cases (show u = .int i from o2)
  refine ⟨r, _, rfl, DPut.k (k := .inl i) (w3.hh _ _ hp) (Nat.lt_of_le_of_lt hl (Nat.lt_of_lt_of_le hz (by decide))), ?_⟩
  refine hr F0 H0 σ F2 _ E ((w2.trans w3).chg h0 hf2) ⟨p2.1.mono w3.ff, r, _, hσ, h0, hf2, upd_same, _, rfl, ?_, fun z => ?_⟩ l
  · have := length_putK zs (.inl i) v
    omega
  · show Dh F2 (putK zs (Sum.inl i) v) z (if z = i then some t else g z)
    by_cases hzi : z = i
    · subst hzi
      rw [if_pos rfl]
      exact ⟨v, by rw [valV_put, if_pos rfl], t.mono w3.ff o1⟩
    · rw [if_neg hzi]
      have ne : ¬ (Sum.inl z : Key) = Sum.inl i := fun q => hzi (Sum.inl.inj q)
      have hz2 := (hx z).mono w3.ff
      cases q : g z with
      | none =>
        rw [q] at hz2
        show valV _ _ = none
        rw [valV_put, if_neg ne]
        exact hz2
      | some t2 =>
        rw [q] at hz2
        obtain ⟨v2, h5, h6⟩ := hz2
        exact ⟨v2, by rw [valV_put, if_neg ne]; exact h5, h6⟩
theorem bj_inD (B : Bd X) {g : Int → Option (Ty K)} (hi : EJ X Γ (some (n, oD m g)) a (tI i)) (hN : X.N[n]? = some x := by rfl) (hv : Vis X.env.scope x := by first | exact Or.inl rfl | exact Or.inr (Or.inl rfl)) (hd : (x == ("__debug__" : Str)) = false := by decide) (hcd : (x == ("__classdict__" : Str)) = false := by decide)
    (hm : behindInMarks .In (.Name x px) = false := by rfl) : BJ X Γ (some (n, oD m g)) (.Compare a [.In] [.Name x px] pos) (g i).isSome := fun H0 σ F H P Q q => by
  refine ttU_of (pt_cmp (pc_din (by have := B.hu; omega) peU peU) hm) (hi H0 σ F H P _ fun u F1 H1 w1 o1 => te_own (P.mono w1) (fun r o hσ h0 hf hp ho => ?_) hN hv hd hcd)
  obtain ⟨zs, rfl, hl, hx⟩ := ho
  cases (show u = .int i from o1)
  refine ⟨r, _, rfl, DGet.k (k := .inl i) hp, (g i).isSome, ?_, q F1 H1 w1⟩
  have hz2 := hx i
  cases q : g i with
  | none =>
    rw [q] at hz2
    show V.bl _ = V.bl _
    rw [show valV zs (Sum.inl i) = none from hz2]
    rfl
  | some t2 =>
    rw [q] at hz2
    obtain ⟨v2, h5, h6⟩ := hz2
    rw [h5]
    rfl
theorem ej_getD (B : Bd X) {g : Int → Option (Ty K)} (hi : EJ X Γ (some (n, oD m g)) a (tI i)) (hgi : g i = some t) (hN : X.N[n]? = some x := by rfl) (hv : Vis X.env.scope x := by first | exact Or.inl rfl | exact Or.inr (Or.inl rfl)) (hd : (x == ("__debug__" : Str)) = false := by decide) (hcd : (x == ("__classdict__" : Str)) = false := by decide)
    (hs : NoSl a := by exact fun _ _ => rfl) : EJ X Γ (some (n, oD m g)) (.Subscript (.Name x px) a pos) t := fun H0 σ F H P Q q => by
  refine teU_of (pe_dget (by have := B.hu; omega) peU peU hs) (te_own P (fun r o hσ h0 hf hp ho => hi H0 σ F H P _ fun u F1 H1 w1 o1 => ?_) hN hv hd hcd)
  obtain ⟨zs, rfl, hl, hx⟩ := ho
  cases (show u = .int i from o1)
  have hz2 := hx i
  rw [hgi] at hz2
  obtain ⟨v2, h5, h6⟩ := hz2
  have dg := DGet.k (k := .inl i) (w1.hh _ _ hp)
  rw [h5] at dg
  exact ⟨r, v2, rfl, dg, q v2 F1 H1 w1 (t.mono w1.ff h6)⟩

/-! ### if -/
theorem hj_ifm (M : As) {d : Bool} (hc : BJ X Γ Ω c d) (h1 : d = true → HJ X as (A Γ Ω) { D with nx := M }) (h2 : d = false → HJ X bs (A Γ Ω) { D with nx := M }) (hr : HJ X rest M D) : HJ X (.If c as bs pos :: rest) (A Γ Ω) D := fun F0 H0 σ F H E w p l =>
  seq1 (ps_if ptU psU psU) (hc H0 σ F H (preOf w p) _ fun F1 H1 w1 => by
    have w2 := w.trans w1
    have p2 : A Γ Ω H0 σ F1 H1 := ⟨p.1.mono w1.ff, p.2.mono w1⟩
    have l2 : Lets { D with nx := M } F0 H0 { E with nx := pssU X rest E } := ⟨fun σ F H w q => hr F0 H0 σ F H E w q l, l.rt, l.bk, l.ct⟩
    cases d with
    | true => exact iteT (h1 rfl F0 H0 σ F1 H1 _ w2 p2 l2)
    | false => exact iteF (h2 rfl F0 H0 σ F1 H1 _ w2 p2 l2))
/-- the first branch leaves -/
theorem hj_ifr {d : Bool} (hc : BJ X Γ Ω c d) (h1 : d = true → HJ X as (A Γ Ω) { D with nx := bot }) (hr : d = false → HJ X rest (A Γ Ω) D) : HJ X (.If c as [] pos :: rest) (A Γ Ω) D := fun F0 H0 σ F H E w p l =>
  seq1 (ps_if ptU psU pss_nil) (hc H0 σ F H (preOf w p) _ fun F1 H1 w1 => by
    have w2 := w.trans w1
    have p2 : A Γ Ω H0 σ F1 H1 := ⟨p.1.mono w1.ff, p.2.mono w1⟩
    cases d with
    | true => exact iteT (h1 rfl F0 H0 σ F1 H1 _ w2 p2 ⟨fun _ _ _ _ q => q.elim, l.rt, l.bk, l.ct⟩)
    | false => exact iteF (hr rfl F0 H0 σ F1 H1 E w2 p2 l))
/-- the test's answer is known -/
theorem hj_ift (hc : BJ X Γ Ω c true) (M : As) (h1 : HJ X as (A Γ Ω) { D with nx := M }) (hr : HJ X rest M D) : HJ X (.If c as bs pos :: rest) (A Γ Ω) D := hj_ifm M hc (fun _ => h1) (fun z => nomatch z) hr
theorem hj_iff (hc : BJ X Γ Ω c false) (hr : HJ X rest (A Γ Ω) D) : HJ X (.If c as [] pos :: rest) (A Γ Ω) D := hj_ifr hc (fun z => nomatch z) fun _ => hr
theorem hj_brk (h : Le (A Γ Ω) D.bk) : HJ X (.Break pos :: rest) (A Γ Ω) D := fun F0 H0 σ F H E w p l => seq1 ps_break (l.bk σ F H w (h _ _ _ _ p))
theorem hj_pass (hr : HJ X rest (A Γ Ω) D) : HJ X (.Pass pos :: rest) (A Γ Ω) D := fun F0 H0 σ F H E w p l => seq1 ps_pass (hr F0 H0 σ F H E w p l)

/-! ### targets -/
def pgU (X : Cx) (tg : Expr) : TG := fun v σ H Q => ∀ pins s u, Inv X pins σ H s → RelV v u → wpAny (model X.prog X.w) X.A (assign tg X.env u) (fun _ s' => ∃ σ' H', Inv X pins σ' H' s' ∧ Q σ' H') X.xe s
theorem peGU {tg : Expr} : PG X tg (pgU X tg) := ⟨fun pins s _ _ _ u _ I r h => h pins s u I r⟩
theorem pgU_of {tg : Expr} {g : TG} {v : V} {σ : St} {H : Hp} {Q : St → Hp → Prop} (h : PG X tg g) (q : g v σ H Q) : pgU X tg v σ H Q := fun pins s u I r => h.run pins s σ H v u Q I r q
/-- tg takes a value of type t: Γ becomes Δ; nothing else changes but the slots ns -/
def GJ (X : Cx) {K : PySem.W.Frag} (ns : List Nat) (tg : Expr) (t : Ty K) (f : Env1 K → Env1 K) : Prop := ∀ F H v σ, Same F H → t.ok F v → ∀ Q : St → Hp → Prop,
  (∀ σ', (∀ Γ : Env1 K, TyEnv F Γ σ → TyEnv F (f Γ) σ') → (∀ i, i ∉ ns → σ'[i]? = σ[i]?) → σ'.length = σ.length → Q σ' H) → pgU X tg v σ H Q
theorem gj_name (B : Bd X) (n : Nat) (hi : X.N[n]? = some x := by rfl) (hx : Loc X.env.scope x := by first | exact Or.inl rfl | exact Or.inr rfl) (hf : X.fn x = true ∨ X.env.scope.names.lookup x = some .local := by first | exact Or.inl rfl | exact Or.inr rfl) : GJ X [n] (.Name x px) t (fun Γ => Γ.set n (some t)) := fun F H v σ s o Q q =>
  pgU_of (pg_name B.nd hi hx hf) (q _ (fun Γ h => h.set o) (fun i hi2 => List.getElem?_set_ne (fun z => hi2 (by rw [z]; exact List.mem_singleton_self _))) (List.length_set ..))
/-- several names -/
def setAll : List Nat → List (Ty K) → Env1 K → Env1 K
  | n :: ns, t :: ts, Γ => setAll ns ts (Γ.set n (some t))
  | _, _, Γ => Γ
def gjNames (X : Cx) (sc : Scope) : List Nat → List Expr → Bool
  | [], [] => true
  | n :: ns, .Name x _ :: es => decide (X.N[n]? = some x) && (decide (sc.names.lookup x = some .local) || (decide (sc.names.lookup x = some .cell) && X.fn x)) && gjNames X sc ns es
  | _, _ => false
def tNames : List Nat → TGs
  | [] => gNil
  | n :: ns => gCons (gName n) (tNames ns)
theorem setAll_ok {F : Hp} : ∀ {ns : List Nat} {ts : List (Ty K)} {xs : List V} {σ : St} {H : Hp} {Q : St → Hp → Prop}, ns.length = ts.length → All2 F ts xs →
    (∀ σ', (∀ Γ : Env1 K, TyEnv F Γ σ → TyEnv F (setAll ns ts Γ) σ') → (∀ i, i ∉ ns → σ'[i]? = σ[i]?) → σ'.length = σ.length → Q σ' H) → tNames ns xs σ H Q
  | [], [], [], σ, H, Q, _, _, q => ⟨rfl, q σ (fun _ h => h) (fun _ _ => rfl) rfl⟩
  | n :: ns, t :: ts, x :: xs, σ, H, Q, hl, o, q => ⟨x, xs, rfl, setAll_ok (Nat.succ.inj hl) o.2 fun σ' h1 h2 h3 => q σ' (fun Γ h => h1 _ (h.set o.1)) (fun i hi => by
      rw [h2 i (fun z => hi (List.mem_cons_of_mem _ z)), List.getElem?_set_ne (fun z => hi (by rw [z]; exact List.mem_cons_self))]) (by rw [h3, List.length_set])⟩
  | [], [], _ :: _, _, _, _, _, o, _ => o.elim
  | [], _ :: _, _, _, _, _, hl, _, _ => nomatch hl
  | _ :: _, [], _, _, _, _, hl, _, _ => nomatch hl
  | _ :: _, _ :: _, [], _, _, _, _, o, _ => o.elim
theorem names_pgs (B : Bd X) : ∀ {ns : List Nat} {es : List Expr}, gjNames X X.env.scope ns es = true → PGs X es (tNames ns)
  | [], [], _ => pgs_nil
  | n :: ns, .Name x px :: es, h => by
    have h0 : (decide (X.N[n]? = some x) && (decide (X.env.scope.names.lookup x = some .local) || (decide (X.env.scope.names.lookup x = some .cell) && X.fn x)) && gjNames X X.env.scope ns es) = true := h
    rw [Bool.and_eq_true, Bool.and_eq_true, Bool.or_eq_true, Bool.and_eq_true] at h0
    obtain ⟨⟨h1, h2⟩, h3⟩ := h0
    refine pgs_cons (pg_name B.nd (of_decide_eq_true h1) ?_ ?_) (names_pgs B h3)
    · rcases h2 with h2 | h2
      · exact Or.inl (of_decide_eq_true h2)
      · exact Or.inr (of_decide_eq_true h2.1)
    · rcases h2 with h2 | h2
      · exact Or.inr (of_decide_eq_true h2)
      · exact Or.inl h2.2
theorem gj_tup {kk : Nat} (B : Bd X) (ns : List Nat) (hl : ns.length = ts.length := by rfl) (hn : gjNames X X.env.scope ns es = true := by rfl) (hn2 : (assignEach es X.env).length = ns.length := by rfl) (hst : (assignEach es X.env).findIdx? (·.1) = none := by rfl) (hK : X.K = K := by rfl) :
    GJ X ns (.Tuple es kk px) (tT ts) (setAll ns ts) := fun F H v σ s o Q q => by
  subst hK
  obtain ⟨p, xs, rfl, h1, h2⟩ := o
  exact pgU_of (pg_tup (n := ns.length) B.calm (names_pgs B hn) hn2 hst) ⟨p, xs, rfl, Same.seqT s h1, by rw [h2.len, hl], setAll_ok hl h2 q⟩
/-- a, b = e -/
theorem hj_unp {kk : Nat} (B : Bd X) (ns : List Nat) (he : EJ X Γ Ω e (tT ts)) (hr : HJ X rest (A (setAll ns ts Γ) Ω) D) (hon : (ns.all fun n => ownNe Ω n) = true := by rfl) (hl : ns.length = ts.length := by rfl) (hn : gjNames X X.env.scope ns es = true := by rfl) (hn2 : (assignEach es X.env).length = ns.length := by rfl)
    (hst : (assignEach es X.env).findIdx? (·.1) = none := by rfl) (hK : X.K = K := by rfl) (hs : swapsWithSole [.Tuple es kk px] e pos.line X.env = pure false := by rfl) (hw : swappedStores [.Tuple es kk px] e X.env = pure none := by rfl)
    (h1 : (assignEach [.Tuple es kk px] X.env).map (·.2) = [assign (.Tuple es kk px) X.env] := by rfl) : HJ X (.Assign [.Tuple es kk px] e pos :: rest) (A Γ Ω) D := fun F0 H0 σ F H E w p l =>
  seq1 (ps_asg peU peGU hs hw h1) (he H0 σ F H (preOf w p) _ fun v F1 H1 w1 o1 => gj_tup B ns hl hn hn2 hst hK F1 H1 v σ w1.fh o1 _ fun σ' h2 h3 h4 =>
    hr F0 H0 σ' F1 H1 E (w.trans w1) ⟨h2 _ (p.1.mono w1.ff), by
      have ho := p.2.mono w1
      cases Ω with
      | none => trivial
      | some z =>
        obtain ⟨m, ot⟩ := z
        obtain ⟨r, o, e1, e2⟩ := ho
        refine ⟨r, o, ?_, e2⟩
        rw [h3 m fun hm => ?_]
        · exact e1
        · have := List.all_eq_true.mp hon m hm
          have z2 : (!(m == m)) = true := this
          rw [beq_self_eq_true] at z2
          cases z2⟩ l)
end
end T
end
section
set_option Elab.async false
set_option linter.all false
set_option maxRecDepth 100000
set_option maxHeartbeats 4000000
namespace T
open PySem PySem.Spec PyProof.Rows L2
section
variable {X : Cx} {K : PySem.W.Frag} {P : Program} {w : World} {mg : Str → Option Value} {base : Heap} {Γ Δ : Env1 K} {Ω : Ow K} {e a b c it tg : Expr} {es : List Expr} {pos p px py : Pos} {x y name : Str} {t ta tb tc : Ty K} {ts us : List (Ty K)} {i j : Int} {k m n : Nat}
  {rest body as bs : List Stmt} {D : Dn} {st : Stmt} {M : As}

/-! ### what is walked -/
structure Walks (J : It) (F1 : Hp) (ts : List (Ty K)) : Prop where
  go : ∀ i H, Same F1 H → i < ts.length → J.go i H
  stop : ∀ i H, Same F1 H → ts.length ≤ i → J.stop i H
  yld : ∀ i x H H', Same F1 H → i < ts.length → J.yld i H x H' → H' = H ∧ ∃ t, ts[i]? = some t ∧ t.ok F1 x
def IJ (X : Cx) {K : PySem.W.Frag} (Γ : Env1 K) (Ω : Ow K) (tg it : Expr) (ts : List (Ty K)) : Prop :=
  ∃ wi, PI X tg it wi ∧ ∀ H0 σ F H, Pre Γ Ω H0 σ F H → ∀ R : It → Hp → Prop, (∀ J F1 H1, Wd F H F1 H1 → Walks J F1 ts → R J H1) → wi σ H R
theorem walks_list {F1 : Hp} {a : Addr} {xs : List V} (h : SqL K F1 a xs) (o : All2 F1 ts xs) : Walks (Itl K a) F1 ts where
  go := fun i H s hi => ⟨xs, xs[i]'(by rw [o.len]; exact hi), s.seq h, List.getElem?_eq_getElem (by rw [o.len]; exact hi)⟩
  stop := fun i H s hi => ⟨xs, s.seq h, by rw [o.len]; exact hi⟩
  yld := fun i x H H' s hi y => by
    obtain ⟨e, f⟩ := y
    exact ⟨e, o.get' (f xs (s.seq h))⟩
theorem walks_tup {F1 : Hp} {a : Addr} {xs : List V} (h : SqT K F1 a xs) (o : All2 F1 ts xs) : Walks (Itt K a) F1 ts where
  go := fun i H s hi => ⟨xs, xs[i]'(by rw [o.len]; exact hi), Same.seqT s h, List.getElem?_eq_getElem (by rw [o.len]; exact hi)⟩
  stop := fun i H s hi => ⟨xs, Same.seqT s h, by rw [o.len]; exact hi⟩
  yld := fun i x H H' s hi y => by
    obtain ⟨e, f⟩ := y
    exact ⟨e, o.get' (f xs (Same.seqT s h))⟩
/-- lo, lo + 1, .. -/
def rngT (lo : Int) (n : Nat) : List (Ty K) := (List.range n).map fun i => tI (lo + (i : Nat))
theorem rngT_len {lo : Int} {n : Nat} : (rngT (K := K) lo n).length = n := by rw [rngT, List.length_map, List.length_range]
theorem rngT_get {lo : Int} {n i : Nat} {t : Ty K} (h : (rngT lo n)[i]? = some t) : i < n ∧ t = tI (lo + (i : Nat)) := by
  have hi : i < n := by
    have := (List.getElem?_eq_some_iff.mp h).1
    rw [rngT_len] at this
    exact this
  unfold rngT at h
  rw [List.getElem?_map, List.getElem?_range hi] at h
  exact ⟨hi, (Option.some.inj h).symm⟩
theorem walks_rng {F1 : Hp} {lo : Int} {n : Nat} : Walks (Itr lo n) F1 (rngT (K := K) lo n) where
  go := fun i H s hi => by rw [rngT_len] at hi; exact hi
  stop := fun i H s hi => by rw [rngT_len] at hi; exact hi
  yld := fun i x H H' s hi y => by
    obtain ⟨e1, e2⟩ := y
    rw [rngT_len] at hi
    exact ⟨e1, tI (lo + (i : Nat)), by unfold rngT; rw [List.getElem?_map, List.getElem?_range hi]; rfl, e2⟩
def strT (z : Str) : List (Ty K) := z.cps.toList.map fun c => tS ⟨#[c]⟩
theorem walks_str {F1 : Hp} {z : Str} : Walks (Its z) F1 (strT (K := K) z) where
  go := fun i H s hi => by
    unfold strT at hi
    rw [List.length_map, Array.length_toList] at hi
    exact hi
  stop := fun i H s hi => by
    unfold strT at hi
    rw [List.length_map, Array.length_toList] at hi
    exact hi
  yld := fun i x H H' s hi y => by
    obtain ⟨e1, c, e2, e3⟩ := y
    refine ⟨e1, tS ⟨#[c]⟩, ?_, e3⟩
    unfold strT
    rw [List.getElem?_map, Array.getElem?_toList, e2]
    rfl
theorem ij_Q (he : EJ X Γ Ω it (tQ ts)) (hK : X.K = K := by rfl) : IJ X Γ Ω tg it ts := by
  subst hK
  exact ⟨_, pi_list peU, fun H0 σ F H P R q => he H0 σ F H P _ fun v F1 H1 w1 ⟨p, xs, e, h1, h2⟩ => ⟨p, e, ⟨xs, w1.fh.seq h1⟩, q _ F1 H1 w1 (walks_list h1 h2)⟩⟩
theorem ij_L (he : EJ X Γ Ω it (tL ts)) (hK : X.K = K := by rfl) : IJ X Γ Ω tg it ts := ij_Q (he.to fun _ _ => tL_Q) hK
theorem ij_T (he : EJ X Γ Ω it (tT ts)) (hK : X.K = K := by rfl) : IJ X Γ Ω tg it ts := by
  subst hK
  exact ⟨_, pi_tup peU, fun H0 σ F H P R q => he H0 σ F H P _ fun v F1 H1 w1 ⟨p, xs, e, h1, h2⟩ => ⟨p, e, ⟨xs, Same.seqT w1.fh h1⟩, q _ F1 H1 w1 (walks_tup h1 h2)⟩⟩
theorem ij_S {z : Str} (he : EJ X Γ Ω it (tS z)) : IJ X Γ Ω tg it (strT z) :=
  ⟨_, pi_str peU, fun H0 σ F H P R q => he H0 σ F H P _ fun v F1 H1 w1 e => ⟨z, e, q _ F1 H1 w1 walks_str⟩⟩
theorem ij_r1 {j : Int} (hm : X.mg "range" = none) (ha : EJ X Γ Ω a (tI j)) (h1 : -(2 ^ 62) ≤ j) (h2 : j < 2 ^ 62) (hg : Gl X "range" := by rfl) (hs : starEach [a] X.env = [(false, eval a X.env)] := by rfl) (hs0 : starEach [] X.env = [] := by rfl) : IJ X Γ Ω tg (.Call (.Name "range" p) [a] [] pos) (rngT 0 j.toNat) :=
  ⟨_, pi_range1 hg hm paU hs, fun H0 σ F H P R q => (aj_cons ha aj_nil (by rw [hs, hs0])) H0 σ F H P _ fun vs F1 H1 w1 o1 => by
    obtain ⟨v, rfl, e⟩ := all2_1 o1
    exact ⟨j, by rw [show v = .int j from e], h1, h2, q _ F1 H1 w1 walks_rng⟩⟩
theorem ij_r2 {i j : Int} (hm : X.mg "range" = none) (ha : EJ X Γ Ω a (tI i)) (hb : EJ X Γ Ω b (tI j)) (h : -(2 ^ 62) ≤ i ∧ i < 2 ^ 62 ∧ -(2 ^ 62) ≤ j ∧ j < 2 ^ 62) (hg : Gl X "range" := by rfl) (hs : starEach [a, b] X.env = [(false, eval a X.env), (false, eval b X.env)] := by rfl) (hs2 : starEach [b] X.env = [(false, eval b X.env)] := by rfl) (hs0 : starEach [] X.env = [] := by rfl) :
    IJ X Γ Ω tg (.Call (.Name "range" p) [a, b] [] pos) (rngT i (j - i).toNat) :=
  ⟨_, pi_range2 hg hm paU hs hs2, fun H0 σ F H P R q => (aj_cons ha (aj_cons hb aj_nil (by rw [hs2, hs0])) (by rw [hs, hs2])) H0 σ F H P _ fun vs F1 H1 w1 o1 => by
    obtain ⟨v, u, rfl, e1, e2⟩ := all2_2 o1
    exact ⟨i, j, by rw [show v = .int i from e1, show u = .int j from e2], h, q _ F1 H1 w1 walks_rng⟩⟩

/-! ### for -/
/-- tg takes a value of type t, then the body -/
def HB (X : Cx) {K : PySem.W.Frag} (tg : Expr) (t : Ty K) (body : List Stmt) (P : As) (D : Dn) : Prop :=
  ∀ F0 H0 σ F H E v, Wd F0 H0 F H → P H0 σ F H → t.ok F v → Lets D F0 H0 E → pgU X tg v σ H fun σ2 H2 => pssU X body E σ2 H2
theorem HB.ex {δ : Type} {φ : δ → Prop} {G : δ → Env1 K} {O : δ → Ow K} (h : ∀ d, φ d → HB X tg t body (A (G d) (O d)) D) : HB X tg t body (Ex1 φ G O) D := fun F0 H0 σ F H E v w ⟨d, q, p⟩ o l => h d q F0 H0 σ F H E v w p o l
theorem OwnOk.keep {H0 F H : Hp} {σ σ' : St} {ns : List Nat} (h : OwnOk H0 F H σ Ω) (hs : ∀ i, i ∉ ns → σ'[i]? = σ[i]?) (hon : (ns.all fun n => ownNe Ω n) = true) : OwnOk H0 F H σ' Ω := by
  cases Ω with
  | none => trivial
  | some z =>
    obtain ⟨m, ot⟩ := z
    obtain ⟨r, o, e1, e2⟩ := h
    refine ⟨r, o, ?_, e2⟩
    rw [hs m fun hm => ?_]
    · exact e1
    · have := List.all_eq_true.mp hon m hm
      have z2 : (!(m == m)) = true := this
      rw [beq_self_eq_true] at z2
      cases z2
theorem hb_of {ns : List Nat} {f : Env1 K → Env1 K} (hg : GJ X ns tg t f) (hr : HJ X body (A (f Γ) Ω) D) (hon : (ns.all fun n => ownNe Ω n) = true := by rfl) : HB X tg t body (A Γ Ω) D := fun F0 H0 σ F H E v w p o l =>
  hg F H v σ w.fh o _ fun σ' h1 h2 h3 => hr F0 H0 σ' F H E w ⟨h1 Γ p.1, p.2.keep h2 hon⟩ l
theorem hb_name (B : Bd X) (n : Nat) (hr : HJ X body (A (Γ.set n (some t)) Ω) D) (hon : ownNe Ω n = true := by rfl) (hi : X.N[n]? = some x := by rfl) (hx : Loc X.env.scope x := by first | exact Or.inl rfl | exact Or.inr rfl) (hf : X.fn x = true ∨ X.env.scope.names.lookup x = some .local := by first | exact Or.inl rfl | exact Or.inr rfl) :
    HB X (.Name x px) t body (A Γ Ω) D := hb_of (gj_name B n hi hx hf) hr (by rw [List.all_cons, hon]; rfl)
theorem hb_tup {kk : Nat} (B : Bd X) (ns : List Nat) (hr : HJ X body (A (setAll ns ts Γ) Ω) D) (hon : (ns.all fun n => ownNe Ω n) = true := by rfl) (hl : ns.length = ts.length := by rfl) (hn : gjNames X X.env.scope ns es = true := by rfl) (hn2 : (assignEach es X.env).length = ns.length := by rfl) (hst : (assignEach es X.env).findIdx? (·.1) = none := by rfl) (hK : X.K = K := by rfl) :
    HB X (.Tuple es kk px) (tT ts) body (A Γ Ω) D := hb_of (gj_tup B ns hl hn hn2 hst hK) hr hon
/-- I: what holds ahead of each turn; M: what holds behind the loop -/
theorem hj_for (B : Bd X) (hi : IJ X Γ Ω tg it ts) (I : Nat → As) (M : As) (h0 : Le (A Γ Ω) (I 0)) (hs : ∀ i t, ts[i]? = some t → HB X tg t body (I i) { D with nx := I (i + 1), ct := I (i + 1), bk := M }) (hd : Le (I ts.length) M) (hr : HJ X rest M D)
    (hmono : ∀ i H0 σ F H F' H', Wd F H F' H' → I i H0 σ F H → I i H0 σ F' H') (hfs : ∀ x, foldedSetIterable it X.env x = pure x := by intro _; rfl) : HJ X (.For tg it body [] pos :: rest) (A Γ Ω) D := fun F0 H0 σ F H E w p l => by
  obtain ⟨wi, hp, hw⟩ := hi
  refine seq1 (ps_for B.pass B.calm hp peGU psU (hs := hfs)) (hw H0 σ F H (preOf w p) _ fun J F1 H1 w1 W => ?_)
  have w2 := w.trans w1
  have wb : Wd F1 H0 F1 H1 := ⟨Same.refl _, w1.fh, w2.hh, fun _ z _ => z⟩
  have wo : ∀ {F H}, Wd F1 H0 F H → Wd F0 H0 F H := fun q => ⟨w2.ff.trans q.ff, q.fh, q.hh, fun p h1 h2 => q.nw p (w2.nw p h1 h2) h2⟩
  have ex : ∀ σ F H, Wd F1 H0 F H → M H0 σ F H → pssU X rest E σ H := fun σ F H w q => hr F0 H0 σ F H E (wo w) q l
  refine ⟨fun i m σ H => m = ts.length - i ∧ i ≤ ts.length ∧ ∃ F, Wd F1 H0 F H ∧ I i H0 σ F H, ⟨ts.length, by simp, Nat.zero_le _, F1, wb, hmono 0 H0 σ F H F1 H1 w1 (h0 _ _ _ _ p)⟩, ?_⟩
  rintro i m σ2 H2 ⟨rfl, hi, F2, w3, q⟩
  have s3 : Same F1 H2 := w3.ff.trans w3.fh
  by_cases hlt : i < ts.length
  · refine .inr ⟨W.go i H2 s3 hlt, fun σ' H' => ∃ F', Wd F1 H0 F' H' ∧ I (i + 1) H0 σ' F' H', fun σ' H' ⟨F', w4, q4⟩ => ⟨ts.length - (i + 1), by omega, rfl, hlt, F', w4, q4⟩, fun x H' y => ?_⟩
    obtain ⟨rfl, t, ht, o⟩ := W.yld i x H2 H' s3 hlt y
    refine hs i t ht F1 H0 σ2 F2 H' _ x w3 q (t.mono w3.ff o) ⟨fun σ F H w q => ⟨F, w, q⟩, fun v F H w q => l.rt v F H (wo w) q, fun σ F H w q => ex σ F H w q, fun σ F H w q => ⟨F, w, q⟩⟩
  · have e : i = ts.length := by omega
    subst e
    exact .inl ⟨W.stop _ H2 s3 (Nat.le_refl _), ex σ2 F2 H2 w3 (hd _ _ _ _ q)⟩
theorem mono_A : ∀ H0 σ F H F' H', Wd F H F' H' → A Γ Ω H0 σ F H → A Γ Ω H0 σ F' H' := fun _ _ _ _ _ _ w q => ⟨q.1.mono w.ff, q.2.mono w⟩
theorem mono_Ex {δ : Type} {φ : δ → Prop} {G : δ → Env1 K} {O : δ → Ow K} : ∀ H0 σ F H F' H', Wd F H F' H' → Ex1 φ G O H0 σ F H → Ex1 φ G O H0 σ F' H' := fun _ _ _ _ _ _ w ⟨d, h, q⟩ => ⟨d, h, q.1.mono w.ff, q.2.mono w⟩
/-- the turns' data a function of the turn -/
theorem hj_forF (B : Bd X) (hi : IJ X Γ Ω tg it ts) (G : Nat → Env1 K) (O : Nat → Ow K) (h0 : Le (A Γ Ω) (A (G 0) (O 0))) (hs : ∀ i t, ts[i]? = some t → HB X tg t body (A (G i) (O i)) { D with nx := A (G (i + 1)) (O (i + 1)), ct := A (G (i + 1)) (O (i + 1)), bk := bot }) (hr : HJ X rest (A (G n) (O n)) D) (hn : ts.length = n := by rfl) (hfs : ∀ x, foldedSetIterable it X.env x = pure x := by intro _; rfl) :
    HJ X (.For tg it body [] pos :: rest) (A Γ Ω) D := by
  subst hn
  exact hj_for (M := A (G ts.length) (O ts.length)) (hfs := hfs) B hi (fun i => A (G i) (O i)) h0 (fun i t ht F0 H0 σ F H E v w p o l => hs i t ht F0 H0 σ F H E v w p o ⟨l.nx, l.rt, fun _ _ _ _ q => q.elim, l.ct⟩) Le.refl hr (fun _ => mono_A)
/-- some data of which φ holds -/
theorem hj_forE {δ : Type} (B : Bd X) (hi : IJ X Γ Ω tg it ts) (φ : Nat → δ → Prop) (G : Nat → δ → Env1 K) (O : Nat → δ → Ow K) (d0 : δ) (hd0 : φ 0 d0) (h0 : Le (A Γ Ω) (A (G 0 d0) (O 0 d0)))
    (hs : ∀ i t d, ts[i]? = some t → φ i d → HB X tg t body (A (G i d) (O i d)) { D with nx := Ex1 (φ (i + 1)) (G (i + 1)) (O (i + 1)), ct := Ex1 (φ (i + 1)) (G (i + 1)) (O (i + 1)), bk := bot }) (hr : ∀ d, φ n d → HJ X rest (A (G n d) (O n d)) D) (hn : ts.length = n := by rfl) (hfs : ∀ x, foldedSetIterable it X.env x = pure x := by intro _; rfl) :
    HJ X (.For tg it body [] pos :: rest) (A Γ Ω) D := by
  subst hn
  exact hj_for (M := Ex1 (φ ts.length) (G ts.length) (O ts.length)) (hfs := hfs) B hi (fun i => Ex1 (φ i) (G i) (O i)) (le_ex d0 hd0 h0) (fun i t ht => HB.ex fun d hd F0 H0 σ F H E v w p o l => hs i t d ht hd F0 H0 σ F H E v w p o ⟨l.nx, l.rt, fun _ _ _ _ q => q.elim, l.ct⟩) Le.refl (HJ.ex fun d hd => hr d hd) (fun _ => mono_Ex)

theorem hj_end (hM : Le (A Γ Ω) D.nx := by exact Le.refl) (hl : Less Γ Δ := by repeat (first | exact trivial | refine ⟨fun _ _ h => h, ?_⟩)) : HJ X [] (A Δ Ω) D := hj_nil fun H0 σ F H p => hM _ _ _ _ (le_less hl _ _ _ _ p)
/-- the end of a turn in which the owned list has grown -/
theorem hj_endL {n : Nat} (he : us = ts) (hM : Le (A Γ (some (n, oL ts))) D.nx := by exact Le.refl) (hl : Less Γ Δ := by repeat (first | exact trivial | refine ⟨fun _ _ h => h, ?_⟩)) : HJ X [] (A Δ (some (n, oL us))) D := by
  subst he
  exact hj_end hM hl
theorem map_get {α : Type} {l : List α} {f : α → Ty K} {i : Nat} {t : Ty K} (h : (l.map f)[i]? = some t) : ∃ a, l[i]? = some a ∧ t = f a := by
  rw [List.getElem?_map] at h
  obtain ⟨a, h1, h2⟩ := Option.map_eq_some_iff.mp h
  exact ⟨a, h1, h2.symm⟩
theorem take_map {α β : Type} {l : List α} {f : α → β} {i : Nat} {a : α} (h : l[i]? = some a) : (l.take i).map f ++ [f a] = (l.take (i + 1)).map f := by
  rw [List.take_add_one, h, List.map_append]
  rfl
theorem atI_map {α : Type} {l : List α} {f : α → Ty K} {z : Int} {i : Nat} {a : α} (e : z = (i : Int)) (h : l[i]? = some a) : atI (l.map f) z = some (f a) := by
  subst e
  exact atI_nat (by rw [List.getElem?_map, h]; rfl)

/-! ### comprehensions -/
def wipeE (Γ : Env1 K) : List Nat → Env1 K
  | [] => Γ
  | v :: vs => (wipeE Γ vs).set v none
theorem TyEnv.wipe {F : Hp} {σ : St} (h : TyEnv F Γ σ) : ∀ vs : List Nat, TyEnv F (wipeE Γ vs) (L2.wipe σ vs)
  | [] => h
  | v :: vs => (TyEnv.wipe h vs).setN
theorem wipe_get : ∀ {vs : List Nat} {σ : St} {i : Nat}, i ∉ vs → (L2.wipe σ vs)[i]? = σ[i]?
  | [], _, _, _ => rfl
  | v :: vs, σ, i, h => by
    show ((L2.wipe σ vs).set v none)[i]? = _
    rw [List.getElem?_set_ne (fun z => h (by rw [z]; exact List.mem_cons_self)), wipe_get fun z => h (List.mem_cons_of_mem _ z)]
theorem wipe_in : ∀ {vs : List Nat} {σ : St} {i : Nat}, i ∈ vs → i < σ.length → (L2.wipe σ vs)[i]? = some none
  | v :: vs, σ, i, h, hl => by
    show ((L2.wipe σ vs).set v none)[i]? = _
    by_cases e : v = i
    · subst e
      rw [List.getElem?_set_self (by rw [wipe_length]; exact hl)]
    · rw [List.getElem?_set_ne e]
      rcases List.mem_cons.mp h with z | z
      · exact absurd z.symm e
      · exact wipe_in z hl
theorem wipe_eq {vs : List Nat} {σ1 σ2 : St} (hl : σ1.length = σ2.length) (h : ∀ i, i ∉ vs → σ1[i]? = σ2[i]?) : L2.wipe σ1 vs = L2.wipe σ2 vs := by
  refine List.ext_getElem? fun i => ?_
  by_cases hi : i ∈ vs
  · by_cases hlt : i < σ1.length
    · rw [wipe_in hi hlt, wipe_in hi (by rw [← hl]; exact hlt)]
    · rw [List.getElem?_eq_none (by rw [wipe_length]; omega), List.getElem?_eq_none (by rw [wipe_length]; omega)]
  · rw [wipe_get hi, wipe_get hi, h i hi]
abbrev Blk (X : Cx) (scope : Scope) (s : Shared) (H : Hp) (C : Addr) (cl : List (Str × Addr)) (fp : List Addr) : Cx := X.blk s H scope (compEnvC scope cl C X.env) fp
theorem Bd.blk {scope : Scope} {s : Shared} {H : Hp} {C : Addr} {cl : List (Str × Addr)} {fp : List Addr} (B : Bd X) : Bd (Blk X scope s H C cl fp) := ⟨B.nd, B.calm, PassesOwn.never, B.hu⟩
/-- the element in the block's context, whatever block it is -/
def teB (X : Cx) (scope : Scope) (e : Expr) : TE := fun σ H Q => ∀ s H' C cl fp, teU (Blk X scope s H' C cl fp) e σ H Q
def pgB (X : Cx) (scope : Scope) (tg : Expr) : TG := fun v σ H Q => ∀ s H' C cl fp, pgU (Blk X scope s H' C cl fp) tg v σ H Q
/-- [elt for tg in it]: what its reading is -/
theorem lc_te {own : List (Str × Nat)} {wi : TI} {f : Nat → Env1 K → Env1 K} {elt : Expr} {scope : Scope} {H0 F1 H1 : Hp} {σ : St} {J : It} {Q : VK} (s1 : Same F1 H1) (p : TyEnv F1 Γ σ) (W : Walks J F1 ts) (ns : List Nat) (hns : ∀ n ∈ ns, n ∈ own.map (·.2)) (hlen : us.length = ts.length) (hz : ts.length ≤ 100000)
    (hg : ∀ i t, ts[i]? = some t → ∀ s H' C cl fp, GJ (Blk X scope s H' C cl fp) ns tg t (f i))
    (he : ∀ i t u, ts[i]? = some t → us[i]? = some u → ∀ s H' C cl fp, EJ (Blk X scope s H' C cl fp) (f i (wipeE Γ (own.map (·.2)))) none elt u)
    (q : ∀ v F' H', Wd F1 H1 F' H' → (tL us).ok F' v → Q v H') :
    ∀ D, H1 D = none → ∃ W : Nat → Nat → Hp → Prop, (∃ m, W 0 m (upd H1 D (.lst []))) ∧ ∀ i m H, W i m H →
      (J.stop i H ∧ Q (.ref D) H) ∨ (J.go i H ∧ ∃ Nx : Hp → Prop, (∀ H', Nx H' → ∃ m', m' < m ∧ W (i + 1) m' H') ∧ ∀ x H', J.yld i H x H' → pgB X scope tg x (L2.wipe σ (own.map (·.2))) H' fun σ2 H2 => L2.wipe σ2 (own.map (·.2)) = L2.wipe σ (own.map (·.2)) ∧ tYes σ2 H2 fun b H3 =>
        if b = true then teB X scope elt σ2 H3 fun y H4 => ∃ acc, H4 D = some (.lst acc) ∧ acc.length < sizeLine ∧ Nx (upd H4 D (.lst (acc ++ [y]))) else Nx H3) := by
  intro D hD
  have nD : F1 D = none := s1.free hD
  refine ⟨fun i m H => m = ts.length - i ∧ i ≤ ts.length ∧ ∃ F acc, Wd F1 H1 F H ∧ F D = none ∧ H D = some (.lst acc) ∧ All2 F (us.take i) acc, ⟨ts.length, by simp, Nat.zero_le _, F1, [], Wd.own s1 hD, nD, upd_same, by rw [List.take_zero]; trivial⟩, ?_⟩
  rintro i m H2 ⟨rfl, hi, F2, acc, w2, n2, h2, o2⟩
  have s3 : Same F1 H2 := w2.ff.trans w2.fh
  by_cases hlt : i < ts.length
  · refine .inr ⟨W.go i H2 s3 hlt, fun H' => ∃ F acc, Wd F1 H1 F H' ∧ F D = none ∧ H' D = some (.lst acc) ∧ All2 F (us.take (i + 1)) acc, fun H' ⟨F, acc, w4, n4, h4, o4⟩ => ⟨ts.length - (i + 1), by omega, rfl, hlt, F, acc, w4, n4, h4, o4⟩, fun x H' y => ?_⟩
    obtain ⟨rfl, t, ht, o⟩ := W.yld i x H2 H' s3 hlt y
    intro s Hb C cl fp
    refine hg i t ht s Hb C cl fp F2 H' x _ w2.fh (t.mono w2.ff o) _ fun σ' g1 g2 g3 => ?_
    refine ⟨?_, ?_⟩
    · rw [wipe_eq g3 (σ1 := σ') (σ2 := L2.wipe σ (own.map (·.2))) (fun j hj => g2 j fun z => hj (hns j z))]
      exact wipe_eq (wipe_length _ _) fun j hj => wipe_get hj
    · show teB X scope elt σ' H' _
      intro s3 Hb3 C3 cl3 fp3
      have hu : us[i]? = some (us[i]'(by rw [hlen]; exact hlt)) := List.getElem?_eq_getElem _
      refine he i t _ ht hu s3 Hb3 C3 cl3 fp3 H0 σ' F2 H' ⟨w2.fh, g1 _ ((p.mono w2.ff).wipe _), trivial⟩ _ fun v F3 H3 w3 o3 => ?_
      have n3 : F3 D = none := w3.nw D n2 (by rw [h2]; simp)
      have h3 : H3 D = some (.lst acc) := w3.hh _ _ h2
      refine ⟨acc, h3, ?_, F3, acc ++ [v], (w2.trans w3).chg hD n3, n3, upd_same, ?_⟩
      · rw [o2.len, List.length_take]
        exact Nat.lt_of_le_of_lt (Nat.min_le_left _ _) (Nat.lt_of_lt_of_le hlt (Nat.le_trans hz (by decide)))
      · rw [List.take_add_one, hu]
        exact (o2.mono w3.ff).app ⟨o3, trivial⟩
  · have e : i = ts.length := by omega
    subst e
    refine .inl ⟨W.stop _ H2 s3 (Nat.le_refl _), q (.ref D) (upd F2 D (.lst acc)) H2 (w2.frz hD n2 h2) ⟨D, acc, rfl, upd_same, ?_⟩⟩
    rw [List.take_of_length_le (by omega)] at o2
    exact o2.mono (same_frz n2)
theorem ej_lc {own : List (Str × Nat)} {f : Nat → Env1 K → Env1 K} {elt : Expr} {scope : Scope} (B : Bd X) (own' : own = own := by rfl) (hi : IJ X Γ Ω tg it ts) (ns : List Nat) (us : List (Ty K)) (hlen : us.length = ts.length)
    (hg : ∀ i t, ts[i]? = some t → ∀ s H' C cl fp, GJ (Blk X scope s H' C cl fp) ns tg t (f i))
    (he : ∀ i t u, ts[i]? = some t → us[i]? = some u → ∀ s H' C cl fp, EJ (Blk X scope s H' C cl fp) (f i (wipeE Γ (own.map (·.2)))) none elt u)
    (ok : BlkOk X.N X.env.scope scope own) (hns : ∀ n ∈ ns, n ∈ own.map (·.2) := by decide) (hz : ts.length ≤ 100000 := by exact Nat.le_of_ble_eq_true rfl) (hs : ∀ x, foldedSetIterable it X.env x = pure x := by intro _; rfl) :
    EJ X Γ Ω (.ListComp elt [⟨tg, it, [], 0⟩] scope pos) (tL us) := fun H0 σ F H P Q q => by
  obtain ⟨wi, hp, hw⟩ := hi
  refine teU_of (pe_lc (own := own) (g := pgB X scope tg) (tt := tYes) (te := teB X scope elt) B.calm B.nd hp ok (fun s H C cl fp => ⟨fun pins s2 σ H2 v u Q I r h => h s H C cl fp pins s2 u I r⟩) (fun _ _ _ _ _ => pts_nil) (fun s H C cl fp => ⟨fun pins s2 σ H2 Q I h => h s H C cl fp pins s2 I⟩) hs) ?_
  exact hw H0 σ F H P _ fun J F1 H1 w1 W => lc_te (H0 := H0) (wi := wi) w1.fh (P.env.mono w1.ff) W ns hns hlen hz hg he fun v F' H' w2 o => q v F' H' (w1.trans w2) o
/-- x = [elt for ..] -/
theorem hj_setLc {own : List (Str × Nat)} {f : Nat → Env1 K → Env1 K} {elt : Expr} {scope : Scope} (B : Bd X) (n : Nat) (hi : IJ X Γ Ω tg it ts) (ns : List Nat) (us : List (Ty K)) (hlen : us.length = ts.length)
    (hg : ∀ i t, ts[i]? = some t → ∀ s H' C cl fp, GJ (Blk X scope s H' C cl fp) ns tg t (f i))
    (he : ∀ i t u, ts[i]? = some t → us[i]? = some u → ∀ s H' C cl fp, EJ (Blk X scope s H' C cl fp) (f i (wipeE Γ (own.map (·.2)))) none elt u)
    (ok : BlkOk X.N X.env.scope scope own) (hr : HJ X rest (A (Γ.set n (some (tL us))) Ω) D) (hsw : swapsWith (.ListComp elt [⟨tg, it, [], 0⟩] scope pos) (some (.Name x px)) py.line X.env = pure true) (hns : ∀ n ∈ ns, n ∈ own.map (·.2) := by decide) (hz : ts.length ≤ 100000 := by exact Nat.le_of_ble_eq_true rfl)
    (hn : ownNe Ω n = true := by rfl) (hN : X.N[n]? = some x := by rfl) (hx : X.env.scope.names.lookup x = some .local := by rfl) (hs : ∀ x, foldedSetIterable it X.env x = pure x := by intro _; rfl) :
    HJ X (.Assign [.Name x px] (.ListComp elt [⟨tg, it, [], 0⟩] scope pos) py :: rest) (A Γ Ω) D := fun F0 H0 σ F H E w p l => by
  obtain ⟨wi, hp, hw⟩ := hi
  refine seq1 (ps_setLc (own := own) (g := pgB X scope tg) (tt := tYes) (te := teB X scope elt) B.calm B.nd hN hx hsw hp ok (fun s H C cl fp => ⟨fun pins s2 σ H2 v u Q I r h => h s H C cl fp pins s2 u I r⟩) (fun _ _ _ _ _ => pts_nil) (fun s H C cl fp => ⟨fun pins s2 σ H2 Q I h => h s H C cl fp pins s2 I⟩) hs) ?_
  exact hw H0 σ F H (preOf w p) _ fun J F1 H1 w1 W => lc_te (H0 := H0) (wi := wi) w1.fh (p.1.mono w1.ff) W ns hns hlen hz hg he fun v F' H' w2 o =>
    hr F0 H0 _ F' H' E (w.trans (w1.trans w2)) ⟨(p.1.mono (w1.trans w2).ff).set o, (p.2.mono (w1.trans w2)).set hn⟩ l
end

/-! ### defs -/
section
variable {P : Program} {w : World} {K : PySem.W.Frag} {mg : Str → Option Value} {base : Heap} {x qual : Str} {params : Arguments} {body : List Stmt} {scope : Scope} {dvs : List V} {kws : List (Str × V)} {f : Addr} {fd : FuncData} {N ps : List Str} {k : Nat}
abbrev Xc (P : Program) (w : World) (K : PySem.W.Frag) (mg : Str → Option Value) (base : Heap) (N : List Str) (qual : Str) (scope : Scope) (f : Addr) (cdv : Value) (A : Around) (outer : List Env) (s : Shared) (H : Hp) (E : XK) : Cx := (cxOf CX0 P w K mg base N qual scope f cdv A outer s H E).nox
def Dr (t : Ty K) : Dn := { nx := fun _ _ F _ => t.ok F .non, rt := fun v F => t.ok F v }
theorem start_env {F : Hp} : ∀ {ts : List (Ty K)} {vs : List V} (n : Nat), All2 F ts vs → TyEnv F (ts.map some ++ List.replicate n none) (vs.map some ++ List.replicate n none)
  | [], [], 0, _ => trivial
  | [], [], n + 1, h => start_env (ts := []) (vs := []) n h
  | t :: ts, v :: vs, n, h => ⟨⟨v, rfl, h.1⟩, start_env n h.2⟩
  | [], _ :: _, _, h => h.elim
  | _ :: _, [], _, h => h.elim
/-- a def by its body -/
theorem fn_mk {dom : Dom K} (F : FunD K x qual params body scope dvs kws f fd) (S : FnScope N ps scope) (hN : ps.length ≤ N.length)
    (h : ∀ cdv A outer s H E, Bd (Xc P w K mg base N qual scope f cdv A outer s H E) → Room k (Xc P w K mg base N qual scope f cdv A outer s H E).A → ∀ ts t, dom ts t → ts.length = ps.length →
      HJ (Xc P w K mg base N qual scope f cdv A outer s H E) body (T.A (ts.map some ++ List.replicate (N.length - ps.length) none) none) (Dr t)) : FnOk P w K mg base CX0 (k + 1) f fd ps (spT ps.length dom) := by
  refine F.ok S (fun vs H Q E h => h.1) (fun cdv A outer s H vs Q E hr hsp => ?_)
  obtain ⟨hl, F, ts, t, hd, sm, ha, q⟩ := hsp
  refine ⟨pssU (Xc P w K mg base N qual scope f cdv A outer s H E) body, PSs.nox psU, ?_⟩
  have hts : ts.length = ps.length := by rw [← ha.len, hl]
  refine h cdv A outer s H E ⟨S.nd, rfl, PassesOwn.never, Nat.lt_of_le_of_lt (Nat.le_refl _) hr.units⟩ hr ts t hd hts F H _ F H _ (Wd.refl sm) ⟨?_, trivial⟩ ⟨fun σ F' H' w q2 => q .non F' H' w q2, fun v F' H' w q2 => q v F' H' w q2, fun _ _ _ _ z => z.elim, fun _ _ _ _ z => z.elim⟩
  unfold L2.start
  rw [hl]
  exact start_env _ ha
/-- an __init__ by its body; the instance is what is owned -/
theorem init_mk {C : Addr} {dom : DomI K} {ps' : List Str} {self : Str} (F : FunD K x qual params body scope dvs kws f fd) (hps : ps = self :: ps') (S : FnScope N ps scope) (hN : ps.length ≤ N.length)
    (h : ∀ cdv A outer s H E, Bd (Xc P w K mg base N qual scope f cdv A outer s H E) → Room k (Xc P w K mg base N qual scope f cdv A outer s H E).A → ∀ q ts fs, dom ts fs → ts.length = ps'.length →
      HJ (Xc P w K mg base N qual scope f cdv A outer s H E) body (T.A (none :: (ts.map some ++ List.replicate (N.length - ps.length) none)) (some (0, oIn q C []))) { nx := fun H0 σ F H => OwnOk H0 F H σ (some (0, oIn q C fs)), rt := fun _ _ => False }) : FnOk P w K mg base CX0 (k + 1) f fd ps (spI C ps'.length dom) := by
  subst hps
  refine F.ok S (fun vs H Q E h => h.1) (fun cdv A outer s H vs Q E hr hsp => ?_)
  obtain ⟨hl, p, rest, F, ts, fs, dx, rfl, hd, sm, nf, hp, ha, q⟩ := hsp
  refine ⟨pssU (Xc P w K mg base N qual scope f cdv A outer s H E) body, PSs.nox psU, ?_⟩
  have hl2 : rest.length = ps'.length := Nat.succ.inj hl
  have hts : ts.length = ps'.length := by rw [← ha.len, hl2]
  have hw : Wd F (hide H p) F H := ⟨Same.refl _, sm, fun b o e => by
    unfold hide at e
    by_cases hb : b = p
    · rw [if_pos hb] at e
      cases e
    · rw [if_neg hb] at e
      exact e, fun _ z _ => z⟩
  refine h cdv A outer s H E ⟨S.nd, rfl, PassesOwn.never, Nat.lt_of_le_of_lt (Nat.le_refl _) hr.units⟩ hr p ts fs hd hts F (hide H p) _ F H _ hw ⟨?_, ?_⟩ ⟨fun σ F' H' w q2 => ?_, fun v F' H' w z => z.elim, fun _ _ _ _ z => z.elim, fun _ _ _ _ z => z.elim⟩
  · unfold L2.start
    rw [hl]
    exact start_env (F := F) (ts := ts) (vs := rest) _ ha
  · exact ⟨p, _, rfl, if_pos rfl, nf, hp, rfl, dx, [], rfl, trivial⟩
  · obtain ⟨r, o, e1, e2, e3, e4, e5, dx', gs, e6, e7⟩ := q2
    subst e5 e6
    exact q F' H' dx' gs w e4 e3 e7
end
end T
end
section
set_option Elab.async false
set_option linter.all false
/-! The mirror: each def as a plain function. -/
namespace M
abbrev Iv := Int × Int
abbrev Bx := Iv × Iv × Iv
abbrev Pt := Int × Int × Int
abbrev Sta := Bx × Bx
/-- the integer root -/
def sq (n : Int) : Int := ((PySem.Float64.isqrt n.toNat : Nat) : Int)
def iAdd (a b : Iv) : Iv := (a.1 + b.1, a.2 + b.2)
def iSub (a b : Iv) : Iv := (a.1 - b.2, a.2 - b.1)
def iScl (a : Iv) (n : Int) : Iv := if n < 0 then (a.2 * n, a.1 * n) else (a.1 * n, a.2 * n)
def iMul (a b : Iv) : Iv := (min (a.1 * b.1) (min (a.1 * b.2) (min (a.2 * b.1) (a.2 * b.2))), max (a.1 * b.1) (max (a.1 * b.2) (max (a.2 * b.1) (a.2 * b.2))))
def iSqr (a : Iv) : Iv := if 0 ≤ a.1 then (a.1 * a.1, a.2 * a.2) else if a.2 ≤ 0 then (a.2 * a.2, a.1 * a.1) else (0, max (a.1 * a.1) (a.2 * a.2))
def iQuo (a d : Iv) : Iv := (min (a.1 / d.1) (a.1 / d.2), max (a.2 / d.1) (a.2 / d.2))
def iRoot (a : Iv) : Iv := (sq (max a.1 0), sq a.2)
def iMeet (a b : Iv) : Option Iv := if min a.2 b.2 < max a.1 b.1 then none else some (max a.1 b.1, min a.2 b.2)
def iHull (a b : Iv) : Iv := (min a.1 b.1, max a.2 b.2)
def iWid (a : Iv) (w : Int) : Iv := (a.1 - w, a.2 + w)
def iMid (a : Iv) : Int := (a.1 + a.2) / 2
def iWidth (a : Iv) : Int := a.2 - a.1
def iSize (a : Iv) : Int := max (a.1.natAbs : Int) (a.2.natAbs : Int)
def bAdd (a b : Bx) : Bx := (iAdd a.1 b.1, iAdd a.2.1 b.2.1, iAdd a.2.2 b.2.2)
def bSub (a b : Bx) : Bx := (iSub a.1 b.1, iSub a.2.1 b.2.1, iSub a.2.2 b.2.2)
def bWid (a : Bx) (w : Int) : Bx := (iWid a.1 w, iWid a.2.1 w, iWid a.2.2 w)
def bMeet (a b : Bx) : Option Bx := match iMeet a.1 b.1, iMeet a.2.1 b.2.1, iMeet a.2.2 b.2.2 with
  | some x, some y, some z => some (x, y, z)
  | _, _, _ => none
def sqLen (b : Bx) : Iv := iAdd (iAdd (iSqr b.1) (iSqr b.2.1)) (iSqr b.2.2)
def bSize (b : Bx) : Int := max (iSize b.1) (max (iSize b.2.1) (iSize b.2.2))
/-- the part of the pull over a box along c, by the factor k -/
def pullC (mu ob : Int) (b : Bx) (c : Iv) (k : Int) : Iv :=
  iAdd (iQuo (iScl c (-mu)) (iMul (sqLen b) (iRoot (sqLen b))))
    (iQuo (iScl (iMul c (iSub (iScl (iSqr b.2.2) 5) (iScl (sqLen b) k))) ob) (iMul (iMul (sqLen b) (sqLen b)) (iMul (sqLen b) (iRoot (sqLen b)))))
def pullO (mu ob : Int) (b : Bx) : Option Bx := if (sqLen b).1 = 0 then none else some (pullC mu ob b b.1 1, pullC mu ob b b.2.1 1, pullC mu ob b b.2.2 3)

structure Bn where
  b : Int
  e : Int
  p : Bx
structure Sg where
  at_ : Int
  p : Bx
structure Cr where
  name : PySem.Str
  start : Int
  place : Bx
  speed : Bx
  drift : Int
  burns : List Bn
  sights : List Sg
def zeroB : Bx := ((0, 0), (0, 0), (0, 0))
def pushAt (bs : List Bn) (t : Int) : Bx := match bs with
  | [] => zeroB
  | b :: r => if b.b ≤ t ∧ t < b.e then b.p else pushAt r t
def sightAt (ss : List Sg) (t : Int) : Option Bx := match ss with
  | [] => none
  | s :: r => if s.at_ = t then some s.p else sightAt r t

/-- the intervals of a state, by place -/
def ivs (s : Sta) : List Iv := [s.1.1, s.1.2.1, s.1.2.2, s.2.1, s.2.2.1, s.2.2.2]
def ivAt (s : Sta) (k : Nat) : Iv := (ivs s).getD k (0, 0)
def putB (b : Bx) (k : Int) (v : Iv) : Bx := (if (0 : Int) = k then v else b.1, if (1 : Int) = k then v else b.2.1, if (2 : Int) = k then v else b.2.2)
/-- the widest so far, among the first n + 1 -/
def widest (s : Sta) : Nat → Nat
  | 0 => 0
  | n + 1 => if iWidth (ivAt s (widest s n)) < iWidth (ivAt s (n + 1)) then n + 1 else widest s n
def wide (s : Sta) : Nat := widest s 5
def halfS (s : Sta) (v : Iv) : Sta := if wide s < 3 then (putB s.1 (wide s) v, s.2) else (s.1, putB s.2 ((wide s : Int) - 3) v)
def split (s : Sta) : List Sta := if (ivAt s (wide s)).1 = (ivAt s (wide s)).2 then [s] else
  [halfS s ((ivAt s (wide s)).1, iMid (ivAt s (wide s))), halfS s (iMid (ivAt s (wide s)) + 1, (ivAt s (wide s)).2)]
def parts (s : Sta) : Nat → List Sta
  | 0 => [s]
  | n + 1 => (parts s n).flatMap split
def lim : Int := 10 ^ 40
def stepM (mu ob : Int) (s : Sta) (push : Bx) (drift : Int) : Option Sta := match pullO mu ob s.1 with
  | none => none
  | some a => if lim < bSize (bAdd s.1 (bWid (bAdd (bAdd s.2 a) push) drift)) ∨ lim < bSize (bWid (bAdd (bAdd s.2 a) push) drift) then none
    else some (bAdd s.1 (bWid (bAdd (bAdd s.2 a) push) drift), bWid (bAdd (bAdd s.2 a) push) drift)
def cutM (s : Sta) (b : Bx) : Option Sta := match bMeet s.1 b with
  | none => none
  | some p => some (p, s.2)
def cutAll (ss : List Sta) : Option Bx → List Sta
  | none => ss
  | some b => ss.filterMap fun s => cutM s b
def stepAll (mu ob : Int) (c : Cr) (t : Int) : List Sta → Option (List Sta)
  | [] => some []
  | s :: r => match stepM mu ob s (pushAt c.burns t) c.drift with
    | none => none
    | some s' => match stepAll mu ob c t r with
      | none => none
      | some r' => some (s' :: r')
def firstS (fin : Nat) (c : Cr) : List Sta := cutAll (parts (c.place, c.speed) fin) (sightAt c.sights c.start)
structure Mo where
  at_ : Int
  states : List Sta
structure Jo where
  moments : List Mo
  ending : PySem.Str
  broken : Option Int
end M
end
section
set_option Elab.async false
set_option linter.all false
set_option maxRecDepth 100000
set_option maxHeartbeats 0
namespace Hd
open PySem PySem.Spec PyProof.Rows L2
def top (i : Nat) : Stmt := PySem.Challenge.pw_orrery_k23_whole_meetings_are_true_of_al.main.body.getD i (.Pass ⟨0, 0, 0, 0⟩)
/-- the place i of the tuple that the module's name x stands for, if it is an object -/
def nthA (x : Str) (i : Nat) (K : PySem.W.Frag) : Addr := match K.lookup (He.ga K x) with
  | some ⟨_, _, .seq its _, _⟩ => (match its.toList[i]? with
    | some (.ref a) => a
    | _ => 0)
  | _ => 0
/-- at a: a tuple of these -/
def tupA (K : PySem.W.Frag) (a : Addr) (vs : List V) : Bool := match K.lookup a with
  | some ⟨.type c, _, .seq its _, _⟩ => decide (c = "tuple") && (decide (its.size ≤ sizeLine) && He.relAll vs its.toList)
  | _ => false
theorem tupA_ok {K : PySem.W.Frag} {a : Addr} {vs : List V} (h : tupA K a vs = true) (H : Hp) : SqT K H a vs := by
  unfold tupA at h
  cases q : K.lookup a with
  | none =>
    rw [q] at h
    cases h
  | some o =>
    obtain ⟨oc, od, dt, osl⟩ := o
    rw [q] at h
    cases oc with
    | type c =>
      cases dt with
      | seq its n =>
        obtain ⟨h1, h2⟩ := He.ba (show (decide (c = "tuple") && (decide (its.size ≤ sizeLine) && He.relAll vs its.toList)) = true from h)
        obtain ⟨h3, h4⟩ := He.ba h2
        exact .inr ⟨_, its, n, q, congrArg Value.type (of_decide_eq_true h1), rfl, of_decide_eq_true h3, He.relAll_ok h4⟩
      | _ => cases h
    | _ => cases dt <;> cases h
def ex (K : PySem.W.Frag) : Bool := He.eqO (PySem.W.nsIn K mainGlobals "isqrt") (some (some (.builtin "math.isqrt"))) &&
  (tupA K (He.ga K "FACTORS") [.int 1, .int 1, .int 3] && (tupA K (He.ga K "NOTHING") [.ref (nthA "NOTHING" 0 K), .ref (nthA "NOTHING" 1 K), .ref (nthA "NOTHING" 2 K)] &&
  (tupA K (nthA "NOTHING" 0 K) [.int 0, .int 0] && (tupA K (nthA "NOTHING" 1 K) [.int 0, .int 0] && tupA K (nthA "NOTHING" 2 K) [.int 0, .int 0]))))
def d_add : He.DefD := ⟨("add", none), "add", "add", defArgs (top 2), defBody (top 2), defScope (top 2), [], []⟩
def d_subtract : He.DefD := ⟨("subtract", none), "subtract", "subtract", defArgs (top 3), defBody (top 3), defScope (top 3), [], []⟩
def d_scaled : He.DefD := ⟨("scaled", none), "scaled", "scaled", defArgs (top 4), defBody (top 4), defScope (top 4), [], []⟩
def d_multiply : He.DefD := ⟨("multiply", none), "multiply", "multiply", defArgs (top 5), defBody (top 5), defScope (top 5), [], []⟩
def d_square : He.DefD := ⟨("square", none), "square", "square", defArgs (top 6), defBody (top 6), defScope (top 6), [], []⟩
def d_quotient : He.DefD := ⟨("quotient", none), "quotient", "quotient", defArgs (top 7), defBody (top 7), defScope (top 7), [], []⟩
def d_root : He.DefD := ⟨("root", none), "root", "root", defArgs (top 8), defBody (top 8), defScope (top 8), [], []⟩
def d_meet : He.DefD := ⟨("meet", none), "meet", "meet", defArgs (top 9), defBody (top 9), defScope (top 9), [], []⟩
def d_hull : He.DefD := ⟨("hull", none), "hull", "hull", defArgs (top 10), defBody (top 10), defScope (top 10), [], []⟩
def d_widened : He.DefD := ⟨("widened", none), "widened", "widened", defArgs (top 11), defBody (top 11), defScope (top 11), [], []⟩
def d_middle : He.DefD := ⟨("middle", none), "middle", "middle", defArgs (top 12), defBody (top 12), defScope (top 12), [], []⟩
def d_width : He.DefD := ⟨("width", none), "width", "width", defArgs (top 13), defBody (top 13), defScope (top 13), [], []⟩
def d_size : He.DefD := ⟨("size", none), "size", "size", defArgs (top 14), defBody (top 14), defScope (top 14), [], []⟩
def d_box_add : He.DefD := ⟨("box_add", none), "box_add", "box_add", defArgs (top 16), defBody (top 16), defScope (top 16), [], []⟩
def d_box_subtract : He.DefD := ⟨("box_subtract", none), "box_subtract", "box_subtract", defArgs (top 17), defBody (top 17), defScope (top 17), [], []⟩
def d_box_hull : He.DefD := ⟨("box_hull", none), "box_hull", "box_hull", defArgs (top 18), defBody (top 18), defScope (top 18), [], []⟩
def d_box_widened : He.DefD := ⟨("box_widened", none), "box_widened", "box_widened", defArgs (top 19), defBody (top 19), defScope (top 19), [], []⟩
def d_box_meet : He.DefD := ⟨("box_meet", none), "box_meet", "box_meet", defArgs (top 20), defBody (top 20), defScope (top 20), [], []⟩
def d_square_length : He.DefD := ⟨("square_length", none), "square_length", "square_length", defArgs (top 21), defBody (top 21), defScope (top 21), [], []⟩
def d_box_size : He.DefD := ⟨("box_size", none), "box_size", "box_size", defArgs (top 22), defBody (top 22), defScope (top 22), [], []⟩
def d_pull_over : He.DefD := ⟨("pull_over", none), "pull_over", "pull_over", defArgs (top 25), defBody (top 25), defScope (top 25), [], []⟩
def d_push_at : He.DefD := ⟨("push_at", none), "push_at", "push_at", defArgs (top 28), defBody (top 28), defScope (top 28), [], []⟩
def d_State_init : He.DefD := ⟨("State", some "__init__"), "__init__", "State.__init__", defArgs (inClass (top 30) 0), defBody (inClass (top 30) 0), defScope (inClass (top 30) 0), [], []⟩
def d_put : He.DefD := ⟨("put", none), "put", "put", defArgs (top 31), defBody (top 31), defScope (top 31), [], []⟩
def d_split : He.DefD := ⟨("split", none), "split", "split", defArgs (top 32), defBody (top 32), defScope (top 32), [], []⟩
def d_parts_of : He.DefD := ⟨("parts_of", none), "parts_of", "parts_of", defArgs (top 33), defBody (top 33), defScope (top 33), [], []⟩
def d_step : He.DefD := ⟨("step", none), "step", "step", defArgs (top 36), defBody (top 36), defScope (top 36), [], []⟩
def d_cut : He.DefD := ⟨("cut", none), "cut", "cut", defArgs (top 37), defBody (top 37), defScope (top 37), [], []⟩
def d_Moment_init : He.DefD := ⟨("Moment", some "__init__"), "__init__", "Moment.__init__", defArgs (inClass (top 39) 0), defBody (inClass (top 39) 0), defScope (inClass (top 39) 0), [], []⟩
def d_Journey_init : He.DefD := ⟨("Journey", some "__init__"), "__init__", "Journey.__init__", defArgs (inClass (top 40) 0), defBody (inClass (top 40) 0), defScope (inClass (top 40) 0), [], []⟩
def d_Journey_moment : He.DefD := ⟨("Journey", some "moment"), "moment", "Journey.moment", defArgs (inClass (top 40) 2), defBody (inClass (top 40) 2), defScope (inClass (top 40) 2), [], []⟩
def d_sighting_at : He.DefD := ⟨("sighting_at", none), "sighting_at", "sighting_at", defArgs (top 41), defBody (top 41), defScope (top 41), [], []⟩
def d_cut_all : He.DefD := ⟨("cut_all", none), "cut_all", "cut_all", defArgs (top 42), defBody (top 42), defScope (top 42), [], []⟩
def d_step_all : He.DefD := ⟨("step_all", none), "step_all", "step_all", defArgs (top 43), defBody (top 43), defScope (top 43), [], []⟩
def d_first_states : He.DefD := ⟨("first_states", none), "first_states", "first_states", defArgs (top 44), defBody (top 44), defScope (top 44), [], []⟩
def d_journey : He.DefD := ⟨("journey", none), "journey", "journey", defArgs (top 45), defBody (top 45), defScope (top 45), [], []⟩
def d_gap : He.DefD := ⟨("gap", none), "gap", "gap", defArgs (top 47), defBody (top 47), defScope (top 47), [], []⟩
def d_root_up : He.DefD := ⟨("root_up", none), "root_up", "root_up", defArgs (top 48), defBody (top 48), defScope (top 48), [], []⟩
def d_verdict_of : He.DefD := ⟨("verdict_of", none), "verdict_of", "verdict_of", defArgs (top 49), defBody (top 49), defScope (top 49), [], []⟩
def d_broken_word : He.DefD := ⟨("broken_word", none), "broken_word", "broken_word", defArgs (top 50), defBody (top 50), defScope (top 50), [], []⟩
def d_ticks_of : He.DefD := ⟨("ticks_of", none), "ticks_of", "ticks_of", defArgs (top 51), defBody (top 51), defScope (top 51), [], []⟩
def d_told : He.DefD := ⟨("told", none), "told", "told", defArgs (top 52), defBody (top 52), defScope (top 52), [], []⟩
def d_meeting : He.DefD := ⟨("meeting", none), "meeting", "meeting", defArgs (top 53), defBody (top 53), defScope (top 53), [], []⟩
def d_check : He.DefD := ⟨("check", none), "check", "check", defArgs (top 61), defBody (top 61), defScope (top 61), [], []⟩
def d_is_name : He.DefD := ⟨("is_name", none), "is_name", "is_name", defArgs (top 62), defBody (top 62), defScope (top 62), [], []⟩
def d_is_tick : He.DefD := ⟨("is_tick", none), "is_tick", "is_tick", defArgs (top 63), defBody (top 63), defScope (top 63), [], []⟩
def d_is_box : He.DefD := ⟨("is_box", none), "is_box", "is_box", defArgs (top 64), defBody (top 64), defScope (top 64), [], []⟩
def d_Body_init : He.DefD := ⟨("Body", some "__init__"), "__init__", "Body.__init__", defArgs (inClass (top 65) 0), defBody (inClass (top 65) 0), defScope (inClass (top 65) 0), [], []⟩
def d_Burn_init : He.DefD := ⟨("Burn", some "__init__"), "__init__", "Burn.__init__", defArgs (inClass (top 66) 0), defBody (inClass (top 66) 0), defScope (inClass (top 66) 0), [], []⟩
def d_Sighting_init : He.DefD := ⟨("Sighting", some "__init__"), "__init__", "Sighting.__init__", defArgs (inClass (top 67) 0), defBody (inClass (top 67) 0), defScope (inClass (top 67) 0), [], []⟩
def d_Craft_init : He.DefD := ⟨("Craft", some "__init__"), "__init__", "Craft.__init__", defArgs (inClass (top 68) 0), defBody (inClass (top 68) 0), defScope (inClass (top 68) 0), [.adr (He.dflAt ("Craft", some "__init__") 0), .adr (He.dflAt ("Craft", some "__init__") 1)], []⟩
def d_Contents_init : He.DefD := ⟨("Contents", some "__init__"), "__init__", "Contents.__init__", defArgs (inClass (top 69) 0), defBody (inClass (top 69) 0), defScope (inClass (top 69) 0), [.adr (He.dflAt ("Contents", some "__init__") 0), .adr (He.dflAt ("Contents", some "__init__") 1)], []⟩
def d__law_row : He.DefD := ⟨("_law_row", none), "_law_row", "_law_row", defArgs (top 71), defBody (top 71), defScope (top 71), [], []⟩
def d__law_spread : He.DefD := ⟨("_law_spread", none), "_law_spread", "_law_spread", defArgs (top 72), defBody (top 72), defScope (top 72), [], []⟩
def d__law_box : He.DefD := ⟨("_law_box", none), "_law_box", "_law_box", defArgs (top 73), defBody (top 73), defScope (top 73), [], []⟩
def d__law_member : He.DefD := ⟨("_law_member", none), "_law_member", "_law_member", defArgs (top 74), defBody (top 74), defScope (top 74), [], []⟩
def d__law_root : He.DefD := ⟨("_law_root", none), "_law_root", "_law_root", defArgs (top 75), defBody (top 75), defScope (top 75), [], []⟩
def d__law_pull : He.DefD := ⟨("_law_pull", none), "_law_pull", "_law_pull", defArgs (top 76), defBody (top 76), defScope (top 76), [], []⟩
def d__law_push : He.DefD := ⟨("_law_push", none), "_law_push", "_law_push", defArgs (top 77), defBody (top 77), defScope (top 77), [], []⟩
def d__law_world : He.DefD := ⟨("_law_world", none), "_law_world", "_law_world", defArgs (top 78), defBody (top 78), defScope (top 78), [], []⟩
def d__law_motion : He.DefD := ⟨("_law_motion", none), "_law_motion", "_law_motion", defArgs (top 79), defBody (top 79), defScope (top 79), [], []⟩
def d__law_seen : He.DefD := ⟨("_law_seen", none), "_law_seen", "_law_seen", defArgs (top 80), defBody (top 80), defScope (top 80), [], []⟩
def d__law_craft : He.DefD := ⟨("_law_craft", none), "_law_craft", "_law_craft", defArgs (top 81), defBody (top 81), defScope (top 81), [], []⟩
def d__law_two : He.DefD := ⟨("_law_two", none), "_law_two", "_law_two", defArgs (top 82), defBody (top 82), defScope (top 82), [], []⟩
def d__law_true : He.DefD := ⟨("_law_true", none), "_law_true", "_law_true", defArgs (top 83), defBody (top 83), defScope (top 83), [], []⟩
def d_law : He.DefD := ⟨("law", none), "law", "law", defArgs (top 84), defBody (top 84), defScope (top 84), [], []⟩
def fn0 : List He.DefD := [d_add, d_subtract, d_scaled, d_multiply, d_square, d_quotient, d_root, d_meet, d_hull, d_widened, d_middle, d_width, d_size, d_box_add, d_box_subtract, d_box_hull, d_box_widened, d_box_meet, d_square_length, d_box_size, d_pull_over, d_push_at, d_State_init, d_put, d_split, d_parts_of, d_step, d_cut, d_Moment_init, d_Journey_init]
def fn1 : List He.DefD := [d_Journey_moment, d_sighting_at, d_cut_all, d_step_all, d_first_states, d_journey, d_gap, d_root_up, d_verdict_of, d_broken_word, d_ticks_of, d_told, d_meeting, d_check, d_is_name, d_is_tick, d_is_box, d_Body_init, d_Burn_init, d_Sighting_init, d_Craft_init, d_Contents_init, d__law_row, d__law_spread, d__law_box, d__law_member, d__law_root, d__law_pull, d__law_push, d__law_world]
def fn2 : List He.DefD := [d__law_motion, d__law_seen, d__law_craft, d__law_two, d__law_true, d_law]
def fn : List He.DefD := fn0 ++ fn1 ++ fn2
def fa0 : List He.Fa := [.glo "add", .glo "subtract", .glo "scaled", .glo "multiply", .glo "square", .glo "quotient", .glo "root", .glo "meet", .glo "hull", .glo "widened", .glo "middle", .glo "width", .glo "size", .glo "box_add", .glo "box_subtract", .glo "box_hull", .glo "box_widened", .glo "box_meet", .glo "square_length", .glo "box_size", .glo "pull_over", .glo "push_at", .glo "put", .glo "split", .glo "parts_of", .glo "step", .glo "cut", .glo "sighting_at", .glo "cut_all", .glo "step_all"]
def fa1 : List He.Fa := [.glo "first_states", .glo "journey", .glo "gap", .glo "root_up", .glo "verdict_of", .glo "broken_word", .glo "ticks_of", .glo "told", .glo "meeting", .glo "check", .glo "is_name", .glo "is_tick", .glo "is_box", .glo "_law_row", .glo "_law_spread", .glo "_law_box", .glo "_law_member", .glo "_law_root", .glo "_law_pull", .glo "_law_push", .glo "_law_world", .glo "_law_motion", .glo "_law_seen", .glo "_law_craft", .glo "_law_two", .glo "_law_true", .glo "law", .glo "State", .cls "State", .mkr "State"]
def fa2 : List He.Fa := [.noat "State" "place", .noat "State" "speed", .glo "Moment", .cls "Moment", .mkr "Moment", .noat "Moment" "at", .noat "Moment" "states", .glo "Journey", .cls "Journey", .mkr "Journey", .noat "Journey" "moments", .noat "Journey" "ending", .noat "Journey" "broken", .glo "Body", .cls "Body", .mkr "Body", .noat "Body" "mu", .noat "Body" "oblateness", .noat "Body" "turn", .glo "Burn", .cls "Burn", .mkr "Burn", .noat "Burn" "begin", .noat "Burn" "end", .noat "Burn" "push", .glo "Sighting", .cls "Sighting", .mkr "Sighting", .noat "Sighting" "at", .noat "Sighting" "place"]
def fa3 : List He.Fa := [.glo "Craft", .cls "Craft", .mkr "Craft", .noat "Craft" "name", .noat "Craft" "start", .noat "Craft" "place", .noat "Craft" "speed", .noat "Craft" "drift", .noat "Craft" "burns", .noat "Craft" "sightings", .glo "Contents", .cls "Contents", .mkr "Contents", .noat "Contents" "body", .noat "Contents" "stride", .noat "Contents" "fineness", .noat "Contents" "crafts", .noat "Contents" "sites", .meth "Journey" "moment", .glo "FACTORS", .glo "NOTHING", .free "min", .free "max", .free "range", .free "len", .free "list", .free "tuple", .free "abs", .free "int", .free "sum"]
def fa4 : List He.Fa := [.int "LIMIT" (10 ^ 40), .int "LAST_TICK" 100000, .int "MOST" (10 ^ 15), .int "MOST_DRIFT" (10 ^ 12)]
def fa : List He.Fa := fa0 ++ fa1 ++ fa2 ++ fa3 ++ fa4
def nm0 : List Str := ["add", "subtract", "scaled", "multiply", "square", "quotient", "root", "meet", "hull", "widened", "middle", "width", "size", "box_add", "box_subtract", "box_hull", "box_widened", "box_meet", "square_length", "box_size", "FACTORS", "pull_over", "NOTHING", "push_at", "State", "put", "split", "parts_of", "LIMIT", "step"]
def nm1 : List Str := ["cut", "Moment", "Journey", "sighting_at", "cut_all", "step_all", "first_states", "journey", "gap", "root_up", "verdict_of", "broken_word", "ticks_of", "told", "meeting", "OrreryError", "BadArgument", "LAST_TICK", "MOST", "MOST_DRIFT", "check", "is_name", "is_tick", "is_box", "Body", "Burn", "Sighting", "Craft", "Contents", "_law_row"]
def nm2 : List Str := ["_law_spread", "_law_box", "_law_member", "_law_root", "_law_pull", "_law_push", "_law_world", "_law_motion", "_law_seen", "_law_craft", "_law_two", "_law_true"]
def loose : List Str := nm0 ++ nm1 ++ nm2
/-- what an object names, for the walk: no mro -/
def refsM (o : Obj) : List Addr := match o.data with
  | .seq its _ => its.toList.flatMap He.refV
  | .dict es _ => es.toList.flatMap fun e => He.refV e.val
  | .func fd => He.refV fd.code ++ He.refV fd.defaults
  | .cls cd => [cd.ns]
  | _ => []
def stepM (g : Addr → Option Obj) (as : List Addr) : List Addr := as.flatMap fun a => match g a with
  | some o => refsM o
  | none => []
def asM (g : Addr → Option Obj) : List Addr :=
  mainGlobals :: (stepM g [mainGlobals] ++ (stepM g (stepM g [mainGlobals]) ++ (stepM g (stepM g (stepM g [mainGlobals])) ++ stepM g (stepM g (stepM g (stepM g [mainGlobals]))))))
abbrev AlM : Type := He.AlD × Bool
def obsM (g : Addr → Option Obj) : AlM := (He.obsD fa fn (He.frG g (asM g)), ex (He.frG g (asM g)))
def hookM : PySem.W.Hook where
  α := AlM
  obs := fun s => obsM s.heap.get?
  val := fun _ => (He.valD fn, true)
  says := fun _ h => ∃ K : PySem.W.Frag, K.In h ∧ He.SaysD fa fn K ∧ ex K = true
  of := fun _ _ e => ⟨_, He.frG_in, congrArg (fun z : AlM => z.1) e, congrArg (fun z : AlM => z.2) e⟩
  keeps := fun _ _ _ ⟨K, hK, c⟩ k => ⟨K, PySem.W.Frag.In.keeps hK k, c⟩
abbrev R : PySem.W.OpenRow := PySem.W.OpenLaw.row PySem.Challenge.rw_orrery_k23_whole_meetings_are_true_of_al
abbrev qv : Program := PySem.W.view R.prog [0, 84]
def ob (s : PySem.W.SharedT) : AlM := obsM (HandSHeadRun.getT s)
theorem ob_eq (s : PySem.W.SharedT) : ob s = hookM.obs s.abs := by
  show obsM (HandSHeadRun.getT s) = obsM s.abs.heap.get?
  rw [show HandSHeadRun.getT s = s.abs.heap.get? from funext (HandSHeadRun.getT_eq s)]
theorem run (w : World) : HandSHeadRun.RunEqI R qv hookM ob 6000 loose w := by
  unfold HandSHeadRun.RunEqI
  kernel_rfl
end Hd
end
section
set_option Elab.async false
set_option linter.all false
set_option maxRecDepth 100000
set_option maxHeartbeats 4000000
namespace T
open PySem PySem.Spec PyProof.Rows L2
structure Tp (K : PySem.W.Frag) (mg : Str → Option Value) : Prop where
  ex : ∃ h : Heap, K.In h ∧ h.Ns mainGlobals mg
  says : He.SaysD Hd.fa Hd.fn K
  more : Hd.ex K = true
abbrev FnD (K : PySem.W.Frag) (d : He.DefD) (f : Addr) (fd : FuncData) : Prop := FunD K d.name d.qual d.params d.body d.scope (d.dvs K) (d.kws K) f fd
namespace Tp
variable {K : PySem.W.Frag} {mg : Str → Option Value}
theorem g_add (Z : Tp K mg) : mg "add" = some (.ref (He.ga K "add")) := let ⟨_, X, G⟩ := Z.ex; He.glo_ok X G (Z.says.fact 0 (f := .glo "add") rfl)
theorem g_subtract (Z : Tp K mg) : mg "subtract" = some (.ref (He.ga K "subtract")) := let ⟨_, X, G⟩ := Z.ex; He.glo_ok X G (Z.says.fact 1 (f := .glo "subtract") rfl)
theorem g_scaled (Z : Tp K mg) : mg "scaled" = some (.ref (He.ga K "scaled")) := let ⟨_, X, G⟩ := Z.ex; He.glo_ok X G (Z.says.fact 2 (f := .glo "scaled") rfl)
theorem g_multiply (Z : Tp K mg) : mg "multiply" = some (.ref (He.ga K "multiply")) := let ⟨_, X, G⟩ := Z.ex; He.glo_ok X G (Z.says.fact 3 (f := .glo "multiply") rfl)
theorem g_square (Z : Tp K mg) : mg "square" = some (.ref (He.ga K "square")) := let ⟨_, X, G⟩ := Z.ex; He.glo_ok X G (Z.says.fact 4 (f := .glo "square") rfl)
theorem g_quotient (Z : Tp K mg) : mg "quotient" = some (.ref (He.ga K "quotient")) := let ⟨_, X, G⟩ := Z.ex; He.glo_ok X G (Z.says.fact 5 (f := .glo "quotient") rfl)
theorem g_root (Z : Tp K mg) : mg "root" = some (.ref (He.ga K "root")) := let ⟨_, X, G⟩ := Z.ex; He.glo_ok X G (Z.says.fact 6 (f := .glo "root") rfl)
theorem g_meet (Z : Tp K mg) : mg "meet" = some (.ref (He.ga K "meet")) := let ⟨_, X, G⟩ := Z.ex; He.glo_ok X G (Z.says.fact 7 (f := .glo "meet") rfl)
theorem g_hull (Z : Tp K mg) : mg "hull" = some (.ref (He.ga K "hull")) := let ⟨_, X, G⟩ := Z.ex; He.glo_ok X G (Z.says.fact 8 (f := .glo "hull") rfl)
theorem g_widened (Z : Tp K mg) : mg "widened" = some (.ref (He.ga K "widened")) := let ⟨_, X, G⟩ := Z.ex; He.glo_ok X G (Z.says.fact 9 (f := .glo "widened") rfl)
theorem g_middle (Z : Tp K mg) : mg "middle" = some (.ref (He.ga K "middle")) := let ⟨_, X, G⟩ := Z.ex; He.glo_ok X G (Z.says.fact 10 (f := .glo "middle") rfl)
theorem g_width (Z : Tp K mg) : mg "width" = some (.ref (He.ga K "width")) := let ⟨_, X, G⟩ := Z.ex; He.glo_ok X G (Z.says.fact 11 (f := .glo "width") rfl)
theorem g_size (Z : Tp K mg) : mg "size" = some (.ref (He.ga K "size")) := let ⟨_, X, G⟩ := Z.ex; He.glo_ok X G (Z.says.fact 12 (f := .glo "size") rfl)
theorem g_box_add (Z : Tp K mg) : mg "box_add" = some (.ref (He.ga K "box_add")) := let ⟨_, X, G⟩ := Z.ex; He.glo_ok X G (Z.says.fact 13 (f := .glo "box_add") rfl)
theorem g_box_subtract (Z : Tp K mg) : mg "box_subtract" = some (.ref (He.ga K "box_subtract")) := let ⟨_, X, G⟩ := Z.ex; He.glo_ok X G (Z.says.fact 14 (f := .glo "box_subtract") rfl)
theorem g_box_hull (Z : Tp K mg) : mg "box_hull" = some (.ref (He.ga K "box_hull")) := let ⟨_, X, G⟩ := Z.ex; He.glo_ok X G (Z.says.fact 15 (f := .glo "box_hull") rfl)
theorem g_box_widened (Z : Tp K mg) : mg "box_widened" = some (.ref (He.ga K "box_widened")) := let ⟨_, X, G⟩ := Z.ex; He.glo_ok X G (Z.says.fact 16 (f := .glo "box_widened") rfl)
theorem g_box_meet (Z : Tp K mg) : mg "box_meet" = some (.ref (He.ga K "box_meet")) := let ⟨_, X, G⟩ := Z.ex; He.glo_ok X G (Z.says.fact 17 (f := .glo "box_meet") rfl)
theorem g_square_length (Z : Tp K mg) : mg "square_length" = some (.ref (He.ga K "square_length")) := let ⟨_, X, G⟩ := Z.ex; He.glo_ok X G (Z.says.fact 18 (f := .glo "square_length") rfl)
theorem g_box_size (Z : Tp K mg) : mg "box_size" = some (.ref (He.ga K "box_size")) := let ⟨_, X, G⟩ := Z.ex; He.glo_ok X G (Z.says.fact 19 (f := .glo "box_size") rfl)
theorem g_pull_over (Z : Tp K mg) : mg "pull_over" = some (.ref (He.ga K "pull_over")) := let ⟨_, X, G⟩ := Z.ex; He.glo_ok X G (Z.says.fact 20 (f := .glo "pull_over") rfl)
theorem g_push_at (Z : Tp K mg) : mg "push_at" = some (.ref (He.ga K "push_at")) := let ⟨_, X, G⟩ := Z.ex; He.glo_ok X G (Z.says.fact 21 (f := .glo "push_at") rfl)
theorem g_put (Z : Tp K mg) : mg "put" = some (.ref (He.ga K "put")) := let ⟨_, X, G⟩ := Z.ex; He.glo_ok X G (Z.says.fact 22 (f := .glo "put") rfl)
theorem g_split (Z : Tp K mg) : mg "split" = some (.ref (He.ga K "split")) := let ⟨_, X, G⟩ := Z.ex; He.glo_ok X G (Z.says.fact 23 (f := .glo "split") rfl)
theorem g_parts_of (Z : Tp K mg) : mg "parts_of" = some (.ref (He.ga K "parts_of")) := let ⟨_, X, G⟩ := Z.ex; He.glo_ok X G (Z.says.fact 24 (f := .glo "parts_of") rfl)
theorem g_step (Z : Tp K mg) : mg "step" = some (.ref (He.ga K "step")) := let ⟨_, X, G⟩ := Z.ex; He.glo_ok X G (Z.says.fact 25 (f := .glo "step") rfl)
theorem g_cut (Z : Tp K mg) : mg "cut" = some (.ref (He.ga K "cut")) := let ⟨_, X, G⟩ := Z.ex; He.glo_ok X G (Z.says.fact 26 (f := .glo "cut") rfl)
theorem g_sighting_at (Z : Tp K mg) : mg "sighting_at" = some (.ref (He.ga K "sighting_at")) := let ⟨_, X, G⟩ := Z.ex; He.glo_ok X G (Z.says.fact 27 (f := .glo "sighting_at") rfl)
theorem g_cut_all (Z : Tp K mg) : mg "cut_all" = some (.ref (He.ga K "cut_all")) := let ⟨_, X, G⟩ := Z.ex; He.glo_ok X G (Z.says.fact 28 (f := .glo "cut_all") rfl)
theorem g_step_all (Z : Tp K mg) : mg "step_all" = some (.ref (He.ga K "step_all")) := let ⟨_, X, G⟩ := Z.ex; He.glo_ok X G (Z.says.fact 29 (f := .glo "step_all") rfl)
theorem g_first_states (Z : Tp K mg) : mg "first_states" = some (.ref (He.ga K "first_states")) := let ⟨_, X, G⟩ := Z.ex; He.glo_ok X G (Z.says.fact 30 (f := .glo "first_states") rfl)
theorem g_journey (Z : Tp K mg) : mg "journey" = some (.ref (He.ga K "journey")) := let ⟨_, X, G⟩ := Z.ex; He.glo_ok X G (Z.says.fact 31 (f := .glo "journey") rfl)
theorem g_gap (Z : Tp K mg) : mg "gap" = some (.ref (He.ga K "gap")) := let ⟨_, X, G⟩ := Z.ex; He.glo_ok X G (Z.says.fact 32 (f := .glo "gap") rfl)
theorem g_root_up (Z : Tp K mg) : mg "root_up" = some (.ref (He.ga K "root_up")) := let ⟨_, X, G⟩ := Z.ex; He.glo_ok X G (Z.says.fact 33 (f := .glo "root_up") rfl)
theorem g_verdict_of (Z : Tp K mg) : mg "verdict_of" = some (.ref (He.ga K "verdict_of")) := let ⟨_, X, G⟩ := Z.ex; He.glo_ok X G (Z.says.fact 34 (f := .glo "verdict_of") rfl)
theorem g_broken_word (Z : Tp K mg) : mg "broken_word" = some (.ref (He.ga K "broken_word")) := let ⟨_, X, G⟩ := Z.ex; He.glo_ok X G (Z.says.fact 35 (f := .glo "broken_word") rfl)
theorem g_ticks_of (Z : Tp K mg) : mg "ticks_of" = some (.ref (He.ga K "ticks_of")) := let ⟨_, X, G⟩ := Z.ex; He.glo_ok X G (Z.says.fact 36 (f := .glo "ticks_of") rfl)
theorem g_told (Z : Tp K mg) : mg "told" = some (.ref (He.ga K "told")) := let ⟨_, X, G⟩ := Z.ex; He.glo_ok X G (Z.says.fact 37 (f := .glo "told") rfl)
theorem g_meeting (Z : Tp K mg) : mg "meeting" = some (.ref (He.ga K "meeting")) := let ⟨_, X, G⟩ := Z.ex; He.glo_ok X G (Z.says.fact 38 (f := .glo "meeting") rfl)
theorem g_check (Z : Tp K mg) : mg "check" = some (.ref (He.ga K "check")) := let ⟨_, X, G⟩ := Z.ex; He.glo_ok X G (Z.says.fact 39 (f := .glo "check") rfl)
theorem g_is_name (Z : Tp K mg) : mg "is_name" = some (.ref (He.ga K "is_name")) := let ⟨_, X, G⟩ := Z.ex; He.glo_ok X G (Z.says.fact 40 (f := .glo "is_name") rfl)
theorem g_is_tick (Z : Tp K mg) : mg "is_tick" = some (.ref (He.ga K "is_tick")) := let ⟨_, X, G⟩ := Z.ex; He.glo_ok X G (Z.says.fact 41 (f := .glo "is_tick") rfl)
theorem g_is_box (Z : Tp K mg) : mg "is_box" = some (.ref (He.ga K "is_box")) := let ⟨_, X, G⟩ := Z.ex; He.glo_ok X G (Z.says.fact 42 (f := .glo "is_box") rfl)
theorem g__law_row (Z : Tp K mg) : mg "_law_row" = some (.ref (He.ga K "_law_row")) := let ⟨_, X, G⟩ := Z.ex; He.glo_ok X G (Z.says.fact 43 (f := .glo "_law_row") rfl)
theorem g__law_spread (Z : Tp K mg) : mg "_law_spread" = some (.ref (He.ga K "_law_spread")) := let ⟨_, X, G⟩ := Z.ex; He.glo_ok X G (Z.says.fact 44 (f := .glo "_law_spread") rfl)
theorem g__law_box (Z : Tp K mg) : mg "_law_box" = some (.ref (He.ga K "_law_box")) := let ⟨_, X, G⟩ := Z.ex; He.glo_ok X G (Z.says.fact 45 (f := .glo "_law_box") rfl)
theorem g__law_member (Z : Tp K mg) : mg "_law_member" = some (.ref (He.ga K "_law_member")) := let ⟨_, X, G⟩ := Z.ex; He.glo_ok X G (Z.says.fact 46 (f := .glo "_law_member") rfl)
theorem g__law_root (Z : Tp K mg) : mg "_law_root" = some (.ref (He.ga K "_law_root")) := let ⟨_, X, G⟩ := Z.ex; He.glo_ok X G (Z.says.fact 47 (f := .glo "_law_root") rfl)
theorem g__law_pull (Z : Tp K mg) : mg "_law_pull" = some (.ref (He.ga K "_law_pull")) := let ⟨_, X, G⟩ := Z.ex; He.glo_ok X G (Z.says.fact 48 (f := .glo "_law_pull") rfl)
theorem g__law_push (Z : Tp K mg) : mg "_law_push" = some (.ref (He.ga K "_law_push")) := let ⟨_, X, G⟩ := Z.ex; He.glo_ok X G (Z.says.fact 49 (f := .glo "_law_push") rfl)
theorem g__law_world (Z : Tp K mg) : mg "_law_world" = some (.ref (He.ga K "_law_world")) := let ⟨_, X, G⟩ := Z.ex; He.glo_ok X G (Z.says.fact 50 (f := .glo "_law_world") rfl)
theorem g__law_motion (Z : Tp K mg) : mg "_law_motion" = some (.ref (He.ga K "_law_motion")) := let ⟨_, X, G⟩ := Z.ex; He.glo_ok X G (Z.says.fact 51 (f := .glo "_law_motion") rfl)
theorem g__law_seen (Z : Tp K mg) : mg "_law_seen" = some (.ref (He.ga K "_law_seen")) := let ⟨_, X, G⟩ := Z.ex; He.glo_ok X G (Z.says.fact 52 (f := .glo "_law_seen") rfl)
theorem g__law_craft (Z : Tp K mg) : mg "_law_craft" = some (.ref (He.ga K "_law_craft")) := let ⟨_, X, G⟩ := Z.ex; He.glo_ok X G (Z.says.fact 53 (f := .glo "_law_craft") rfl)
theorem g__law_two (Z : Tp K mg) : mg "_law_two" = some (.ref (He.ga K "_law_two")) := let ⟨_, X, G⟩ := Z.ex; He.glo_ok X G (Z.says.fact 54 (f := .glo "_law_two") rfl)
theorem g__law_true (Z : Tp K mg) : mg "_law_true" = some (.ref (He.ga K "_law_true")) := let ⟨_, X, G⟩ := Z.ex; He.glo_ok X G (Z.says.fact 55 (f := .glo "_law_true") rfl)
theorem g_law (Z : Tp K mg) : mg "law" = some (.ref (He.ga K "law")) := let ⟨_, X, G⟩ := Z.ex; He.glo_ok X G (Z.says.fact 56 (f := .glo "law") rfl)
theorem g_State (Z : Tp K mg) : mg "State" = some (.ref (He.ga K "State")) := let ⟨_, X, G⟩ := Z.ex; He.glo_ok X G (Z.says.fact 57 (f := .glo "State") rfl)
theorem cl_State (Z : Tp K mg) : Cls K (He.ga K "State") := He.cls_ok (Z.says.fact 58 (f := .cls "State") rfl)
theorem mk_State (Z : Tp K mg) : Mk K (He.ga K "State") (He.ma K (He.ga K "State") "__init__") := He.mkr_ok (Z.says.fact 59 (f := .mkr "State") rfl)
theorem na_State_place (Z : Tp K mg) : NoAttr K (He.ga K "State") "place" := He.noat_ok (Z.says.fact 60 (f := .noat "State" "place") rfl)
theorem na_State_speed (Z : Tp K mg) : NoAttr K (He.ga K "State") "speed" := He.noat_ok (Z.says.fact 61 (f := .noat "State" "speed") rfl)
theorem g_Moment (Z : Tp K mg) : mg "Moment" = some (.ref (He.ga K "Moment")) := let ⟨_, X, G⟩ := Z.ex; He.glo_ok X G (Z.says.fact 62 (f := .glo "Moment") rfl)
theorem cl_Moment (Z : Tp K mg) : Cls K (He.ga K "Moment") := He.cls_ok (Z.says.fact 63 (f := .cls "Moment") rfl)
theorem mk_Moment (Z : Tp K mg) : Mk K (He.ga K "Moment") (He.ma K (He.ga K "Moment") "__init__") := He.mkr_ok (Z.says.fact 64 (f := .mkr "Moment") rfl)
theorem na_Moment_at (Z : Tp K mg) : NoAttr K (He.ga K "Moment") "at" := He.noat_ok (Z.says.fact 65 (f := .noat "Moment" "at") rfl)
theorem na_Moment_states (Z : Tp K mg) : NoAttr K (He.ga K "Moment") "states" := He.noat_ok (Z.says.fact 66 (f := .noat "Moment" "states") rfl)
theorem g_Journey (Z : Tp K mg) : mg "Journey" = some (.ref (He.ga K "Journey")) := let ⟨_, X, G⟩ := Z.ex; He.glo_ok X G (Z.says.fact 67 (f := .glo "Journey") rfl)
theorem cl_Journey (Z : Tp K mg) : Cls K (He.ga K "Journey") := He.cls_ok (Z.says.fact 68 (f := .cls "Journey") rfl)
theorem mk_Journey (Z : Tp K mg) : Mk K (He.ga K "Journey") (He.ma K (He.ga K "Journey") "__init__") := He.mkr_ok (Z.says.fact 69 (f := .mkr "Journey") rfl)
theorem na_Journey_moments (Z : Tp K mg) : NoAttr K (He.ga K "Journey") "moments" := He.noat_ok (Z.says.fact 70 (f := .noat "Journey" "moments") rfl)
theorem na_Journey_ending (Z : Tp K mg) : NoAttr K (He.ga K "Journey") "ending" := He.noat_ok (Z.says.fact 71 (f := .noat "Journey" "ending") rfl)
theorem na_Journey_broken (Z : Tp K mg) : NoAttr K (He.ga K "Journey") "broken" := He.noat_ok (Z.says.fact 72 (f := .noat "Journey" "broken") rfl)
theorem g_Body (Z : Tp K mg) : mg "Body" = some (.ref (He.ga K "Body")) := let ⟨_, X, G⟩ := Z.ex; He.glo_ok X G (Z.says.fact 73 (f := .glo "Body") rfl)
theorem cl_Body (Z : Tp K mg) : Cls K (He.ga K "Body") := He.cls_ok (Z.says.fact 74 (f := .cls "Body") rfl)
theorem mk_Body (Z : Tp K mg) : Mk K (He.ga K "Body") (He.ma K (He.ga K "Body") "__init__") := He.mkr_ok (Z.says.fact 75 (f := .mkr "Body") rfl)
theorem na_Body_mu (Z : Tp K mg) : NoAttr K (He.ga K "Body") "mu" := He.noat_ok (Z.says.fact 76 (f := .noat "Body" "mu") rfl)
theorem na_Body_oblateness (Z : Tp K mg) : NoAttr K (He.ga K "Body") "oblateness" := He.noat_ok (Z.says.fact 77 (f := .noat "Body" "oblateness") rfl)
theorem na_Body_turn (Z : Tp K mg) : NoAttr K (He.ga K "Body") "turn" := He.noat_ok (Z.says.fact 78 (f := .noat "Body" "turn") rfl)
theorem g_Burn (Z : Tp K mg) : mg "Burn" = some (.ref (He.ga K "Burn")) := let ⟨_, X, G⟩ := Z.ex; He.glo_ok X G (Z.says.fact 79 (f := .glo "Burn") rfl)
theorem cl_Burn (Z : Tp K mg) : Cls K (He.ga K "Burn") := He.cls_ok (Z.says.fact 80 (f := .cls "Burn") rfl)
theorem mk_Burn (Z : Tp K mg) : Mk K (He.ga K "Burn") (He.ma K (He.ga K "Burn") "__init__") := He.mkr_ok (Z.says.fact 81 (f := .mkr "Burn") rfl)
theorem na_Burn_begin (Z : Tp K mg) : NoAttr K (He.ga K "Burn") "begin" := He.noat_ok (Z.says.fact 82 (f := .noat "Burn" "begin") rfl)
theorem na_Burn_end (Z : Tp K mg) : NoAttr K (He.ga K "Burn") "end" := He.noat_ok (Z.says.fact 83 (f := .noat "Burn" "end") rfl)
theorem na_Burn_push (Z : Tp K mg) : NoAttr K (He.ga K "Burn") "push" := He.noat_ok (Z.says.fact 84 (f := .noat "Burn" "push") rfl)
theorem g_Sighting (Z : Tp K mg) : mg "Sighting" = some (.ref (He.ga K "Sighting")) := let ⟨_, X, G⟩ := Z.ex; He.glo_ok X G (Z.says.fact 85 (f := .glo "Sighting") rfl)
theorem cl_Sighting (Z : Tp K mg) : Cls K (He.ga K "Sighting") := He.cls_ok (Z.says.fact 86 (f := .cls "Sighting") rfl)
theorem mk_Sighting (Z : Tp K mg) : Mk K (He.ga K "Sighting") (He.ma K (He.ga K "Sighting") "__init__") := He.mkr_ok (Z.says.fact 87 (f := .mkr "Sighting") rfl)
theorem na_Sighting_at (Z : Tp K mg) : NoAttr K (He.ga K "Sighting") "at" := He.noat_ok (Z.says.fact 88 (f := .noat "Sighting" "at") rfl)
theorem na_Sighting_place (Z : Tp K mg) : NoAttr K (He.ga K "Sighting") "place" := He.noat_ok (Z.says.fact 89 (f := .noat "Sighting" "place") rfl)
theorem g_Craft (Z : Tp K mg) : mg "Craft" = some (.ref (He.ga K "Craft")) := let ⟨_, X, G⟩ := Z.ex; He.glo_ok X G (Z.says.fact 90 (f := .glo "Craft") rfl)
theorem cl_Craft (Z : Tp K mg) : Cls K (He.ga K "Craft") := He.cls_ok (Z.says.fact 91 (f := .cls "Craft") rfl)
theorem mk_Craft (Z : Tp K mg) : Mk K (He.ga K "Craft") (He.ma K (He.ga K "Craft") "__init__") := He.mkr_ok (Z.says.fact 92 (f := .mkr "Craft") rfl)
theorem na_Craft_name (Z : Tp K mg) : NoAttr K (He.ga K "Craft") "name" := He.noat_ok (Z.says.fact 93 (f := .noat "Craft" "name") rfl)
theorem na_Craft_start (Z : Tp K mg) : NoAttr K (He.ga K "Craft") "start" := He.noat_ok (Z.says.fact 94 (f := .noat "Craft" "start") rfl)
theorem na_Craft_place (Z : Tp K mg) : NoAttr K (He.ga K "Craft") "place" := He.noat_ok (Z.says.fact 95 (f := .noat "Craft" "place") rfl)
theorem na_Craft_speed (Z : Tp K mg) : NoAttr K (He.ga K "Craft") "speed" := He.noat_ok (Z.says.fact 96 (f := .noat "Craft" "speed") rfl)
theorem na_Craft_drift (Z : Tp K mg) : NoAttr K (He.ga K "Craft") "drift" := He.noat_ok (Z.says.fact 97 (f := .noat "Craft" "drift") rfl)
theorem na_Craft_burns (Z : Tp K mg) : NoAttr K (He.ga K "Craft") "burns" := He.noat_ok (Z.says.fact 98 (f := .noat "Craft" "burns") rfl)
theorem na_Craft_sightings (Z : Tp K mg) : NoAttr K (He.ga K "Craft") "sightings" := He.noat_ok (Z.says.fact 99 (f := .noat "Craft" "sightings") rfl)
theorem g_Contents (Z : Tp K mg) : mg "Contents" = some (.ref (He.ga K "Contents")) := let ⟨_, X, G⟩ := Z.ex; He.glo_ok X G (Z.says.fact 100 (f := .glo "Contents") rfl)
theorem cl_Contents (Z : Tp K mg) : Cls K (He.ga K "Contents") := He.cls_ok (Z.says.fact 101 (f := .cls "Contents") rfl)
theorem mk_Contents (Z : Tp K mg) : Mk K (He.ga K "Contents") (He.ma K (He.ga K "Contents") "__init__") := He.mkr_ok (Z.says.fact 102 (f := .mkr "Contents") rfl)
theorem na_Contents_body (Z : Tp K mg) : NoAttr K (He.ga K "Contents") "body" := He.noat_ok (Z.says.fact 103 (f := .noat "Contents" "body") rfl)
theorem na_Contents_stride (Z : Tp K mg) : NoAttr K (He.ga K "Contents") "stride" := He.noat_ok (Z.says.fact 104 (f := .noat "Contents" "stride") rfl)
theorem na_Contents_fineness (Z : Tp K mg) : NoAttr K (He.ga K "Contents") "fineness" := He.noat_ok (Z.says.fact 105 (f := .noat "Contents" "fineness") rfl)
theorem na_Contents_crafts (Z : Tp K mg) : NoAttr K (He.ga K "Contents") "crafts" := He.noat_ok (Z.says.fact 106 (f := .noat "Contents" "crafts") rfl)
theorem na_Contents_sites (Z : Tp K mg) : NoAttr K (He.ga K "Contents") "sites" := He.noat_ok (Z.says.fact 107 (f := .noat "Contents" "sites") rfl)
theorem me_Journey_moment (Z : Tp K mg) : Meth K (He.ga K "Journey") "moment" (He.ma K (He.ga K "Journey") "moment") := He.meth_ok (Z.says.fact 108 (f := .meth "Journey" "moment") rfl)
theorem g_FACTORS (Z : Tp K mg) : mg "FACTORS" = some (.ref (He.ga K "FACTORS")) := let ⟨_, X, G⟩ := Z.ex; He.glo_ok X G (Z.says.fact 109 (f := .glo "FACTORS") rfl)
theorem g_NOTHING (Z : Tp K mg) : mg "NOTHING" = some (.ref (He.ga K "NOTHING")) := let ⟨_, X, G⟩ := Z.ex; He.glo_ok X G (Z.says.fact 110 (f := .glo "NOTHING") rfl)
theorem «min» (Z : Tp K mg) : mg "min" = none := let ⟨_, X, G⟩ := Z.ex; He.free_ok X G (Z.says.fact 111 (f := .free "min") rfl)
theorem «max» (Z : Tp K mg) : mg "max" = none := let ⟨_, X, G⟩ := Z.ex; He.free_ok X G (Z.says.fact 112 (f := .free "max") rfl)
theorem «range» (Z : Tp K mg) : mg "range" = none := let ⟨_, X, G⟩ := Z.ex; He.free_ok X G (Z.says.fact 113 (f := .free "range") rfl)
theorem «len» (Z : Tp K mg) : mg "len" = none := let ⟨_, X, G⟩ := Z.ex; He.free_ok X G (Z.says.fact 114 (f := .free "len") rfl)
theorem «list» (Z : Tp K mg) : mg "list" = none := let ⟨_, X, G⟩ := Z.ex; He.free_ok X G (Z.says.fact 115 (f := .free "list") rfl)
theorem «tuple» (Z : Tp K mg) : mg "tuple" = none := let ⟨_, X, G⟩ := Z.ex; He.free_ok X G (Z.says.fact 116 (f := .free "tuple") rfl)
theorem «abs» (Z : Tp K mg) : mg "abs" = none := let ⟨_, X, G⟩ := Z.ex; He.free_ok X G (Z.says.fact 117 (f := .free "abs") rfl)
theorem «int» (Z : Tp K mg) : mg "int" = none := let ⟨_, X, G⟩ := Z.ex; He.free_ok X G (Z.says.fact 118 (f := .free "int") rfl)
theorem «sum» (Z : Tp K mg) : mg "sum" = none := let ⟨_, X, G⟩ := Z.ex; He.free_ok X G (Z.says.fact 119 (f := .free "sum") rfl)
theorem i_LIMIT (Z : Tp K mg) : ∃ t, mg "LIMIT" = some (.int (10 ^ 40) t) := let ⟨_, X, G⟩ := Z.ex; He.int_ok X G (Z.says.fact 120 (f := .int "LIMIT" (10 ^ 40)) rfl)
theorem i_LAST_TICK (Z : Tp K mg) : ∃ t, mg "LAST_TICK" = some (.int (100000) t) := let ⟨_, X, G⟩ := Z.ex; He.int_ok X G (Z.says.fact 121 (f := .int "LAST_TICK" (100000)) rfl)
theorem i_MOST (Z : Tp K mg) : ∃ t, mg "MOST" = some (.int (10 ^ 15) t) := let ⟨_, X, G⟩ := Z.ex; He.int_ok X G (Z.says.fact 122 (f := .int "MOST" (10 ^ 15)) rfl)
theorem i_MOST_DRIFT (Z : Tp K mg) : ∃ t, mg "MOST_DRIFT" = some (.int (10 ^ 12) t) := let ⟨_, X, G⟩ := Z.ex; He.int_ok X G (Z.says.fact 123 (f := .int "MOST_DRIFT" (10 ^ 12)) rfl)
theorem f_add (Z : Tp K mg) : ∃ fd, FnD K Hd.d_add (He.fAd K Hd.d_add.at_) fd := Z.says.def_ 0 (d := Hd.d_add) rfl
theorem f_subtract (Z : Tp K mg) : ∃ fd, FnD K Hd.d_subtract (He.fAd K Hd.d_subtract.at_) fd := Z.says.def_ 1 (d := Hd.d_subtract) rfl
theorem f_scaled (Z : Tp K mg) : ∃ fd, FnD K Hd.d_scaled (He.fAd K Hd.d_scaled.at_) fd := Z.says.def_ 2 (d := Hd.d_scaled) rfl
theorem f_multiply (Z : Tp K mg) : ∃ fd, FnD K Hd.d_multiply (He.fAd K Hd.d_multiply.at_) fd := Z.says.def_ 3 (d := Hd.d_multiply) rfl
theorem f_square (Z : Tp K mg) : ∃ fd, FnD K Hd.d_square (He.fAd K Hd.d_square.at_) fd := Z.says.def_ 4 (d := Hd.d_square) rfl
theorem f_quotient (Z : Tp K mg) : ∃ fd, FnD K Hd.d_quotient (He.fAd K Hd.d_quotient.at_) fd := Z.says.def_ 5 (d := Hd.d_quotient) rfl
theorem f_root (Z : Tp K mg) : ∃ fd, FnD K Hd.d_root (He.fAd K Hd.d_root.at_) fd := Z.says.def_ 6 (d := Hd.d_root) rfl
theorem f_meet (Z : Tp K mg) : ∃ fd, FnD K Hd.d_meet (He.fAd K Hd.d_meet.at_) fd := Z.says.def_ 7 (d := Hd.d_meet) rfl
theorem f_hull (Z : Tp K mg) : ∃ fd, FnD K Hd.d_hull (He.fAd K Hd.d_hull.at_) fd := Z.says.def_ 8 (d := Hd.d_hull) rfl
theorem f_widened (Z : Tp K mg) : ∃ fd, FnD K Hd.d_widened (He.fAd K Hd.d_widened.at_) fd := Z.says.def_ 9 (d := Hd.d_widened) rfl
theorem f_middle (Z : Tp K mg) : ∃ fd, FnD K Hd.d_middle (He.fAd K Hd.d_middle.at_) fd := Z.says.def_ 10 (d := Hd.d_middle) rfl
theorem f_width (Z : Tp K mg) : ∃ fd, FnD K Hd.d_width (He.fAd K Hd.d_width.at_) fd := Z.says.def_ 11 (d := Hd.d_width) rfl
theorem f_size (Z : Tp K mg) : ∃ fd, FnD K Hd.d_size (He.fAd K Hd.d_size.at_) fd := Z.says.def_ 12 (d := Hd.d_size) rfl
theorem f_box_add (Z : Tp K mg) : ∃ fd, FnD K Hd.d_box_add (He.fAd K Hd.d_box_add.at_) fd := Z.says.def_ 13 (d := Hd.d_box_add) rfl
theorem f_box_subtract (Z : Tp K mg) : ∃ fd, FnD K Hd.d_box_subtract (He.fAd K Hd.d_box_subtract.at_) fd := Z.says.def_ 14 (d := Hd.d_box_subtract) rfl
theorem f_box_hull (Z : Tp K mg) : ∃ fd, FnD K Hd.d_box_hull (He.fAd K Hd.d_box_hull.at_) fd := Z.says.def_ 15 (d := Hd.d_box_hull) rfl
theorem f_box_widened (Z : Tp K mg) : ∃ fd, FnD K Hd.d_box_widened (He.fAd K Hd.d_box_widened.at_) fd := Z.says.def_ 16 (d := Hd.d_box_widened) rfl
theorem f_box_meet (Z : Tp K mg) : ∃ fd, FnD K Hd.d_box_meet (He.fAd K Hd.d_box_meet.at_) fd := Z.says.def_ 17 (d := Hd.d_box_meet) rfl
theorem f_square_length (Z : Tp K mg) : ∃ fd, FnD K Hd.d_square_length (He.fAd K Hd.d_square_length.at_) fd := Z.says.def_ 18 (d := Hd.d_square_length) rfl
theorem f_box_size (Z : Tp K mg) : ∃ fd, FnD K Hd.d_box_size (He.fAd K Hd.d_box_size.at_) fd := Z.says.def_ 19 (d := Hd.d_box_size) rfl
theorem f_pull_over (Z : Tp K mg) : ∃ fd, FnD K Hd.d_pull_over (He.fAd K Hd.d_pull_over.at_) fd := Z.says.def_ 20 (d := Hd.d_pull_over) rfl
theorem f_push_at (Z : Tp K mg) : ∃ fd, FnD K Hd.d_push_at (He.fAd K Hd.d_push_at.at_) fd := Z.says.def_ 21 (d := Hd.d_push_at) rfl
theorem f_State_init (Z : Tp K mg) : ∃ fd, FnD K Hd.d_State_init (He.fAd K Hd.d_State_init.at_) fd := Z.says.def_ 22 (d := Hd.d_State_init) rfl
theorem f_put (Z : Tp K mg) : ∃ fd, FnD K Hd.d_put (He.fAd K Hd.d_put.at_) fd := Z.says.def_ 23 (d := Hd.d_put) rfl
theorem f_split (Z : Tp K mg) : ∃ fd, FnD K Hd.d_split (He.fAd K Hd.d_split.at_) fd := Z.says.def_ 24 (d := Hd.d_split) rfl
theorem f_parts_of (Z : Tp K mg) : ∃ fd, FnD K Hd.d_parts_of (He.fAd K Hd.d_parts_of.at_) fd := Z.says.def_ 25 (d := Hd.d_parts_of) rfl
theorem f_step (Z : Tp K mg) : ∃ fd, FnD K Hd.d_step (He.fAd K Hd.d_step.at_) fd := Z.says.def_ 26 (d := Hd.d_step) rfl
theorem f_cut (Z : Tp K mg) : ∃ fd, FnD K Hd.d_cut (He.fAd K Hd.d_cut.at_) fd := Z.says.def_ 27 (d := Hd.d_cut) rfl
theorem f_Moment_init (Z : Tp K mg) : ∃ fd, FnD K Hd.d_Moment_init (He.fAd K Hd.d_Moment_init.at_) fd := Z.says.def_ 28 (d := Hd.d_Moment_init) rfl
theorem f_Journey_init (Z : Tp K mg) : ∃ fd, FnD K Hd.d_Journey_init (He.fAd K Hd.d_Journey_init.at_) fd := Z.says.def_ 29 (d := Hd.d_Journey_init) rfl
theorem f_Journey_moment (Z : Tp K mg) : ∃ fd, FnD K Hd.d_Journey_moment (He.fAd K Hd.d_Journey_moment.at_) fd := Z.says.def_ 30 (d := Hd.d_Journey_moment) rfl
theorem f_sighting_at (Z : Tp K mg) : ∃ fd, FnD K Hd.d_sighting_at (He.fAd K Hd.d_sighting_at.at_) fd := Z.says.def_ 31 (d := Hd.d_sighting_at) rfl
theorem f_cut_all (Z : Tp K mg) : ∃ fd, FnD K Hd.d_cut_all (He.fAd K Hd.d_cut_all.at_) fd := Z.says.def_ 32 (d := Hd.d_cut_all) rfl
theorem f_step_all (Z : Tp K mg) : ∃ fd, FnD K Hd.d_step_all (He.fAd K Hd.d_step_all.at_) fd := Z.says.def_ 33 (d := Hd.d_step_all) rfl
theorem f_first_states (Z : Tp K mg) : ∃ fd, FnD K Hd.d_first_states (He.fAd K Hd.d_first_states.at_) fd := Z.says.def_ 34 (d := Hd.d_first_states) rfl
theorem f_journey (Z : Tp K mg) : ∃ fd, FnD K Hd.d_journey (He.fAd K Hd.d_journey.at_) fd := Z.says.def_ 35 (d := Hd.d_journey) rfl
theorem f_gap (Z : Tp K mg) : ∃ fd, FnD K Hd.d_gap (He.fAd K Hd.d_gap.at_) fd := Z.says.def_ 36 (d := Hd.d_gap) rfl
theorem f_root_up (Z : Tp K mg) : ∃ fd, FnD K Hd.d_root_up (He.fAd K Hd.d_root_up.at_) fd := Z.says.def_ 37 (d := Hd.d_root_up) rfl
theorem f_verdict_of (Z : Tp K mg) : ∃ fd, FnD K Hd.d_verdict_of (He.fAd K Hd.d_verdict_of.at_) fd := Z.says.def_ 38 (d := Hd.d_verdict_of) rfl
theorem f_broken_word (Z : Tp K mg) : ∃ fd, FnD K Hd.d_broken_word (He.fAd K Hd.d_broken_word.at_) fd := Z.says.def_ 39 (d := Hd.d_broken_word) rfl
theorem f_ticks_of (Z : Tp K mg) : ∃ fd, FnD K Hd.d_ticks_of (He.fAd K Hd.d_ticks_of.at_) fd := Z.says.def_ 40 (d := Hd.d_ticks_of) rfl
theorem f_told (Z : Tp K mg) : ∃ fd, FnD K Hd.d_told (He.fAd K Hd.d_told.at_) fd := Z.says.def_ 41 (d := Hd.d_told) rfl
theorem f_meeting (Z : Tp K mg) : ∃ fd, FnD K Hd.d_meeting (He.fAd K Hd.d_meeting.at_) fd := Z.says.def_ 42 (d := Hd.d_meeting) rfl
theorem f_check (Z : Tp K mg) : ∃ fd, FnD K Hd.d_check (He.fAd K Hd.d_check.at_) fd := Z.says.def_ 43 (d := Hd.d_check) rfl
theorem f_is_name (Z : Tp K mg) : ∃ fd, FnD K Hd.d_is_name (He.fAd K Hd.d_is_name.at_) fd := Z.says.def_ 44 (d := Hd.d_is_name) rfl
theorem f_is_tick (Z : Tp K mg) : ∃ fd, FnD K Hd.d_is_tick (He.fAd K Hd.d_is_tick.at_) fd := Z.says.def_ 45 (d := Hd.d_is_tick) rfl
theorem f_is_box (Z : Tp K mg) : ∃ fd, FnD K Hd.d_is_box (He.fAd K Hd.d_is_box.at_) fd := Z.says.def_ 46 (d := Hd.d_is_box) rfl
theorem f_Body_init (Z : Tp K mg) : ∃ fd, FnD K Hd.d_Body_init (He.fAd K Hd.d_Body_init.at_) fd := Z.says.def_ 47 (d := Hd.d_Body_init) rfl
theorem f_Burn_init (Z : Tp K mg) : ∃ fd, FnD K Hd.d_Burn_init (He.fAd K Hd.d_Burn_init.at_) fd := Z.says.def_ 48 (d := Hd.d_Burn_init) rfl
theorem f_Sighting_init (Z : Tp K mg) : ∃ fd, FnD K Hd.d_Sighting_init (He.fAd K Hd.d_Sighting_init.at_) fd := Z.says.def_ 49 (d := Hd.d_Sighting_init) rfl
theorem f_Craft_init (Z : Tp K mg) : ∃ fd, FnD K Hd.d_Craft_init (He.fAd K Hd.d_Craft_init.at_) fd := Z.says.def_ 50 (d := Hd.d_Craft_init) rfl
theorem f_Contents_init (Z : Tp K mg) : ∃ fd, FnD K Hd.d_Contents_init (He.fAd K Hd.d_Contents_init.at_) fd := Z.says.def_ 51 (d := Hd.d_Contents_init) rfl
theorem f__law_row (Z : Tp K mg) : ∃ fd, FnD K Hd.d__law_row (He.fAd K Hd.d__law_row.at_) fd := Z.says.def_ 52 (d := Hd.d__law_row) rfl
theorem f__law_spread (Z : Tp K mg) : ∃ fd, FnD K Hd.d__law_spread (He.fAd K Hd.d__law_spread.at_) fd := Z.says.def_ 53 (d := Hd.d__law_spread) rfl
theorem f__law_box (Z : Tp K mg) : ∃ fd, FnD K Hd.d__law_box (He.fAd K Hd.d__law_box.at_) fd := Z.says.def_ 54 (d := Hd.d__law_box) rfl
theorem f__law_member (Z : Tp K mg) : ∃ fd, FnD K Hd.d__law_member (He.fAd K Hd.d__law_member.at_) fd := Z.says.def_ 55 (d := Hd.d__law_member) rfl
theorem f__law_root (Z : Tp K mg) : ∃ fd, FnD K Hd.d__law_root (He.fAd K Hd.d__law_root.at_) fd := Z.says.def_ 56 (d := Hd.d__law_root) rfl
theorem f__law_pull (Z : Tp K mg) : ∃ fd, FnD K Hd.d__law_pull (He.fAd K Hd.d__law_pull.at_) fd := Z.says.def_ 57 (d := Hd.d__law_pull) rfl
theorem f__law_push (Z : Tp K mg) : ∃ fd, FnD K Hd.d__law_push (He.fAd K Hd.d__law_push.at_) fd := Z.says.def_ 58 (d := Hd.d__law_push) rfl
theorem f__law_world (Z : Tp K mg) : ∃ fd, FnD K Hd.d__law_world (He.fAd K Hd.d__law_world.at_) fd := Z.says.def_ 59 (d := Hd.d__law_world) rfl
theorem f__law_motion (Z : Tp K mg) : ∃ fd, FnD K Hd.d__law_motion (He.fAd K Hd.d__law_motion.at_) fd := Z.says.def_ 60 (d := Hd.d__law_motion) rfl
theorem f__law_seen (Z : Tp K mg) : ∃ fd, FnD K Hd.d__law_seen (He.fAd K Hd.d__law_seen.at_) fd := Z.says.def_ 61 (d := Hd.d__law_seen) rfl
theorem f__law_craft (Z : Tp K mg) : ∃ fd, FnD K Hd.d__law_craft (He.fAd K Hd.d__law_craft.at_) fd := Z.says.def_ 62 (d := Hd.d__law_craft) rfl
theorem f__law_two (Z : Tp K mg) : ∃ fd, FnD K Hd.d__law_two (He.fAd K Hd.d__law_two.at_) fd := Z.says.def_ 63 (d := Hd.d__law_two) rfl
theorem f__law_true (Z : Tp K mg) : ∃ fd, FnD K Hd.d__law_true (He.fAd K Hd.d__law_true.at_) fd := Z.says.def_ 64 (d := Hd.d__law_true) rfl
theorem f_law (Z : Tp K mg) : ∃ fd, FnD K Hd.d_law (He.fAd K Hd.d_law.at_) fd := Z.says.def_ 65 (d := Hd.d_law) rfl
theorem more2 (Z : Tp K mg) : PySem.W.nsIn K mainGlobals "isqrt" = some (some (.builtin "math.isqrt")) ∧ Hd.tupA K (He.ga K "FACTORS") [.int 1, .int 1, .int 3] = true ∧ Hd.tupA K (He.ga K "NOTHING") [.ref (Hd.nthA "NOTHING" 0 K), .ref (Hd.nthA "NOTHING" 1 K), .ref (Hd.nthA "NOTHING" 2 K)] = true ∧
    Hd.tupA K (Hd.nthA "NOTHING" 0 K) [.int 0, .int 0] = true ∧ Hd.tupA K (Hd.nthA "NOTHING" 1 K) [.int 0, .int 0] = true ∧ Hd.tupA K (Hd.nthA "NOTHING" 2 K) [.int 0, .int 0] = true := by
  obtain ⟨h1, h⟩ := He.ba (show (_ && _) = true from Z.more)
  obtain ⟨h2, h⟩ := He.ba h
  obtain ⟨h3, h⟩ := He.ba h
  obtain ⟨h4, h⟩ := He.ba h
  obtain ⟨h5, h6⟩ := He.ba h
  exact ⟨He.eqO_ok h1, h2, h3, h4, h5, h6⟩
theorem isq (Z : Tp K mg) : mg "isqrt" = some (.builtin "math.isqrt") := let ⟨_, X, G⟩ := Z.ex; PySem.W.mg_of X G Z.more2.1
theorem fac (Z : Tp K mg) (H : Hp) : (tT [tI 1, tI 1, tI 3] : Ty K).ok H (.ref (He.ga K "FACTORS")) := ⟨_, _, rfl, Hd.tupA_ok Z.more2.2.1 H, rfl, rfl, rfl, trivial⟩
theorem noth (Z : Tp K mg) (H : Hp) : (tT [tT [tI 0, tI 0], tT [tI 0, tI 0], tT [tI 0, tI 0]] : Ty K).ok H (.ref (He.ga K "NOTHING")) :=
  let ⟨_, _, h3, h4, h5, h6⟩ := Z.more2
  ⟨_, _, rfl, Hd.tupA_ok h3 H, ⟨_, _, rfl, Hd.tupA_ok h4 H, rfl, rfl, trivial⟩, ⟨_, _, rfl, Hd.tupA_ok h5 H, rfl, rfl, trivial⟩, ⟨_, _, rfl, Hd.tupA_ok h6 H, rfl, rfl, trivial⟩, trivial⟩
end Tp
section
variable {X : Cx} {K : PySem.W.Frag} {mg : Str → Option Value} {Γ : Env1 K} {Ω : Ow K} {pos : Pos}
theorem ej_FACTORS (Z : Tp K mg) (hX : X.mg = mg := by rfl) (hg : Gl X "FACTORS" := by rfl) : EJ X Γ Ω (.Name "FACTORS" pos) (tT [tI 1, tI 1, tI 3]) := ej_glob (v := .ref (He.ga K "FACTORS")) (by rw [hX]; exact Z.g_FACTORS) rfl (fun F => Z.fac F) hg
theorem ej_NOTHING (Z : Tp K mg) (hX : X.mg = mg := by rfl) (hg : Gl X "NOTHING" := by rfl) : EJ X Γ Ω (.Name "NOTHING" pos) (tT [tT [tI 0, tI 0], tT [tI 0, tI 0], tT [tI 0, tI 0]]) := ej_glob (v := .ref (He.ga K "NOTHING")) (by rw [hX]; exact Z.g_NOTHING) rfl (fun F => Z.noth F) hg
theorem ej_LIMIT (Z : Tp K mg) (hX : X.mg = mg := by rfl) (hg : Gl X "LIMIT" := by rfl) : EJ X Γ Ω (.Name "LIMIT" pos) (tI (10 ^ 40)) := by
  obtain ⟨t, h⟩ := Z.i_LIMIT
  exact ej_glob (v := .int (10 ^ 40)) (by rw [hX]; exact h) ⟨t, rfl⟩ (fun _ => rfl) hg
theorem ej_LAST_TICK (Z : Tp K mg) (hX : X.mg = mg := by rfl) (hg : Gl X "LAST_TICK" := by rfl) : EJ X Γ Ω (.Name "LAST_TICK" pos) (tI (100000)) := by
  obtain ⟨t, h⟩ := Z.i_LAST_TICK
  exact ej_glob (v := .int (100000)) (by rw [hX]; exact h) ⟨t, rfl⟩ (fun _ => rfl) hg
theorem ej_MOST (Z : Tp K mg) (hX : X.mg = mg := by rfl) (hg : Gl X "MOST" := by rfl) : EJ X Γ Ω (.Name "MOST" pos) (tI (10 ^ 15)) := by
  obtain ⟨t, h⟩ := Z.i_MOST
  exact ej_glob (v := .int (10 ^ 15)) (by rw [hX]; exact h) ⟨t, rfl⟩ (fun _ => rfl) hg
theorem ej_MOST_DRIFT (Z : Tp K mg) (hX : X.mg = mg := by rfl) (hg : Gl X "MOST_DRIFT" := by rfl) : EJ X Γ Ω (.Name "MOST_DRIFT" pos) (tI (10 ^ 12)) := by
  obtain ⟨t, h⟩ := Z.i_MOST_DRIFT
  exact ej_glob (v := .int (10 ^ 12)) (by rw [hX]; exact h) ⟨t, rfl⟩ (fun _ => rfl) hg
end
/-! ### the types of the program's data -/
section
variable {K : PySem.W.Frag}
open M
abbrev iv (a : Iv) : Ty K := tT [tI a.1, tI a.2]
abbrev bx (b : Bx) : Ty K := tT [iv b.1, iv b.2.1, iv b.2.2]
abbrev pt (p : Pt) : Ty K := tT [tI p.1, tI p.2.1, tI p.2.2]
abbrev sta (s : Sta) : Ty K := tIn (He.ga K "State") [("place", bx s.1), ("speed", bx s.2)]
abbrev bn (b : Bn) : Ty K := tIn (He.ga K "Burn") [("begin", tI b.b), ("end", tI b.e), ("push", bx b.p)]
abbrev sg (s : Sg) : Ty K := tIn (He.ga K "Sighting") [("at", tI s.at_), ("place", bx s.p)]
abbrev cr (c : Cr) : Ty K := tIn (He.ga K "Craft") [("name", tS c.name), ("start", tI c.start), ("place", bx c.place), ("speed", bx c.speed), ("drift", tI c.drift), ("burns", tT (c.burns.map bn)), ("sightings", tT (c.sights.map sg))]
abbrev bod (mu ob : Int) : Ty K := tIn (He.ga K "Body") [("mu", tI mu), ("oblateness", tI ob), ("turn", pt (1, 0, 1))]
abbrev con (mu ob fin : Int) (c d : Cr) : Ty K := tIn (He.ga K "Contents") [("body", bod mu ob), ("stride", tI 1), ("fineness", tI fin), ("crafts", tT [cr c, cr d]), ("sites", tT [])]
abbrev mo (m : Mo) : Ty K := tIn (He.ga K "Moment") [("at", tI m.at_), ("states", tL (m.states.map sta))]
abbrev jo (j : Jo) : Ty K := tIn (He.ga K "Journey") [("moments", tL (j.moments.map mo)), ("ending", tS j.ending), ("broken", tO tI j.broken)]
end
end T
end
section
set_option Elab.async false
set_option linter.all false
/-! Sizes by powers of two. -/
namespace M
def Bt (n : Nat) (x : Int) : Prop := x.natAbs < 2 ^ n
theorem Bt.mono {n m : Nat} {x : Int} (h : Bt n x) (hm : n ≤ m) : Bt m x := Nat.lt_of_lt_of_le h (Nat.pow_le_pow_right (by decide) hm)
theorem Bt.neg {n : Nat} {x : Int} (h : Bt n x) : Bt n (-x) := by
  unfold Bt at *
  rw [Int.natAbs_neg]
  exact h
theorem Bt.add {n : Nat} {x y : Int} (h : Bt n x) (k : Bt n y) : Bt (n + 1) (x + y) := by
  unfold Bt at *
  rw [Nat.pow_succ]
  omega
theorem Bt.sub {n : Nat} {x y : Int} (h : Bt n x) (k : Bt n y) : Bt (n + 1) (x - y) := by
  unfold Bt at *
  rw [Nat.pow_succ]
  omega
theorem Bt.mul {n m : Nat} {x y : Int} (h : Bt n x) (k : Bt m y) : Bt (n + m) (x * y) := by
  unfold Bt at *
  rw [Int.natAbs_mul, Nat.pow_add]
  exact Nat.mul_lt_mul'' h k
theorem Bt.min {n : Nat} {x y : Int} (h : Bt n x) (k : Bt n y) : Bt n (Min.min x y) := by
  unfold Bt at *
  omega
theorem Bt.max {n : Nat} {x y : Int} (h : Bt n x) (k : Bt n y) : Bt n (Max.max x y) := by
  unfold Bt at *
  omega
theorem Bt.zero {n : Nat} : Bt n 0 := by
  unfold Bt
  show 0 < 2 ^ n
  exact Nat.two_pow_pos n
theorem Bt.abs {n : Nat} {x : Int} (h : Bt n x) : Bt n (x.natAbs : Int) := by
  unfold Bt at *
  omega
theorem bt_cmul {n m : Nat} {x y : Int} (h : Bt n x) (k : Bt m y) (hs : n + m ≤ 900000) : L2.CMulW x y := by
  have h2 : Bt (n + 1) x := h.mono (Nat.le_succ n)
  have k2 : Bt (m + 1) y := k.mono (Nat.le_succ m)
  exact L2.wide_mul h2 k2 (Nat.succ_pos n) (Nat.succ_pos m) (by omega)
theorem bt_cdiv {n : Nat} {x y : Int} (h0 : 0 < y) (h : Bt n y) (hs : n ≤ 8000) : L2.CDivW x y := L2.wide_div h0 (h.mono (Nat.le_succ n)) (Nat.succ_pos n) (by omega)
theorem bt_log {n : Nat} {x : Int} (h : Bt n x) : x.toNat.log2 ≤ n := by
  unfold Bt at h
  by_cases e : x.toNat = 0
  · rw [e]
    simp
  · have h2 : x.toNat < 2 ^ n := by omega
    have := (Nat.log2_lt e).mpr h2
    omega
/-- both ends -/
def IB (n : Nat) (a : Iv) : Prop := Bt n a.1 ∧ Bt n a.2
def BB (n : Nat) (b : Bx) : Prop := IB n b.1 ∧ IB n b.2.1 ∧ IB n b.2.2
theorem IB.mono {n m : Nat} {a : Iv} (h : IB n a) (hm : n ≤ m) : IB m a := ⟨h.1.mono hm, h.2.mono hm⟩
theorem IB.add {n : Nat} {a b : Iv} (h : IB n a) (k : IB n b) : IB (n + 1) (iAdd a b) := ⟨h.1.add k.1, h.2.add k.2⟩
theorem IB.sub {n : Nat} {a b : Iv} (h : IB n a) (k : IB n b) : IB (n + 1) (iSub a b) := ⟨h.1.sub k.2, h.2.sub k.1⟩
theorem IB.scl {n m : Nat} {a : Iv} {k : Int} (h : IB n a) (hk : Bt m k) : IB (n + m) (iScl a k) := by
  unfold iScl
  split
  · exact ⟨h.2.mul hk, h.1.mul hk⟩
  · exact ⟨h.1.mul hk, h.2.mul hk⟩
theorem IB.mul {n m : Nat} {a b : Iv} (h : IB n a) (k : IB m b) : IB (n + m) (iMul a b) :=
  ⟨(h.1.mul k.1).min ((h.1.mul k.2).min ((h.2.mul k.1).min (h.2.mul k.2))), (h.1.mul k.1).max ((h.1.mul k.2).max ((h.2.mul k.1).max (h.2.mul k.2)))⟩
theorem IB.sqr {n : Nat} {a : Iv} (h : IB n a) : IB (n + n) (iSqr a) := by
  unfold iSqr
  split
  · exact ⟨h.1.mul h.1, h.2.mul h.2⟩
  · split
    · exact ⟨h.2.mul h.2, h.1.mul h.1⟩
    · exact ⟨.zero, (h.1.mul h.1).max (h.2.mul h.2)⟩
theorem BB.len {n : Nat} {b : Bx} (h : BB n b) : IB (n + n + 2) (sqLen b) := (h.1.sqr.add h.2.1.sqr).add (h.2.2.sqr.mono (Nat.le_succ _))
theorem BB.mono {n m : Nat} {b : Bx} (h : BB n b) (hm : n ≤ m) : BB m b := ⟨h.1.mono hm, h.2.1.mono hm, h.2.2.mono hm⟩
/-! ### the root -/
theorem sq_nn (n : Int) : 0 ≤ sq n := Int.natCast_nonneg _
theorem sq_le {n : Int} (h : 0 ≤ n) : sq n * sq n ≤ n := by
  have h2 := (PySem.Float64.isqrt_spec n.toNat).1
  unfold sq
  rw [← Int.natCast_mul]
  omega
theorem sq_gt {n : Int} (h : 0 ≤ n) : n < (sq n + 1) * (sq n + 1) := by
  have h2 := (PySem.Float64.isqrt_spec n.toNat).2
  unfold sq
  have e : (((PySem.Float64.isqrt n.toNat : Nat) : Int) + 1) * (((PySem.Float64.isqrt n.toNat : Nat) : Int) + 1) = (((PySem.Float64.isqrt n.toNat + 1) * (PySem.Float64.isqrt n.toNat + 1) : Nat) : Int) := by
    rw [Int.natCast_mul, Int.natCast_add]
    rfl
  rw [e]
  omega
theorem sq_self {n : Int} (h : 0 ≤ n) : sq n ≤ n := by
  have h1 := sq_le h
  have h2 := sq_nn n
  by_cases e : sq n = 0
  · omega
  · have h3 : 1 ≤ sq n := by omega
    have h4 : sq n * 1 ≤ sq n * sq n := Int.mul_le_mul_of_nonneg_left h3 h2
    omega
theorem sq_bt {n : Nat} {x : Int} (h0 : 0 ≤ x) (h : Bt n x) : Bt n (sq x) := by
  have h1 := sq_self h0
  have h2 := sq_nn x
  unfold Bt at *
  omega
theorem sq_pos {n : Int} (h : 1 ≤ n) : 1 ≤ sq n := by
  have h1 := sq_gt (n := n) (by omega)
  have h2 := sq_nn n
  by_cases e : sq n = 0
  · rw [e] at h1
    omega
  · omega
theorem iRoot_b {n : Nat} {a : Iv} (h : IB n a) (h0 : 0 ≤ a.2) : IB n (iRoot a) := ⟨sq_bt (by omega) (h.1.max .zero), sq_bt h0 h.2⟩
end M
namespace M
/-! ### validity -/
def IV (a : Iv) : Prop := a.1 ≤ a.2
def BV (b : Bx) : Prop := IV b.1 ∧ IV b.2.1 ∧ IV b.2.2
theorem sqr_bound {x y : Int} (h0 : 0 ≤ x) (h : x ≤ y) : x * x ≤ y * y := Int.mul_le_mul h h h0 (by omega)
theorem iSqr_nn (a : Iv) : 0 ≤ (iSqr a).1 := by
  unfold iSqr
  split
  · exact Int.mul_nonneg (by assumption) (by assumption)
  · split
    · show 0 ≤ a.2 * a.2
      rw [show a.2 * a.2 = (-a.2) * (-a.2) by rw [Int.neg_mul_neg]]
      exact Int.mul_nonneg (by omega) (by omega)
    · exact Int.le_refl _
theorem iSqr_v {a : Iv} (h : IV a) : IV (iSqr a) := by
  unfold IV at *
  unfold iSqr
  split
  · exact sqr_bound (by assumption) h
  · split
    · show a.2 * a.2 ≤ a.1 * a.1
      rw [show a.2 * a.2 = (-a.2) * (-a.2) by rw [Int.neg_mul_neg], show a.1 * a.1 = (-a.1) * (-a.1) by rw [Int.neg_mul_neg]]
      exact sqr_bound (by omega) (by omega)
    · show (0 : Int) ≤ max (a.1 * a.1) (a.2 * a.2)
      have : 0 ≤ a.2 * a.2 := Int.mul_nonneg (by omega) (by omega)
      omega
theorem sqLen_nn (b : Bx) : 0 ≤ (sqLen b).1 := by
  have h1 := iSqr_nn b.1
  have h2 := iSqr_nn b.2.1
  have h3 := iSqr_nn b.2.2
  show 0 ≤ (iSqr b.1).1 + (iSqr b.2.1).1 + (iSqr b.2.2).1
  omega
theorem sqLen_v {b : Bx} (h : BV b) : IV (sqLen b) := by
  have h1 := iSqr_v h.1
  have h2 := iSqr_v h.2.1
  have h3 := iSqr_v h.2.2
  unfold IV at *
  show (iSqr b.1).1 + (iSqr b.2.1).1 + (iSqr b.2.2).1 ≤ (iSqr b.1).2 + (iSqr b.2.1).2 + (iSqr b.2.2).2
  omega
/-- both ends above 0 -/
def IP (a : Iv) : Prop := 0 < a.1 ∧ 0 < a.2
theorem IP.mul {a b : Iv} (h : IP a) (k : IP b) : IP (iMul a b) := by
  have h1 := Int.mul_pos h.1 k.1
  have h2 := Int.mul_pos h.1 k.2
  have h3 := Int.mul_pos h.2 k.1
  have h4 := Int.mul_pos h.2 k.2
  constructor
  · show 0 < min (a.1 * b.1) (min (a.1 * b.2) (min (a.2 * b.1) (a.2 * b.2)))
    omega
  · show 0 < max (a.1 * b.1) (max (a.1 * b.2) (max (a.2 * b.1) (a.2 * b.2)))
    omega
theorem IP.root {a : Iv} (h : IP a) : IP (iRoot a) := by
  have h1 := sq_pos (n := max a.1 0) (by have := h.1; omega)
  have h2 := sq_pos (n := a.2) (by have := h.2; omega)
  exact ⟨by show 0 < sq (max a.1 0); omega, by show 0 < sq a.2; omega⟩
theorem sqLen_p {b : Bx} (h : BV b) (h0 : ¬ (sqLen b).1 = 0) : IP (sqLen b) := by
  have h1 := sqLen_nn b
  have h2 := sqLen_v h
  unfold IV at h2
  exact ⟨by omega, by omega⟩
theorem widest_le (s : Sta) : ∀ n, widest s n ≤ n
  | 0 => Nat.le_refl _
  | n + 1 => by
    have := widest_le s n
    unfold widest
    split <;> omega
theorem ivs_get (s : Sta) {n : Nat} (h : n < 6) : (ivs s)[n]? = some (ivAt s n) := by
  unfold ivAt
  rw [List.getD_eq_getElem?_getD, List.getElem?_eq_getElem (by exact h)]
  rfl
theorem split_len (s : Sta) : (split s).length ≤ 2 := by
  unfold split
  split
  · show 1 ≤ 2
    omega
  · exact Nat.le_refl _
theorem flat_len : ∀ l : List Sta, (l.flatMap split).length ≤ 2 * l.length
  | [] => Nat.le_refl _
  | s :: r => by
    have h1 := split_len s
    have h2 := flat_len r
    rw [List.flatMap_cons, List.length_append, List.length_cons]
    omega
theorem parts_len (s : Sta) : ∀ n, (parts s n).length ≤ 2 ^ n
  | 0 => Nat.le_refl _
  | n + 1 => by
    have h1 := parts_len s n
    have h2 := flat_len (parts s n)
    show ((parts s n).flatMap split).length ≤ 2 ^ (n + 1)
    rw [Nat.pow_succ]
    omega
end M
end
section
set_option Elab.async false
set_option linter.all false
set_option maxRecDepth 100000
set_option maxHeartbeats 4000000
namespace T
open PySem PySem.Spec PyProof.Rows L2 M
section
variable {P : Program} {w : World} {K : PySem.W.Frag} {mg : Str → Option Value} {base : Heap}
theorem min4 {a b c d : Int} : min a (min b (min c d)) ∈ [a, b, c, d] ∧ ∀ y ∈ [a, b, c, d], min a (min b (min c d)) ≤ y := by
  refine ⟨?_, fun y hy => ?_⟩
  · simp only [List.mem_cons, List.not_mem_nil, or_false]
    omega
  · simp only [List.mem_cons, List.not_mem_nil, or_false] at hy
    omega
theorem max4 {a b c d : Int} : max a (max b (max c d)) ∈ [a, b, c, d] ∧ ∀ y ∈ [a, b, c, d], y ≤ max a (max b (max c d)) := by
  refine ⟨?_, fun y hy => ?_⟩
  · simp only [List.mem_cons, List.not_mem_nil, or_false]
    omega
  · simp only [List.mem_cons, List.not_mem_nil, or_false] at hy
    omega
theorem sc_add : FnScope ["a", "b"] ["a", "b"] Hd.d_add.scope := ⟨rfl, rfl, rfl, by decide +kernel, rfl, by decide +kernel, by decide +kernel⟩
def dom_add : Dom K := fun ts t => ∃ a b : Iv, ts = [iv a, iv b] ∧ t = iv (iAdd a b)
theorem fn_add (Z : Tp K mg) : Fn P w K mg base "add" 1 2 (dom_add (K := K)) := by
  obtain ⟨fd, F⟩ := Z.f_add
  refine ⟨_, fd, ["a", "b"], fn_mk F sc_add (by decide) fun cdv Ar outer sh Hh Ee B hr ts t hd _ => ?_, Z.g_add, F.kp, FunD.bindsN F fun _ _ _ _ _ _ us hl => match us, hl with | [_, _], _ => rfl⟩
  obtain ⟨a, b, rfl, rfl⟩ := hd
  exact hj_ret (ej_tup (aj_cons (ej_add (ej_ixT (ej_v 0) ej_int) (ej_ixT (ej_v 1) ej_int)) (aj_cons (ej_add (ej_ixT (ej_v 0) ej_int) (ej_ixT (ej_v 1) ej_int)) aj_nil))) (fun _ _ h => h)
theorem sc_subtract : FnScope ["a", "b"] ["a", "b"] Hd.d_subtract.scope := ⟨rfl, rfl, rfl, by decide +kernel, rfl, by decide +kernel, by decide +kernel⟩
def dom_subtract : Dom K := fun ts t => ∃ a b : Iv, ts = [iv a, iv b] ∧ t = iv (iSub a b)
theorem fn_subtract (Z : Tp K mg) : Fn P w K mg base "subtract" 1 2 (dom_subtract (K := K)) := by
  obtain ⟨fd, F⟩ := Z.f_subtract
  refine ⟨_, fd, ["a", "b"], fn_mk F sc_subtract (by decide) fun cdv Ar outer sh Hh Ee B hr ts t hd _ => ?_, Z.g_subtract, F.kp, FunD.bindsN F fun _ _ _ _ _ _ us hl => match us, hl with | [_, _], _ => rfl⟩
  obtain ⟨a, b, rfl, rfl⟩ := hd
  exact hj_ret (ej_tup (aj_cons (ej_sub (ej_ixT (ej_v 0) ej_int) (ej_ixT (ej_v 1) ej_int)) (aj_cons (ej_sub (ej_ixT (ej_v 0) ej_int) (ej_ixT (ej_v 1) ej_int)) aj_nil))) (fun _ _ h => h)
theorem sc_scaled : FnScope ["a", "n"] ["a", "n"] Hd.d_scaled.scope := ⟨rfl, rfl, rfl, by decide +kernel, rfl, by decide +kernel, by decide +kernel⟩
def dom_scaled : Dom K := fun ts t => ∃ (a : Iv) (n : Int), ts = [iv a, tI n] ∧ t = iv (iScl a n) ∧ IB 400000 a ∧ Bt 400000 n
theorem fn_scaled (Z : Tp K mg) : Fn P w K mg base "scaled" 1 2 (dom_scaled (K := K)) := by
  obtain ⟨fd, F⟩ := Z.f_scaled
  refine ⟨_, fd, ["a", "n"], fn_mk F sc_scaled (by decide) fun cdv Ar outer sh Hh Ee B hr ts t hd _ => ?_, Z.g_scaled, F.kp, FunD.bindsN F fun _ _ _ _ _ _ us hl => match us, hl with | [_, _], _ => rfl⟩
  obtain ⟨a, n, rfl, rfl, ha, hn⟩ := hd
  refine hj_ifr (bj_lt (ej_v 1) ej_int) (fun h => ?_) fun h => ?_
  · have e : iScl a n = (a.2 * n, a.1 * n) := if_pos (of_decide_eq_true h)
    rw [e]
    exact hj_ret (ej_tup (aj_cons (ej_mul (ej_ixT (ej_v 0) ej_int) (ej_v 1) (bt_cmul ha.2 hn (by decide))) (aj_cons (ej_mul (ej_ixT (ej_v 0) ej_int) (ej_v 1) (bt_cmul ha.1 hn (by decide))) aj_nil))) (fun _ _ h => h)
  have e : iScl a n = (a.1 * n, a.2 * n) := if_neg (of_decide_eq_false h)
  rw [e]
  exact hj_ret (ej_tup (aj_cons (ej_mul (ej_ixT (ej_v 0) ej_int) (ej_v 1) (bt_cmul ha.1 hn (by decide))) (aj_cons (ej_mul (ej_ixT (ej_v 0) ej_int) (ej_v 1) (bt_cmul ha.2 hn (by decide))) aj_nil))) (fun _ _ h => h)
theorem sc_multiply : FnScope ["a", "b", "ends"] ["a", "b"] Hd.d_multiply.scope := ⟨rfl, rfl, rfl, by decide +kernel, rfl, by decide +kernel, by decide +kernel⟩
def dom_multiply : Dom K := fun ts t => ∃ a b : Iv, ts = [iv a, iv b] ∧ t = iv (iMul a b) ∧ IB 400000 a ∧ IB 400000 b
theorem fn_multiply (Z : Tp K mg) : Fn P w K mg base "multiply" 1 2 (dom_multiply (K := K)) := by
  obtain ⟨fd, F⟩ := Z.f_multiply
  refine ⟨_, fd, ["a", "b"], fn_mk F sc_multiply (by decide) fun cdv Ar outer sh Hh Ee B hr ts t hd _ => ?_, Z.g_multiply, F.kp, FunD.bindsN F fun _ _ _ _ _ _ us hl => match us, hl with | [_, _], _ => rfl⟩
  obtain ⟨a, b, rfl, rfl, ha, hb⟩ := hd
  refine hj_set B 2 (ej_lst (aj_cons (ej_mul (ej_ixT (ej_v 0) ej_int) (ej_ixT (ej_v 1) ej_int) (bt_cmul ha.1 hb.1 (by decide))) (aj_cons (ej_mul (ej_ixT (ej_v 0) ej_int) (ej_ixT (ej_v 1) ej_int) (bt_cmul ha.1 hb.2 (by decide))) (aj_cons (ej_mul (ej_ixT (ej_v 0) ej_int) (ej_ixT (ej_v 1) ej_int) (bt_cmul ha.2 hb.1 (by decide))) (aj_cons (ej_mul (ej_ixT (ej_v 0) ej_int) (ej_ixT (ej_v 1) ej_int) (bt_cmul ha.2 hb.2 (by decide))) aj_nil))))) ?_
  exact hj_ret (ej_tup (aj_cons (ej_callB (cr_min B.calm) Z.«min» (by decide +kernel) (aj_cons (ej_v 2) aj_nil) (rok_minL (ns := [a.1 * b.1, a.1 * b.2, a.2 * b.1, a.2 * b.2]) min4.1 min4.2)) (aj_cons (ej_callB (cr_max B.calm) Z.«max» (by decide +kernel) (aj_cons (ej_v 2) aj_nil) (rok_maxL (ns := [a.1 * b.1, a.1 * b.2, a.2 * b.1, a.2 * b.2]) max4.1 max4.2)) aj_nil))) (fun _ _ h => h)
theorem sc_square : FnScope ["a"] ["a"] Hd.d_square.scope := ⟨rfl, rfl, rfl, by decide +kernel, rfl, by decide +kernel, by decide +kernel⟩
def dom_square : Dom K := fun ts t => ∃ a : Iv, ts = [iv a] ∧ t = iv (iSqr a) ∧ IB 400000 a
theorem fn_square (Z : Tp K mg) : Fn P w K mg base "square" 1 1 (dom_square (K := K)) := by
  obtain ⟨fd, F⟩ := Z.f_square
  refine ⟨_, fd, ["a"], fn_mk F sc_square (by decide) fun cdv Ar outer sh Hh Ee B hr ts t hd _ => ?_, Z.g_square, F.kp, FunD.bindsN F fun _ _ _ _ _ _ us hl => match us, hl with | [_], _ => rfl⟩
  obtain ⟨a, rfl, rfl, ha⟩ := hd
  have m1 := bt_cmul ha.1 ha.1 (by decide)
  have m2 := bt_cmul ha.2 ha.2 (by decide)
  refine hj_ifr (bj_ge (ej_ixT (ej_v 0) ej_int) ej_int) (fun h => ?_) fun h => ?_
  · have e : iSqr a = (a.1 * a.1, a.2 * a.2) := if_pos (of_decide_eq_true h)
    rw [e]
    exact hj_ret (ej_tup (aj_cons (ej_mul (ej_ixT (ej_v 0) ej_int) (ej_ixT (ej_v 0) ej_int) m1) (aj_cons (ej_mul (ej_ixT (ej_v 0) ej_int) (ej_ixT (ej_v 0) ej_int) m2) aj_nil))) (fun _ _ h => h)
  refine hj_ifr (bj_le (ej_ixT (ej_v 0) ej_int) ej_int) (fun h2 => ?_) fun h2 => ?_
  · have e : iSqr a = (a.2 * a.2, a.1 * a.1) := (if_neg (of_decide_eq_false h)).trans (if_pos (of_decide_eq_true h2))
    rw [e]
    exact hj_ret (ej_tup (aj_cons (ej_mul (ej_ixT (ej_v 0) ej_int) (ej_ixT (ej_v 0) ej_int) m2) (aj_cons (ej_mul (ej_ixT (ej_v 0) ej_int) (ej_ixT (ej_v 0) ej_int) m1) aj_nil))) (fun _ _ h => h)
  have e : iSqr a = (0, max (a.1 * a.1) (a.2 * a.2)) := (if_neg (of_decide_eq_false h)).trans (if_neg (of_decide_eq_false h2))
  rw [e]
  exact hj_ret (ej_tup (aj_cons ej_int (aj_cons (ej_callB (call_max2 B.calm) Z.«max» (by decide +kernel) (aj_cons (ej_mul (ej_ixT (ej_v 0) ej_int) (ej_ixT (ej_v 0) ej_int) m1) (aj_cons (ej_mul (ej_ixT (ej_v 0) ej_int) (ej_ixT (ej_v 0) ej_int) m2) aj_nil)) rok_max2) aj_nil))) (fun _ _ h => h)
theorem sc_quotient : FnScope ["a", "d", "low"] ["a", "d"] Hd.d_quotient.scope := ⟨rfl, rfl, rfl, by decide +kernel, rfl, by decide +kernel, by decide +kernel⟩
def dom_quotient : Dom K := fun ts t => ∃ a d : Iv, ts = [iv a, iv d] ∧ t = iv (iQuo a d) ∧ 0 < d.1 ∧ 0 < d.2 ∧ IB 8000 d
theorem fn_quotient (Z : Tp K mg) : Fn P w K mg base "quotient" 1 2 (dom_quotient (K := K)) := by
  obtain ⟨fd, F⟩ := Z.f_quotient
  refine ⟨_, fd, ["a", "d"], fn_mk F sc_quotient (by decide) fun cdv Ar outer sh Hh Ee B hr ts t hd _ => ?_, Z.g_quotient, F.kp, FunD.bindsN F fun _ _ _ _ _ _ us hl => match us, hl with | [_, _], _ => rfl⟩
  obtain ⟨a, d, rfl, rfl, h1, h2, hd⟩ := hd
  have q1 : ∀ z, CDivW z d.1 := fun z => bt_cdiv h1 hd.1 (by decide)
  have q2 : ∀ z, CDivW z d.2 := fun z => bt_cdiv h2 hd.2 (by decide)
  refine hj_set B 2 (ej_callB (call_min2 B.calm) Z.«min» (by decide +kernel) (aj_cons (ej_div (ej_ixT (ej_v 0) ej_int) (ej_ixT (ej_v 1) ej_int) (q1 _)) (aj_cons (ej_div (ej_ixT (ej_v 0) ej_int) (ej_ixT (ej_v 1) ej_int) (q2 _)) aj_nil)) rok_min2) ?_
  exact hj_ret (ej_tup (aj_cons (ej_v 2) (aj_cons (ej_callB (call_max2 B.calm) Z.«max» (by decide +kernel) (aj_cons (ej_div (ej_ixT (ej_v 0) ej_int) (ej_ixT (ej_v 1) ej_int) (q1 _)) (aj_cons (ej_div (ej_ixT (ej_v 0) ej_int) (ej_ixT (ej_v 1) ej_int) (q2 _)) aj_nil)) rok_max2) aj_nil))) (fun _ _ h => h)
theorem sc_root : FnScope ["a"] ["a"] Hd.d_root.scope := ⟨rfl, rfl, rfl, by decide +kernel, rfl, by decide +kernel, by decide +kernel⟩
def dom_root : Dom K := fun ts t => ∃ a : Iv, ts = [iv a] ∧ t = iv (iRoot a) ∧ 0 ≤ a.2 ∧ IB 8000 a
theorem fn_root (Z : Tp K mg) : Fn P w K mg base "root" 1 1 (dom_root (K := K)) := by
  obtain ⟨fd, F⟩ := Z.f_root
  refine ⟨_, fd, ["a"], fn_mk F sc_root (by decide) fun cdv Ar outer sh Hh Ee B hr ts t hd _ => ?_, Z.g_root, F.kp, FunD.bindsN F fun _ _ _ _ _ _ us hl => match us, hl with | [_], _ => rfl⟩
  obtain ⟨a, rfl, rfl, h0, ha⟩ := hd
  exact hj_ret (ej_tup (aj_cons (ej_isqrt Z.isq (ej_callB (call_max2 B.calm) Z.«max» (by decide +kernel) (aj_cons (ej_ixT (ej_v 0) ej_int) (aj_cons ej_int aj_nil)) rok_max2) (by omega) (Nat.lt_of_le_of_lt (bt_log (ha.1.max .zero)) (by decide))) (aj_cons (ej_isqrt Z.isq (ej_ixT (ej_v 0) ej_int) h0 (Nat.lt_of_le_of_lt (bt_log ha.2) (by decide))) aj_nil))) (fun _ _ h => h)
theorem sc_meet : FnScope ["a", "b", "low", "high"] ["a", "b"] Hd.d_meet.scope := ⟨rfl, rfl, rfl, by decide +kernel, rfl, by decide +kernel, by decide +kernel⟩
def dom_meet : Dom K := fun ts t => ∃ a b : Iv, ts = [iv a, iv b] ∧ t = tO iv (iMeet a b)
theorem fn_meet (Z : Tp K mg) : Fn P w K mg base "meet" 1 2 (dom_meet (K := K)) := by
  obtain ⟨fd, F⟩ := Z.f_meet
  refine ⟨_, fd, ["a", "b"], fn_mk F sc_meet (by decide) fun cdv Ar outer sh Hh Ee B hr ts t hd _ => ?_, Z.g_meet, F.kp, FunD.bindsN F fun _ _ _ _ _ _ us hl => match us, hl with | [_, _], _ => rfl⟩
  obtain ⟨a, b, rfl, rfl⟩ := hd
  refine hj_set B 2 (ej_callB (call_max2 B.calm) Z.«max» (by decide +kernel) (aj_cons (ej_ixT (ej_v 0) ej_int) (aj_cons (ej_ixT (ej_v 1) ej_int) aj_nil)) rok_max2) ?_
  refine hj_set B 3 (ej_callB (call_min2 B.calm) Z.«min» (by decide +kernel) (aj_cons (ej_ixT (ej_v 0) ej_int) (aj_cons (ej_ixT (ej_v 1) ej_int) aj_nil)) rok_min2) ?_
  refine hj_ifr (bj_gt (ej_v 2) (ej_v 3)) (fun h => ?_) fun h => ?_
  · have e : iMeet a b = none := if_pos (of_decide_eq_true h)
    rw [e]
    exact hj_ret ej_non (fun _ _ h => h)
  have e : iMeet a b = some (max a.1 b.1, min a.2 b.2) := if_neg (of_decide_eq_false h)
  rw [e]
  exact hj_ret (ej_tup (aj_cons (ej_v 2) (aj_cons (ej_v 3) aj_nil))) (fun _ _ h => h)
theorem sc_hull : FnScope ["a", "b"] ["a", "b"] Hd.d_hull.scope := ⟨rfl, rfl, rfl, by decide +kernel, rfl, by decide +kernel, by decide +kernel⟩
def dom_hull : Dom K := fun ts t => ∃ a b : Iv, ts = [iv a, iv b] ∧ t = iv (iHull a b)
theorem fn_hull (Z : Tp K mg) : Fn P w K mg base "hull" 1 2 (dom_hull (K := K)) := by
  obtain ⟨fd, F⟩ := Z.f_hull
  refine ⟨_, fd, ["a", "b"], fn_mk F sc_hull (by decide) fun cdv Ar outer sh Hh Ee B hr ts t hd _ => ?_, Z.g_hull, F.kp, FunD.bindsN F fun _ _ _ _ _ _ us hl => match us, hl with | [_, _], _ => rfl⟩
  obtain ⟨a, b, rfl, rfl⟩ := hd
  exact hj_ret (ej_tup (aj_cons (ej_callB (call_min2 B.calm) Z.«min» (by decide +kernel) (aj_cons (ej_ixT (ej_v 0) ej_int) (aj_cons (ej_ixT (ej_v 1) ej_int) aj_nil)) rok_min2) (aj_cons (ej_callB (call_max2 B.calm) Z.«max» (by decide +kernel) (aj_cons (ej_ixT (ej_v 0) ej_int) (aj_cons (ej_ixT (ej_v 1) ej_int) aj_nil)) rok_max2) aj_nil))) (fun _ _ h => h)
theorem sc_widened : FnScope ["a", "w"] ["a", "w"] Hd.d_widened.scope := ⟨rfl, rfl, rfl, by decide +kernel, rfl, by decide +kernel, by decide +kernel⟩
def dom_widened : Dom K := fun ts t => ∃ (a : Iv) (z : Int), ts = [iv a, tI z] ∧ t = iv (iWid a z)
theorem fn_widened (Z : Tp K mg) : Fn P w K mg base "widened" 1 2 (dom_widened (K := K)) := by
  obtain ⟨fd, F⟩ := Z.f_widened
  refine ⟨_, fd, ["a", "w"], fn_mk F sc_widened (by decide) fun cdv Ar outer sh Hh Ee B hr ts t hd _ => ?_, Z.g_widened, F.kp, FunD.bindsN F fun _ _ _ _ _ _ us hl => match us, hl with | [_, _], _ => rfl⟩
  obtain ⟨a, z, rfl, rfl⟩ := hd
  exact hj_ret (ej_tup (aj_cons (ej_sub (ej_ixT (ej_v 0) ej_int) (ej_v 1)) (aj_cons (ej_add (ej_ixT (ej_v 0) ej_int) (ej_v 1)) aj_nil))) (fun _ _ h => h)
theorem sc_middle : FnScope ["a"] ["a"] Hd.d_middle.scope := ⟨rfl, rfl, rfl, by decide +kernel, rfl, by decide +kernel, by decide +kernel⟩
def dom_middle : Dom K := fun ts t => ∃ a : Iv, ts = [iv a] ∧ t = tI (iMid a)
theorem fn_middle (Z : Tp K mg) : Fn P w K mg base "middle" 1 1 (dom_middle (K := K)) := by
  obtain ⟨fd, F⟩ := Z.f_middle
  refine ⟨_, fd, ["a"], fn_mk F sc_middle (by decide) fun cdv Ar outer sh Hh Ee B hr ts t hd _ => ?_, Z.g_middle, F.kp, FunD.bindsN F fun _ _ _ _ _ _ us hl => match us, hl with | [_], _ => rfl⟩
  obtain ⟨a, rfl, rfl⟩ := hd
  exact hj_ret (ej_div (ej_add (ej_ixT (ej_v 0) ej_int) (ej_ixT (ej_v 0) ej_int)) ej_int ⟨by decide, by decide⟩) (fun _ _ h => h)
theorem sc_width : FnScope ["a"] ["a"] Hd.d_width.scope := ⟨rfl, rfl, rfl, by decide +kernel, rfl, by decide +kernel, by decide +kernel⟩
def dom_width : Dom K := fun ts t => ∃ a : Iv, ts = [iv a] ∧ t = tI (iWidth a)
theorem fn_width (Z : Tp K mg) : Fn P w K mg base "width" 1 1 (dom_width (K := K)) := by
  obtain ⟨fd, F⟩ := Z.f_width
  refine ⟨_, fd, ["a"], fn_mk F sc_width (by decide) fun cdv Ar outer sh Hh Ee B hr ts t hd _ => ?_, Z.g_width, F.kp, FunD.bindsN F fun _ _ _ _ _ _ us hl => match us, hl with | [_], _ => rfl⟩
  obtain ⟨a, rfl, rfl⟩ := hd
  exact hj_ret (ej_sub (ej_ixT (ej_v 0) ej_int) (ej_ixT (ej_v 0) ej_int)) (fun _ _ h => h)
theorem sc_size : FnScope ["a"] ["a"] Hd.d_size.scope := ⟨rfl, rfl, rfl, by decide +kernel, rfl, by decide +kernel, by decide +kernel⟩
def dom_size : Dom K := fun ts t => ∃ a : Iv, ts = [iv a] ∧ t = tI (iSize a)
theorem fn_size (Z : Tp K mg) : Fn P w K mg base "size" 1 1 (dom_size (K := K)) := by
  obtain ⟨fd, F⟩ := Z.f_size
  refine ⟨_, fd, ["a"], fn_mk F sc_size (by decide) fun cdv Ar outer sh Hh Ee B hr ts t hd _ => ?_, Z.g_size, F.kp, FunD.bindsN F fun _ _ _ _ _ _ us hl => match us, hl with | [_], _ => rfl⟩
  obtain ⟨a, rfl, rfl⟩ := hd
  exact hj_ret (ej_callB (call_max2 B.calm) Z.«max» (by decide +kernel) (aj_cons (ej_callB call_abs Z.abs (by decide +kernel) (aj_cons (ej_ixT (ej_v 0) ej_int) aj_nil) rok_abs) (aj_cons (ej_callB call_abs Z.abs (by decide +kernel) (aj_cons (ej_ixT (ej_v 0) ej_int) aj_nil) rok_abs) aj_nil)) rok_max2) (fun _ _ h => h)
end
end T
end
section
set_option Elab.async false
set_option linter.all false
set_option maxRecDepth 100000
set_option maxHeartbeats 4000000
namespace T
open PySem PySem.Spec PyProof.Rows L2 M
section
variable {P : Program} {w : World} {K : PySem.W.Frag} {mg : Str → Option Value} {base : Heap}
theorem sc_box_add : FnScope ["a", "b"] ["a", "b"] Hd.d_box_add.scope := ⟨rfl, rfl, rfl, by decide +kernel, rfl, by decide +kernel, by decide +kernel⟩
def dom_box_add : Dom K := fun ts t => ∃ a b : Bx, ts = [bx a, bx b] ∧ t = bx (bAdd a b)
theorem fn_box_add (Z : Tp K mg) : Fn P w K mg base "box_add" 2 2 (dom_box_add (K := K)) := by
  obtain ⟨fd, F⟩ := Z.f_box_add
  refine ⟨_, fd, ["a", "b"], fn_mk F sc_box_add (by decide) fun cdv Ar outer sh Hh Ee B hr ts t hd _ => ?_, Z.g_box_add, F.kp, FunD.bindsN F fun _ _ _ _ _ _ us hl => match us, hl with | [_, _], _ => rfl⟩
  obtain ⟨a, b, rfl, rfl⟩ := hd
  exact hj_ret (ej_tup (aj_cons (ej_call (fn_add Z) (hr.mono (by decide)) (aj_cons (ej_ixT (ej_v 0) ej_int) (aj_cons (ej_ixT (ej_v 1) ej_int) aj_nil)) ⟨_, _, rfl, rfl⟩) (aj_cons (ej_call (fn_add Z) (hr.mono (by decide)) (aj_cons (ej_ixT (ej_v 0) ej_int) (aj_cons (ej_ixT (ej_v 1) ej_int) aj_nil)) ⟨_, _, rfl, rfl⟩) (aj_cons (ej_call (fn_add Z) (hr.mono (by decide)) (aj_cons (ej_ixT (ej_v 0) ej_int) (aj_cons (ej_ixT (ej_v 1) ej_int) aj_nil)) ⟨_, _, rfl, rfl⟩) aj_nil)))) (fun _ _ h => h)
theorem sc_box_subtract : FnScope ["a", "b"] ["a", "b"] Hd.d_box_subtract.scope := ⟨rfl, rfl, rfl, by decide +kernel, rfl, by decide +kernel, by decide +kernel⟩
def dom_box_subtract : Dom K := fun ts t => ∃ a b : Bx, ts = [bx a, bx b] ∧ t = bx (bSub a b)
theorem fn_box_subtract (Z : Tp K mg) : Fn P w K mg base "box_subtract" 2 2 (dom_box_subtract (K := K)) := by
  obtain ⟨fd, F⟩ := Z.f_box_subtract
  refine ⟨_, fd, ["a", "b"], fn_mk F sc_box_subtract (by decide) fun cdv Ar outer sh Hh Ee B hr ts t hd _ => ?_, Z.g_box_subtract, F.kp, FunD.bindsN F fun _ _ _ _ _ _ us hl => match us, hl with | [_, _], _ => rfl⟩
  obtain ⟨a, b, rfl, rfl⟩ := hd
  exact hj_ret (ej_tup (aj_cons (ej_call (fn_subtract Z) (hr.mono (by decide)) (aj_cons (ej_ixT (ej_v 0) ej_int) (aj_cons (ej_ixT (ej_v 1) ej_int) aj_nil)) ⟨_, _, rfl, rfl⟩) (aj_cons (ej_call (fn_subtract Z) (hr.mono (by decide)) (aj_cons (ej_ixT (ej_v 0) ej_int) (aj_cons (ej_ixT (ej_v 1) ej_int) aj_nil)) ⟨_, _, rfl, rfl⟩) (aj_cons (ej_call (fn_subtract Z) (hr.mono (by decide)) (aj_cons (ej_ixT (ej_v 0) ej_int) (aj_cons (ej_ixT (ej_v 1) ej_int) aj_nil)) ⟨_, _, rfl, rfl⟩) aj_nil)))) (fun _ _ h => h)
theorem sc_box_widened : FnScope ["a", "w"] ["a", "w"] Hd.d_box_widened.scope := ⟨rfl, rfl, rfl, by decide +kernel, rfl, by decide +kernel, by decide +kernel⟩
def dom_box_widened : Dom K := fun ts t => ∃ (a : Bx) (z : Int), ts = [bx a, tI z] ∧ t = bx (bWid a z)
theorem fn_box_widened (Z : Tp K mg) : Fn P w K mg base "box_widened" 2 2 (dom_box_widened (K := K)) := by
  obtain ⟨fd, F⟩ := Z.f_box_widened
  refine ⟨_, fd, ["a", "w"], fn_mk F sc_box_widened (by decide) fun cdv Ar outer sh Hh Ee B hr ts t hd _ => ?_, Z.g_box_widened, F.kp, FunD.bindsN F fun _ _ _ _ _ _ us hl => match us, hl with | [_, _], _ => rfl⟩
  obtain ⟨a, z, rfl, rfl⟩ := hd
  exact hj_ret (ej_tup (aj_cons (ej_call (fn_widened Z) (hr.mono (by decide)) (aj_cons (ej_ixT (ej_v 0) ej_int) (aj_cons (ej_v 1) aj_nil)) ⟨_, _, rfl, rfl⟩) (aj_cons (ej_call (fn_widened Z) (hr.mono (by decide)) (aj_cons (ej_ixT (ej_v 0) ej_int) (aj_cons (ej_v 1) aj_nil)) ⟨_, _, rfl, rfl⟩) (aj_cons (ej_call (fn_widened Z) (hr.mono (by decide)) (aj_cons (ej_ixT (ej_v 0) ej_int) (aj_cons (ej_v 1) aj_nil)) ⟨_, _, rfl, rfl⟩) aj_nil)))) (fun _ _ h => h)
theorem sc_box_meet : FnScope ["a", "b", "x", "y", "z"] ["a", "b"] Hd.d_box_meet.scope := ⟨rfl, rfl, rfl, by decide +kernel, rfl, by decide +kernel, by decide +kernel⟩
def dom_box_meet : Dom K := fun ts t => ∃ a b : Bx, ts = [bx a, bx b] ∧ t = tO bx (bMeet a b)
theorem fn_box_meet (Z : Tp K mg) : Fn P w K mg base "box_meet" 2 2 (dom_box_meet (K := K)) := by
  obtain ⟨fd, F⟩ := Z.f_box_meet
  refine ⟨_, fd, ["a", "b"], fn_mk F sc_box_meet (by decide) fun cdv Ar outer sh Hh Ee B hr ts t hd _ => ?_, Z.g_box_meet, F.kp, FunD.bindsN F fun _ _ _ _ _ _ us hl => match us, hl with | [_, _], _ => rfl⟩
  obtain ⟨a, b, rfl, rfl⟩ := hd
  refine hj_set B 2 (ej_call (fn_meet Z) (hr.mono (by decide)) (aj_cons (ej_ixT (ej_v 0) ej_int) (aj_cons (ej_ixT (ej_v 1) ej_int) aj_nil)) ⟨_, _, rfl, rfl⟩) ?_
  refine hj_set B 3 (ej_call (fn_meet Z) (hr.mono (by decide)) (aj_cons (ej_ixT (ej_v 0) ej_int) (aj_cons (ej_ixT (ej_v 1) ej_int) aj_nil)) ⟨_, _, rfl, rfl⟩) ?_
  refine hj_set B 4 (ej_call (fn_meet Z) (hr.mono (by decide)) (aj_cons (ej_ixT (ej_v 0) ej_int) (aj_cons (ej_ixT (ej_v 1) ej_int) aj_nil)) ⟨_, _, rfl, rfl⟩) ?_
  refine hj_ifr (wj_bj (wj_or (bj_isN (ej_v 2) ej_non (nonIs_O (fun _ => nonIs_T) _)) fun h => (wj_or (bj_isN (ej_v 3) ej_non (nonIs_O (fun _ => nonIs_T) _)) fun h => (wj_or1 (bj_isN (ej_v 4) ej_non (nonIs_O (fun _ => nonIs_T) _)))))) (fun h => ?_) fun h => ?_
  · have e : bMeet a b = none := by
      unfold bMeet
      cases hx : iMeet a.1 b.1 with
      | none => rfl
      | some x =>
        cases hy : iMeet a.2.1 b.2.1 with
        | none => rfl
        | some y =>
          cases hz : iMeet a.2.2 b.2.2 with
          | none => rfl
          | some z =>
            rw [hx, hy, hz] at h
            cases h
    rw [e]
    exact hj_ret ej_non (fun _ _ h => h)
  cases hx : iMeet a.1 b.1 with
  | none =>
    rw [hx] at h
    cases h
  | some x =>
    cases hy : iMeet a.2.1 b.2.1 with
    | none =>
      rw [hx, hy] at h
      cases h
    | some y =>
      cases hz : iMeet a.2.2 b.2.2 with
      | none =>
        rw [hx, hy, hz] at h
        cases h
      | some z =>
        have e : bMeet a b = some (x, y, z) := by
          unfold bMeet
          rw [hx, hy, hz]
        rw [e]
        exact hj_ret (ej_tup (aj_cons (ej_v 2) (aj_cons (ej_v 3) (aj_cons (ej_v 4) aj_nil)))) (fun _ _ h => h)
theorem sc_square_length : FnScope ["box"] ["box"] Hd.d_square_length.scope := ⟨rfl, rfl, rfl, by decide +kernel, rfl, by decide +kernel, by decide +kernel⟩
def dom_square_length : Dom K := fun ts t => ∃ b : Bx, ts = [bx b] ∧ t = iv (sqLen b) ∧ BB 400000 b
theorem fn_square_length (Z : Tp K mg) : Fn P w K mg base "square_length" 2 1 (dom_square_length (K := K)) := by
  obtain ⟨fd, F⟩ := Z.f_square_length
  refine ⟨_, fd, ["box"], fn_mk F sc_square_length (by decide) fun cdv Ar outer sh Hh Ee B hr ts t hd _ => ?_, Z.g_square_length, F.kp, FunD.bindsN F fun _ _ _ _ _ _ us hl => match us, hl with | [_], _ => rfl⟩
  obtain ⟨b, rfl, rfl, hb⟩ := hd
  exact hj_ret (ej_call (fn_add Z) (hr.mono (by decide)) (aj_cons (ej_call (fn_add Z) (hr.mono (by decide)) (aj_cons (ej_call (fn_square Z) (hr.mono (by decide)) (aj_cons (ej_ixT (ej_v 0) ej_int) aj_nil) ⟨_, rfl, rfl, hb.1⟩) (aj_cons (ej_call (fn_square Z) (hr.mono (by decide)) (aj_cons (ej_ixT (ej_v 0) ej_int) aj_nil) ⟨_, rfl, rfl, hb.2.1⟩) aj_nil)) ⟨_, _, rfl, rfl⟩) (aj_cons (ej_call (fn_square Z) (hr.mono (by decide)) (aj_cons (ej_ixT (ej_v 0) ej_int) aj_nil) ⟨_, rfl, rfl, hb.2.2⟩) aj_nil)) ⟨_, _, rfl, rfl⟩) (fun _ _ h => h)
theorem sc_box_size : FnScope ["box"] ["box"] Hd.d_box_size.scope := ⟨rfl, rfl, rfl, by decide +kernel, rfl, by decide +kernel, by decide +kernel⟩
def dom_box_size : Dom K := fun ts t => ∃ b : Bx, ts = [bx b] ∧ t = tI (bSize b)
theorem fn_box_size (Z : Tp K mg) : Fn P w K mg base "box_size" 2 1 (dom_box_size (K := K)) := by
  obtain ⟨fd, F⟩ := Z.f_box_size
  refine ⟨_, fd, ["box"], fn_mk F sc_box_size (by decide) fun cdv Ar outer sh Hh Ee B hr ts t hd _ => ?_, Z.g_box_size, F.kp, FunD.bindsN F fun _ _ _ _ _ _ us hl => match us, hl with | [_], _ => rfl⟩
  obtain ⟨b, rfl, rfl⟩ := hd
  exact hj_ret (ej_callB (call_max3 B.calm) Z.«max» (by decide +kernel) (aj_cons (ej_call (fn_size Z) (hr.mono (by decide)) (aj_cons (ej_ixT (ej_v 0) ej_int) aj_nil) ⟨_, rfl, rfl⟩) (aj_cons (ej_call (fn_size Z) (hr.mono (by decide)) (aj_cons (ej_ixT (ej_v 0) ej_int) aj_nil) ⟨_, rfl, rfl⟩) (aj_cons (ej_call (fn_size Z) (hr.mono (by decide)) (aj_cons (ej_ixT (ej_v 0) ej_int) aj_nil) ⟨_, rfl, rfl⟩) aj_nil))) rok_max3) (fun _ _ h => h)
theorem sc_pull_over : FnScope ["body", "box", "s", "d", "e", "height", "pulls", "k", "main", "bulge", "more"] ["body", "box"] Hd.d_pull_over.scope := ⟨rfl, rfl, rfl, by decide +kernel, rfl, by decide +kernel, by decide +kernel⟩
def dom_pull_over : Dom K := fun ts t => ∃ (mu ob : Int) (b : Bx), ts = [bod mu ob, bx b] ∧ t = tO bx (pullO mu ob b) ∧ BB 134 b ∧ BV b ∧ Bt 100 mu ∧ Bt 100 ob
theorem fn_pull_over (Z : Tp K mg) : Fn P w K mg base "pull_over" 3 2 (dom_pull_over (K := K)) := by
  obtain ⟨fd, F⟩ := Z.f_pull_over
  refine ⟨_, fd, ["body", "box"], fn_mk F sc_pull_over (by decide) fun cdv Ar outer sh Hh Ee B hr ts t hd _ => ?_, Z.g_pull_over, F.kp, FunD.bindsN F fun _ _ _ _ _ _ us hl => match us, hl with | [_, _], _ => rfl⟩
  obtain ⟨mu, ob, b, rfl, rfl, hb, hv, hm, ho⟩ := hd
  have hs : IB 270 (sqLen b) := hb.len
  refine hj_set B 2 (ej_call (fn_square_length Z) (hr.mono (by decide)) (aj_cons (ej_v 1) aj_nil) ⟨_, rfl, rfl, hb.mono (by decide)⟩) ?_
  refine hj_ifr (bj_eq (ej_ixT (ej_v 2) ej_int) ej_int) (fun h => ?_) fun h => ?_
  · have e : pullO mu ob b = none := if_pos (of_decide_eq_true h)
    rw [e]
    exact hj_ret ej_non (fun _ _ h => h)
  have hp : IP (sqLen b) := sqLen_p hv (of_decide_eq_false h)
  have hr0 : IB 270 (iRoot (sqLen b)) := iRoot_b hs (Int.le_of_lt hp.2)
  have hd : IB 540 (iMul (sqLen b) (iRoot (sqLen b))) := hs.mul hr0
  have hdp := hp.mul hp.root
  have he : IB 1080 (iMul (iMul (sqLen b) (sqLen b)) (iMul (sqLen b) (iRoot (sqLen b)))) := (hs.mul hs).mul hd
  have hep := (hp.mul hp).mul hdp
  have hh : IB 272 (iScl (iSqr b.2.2) 5) := hb.2.2.sqr.scl (m := 4) (by show (5 : Int).natAbs < 2 ^ 4; decide)
  refine hj_set B 3 (ej_call (fn_multiply Z) (hr.mono (by decide)) (aj_cons (ej_v 2) (aj_cons (ej_call (fn_root Z) (hr.mono (by decide)) (aj_cons (ej_v 2) aj_nil) ⟨_, rfl, rfl, Int.le_of_lt hp.2, hs.mono (by decide)⟩) aj_nil)) ⟨_, _, rfl, rfl, hs.mono (by decide), hr0.mono (by decide)⟩) ?_
  refine hj_set B 4 (ej_call (fn_multiply Z) (hr.mono (by decide)) (aj_cons (ej_call (fn_multiply Z) (hr.mono (by decide)) (aj_cons (ej_v 2) (aj_cons (ej_v 2) aj_nil)) ⟨_, _, rfl, rfl, hs.mono (by decide), hs.mono (by decide)⟩) (aj_cons (ej_v 3) aj_nil)) ⟨_, _, rfl, rfl, (hs.mul hs).mono (by decide), hd.mono (by decide)⟩) ?_
  refine hj_set B 5 (ej_call (fn_scaled Z) (hr.mono (by decide)) (aj_cons (ej_call (fn_square Z) (hr.mono (by decide)) (aj_cons (ej_ixT (ej_v 1) ej_int) aj_nil) ⟨_, rfl, rfl, hb.2.2.mono (by decide)⟩) (aj_cons ej_int aj_nil)) ⟨_, _, rfl, rfl, hb.2.2.sqr.mono (by decide), (show Bt 4 5 by show (5 : Int).natAbs < 2 ^ 4; decide).mono (by decide)⟩) ?_
  refine hj_ownL B 6 aj_nil ?_
  refine hj_forF B (ij_r1 Z.range ej_int (by decide) (by decide)) (n := 3) (fun i => [some (bod mu ob), some (bx b), some (iv (sqLen b)), some (iv (iMul (sqLen b) (iRoot (sqLen b)))), some (iv (iMul (iMul (sqLen b) (sqLen b)) (iMul (sqLen b) (iRoot (sqLen b))))), some (iv (iScl (iSqr b.2.2) 5)), none, none, none, none, none]) (fun i => some (6, oL (([pullC mu ob b b.1 1, pullC mu ob b b.2.1 1, pullC mu ob b b.2.2 3].take i).map iv))) Le.refl (fun i t ht => ?_) ?_ rngT_len
  · obtain ⟨hi, rfl⟩ := rngT_get ht
    obtain ⟨c, k, hc, hk, hl, hk3, hc1⟩ : ∃ (c : Iv) (k : Int), atI [iv (K := K) b.1, iv b.2.1, iv b.2.2] (0 + (i : Nat)) = some (iv c) ∧ atI [tI (K := K) 1, tI 1, tI 3] (0 + (i : Nat)) = some (tI k) ∧ ([pullC mu ob b b.1 1, pullC mu ob b b.2.1 1, pullC mu ob b b.2.2 3])[i]? = some (pullC mu ob b c k) ∧ Bt 3 k ∧ IB 134 c := by
      match i, hi with
      | 0, _ => exact ⟨b.1, 1, rfl, rfl, rfl, (by show (1 : Int).natAbs < 2 ^ 3; decide), hb.1⟩
      | 1, _ => exact ⟨b.2.1, 1, rfl, rfl, rfl, (by show (1 : Int).natAbs < 2 ^ 3; decide), hb.2.1⟩
      | 2, _ => exact ⟨b.2.2, 3, rfl, rfl, rfl, (by show (3 : Int).natAbs < 2 ^ 3; decide), hb.2.2⟩
    have hin : IB 275 (iSub (iScl (iSqr b.2.2) 5) (iScl (sqLen b) k)) := (hh.mono (by decide)).sub ((hs.scl hk3).mono (by decide))
    have hbu : IB 409 (iMul c (iSub (iScl (iSqr b.2.2) 5) (iScl (sqLen b) k))) := hc1.mul hin
    refine hb_name B 7 ?_
    refine hj_set B 8 (ej_call (fn_quotient Z) (hr.mono (by decide)) (aj_cons (ej_call (fn_scaled Z) (hr.mono (by decide)) (aj_cons (ej_ixT (ej_v 1) (ej_v 7) hc) (aj_cons (ej_neg (ej_fld Z.cl_Body Z.na_Body_mu (ej_v 0))) aj_nil)) ⟨_, _, rfl, rfl, hc1.mono (by decide), hm.neg.mono (by decide)⟩) (aj_cons (ej_v 3) aj_nil)) ⟨_, _, rfl, rfl, hdp.1, hdp.2, hd.mono (by decide)⟩) ?_
    refine hj_set B 9 (ej_call (fn_multiply Z) (hr.mono (by decide)) (aj_cons (ej_ixT (ej_v 1) (ej_v 7) hc) (aj_cons (ej_call (fn_subtract Z) (hr.mono (by decide)) (aj_cons (ej_v 5) (aj_cons (ej_call (fn_scaled Z) (hr.mono (by decide)) (aj_cons (ej_v 2) (aj_cons (ej_ixT (ej_FACTORS Z) (ej_v 7) hk) aj_nil)) ⟨_, _, rfl, rfl, hs.mono (by decide), hk3.mono (by decide)⟩) aj_nil)) ⟨_, _, rfl, rfl⟩) aj_nil)) ⟨_, _, rfl, rfl, hc1.mono (by decide), hin.mono (by decide)⟩) ?_
    refine hj_set B 10 (ej_call (fn_quotient Z) (hr.mono (by decide)) (aj_cons (ej_call (fn_scaled Z) (hr.mono (by decide)) (aj_cons (ej_v 9) (aj_cons (ej_fld Z.cl_Body Z.na_Body_oblateness (ej_v 0)) aj_nil)) ⟨_, _, rfl, rfl, hbu.mono (by decide), ho.mono (by decide)⟩) (aj_cons (ej_v 4) aj_nil)) ⟨_, _, rfl, rfl, hep.1, hep.2, he.mono (by decide)⟩) ?_
    refine hj_app 6 (ej_call (fn_add Z) (hr.mono (by decide)) (aj_cons (ej_v 8) (aj_cons (ej_v 10) aj_nil)) ⟨_, _, rfl, rfl⟩) ?_ (by rw [List.length_map, List.length_take]; exact Nat.lt_of_le_of_lt (Nat.min_le_right _ _) (by show 3 < 100000; omega))
    exact hj_endL (take_map hl)
  have e : pullO mu ob b = some (pullC mu ob b b.1 1, pullC mu ob b b.2.1 1, pullC mu ob b b.2.2 3) := if_neg (of_decide_eq_false h)
  rw [e]
  exact hj_ret (ej_tup (aj_cons (ej_ixO ej_int) (aj_cons (ej_ixO ej_int) (aj_cons (ej_ixO ej_int) aj_nil)))) (fun _ _ h => h)
end
end T
end
section
set_option Elab.async false
set_option linter.all false
set_option maxRecDepth 100000
set_option maxHeartbeats 4000000
namespace T
open PySem PySem.Spec PyProof.Rows L2 M
section
variable {P : Program} {w : World} {K : PySem.W.Frag} {mg : Str → Option Value} {base : Heap}
theorem sc_push_at : FnScope ["craft", "at", "burn"] ["craft", "at"] Hd.d_push_at.scope := ⟨rfl, rfl, rfl, by decide +kernel, rfl, by decide +kernel, by decide +kernel⟩
def dom_push_at : Dom K := fun ts t => ∃ (c : Cr) (z : Int), ts = [cr c, tI z] ∧ t = bx (pushAt c.burns z)
theorem fn_push_at (Z : Tp K mg) : Fn P w K mg base "push_at" 1 2 (dom_push_at (K := K)) := by
  obtain ⟨fd, F⟩ := Z.f_push_at
  refine ⟨_, fd, ["craft", "at"], fn_mk F sc_push_at (by decide) fun cdv Ar outer sh Hh Ee B hr ts t hd _ => ?_, Z.g_push_at, F.kp, FunD.bindsN F fun _ _ _ _ _ _ us hl => match us, hl with | [_, _], _ => rfl⟩
  obtain ⟨c, z, rfl, rfl⟩ := hd
  refine hj_forE B (ij_T (ej_fld Z.cl_Craft Z.na_Craft_burns (ej_v 0))) (n := c.burns.length) (δ := Unit) (fun i _ => pushAt c.burns z = pushAt (c.burns.drop i) z) (fun _ _ => [some (cr c), some (tI z), none]) (fun _ _ => none) () rfl Le.refl (fun i t _ ht hφ => ?_) (fun _ hφ => ?_) (by rw [List.length_map])
  · obtain ⟨b, hb, rfl⟩ := map_get ht
    have hd : c.burns.drop i = b :: c.burns.drop (i + 1) := by
      obtain ⟨h1, h2⟩ := List.getElem?_eq_some_iff.mp hb
      rw [← h2]
      exact List.drop_eq_getElem_cons h1
    refine hb_name B 2 ?_
    refine hj_ifr (bj_ch2 op_le op_lt (ej_fld Z.cl_Burn Z.na_Burn_begin (ej_v 2)) (ej_v 1) (ej_fld Z.cl_Burn Z.na_Burn_end (ej_v 2))) (fun h => ?_) fun h => ?_
    · have e : pushAt c.burns z = b.p := by
        rw [hφ, hd]
        rw [Bool.and_eq_true, decide_eq_true_eq, decide_eq_true_eq] at h
        exact if_pos h
      rw [e]
      exact hj_ret (ej_fld Z.cl_Burn Z.na_Burn_push (ej_v 2)) (fun _ _ h => h)
    · refine hj_end (hM := le_ex () ?_ Le.refl)
      rw [hφ, hd]
      refine if_neg fun q => ?_
      have q2 : (decide (b.b ≤ z) && decide (z < b.e)) = true := by rw [Bool.and_eq_true, decide_eq_true_eq, decide_eq_true_eq]; exact q
      rw [q2] at h
      cases h
  · have e : pushAt c.burns z = zeroB := by
      rw [hφ, List.drop_of_length_le (Nat.le_refl _)]
      rfl
    rw [e]
    exact hj_ret (ej_NOTHING Z) (fun _ _ h => h)
theorem sc_State_init : FnScope ["self", "place", "speed"] ["self", "place", "speed"] Hd.d_State_init.scope := ⟨rfl, rfl, rfl, by decide +kernel, rfl, by decide +kernel, by decide +kernel⟩
def dom_State_init : DomI K := fun ts fs => ∃ a b, ts = [a, b] ∧ fs = ([("place", a), ("speed", b)] : List (Str × Ty K))
theorem cs_State (Z : Tp K mg) : Cs P w K mg base "State" (He.ga K "State") 1 2 (dom_State_init (K := K)) := by
  obtain ⟨fd, F⟩ := Z.f_State_init
  refine ⟨Z.cl_State, _, fd, ["self", "place", "speed"], init_mk F rfl sc_State_init (by decide) fun cdv Ar outer sh Hh Ee B hr q ts fs hd _ => ?_, Z.g_State, Z.mk_State, FunD.bindsN F fun _ _ _ _ _ _ us hl => match us, hl with | [_, _, _], _ => rfl⟩
  obtain ⟨a, b, rfl, rfl⟩ := hd
  exact hj_fld 0 Z.cl_State Z.na_State_place (ej_v 1) (hj_fld 0 Z.cl_State Z.na_State_speed (ej_v 2) (hj_nil fun _ _ _ _ p => p.2))
theorem sc_put : FnScope ["box", "k", "interval", "j"] ["box", "k", "interval"] Hd.d_put.scope := ⟨rfl, rfl, rfl, by decide +kernel, rfl, by decide +kernel, by decide +kernel⟩
def dom_put : Dom K := fun ts t => ∃ (b : Bx) (kk : Int) (v : Iv), ts = [bx b, tI kk, iv v] ∧ t = bx (putB b kk v)
theorem fn_put (Z : Tp K mg) : Fn P w K mg base "put" 1 3 (dom_put (K := K)) := by
  obtain ⟨fd, F⟩ := Z.f_put
  refine ⟨_, fd, ["box", "k", "interval"], fn_mk F sc_put (by decide) fun cdv Ar outer sh Hh Ee B hr ts t hd _ => ?_, Z.g_put, F.kp, FunD.bindsN F fun _ _ _ _ _ _ us hl => match us, hl with | [_, _, _], _ => rfl⟩
  obtain ⟨b, kk, v, rfl, rfl⟩ := hd
  refine hj_ret (ej_callTy call_tuple_of Z.tuple (by decide +kernel) (aj_cons (ej_lc (own := [("j", 3)]) (f := fun i Γ => Γ.set 3 (some (tI (0 + (i : Nat))))) B rfl (ij_r1 Z.range ej_int (by decide) (by decide)) [3] [iv (if (0 : Int) = kk then v else b.1), iv (if (1 : Int) = kk then v else b.2.1), iv (if (2 : Int) = kk then v else b.2.2)] rfl (fun i t ht s H' C cl fp => ?_) (fun i t u ht hu s H' C cl fp => ?_) (blkOk_by (N := ["box", "k", "interval", "j"]) (sc := Hd.d_put.scope) (by decide +kernel)) (hz := by rw [rngT_len]; decide)) aj_nil) rok_tupL) (fun _ _ h => h)
  · obtain ⟨hi, rfl⟩ := rngT_get ht
    exact gj_name B.blk 3
  · obtain ⟨hi, rfl⟩ := rngT_get ht
    obtain ⟨c, hc, rfl⟩ : ∃ c : Iv, atI [iv (K := K) b.1, iv b.2.1, iv b.2.2] (0 + (i : Nat)) = some (iv c) ∧ u = iv (if (0 + (i : Nat) : Int) = kk then v else c) := by
      match i, hi with
      | 0, _ => exact ⟨b.1, rfl, (Option.some.inj hu).symm⟩
      | 1, _ => exact ⟨b.2.1, rfl, (Option.some.inj hu).symm⟩
      | 2, _ => exact ⟨b.2.2, rfl, (Option.some.inj hu).symm⟩
    exact ej_ife (bj_eq (ej_v 3) (ej_v 1)) (fun h => (ej_v 2).eq (by rw [if_pos (of_decide_eq_true h)])) (fun h => (ej_ixT (ej_v 0) (ej_v 3) hc).eq (by rw [if_neg (of_decide_eq_false h)]))
theorem cat_iv3 {s : Sta} : ([iv s.1.1, iv s.1.2.1, iv s.1.2.2] : List (Ty K)) ++ [iv s.2.1, iv s.2.2.1, iv s.2.2.2] = (ivs s).map iv := rfl
theorem sc_split : FnScope ["state", "intervals", "widest", "k", "m", "halves", "half", "low", "high"] ["state"] Hd.d_split.scope := ⟨rfl, rfl, rfl, by decide +kernel, rfl, by decide +kernel, by decide +kernel⟩
def dom_split : Dom K := fun ts t => ∃ s0 : Sta, ts = [sta s0] ∧ t = tL ((split s0).map sta)
theorem fn_split (Z : Tp K mg) : Fn P w K mg base "split" 3 1 (dom_split (K := K)) := by
  obtain ⟨fd, F⟩ := Z.f_split
  refine ⟨_, fd, ["state"], fn_mk F sc_split (by decide) fun cdv Ar outer sh Hh Ee B hr ts t hd _ => ?_, Z.g_split, F.kp, FunD.bindsN F fun _ _ _ _ _ _ us hl => match us, hl with | [_], _ => rfl⟩
  obtain ⟨s0, rfl, rfl⟩ := hd
  refine hj_set B 1 ((ej_cat (ej_callTy call_list_of Z.list (by decide +kernel) (aj_cons (ej_fld Z.cl_State Z.na_State_place (ej_v 0)) aj_nil) rok_listT) (ej_callTy call_list_of Z.list (by decide +kernel) (aj_cons (ej_fld Z.cl_State Z.na_State_speed (ej_v 0)) aj_nil) rok_listT) (by show 6 ≤ 100000; omega)).eq (congrArg tL cat_iv3)) ?_
  refine hj_set B 2 ej_int ?_
  refine hj_forF B (ij_r2 Z.range ej_int ej_int (by decide)) (n := 5) (fun i => [some (sta s0), some (tL ((ivs s0).map iv)), some (tI (widest s0 i : Nat)), none, none, none, none, none, none]) (fun i => none) Le.refl (fun i t ht => ?_) ?_ rngT_len
  · obtain ⟨hi, rfl⟩ := rngT_get ht
    have hi5 : i < 5 := hi
    have w1 := widest_le s0 i
    refine hb_name B 3 ?_
    have gk : atI ((ivs s0).map (iv (K := K))) (1 + (i : Nat)) = some (iv (ivAt s0 (i + 1))) := atI_map (i := i + 1) (by omega) (ivs_get s0 (by omega))
    have gw : atI ((ivs s0).map (iv (K := K))) (widest s0 i : Nat) = some (iv (ivAt s0 (widest s0 i))) := atI_map rfl (ivs_get s0 (by omega))
    refine hj_ifm (A [some (sta s0), some (tL ((ivs s0).map iv)), some (tI (widest s0 (i + 1) : Nat)), none, none, none, none, none, none] none) (bj_gt (ej_call (fn_width Z) (hr.mono (by decide)) (aj_cons (ej_ixL (ej_v 1) (ej_v 3) gk) aj_nil) ⟨_, rfl, rfl⟩) (ej_call (fn_width Z) (hr.mono (by decide)) (aj_cons (ej_ixL (ej_v 1) (ej_v 2) gw) aj_nil) ⟨_, rfl, rfl⟩)) (fun h => ?_) (fun h => ?_) (hj_nil Le.refl)
    · have e : widest s0 (i + 1) = i + 1 := if_pos (of_decide_eq_true h)
      rw [e]
      refine hj_set B 2 ((ej_v 3).eq (t := tI ((i + 1 : Nat) : Int)) (congrArg tI (by omega))) ?_
      exact hj_end
    · have e : widest s0 (i + 1) = widest s0 i := if_neg (of_decide_eq_false h)
      rw [e]
      exact hj_end
  have gw : atI ((ivs s0).map (iv (K := K))) (wide s0 : Nat) = some (iv (ivAt s0 (wide s0))) := atI_map rfl (ivs_get s0 (by have := widest_le s0 5; unfold wide; omega))
  refine hj_unp B [7, 8] (ej_ixL (ej_v 1) (ej_v 2) gw) ?_
  refine hj_ifr (bj_eq (ej_v 7) (ej_v 8)) (fun h => ?_) fun h => ?_
  · have e : split s0 = [s0] := if_pos (of_decide_eq_true h)
    rw [e]
    exact hj_ret (ej_lst (aj_cons (ej_make (cs_State Z) (hr.mono (by decide)) (aj_cons (ej_fld Z.cl_State Z.na_State_place (ej_v 0)) (aj_cons (ej_fld Z.cl_State Z.na_State_speed (ej_v 0)) aj_nil)) ⟨_, _, rfl, rfl⟩) aj_nil)) (fun _ _ h => h)
  refine hj_set B 4 (ej_call (fn_middle Z) (hr.mono (by decide)) (aj_cons (ej_ixL (ej_v 1) (ej_v 2) gw) aj_nil) ⟨_, rfl, rfl⟩) ?_
  refine hj_ownL B 5 aj_nil ?_
  have e : split s0 = [((ivAt s0 (wide s0)).1, iMid (ivAt s0 (wide s0))), (iMid (ivAt s0 (wide s0)) + 1, (ivAt s0 (wide s0)).2)].map (halfS s0) := if_neg (of_decide_eq_false h)
  rw [e]
  refine hj_forF B (ij_L (ej_lst (aj_cons (ej_tup (aj_cons (ej_v 7) (aj_cons (ej_v 4) aj_nil))) (aj_cons (ej_tup (aj_cons (ej_add (ej_v 4) ej_int) (aj_cons (ej_v 8) aj_nil))) aj_nil)))) (n := 2) (fun i => [some (sta s0), some (tL ((ivs s0).map iv)), some (tI (wide s0 : Nat)), none, some (tI (iMid (ivAt s0 (wide s0)))), none, none, some (tI (ivAt s0 (wide s0)).1), some (tI (ivAt s0 (wide s0)).2)]) (fun i => some (5, oL ((([((ivAt s0 (wide s0)).1, iMid (ivAt s0 (wide s0))), (iMid (ivAt s0 (wide s0)) + 1, (ivAt s0 (wide s0)).2)].take i).map (halfS s0)).map sta))) (le_less (by repeat (first | exact trivial | refine ⟨fun _ _ h => h, ?_⟩))) (fun i t ht => ?_) ?_
  · obtain ⟨v, hv, rfl⟩ : ∃ v : Iv, ([((ivAt s0 (wide s0)).1, iMid (ivAt s0 (wide s0))), (iMid (ivAt s0 (wide s0)) + 1, (ivAt s0 (wide s0)).2)] : List Iv)[i]? = some v ∧ t = iv v := map_get (l := [((ivAt s0 (wide s0)).1, iMid (ivAt s0 (wide s0))), (iMid (ivAt s0 (wide s0)) + 1, (ivAt s0 (wide s0)).2)]) ht
    refine hb_name B 6 ?_
    have hl : (([((ivAt s0 (wide s0)).1, iMid (ivAt s0 (wide s0))), (iMid (ivAt s0 (wide s0)) + 1, (ivAt s0 (wide s0)).2)].take i).map (halfS s0)).map sta ++ [sta (K := K) (halfS s0 v)] = (([((ivAt s0 (wide s0)).1, iMid (ivAt s0 (wide s0))), (iMid (ivAt s0 (wide s0)) + 1, (ivAt s0 (wide s0)).2)].take (i + 1)).map (halfS s0)).map sta := by
      rw [List.take_add_one, hv, List.map_append, List.map_append]
      rfl
    have hz : ((([((ivAt s0 (wide s0)).1, iMid (ivAt s0 (wide s0))), (iMid (ivAt s0 (wide s0)) + 1, (ivAt s0 (wide s0)).2)].take i).map (halfS s0)).map (sta (K := K))).length < 100000 := by
      rw [List.length_map, List.length_map, List.length_take]
      exact Nat.lt_of_le_of_lt (Nat.min_le_right _ _) (by show 2 < 100000; omega)
    refine hj_ifm (A [some (sta s0), some (tL ((ivs s0).map iv)), some (tI (wide s0 : Nat)), none, some (tI (iMid (ivAt s0 (wide s0)))), none, none, some (tI (ivAt s0 (wide s0)).1), some (tI (ivAt s0 (wide s0)).2)] (some (5, oL ((([((ivAt s0 (wide s0)).1, iMid (ivAt s0 (wide s0))), (iMid (ivAt s0 (wide s0)) + 1, (ivAt s0 (wide s0)).2)].take (i + 1)).map (halfS s0)).map sta)))) (bj_lt (ej_v 2) ej_int) (fun h => ?_) (fun h => ?_) (hj_nil Le.refl)
    · have eh : halfS s0 v = (putB s0.1 (wide s0) v, s0.2) := if_pos (by have := of_decide_eq_true h; omega)
      rw [← hl, eh]
      refine hj_app 5 (ej_make (cs_State Z) (hr.mono (by decide)) (aj_cons (ej_call (fn_put Z) (hr.mono (by decide)) (aj_cons (ej_fld Z.cl_State Z.na_State_place (ej_v 0)) (aj_cons (ej_v 2) (aj_cons (ej_v 6) aj_nil))) ⟨_, _, _, rfl, rfl⟩) (aj_cons (ej_fld Z.cl_State Z.na_State_speed (ej_v 0)) aj_nil)) ⟨_, _, rfl, rfl⟩) ?_ hz
      exact hj_end
    · have eh : halfS s0 v = (s0.1, putB s0.2 ((wide s0 : Int) - 3) v) := if_neg (by have := of_decide_eq_false h; omega)
      rw [← hl, eh]
      refine hj_app 5 (ej_make (cs_State Z) (hr.mono (by decide)) (aj_cons (ej_fld Z.cl_State Z.na_State_place (ej_v 0)) (aj_cons (ej_call (fn_put Z) (hr.mono (by decide)) (aj_cons (ej_fld Z.cl_State Z.na_State_speed (ej_v 0)) (aj_cons (ej_sub (ej_v 2) ej_int) (aj_cons (ej_v 6) aj_nil))) ⟨_, _, _, rfl, rfl⟩) aj_nil)) ⟨_, _, rfl, rfl⟩) ?_ hz
      exact hj_end
  exact hj_frz 5 (hj_ret (ej_v 5) (fun _ _ h => h))
end
end T
end
section
set_option Elab.async false
set_option linter.all false
set_option maxRecDepth 100000
set_option maxHeartbeats 4000000
namespace T
open PySem PySem.Spec PyProof.Rows L2 M
section
variable {P : Program} {w : World} {K : PySem.W.Frag} {mg : Str → Option Value} {base : Heap}
theorem sc_parts_of : FnScope ["state", "fineness", "parts", "turn", "finer", "part"] ["state", "fineness"] Hd.d_parts_of.scope := ⟨rfl, rfl, rfl, by decide +kernel, rfl, by decide +kernel, by decide +kernel⟩
def dom_parts_of : Dom K := fun ts t => ∃ (s0 : Sta) (n : Nat), ts = [sta s0, tI n] ∧ t = tL ((parts s0 n).map sta) ∧ n ≤ 6
theorem fn_parts_of (Z : Tp K mg) : Fn P w K mg base "parts_of" 4 2 (dom_parts_of (K := K)) := by
  obtain ⟨fd, F⟩ := Z.f_parts_of
  refine ⟨_, fd, ["state", "fineness"], fn_mk F sc_parts_of (by decide) fun cdv Ar outer sh Hh Ee B hr ts t hd _ => ?_, Z.g_parts_of, F.kp, FunD.bindsN F fun _ _ _ _ _ _ us hl => match us, hl with | [_, _], _ => rfl⟩
  obtain ⟨s0, n, rfl, rfl, hn⟩ := hd
  refine hj_set B 2 (ej_lst (aj_cons (ej_make (cs_State Z) (hr.mono (by decide)) (aj_cons (ej_fld Z.cl_State Z.na_State_place (ej_v 0)) (aj_cons (ej_fld Z.cl_State Z.na_State_speed (ej_v 0)) aj_nil)) ⟨_, _, rfl, rfl⟩) aj_nil)) ?_
  refine hj_forF B (ij_r1 Z.range (ej_v 1) (by omega) (by omega)) (n := n) (fun i => [some (sta s0), some (tI n), some (tL ((parts s0 i).map sta)), none, none, none]) (fun i => none) Le.refl (fun i t ht => ?_) ?_ (by rw [rngT_len]; omega)
  · obtain ⟨hi, rfl⟩ := rngT_get ht
    have hi6 : i < 6 := by omega
    have hl : (parts s0 i).length ≤ 64 := Nat.le_trans (parts_len s0 i) (Nat.le_trans (Nat.pow_le_pow_right (by decide) (show i ≤ 6 by omega)) (by decide))
    refine hb_name B 3 ?_
    refine hj_set B 4 (ej_lst aj_nil) ?_
    refine hj_forF B (ij_L (ej_v 2)) (n := (parts s0 i).length) (fun j => [some (sta s0), some (tI n), some (tL ((parts s0 i).map sta)), some (tI (0 + (i : Nat))), some (tL ((((parts s0 i).take j).flatMap split).map sta)), none]) (fun _ => none) Le.refl (fun j t ht => ?_) ?_ (by rw [List.length_map])
    · obtain ⟨p, hp, rfl⟩ := map_get ht
      refine hb_name B 5 ?_
      have e : (((parts s0 i).take j).flatMap split).map (sta (K := K)) ++ (split p).map sta = (((parts s0 i).take (j + 1)).flatMap split).map sta := by
        rw [List.take_add_one, hp, List.flatMap_append, List.map_append]
        show _ = _ ++ (List.flatMap split [p]).map sta
        rw [List.flatMap_cons, List.flatMap_nil, List.append_nil]
      refine hj_set B 4 ((ej_cat (ej_v 4) (ej_call (fn_split Z) (hr.mono (by decide)) (aj_cons (ej_v 5) aj_nil) ⟨_, rfl, rfl⟩) ?_).eq (congrArg tL e)) ?_
      · have h1 := flat_len ((parts s0 i).take j)
        have h2 := split_len p
        rw [List.length_map, List.length_map]
        rw [List.length_take] at h1
        have : min j (parts s0 i).length ≤ 64 := Nat.le_trans (Nat.min_le_right _ _) hl
        omega
      exact hj_end
    · rw [List.take_length]
      exact hj_set B 2 (ej_v 4) hj_end
  exact hj_ret (ej_v 2) (fun _ _ h => h)
theorem sc_step : FnScope ["body", "state", "push", "drift", "a", "speed", "place"] ["body", "state", "push", "drift"] Hd.d_step.scope := ⟨rfl, rfl, rfl, by decide +kernel, rfl, by decide +kernel, by decide +kernel⟩
def dom_step : Dom K := fun ts t => ∃ (mu ob : Int) (s0 : Sta) (push : Bx) (d : Int), ts = [bod mu ob, sta s0, bx push, tI d] ∧ t = tO sta (stepM mu ob s0 push d) ∧ BB 134 s0.1 ∧ BV s0.1 ∧ Bt 100 mu ∧ Bt 100 ob
theorem fn_step (Z : Tp K mg) : Fn P w K mg base "step" 4 4 (dom_step (K := K)) := by
  obtain ⟨fd, F⟩ := Z.f_step
  refine ⟨_, fd, ["body", "state", "push", "drift"], fn_mk F sc_step (by decide) fun cdv Ar outer sh Hh Ee B hr ts t hd _ => ?_, Z.g_step, F.kp, FunD.bindsN F fun _ _ _ _ _ _ us hl => match us, hl with | [_, _, _, _], _ => rfl⟩
  obtain ⟨mu, ob, s0, push, d, rfl, rfl, hb, hv, hm, ho⟩ := hd
  refine hj_set B 4 (ej_call (fn_pull_over Z) (hr.mono (by decide)) (aj_cons (ej_v 0) (aj_cons (ej_fld Z.cl_State Z.na_State_place (ej_v 1)) aj_nil)) ⟨_, _, _, rfl, rfl, hb, hv, hm, ho⟩) ?_
  refine hj_ifr (bj_isN (ej_v 4) ej_non (nonIs_O (fun _ => nonIs_T) _)) (fun h => ?_) fun h => ?_
  · have e : stepM mu ob s0 push d = none := by
      unfold stepM
      rw [Option.isNone_iff_eq_none.mp h]
    rw [e]
    exact hj_ret ej_non (fun _ _ h => h)
  cases ha : pullO mu ob s0.1 with
  | none =>
    rw [ha] at h
    cases h
  | some a =>
    refine hj_set B 5 (ej_call (fn_box_widened Z) (hr.mono (by decide)) (aj_cons (ej_call (fn_box_add Z) (hr.mono (by decide)) (aj_cons (ej_call (fn_box_add Z) (hr.mono (by decide)) (aj_cons (ej_fld Z.cl_State Z.na_State_speed (ej_v 1)) (aj_cons (ej_v 4) aj_nil)) ⟨_, _, rfl, rfl⟩) (aj_cons (ej_v 2) aj_nil)) ⟨_, _, rfl, rfl⟩) (aj_cons (ej_v 3) aj_nil)) ⟨_, _, rfl, rfl⟩) ?_
    refine hj_set B 6 (ej_call (fn_box_add Z) (hr.mono (by decide)) (aj_cons (ej_fld Z.cl_State Z.na_State_place (ej_v 1)) (aj_cons (ej_v 5) aj_nil)) ⟨_, _, rfl, rfl⟩) ?_
    refine hj_ifr (wj_bj (wj_or (bj_gt (ej_call (fn_box_size Z) (hr.mono (by decide)) (aj_cons (ej_v 6) aj_nil) ⟨_, rfl, rfl⟩) (ej_LIMIT Z)) fun h => (wj_or1 (bj_gt (ej_call (fn_box_size Z) (hr.mono (by decide)) (aj_cons (ej_v 5) aj_nil) ⟨_, rfl, rfl⟩) (ej_LIMIT Z))))) (fun h => ?_) fun h => ?_
    · have e : stepM mu ob s0 push d = none := by
        unfold stepM
        rw [ha]
        rw [Bool.or_eq_true, decide_eq_true_eq, decide_eq_true_eq] at h
        exact if_pos h
      rw [e]
      exact hj_ret ej_non (fun _ _ h => h)
    · have e : stepM mu ob s0 push d = some (bAdd s0.1 (bWid (bAdd (bAdd s0.2 a) push) d), bWid (bAdd (bAdd s0.2 a) push) d) := by
        unfold stepM
        rw [ha]
        refine if_neg fun q => ?_
        rw [Bool.or_eq_false_iff, decide_eq_false_iff_not, decide_eq_false_iff_not] at h
        rcases q with q | q
        · exact h.1 q
        · exact h.2 q
      rw [e]
      exact hj_ret (ej_make (cs_State Z) (hr.mono (by decide)) (aj_cons (ej_v 6) (aj_cons (ej_v 5) aj_nil)) ⟨_, _, rfl, rfl⟩) (fun _ _ h => h)
theorem sc_cut : FnScope ["state", "box", "place"] ["state", "box"] Hd.d_cut.scope := ⟨rfl, rfl, rfl, by decide +kernel, rfl, by decide +kernel, by decide +kernel⟩
def dom_cut : Dom K := fun ts t => ∃ (s0 : Sta) (b : Bx), ts = [sta s0, bx b] ∧ t = tO sta (cutM s0 b)
theorem fn_cut (Z : Tp K mg) : Fn P w K mg base "cut" 3 2 (dom_cut (K := K)) := by
  obtain ⟨fd, F⟩ := Z.f_cut
  refine ⟨_, fd, ["state", "box"], fn_mk F sc_cut (by decide) fun cdv Ar outer sh Hh Ee B hr ts t hd _ => ?_, Z.g_cut, F.kp, FunD.bindsN F fun _ _ _ _ _ _ us hl => match us, hl with | [_, _], _ => rfl⟩
  obtain ⟨s0, b, rfl, rfl⟩ := hd
  refine hj_set B 2 (ej_call (fn_box_meet Z) (hr.mono (by decide)) (aj_cons (ej_fld Z.cl_State Z.na_State_place (ej_v 0)) (aj_cons (ej_v 1) aj_nil)) ⟨_, _, rfl, rfl⟩) ?_
  refine hj_ifr (bj_isN (ej_v 2) ej_non (nonIs_O (fun _ => nonIs_T) _)) (fun h => ?_) fun h => ?_
  · have e : cutM s0 b = none := by
      unfold cutM
      rw [Option.isNone_iff_eq_none.mp h]
    rw [e]
    exact hj_ret ej_non (fun _ _ h => h)
  cases ha : bMeet s0.1 b with
  | none =>
    rw [ha] at h
    cases h
  | some a =>
    have e : cutM s0 b = some (a, s0.2) := by
      unfold cutM
      rw [ha]
    rw [e]
    exact hj_ret (ej_make (cs_State Z) (hr.mono (by decide)) (aj_cons (ej_v 2) (aj_cons (ej_fld Z.cl_State Z.na_State_speed (ej_v 0)) aj_nil)) ⟨_, _, rfl, rfl⟩) (fun _ _ h => h)
theorem sc_sighting_at : FnScope ["craft", "at", "sighting"] ["craft", "at"] Hd.d_sighting_at.scope := ⟨rfl, rfl, rfl, by decide +kernel, rfl, by decide +kernel, by decide +kernel⟩
def dom_sighting_at : Dom K := fun ts t => ∃ (c : Cr) (z : Int), ts = [cr c, tI z] ∧ t = tO bx (sightAt c.sights z)
theorem fn_sighting_at (Z : Tp K mg) : Fn P w K mg base "sighting_at" 1 2 (dom_sighting_at (K := K)) := by
  obtain ⟨fd, F⟩ := Z.f_sighting_at
  refine ⟨_, fd, ["craft", "at"], fn_mk F sc_sighting_at (by decide) fun cdv Ar outer sh Hh Ee B hr ts t hd _ => ?_, Z.g_sighting_at, F.kp, FunD.bindsN F fun _ _ _ _ _ _ us hl => match us, hl with | [_, _], _ => rfl⟩
  obtain ⟨c, z, rfl, rfl⟩ := hd
  refine hj_forE B (ij_T (ej_fld Z.cl_Craft Z.na_Craft_sightings (ej_v 0))) (n := c.sights.length) (δ := Unit) (fun i _ => sightAt c.sights z = sightAt (c.sights.drop i) z) (fun _ _ => [some (cr c), some (tI z), none]) (fun _ _ => none) () rfl Le.refl (fun i t _ ht hφ => ?_) (fun _ hφ => ?_) (by rw [List.length_map])
  · obtain ⟨b, hb, rfl⟩ := map_get ht
    have hd : c.sights.drop i = b :: c.sights.drop (i + 1) := by
      obtain ⟨h1, h2⟩ := List.getElem?_eq_some_iff.mp hb
      rw [← h2]
      exact List.drop_eq_getElem_cons h1
    refine hb_name B 2 ?_
    refine hj_ifr (bj_eq (ej_fld Z.cl_Sighting Z.na_Sighting_at (ej_v 2)) (ej_v 1)) (fun h => ?_) fun h => ?_
    · have e : sightAt c.sights z = some b.p := by
        rw [hφ, hd]
        exact if_pos (of_decide_eq_true h)
      rw [e]
      exact hj_ret (ej_fld Z.cl_Sighting Z.na_Sighting_place (ej_v 2)) (fun _ _ h => h)
    · refine hj_end (hM := le_ex () ?_ Le.refl)
      rw [hφ, hd]
      exact if_neg (of_decide_eq_false h)
  · have e : sightAt c.sights z = none := by
      rw [hφ, List.drop_of_length_le (Nat.le_refl _)]
      rfl
    rw [e]
    exact hj_ret ej_non (fun _ _ h => h)
theorem sc_cut_all : FnScope ["states", "box", "left", "state", "less"] ["states", "box"] Hd.d_cut_all.scope := ⟨rfl, rfl, rfl, by decide +kernel, rfl, by decide +kernel, by decide +kernel⟩
def dom_cut_all : Dom K := fun ts t => ∃ (ss : List Sta) (o : Option Bx), ts = [tL (ss.map sta), tO bx o] ∧ t = tL ((cutAll ss o).map sta) ∧ ss.length ≤ 1000
theorem fn_cut_all (Z : Tp K mg) : Fn P w K mg base "cut_all" 4 2 (dom_cut_all (K := K)) := by
  obtain ⟨fd, F⟩ := Z.f_cut_all
  refine ⟨_, fd, ["states", "box"], fn_mk F sc_cut_all (by decide) fun cdv Ar outer sh Hh Ee B hr ts t hd _ => ?_, Z.g_cut_all, F.kp, FunD.bindsN F fun _ _ _ _ _ _ us hl => match us, hl with | [_, _], _ => rfl⟩
  obtain ⟨ss, o, rfl, rfl, hz⟩ := hd
  refine hj_ifr (bj_isN (ej_v 1) ej_non (nonIs_O (fun _ => nonIs_T) _)) (fun h => ?_) fun h => ?_
  · rw [Option.isNone_iff_eq_none.mp h]
    exact hj_ret (ej_callTy call_list_of Z.list (by decide +kernel) (aj_cons (ej_v 0) aj_nil) rok_listL) (fun _ _ h => h)
  cases o with
  | none => cases h
  | some b =>
    refine hj_ownL B 2 aj_nil ?_
    refine hj_forF B (ij_L (ej_v 0)) (n := ss.length) (fun i => [some (tL (ss.map sta)), some (bx b), none, none, none]) (fun i => some (2, oL (((ss.take i).filterMap fun s => cutM s b).map sta))) Le.refl (fun i t ht => ?_) ?_ (by rw [List.length_map])
    · obtain ⟨s0, hs, rfl⟩ := map_get ht
      refine hb_name B 3 ?_
      have ht2 : (ss.take (i + 1)).filterMap (fun s => cutM s b) = (ss.take i).filterMap (fun s => cutM s b) ++ (cutM s0 b).toList := by
        rw [List.take_add_one, hs, List.filterMap_append]
        show _ ++ List.filterMap (fun s => cutM s b) [s0] = _
        rw [List.filterMap_cons]
        cases cutM s0 b <;> rfl
      refine hj_set B 4 (ej_call (fn_cut Z) (hr.mono (by decide)) (aj_cons (ej_v 3) (aj_cons (ej_v 1) aj_nil)) ⟨_, _, rfl, rfl⟩) ?_
      refine hj_ifm (A [some (tL (ss.map sta)), some (bx b), none, none, none] (some (2, oL (((ss.take (i + 1)).filterMap fun s => cutM s b).map sta)))) (bj_notN (ej_v 4) ej_non (nonIs_O (fun _ => nonIs_C) _)) (fun h2 => ?_) (fun h2 => ?_) (hj_nil Le.refl)
      · cases hc : cutM s0 b with
        | none =>
          rw [hc] at h2
          cases h2
        | some s1 =>
          rw [hc] at ht2
          refine hj_app 2 (ej_v 4) ?_ ?_
          · rw [ht2, List.map_append]
            exact hj_end
          · rw [List.length_map]
            have := List.length_filterMap_le (fun s => cutM s b) (ss.take i)
            rw [List.length_take] at this
            have h3 := Nat.min_le_right i ss.length
            omega
      · cases hc : cutM s0 b with
        | none =>
          rw [hc] at ht2
          rw [ht2]
          show HJ _ [] (T.A _ (some (2, oL _))) _
          rw [show (none : Option Sta).toList = [] from rfl, List.append_nil]
          exact hj_end
        | some s1 =>
          rw [hc] at h2
          cases h2
    · rw [List.take_length]
      exact hj_frz 2 (hj_ret (ej_v 2) (fun _ _ h => h))
end
end T
end
section
set_option Elab.async false
set_option linter.all false
/-! Validity of boxes behind each operation; the states of a journey by their offset. -/
namespace M
theorem ediv_mono {a b d : Int} (h : a ≤ b) (hd : 0 < d) : a / d ≤ b / d := Int.ediv_le_ediv hd h
theorem iAdd_v {a b : Iv} (h : IV a) (k : IV b) : IV (iAdd a b) := by
  unfold IV at *
  show a.1 + b.1 ≤ a.2 + b.2
  omega
theorem iSub_v {a b : Iv} (h : IV a) (k : IV b) : IV (iSub a b) := by
  unfold IV at *
  show a.1 - b.2 ≤ a.2 - b.1
  omega
theorem iScl_v {a : Iv} {n : Int} (h : IV a) : IV (iScl a n) := by
  unfold IV at *
  unfold iScl
  split
  · exact Int.mul_le_mul_of_nonpos_right h (by omega)
  · exact Int.mul_le_mul_of_nonneg_right h (by omega)
theorem iMul_v (a b : Iv) : IV (iMul a b) := by
  show min (a.1 * b.1) (min (a.1 * b.2) (min (a.2 * b.1) (a.2 * b.2))) ≤ max (a.1 * b.1) (max (a.1 * b.2) (max (a.2 * b.1) (a.2 * b.2)))
  omega
theorem iQuo_v {a d : Iv} (h : IV a) (hd : IP d) : IV (iQuo a d) := by
  have h1 := ediv_mono h hd.1
  show min (a.1 / d.1) (a.1 / d.2) ≤ max (a.2 / d.1) (a.2 / d.2)
  omega
theorem pullC_v {mu ob : Int} {b : Bx} {c : Iv} {k : Int} (hp : IP (sqLen b)) (hc : IV c) : IV (pullC mu ob b c k) :=
  iAdd_v (iQuo_v (iScl_v hc) (hp.mul hp.root)) (iQuo_v (iScl_v (iMul_v _ _)) ((hp.mul hp).mul (hp.mul hp.root)))
theorem pullO_v {mu ob : Int} {b a : Bx} (hb : BV b) (h : pullO mu ob b = some a) : BV a := by
  unfold pullO at h
  split at h
  · cases h
  · rename_i h0
    have hp := sqLen_p hb h0
    have e := Option.some.inj h
    subst e
    exact ⟨pullC_v hp hb.1, pullC_v hp hb.2.1, pullC_v hp hb.2.2⟩
theorem bAdd_v {a b : Bx} (h : BV a) (k : BV b) : BV (bAdd a b) := ⟨iAdd_v h.1 k.1, iAdd_v h.2.1 k.2.1, iAdd_v h.2.2 k.2.2⟩
theorem iWid_v {a : Iv} {z : Int} (h : IV a) (hz : 0 ≤ z) : IV (iWid a z) := by
  unfold IV at *
  show a.1 - z ≤ a.2 + z
  omega
theorem bWid_v {a : Bx} {z : Int} (h : BV a) (hz : 0 ≤ z) : BV (bWid a z) := ⟨iWid_v h.1 hz, iWid_v h.2.1 hz, iWid_v h.2.2 hz⟩
theorem iMeet_v {a b c : Iv} (h : iMeet a b = some c) : IV c := by
  unfold iMeet at h
  split at h
  · cases h
  · have e := Option.some.inj h
    subst e
    show max a.1 b.1 ≤ min a.2 b.2
    omega
theorem iMeet_b {n : Nat} {a b c : Iv} (ha : IB n a) (hb : IB n b) (h : iMeet a b = some c) : IB n c := by
  unfold iMeet at h
  split at h
  · cases h
  · have e := Option.some.inj h
    subst e
    exact ⟨ha.1.max hb.1, ha.2.min hb.2⟩
theorem bMeet_of {a b c : Bx} (h : bMeet a b = some c) : iMeet a.1 b.1 = some c.1 ∧ iMeet a.2.1 b.2.1 = some c.2.1 ∧ iMeet a.2.2 b.2.2 = some c.2.2 := by
  unfold bMeet at h
  cases hx : iMeet a.1 b.1 with
  | none =>
    rw [hx] at h
    cases h
  | some x =>
    cases hy : iMeet a.2.1 b.2.1 with
    | none =>
      rw [hx, hy] at h
      cases h
    | some y =>
      cases hz : iMeet a.2.2 b.2.2 with
      | none =>
        rw [hx, hy, hz] at h
        cases h
      | some z =>
        rw [hx, hy, hz] at h
        have e := Option.some.inj h
        subst e
        exact ⟨rfl, rfl, rfl⟩
/-- a state that may be stepped -/
def Sok (s : Sta) : Prop := BB 134 s.1 ∧ BV s.1 ∧ BV s.2
theorem lim_bt {a : Iv} (h : iSize a ≤ lim) : IB 134 a := by
  unfold iSize lim at h
  have e : (10 : Int) ^ 40 < 2 ^ 134 := by decide
  constructor
  · show a.1.natAbs < 2 ^ 134
    have : ((a.1.natAbs : Nat) : Int) < 2 ^ 134 := by omega
    exact_mod_cast this
  · show a.2.natAbs < 2 ^ 134
    have : ((a.2.natAbs : Nat) : Int) < 2 ^ 134 := by omega
    exact_mod_cast this
theorem lim_bb {b : Bx} (h : bSize b ≤ lim) : BB 134 b := by
  unfold bSize at h
  exact ⟨lim_bt (by omega), lim_bt (by omega), lim_bt (by omega)⟩
theorem step_of {mu ob : Int} {s s' : Sta} {push : Bx} {d : Int} (h : stepM mu ob s push d = some s') : ∃ a, pullO mu ob s.1 = some a ∧ s' = (bAdd s.1 (bWid (bAdd (bAdd s.2 a) push) d), bWid (bAdd (bAdd s.2 a) push) d) ∧ bSize s'.1 ≤ lim := by
  unfold stepM at h
  cases ha : pullO mu ob s.1 with
  | none =>
    rw [ha] at h
    cases h
  | some a =>
    rw [ha] at h
    have h2 : (if lim < bSize (bAdd s.1 (bWid (bAdd (bAdd s.2 a) push) d)) ∨ lim < bSize (bWid (bAdd (bAdd s.2 a) push) d) then none
      else some (bAdd s.1 (bWid (bAdd (bAdd s.2 a) push) d), bWid (bAdd (bAdd s.2 a) push) d)) = some s' := h
    split at h2
    · cases h2
    · rename_i hn
      have e := Option.some.inj h2
      refine ⟨a, rfl, e.symm, ?_⟩
      rw [← e]
      show bSize (bAdd s.1 (bWid (bAdd (bAdd s.2 a) push) d)) ≤ lim
      by_cases q : lim < bSize (bAdd s.1 (bWid (bAdd (bAdd s.2 a) push) d))
      · exact absurd (.inl q) hn
      · omega
theorem step_ok {mu ob : Int} {s s' : Sta} {push : Bx} {d : Int} (hs : Sok s) (hp : BV push) (hd : 0 ≤ d) (h : stepM mu ob s push d = some s') : Sok s' := by
  obtain ⟨a, ha, e, hl⟩ := step_of h
  have h1 := pullO_v hs.2.1 ha
  have h2 : BV (bWid (bAdd (bAdd s.2 a) push) d) := bWid_v (bAdd_v (bAdd_v hs.2.2 h1) hp) hd
  rw [e] at hl ⊢
  exact ⟨lim_bb hl, bAdd_v hs.2.1 h2, h2⟩
theorem cut_of {s s' : Sta} {b : Bx} (h : cutM s b = some s') : bMeet s.1 b = some s'.1 ∧ s'.2 = s.2 := by
  unfold cutM at h
  cases ha : bMeet s.1 b with
  | none =>
    rw [ha] at h
    cases h
  | some a =>
    rw [ha] at h
    have e := Option.some.inj h
    subst e
    exact ⟨rfl, rfl⟩
theorem cut_ok {s s' : Sta} {b : Bx} (hs : Sok s) (hb : BB 134 b) (h : cutM s b = some s') : Sok s' := by
  obtain ⟨h1, h2⟩ := cut_of h
  obtain ⟨x, y, z⟩ := bMeet_of h1
  refine ⟨⟨iMeet_b hs.1.1 hb.1 x, iMeet_b hs.1.2.1 hb.2.1 y, iMeet_b hs.1.2.2 hb.2.2 z⟩, ⟨iMeet_v x, iMeet_v y, iMeet_v z⟩, ?_⟩
  rw [h2]
  exact hs.2.2
/-! ### halves -/
theorem mid_le {a : Iv} (h : a.1 ≤ a.2) : a.1 ≤ iMid a ∧ iMid a ≤ a.2 := by
  unfold iMid
  omega
theorem mid_lt {a : Iv} (h : a.1 < a.2) : iMid a + 1 ≤ a.2 := by
  unfold iMid
  omega
/-- v is inside of a: valid and within its size -/
def Sub (v a : Iv) : Prop := a.1 ≤ v.1 ∧ v.1 ≤ v.2 ∧ v.2 ≤ a.2
theorem Sub.b {n : Nat} {v a : Iv} (h : Sub v a) (ha : IB n a) : IB n v := by
  obtain ⟨h1, h2, h3⟩ := h
  obtain ⟨h4, h5⟩ := ha
  unfold Bt at h4 h5
  constructor
  · show v.1.natAbs < 2 ^ n
    omega
  · show v.2.natAbs < 2 ^ n
    omega
theorem putB_ok {b : Bx} {k : Nat} {v : Iv} (hk : k < 3) (hb : BV b) (hv : IV v) : BV (putB b k v) := by
  match k, hk with
  | 0, _ => exact ⟨hv, hb.2.1, hb.2.2⟩
  | 1, _ => exact ⟨hb.1, hv, hb.2.2⟩
  | 2, _ => exact ⟨hb.1, hb.2.1, hv⟩
theorem putB_b {n : Nat} {b : Bx} {k : Nat} {v : Iv} (hk : k < 3) (hb : BB n b) (hv : IB n v) : BB n (putB b k v) := by
  match k, hk with
  | 0, _ => exact ⟨hv, hb.2.1, hb.2.2⟩
  | 1, _ => exact ⟨hb.1, hv, hb.2.2⟩
  | 2, _ => exact ⟨hb.1, hb.2.1, hv⟩
theorem ivAt_v {s : Sta} (h1 : BV s.1) (h2 : BV s.2) {k : Nat} (hk : k < 6) : IV (ivAt s k) := by
  match k, hk with
  | 0, _ => exact h1.1
  | 1, _ => exact h1.2.1
  | 2, _ => exact h1.2.2
  | 3, _ => exact h2.1
  | 4, _ => exact h2.2.1
  | 5, _ => exact h2.2.2
theorem ivAt_b {n : Nat} {s : Sta} (h1 : BB n s.1) {k : Nat} (hk : k < 3) : IB n (ivAt s k) := by
  match k, hk with
  | 0, _ => exact h1.1
  | 1, _ => exact h1.2.1
  | 2, _ => exact h1.2.2
theorem wide_lt (s : Sta) : wide s < 6 := by
  have := widest_le s 5
  unfold wide
  omega
theorem half_ok {s : Sta} {v : Iv} (hs : Sok s) (hv : Sub v (ivAt s (wide s))) : Sok (halfS s v) := by
  have hw := wide_lt s
  unfold halfS
  split
  · rename_i h3
    exact ⟨putB_b h3 hs.1 (hv.b (ivAt_b hs.1 h3)), putB_ok h3 hs.2.1 hv.2.1, hs.2.2⟩
  · rename_i h3
    refine ⟨hs.1, hs.2.1, ?_⟩
    have e : ((wide s : Nat) : Int) - 3 = ((wide s - 3 : Nat) : Int) := by omega
    show BV (putB s.2 (((wide s : Nat) : Int) - 3) v)
    rw [e]
    exact putB_ok (by omega) hs.2.2 hv.2.1
theorem split_sub {s s' : Sta} (hs : Sok s) (h : s' ∈ split s) : s' = s ∨ ∃ v, s' = halfS s v ∧ Sub v (ivAt s (wide s)) := by
  have hv : (ivAt s (wide s)).1 ≤ (ivAt s (wide s)).2 := ivAt_v hs.2.1 hs.2.2 (wide_lt s)
  unfold split at h
  split at h
  · exact .inl (List.mem_singleton.mp h)
  · rename_i hne
    have hm := mid_le hv
    have hm2 := mid_lt (a := ivAt s (wide s)) (by omega)
    rcases List.mem_cons.mp h with e | e
    · exact .inr ⟨_, e, Int.le_refl _, hm.1, hm.2⟩
    · exact .inr ⟨_, List.mem_singleton.mp e, by show (ivAt s (wide s)).1 ≤ iMid (ivAt s (wide s)) + 1; omega, hm2, Int.le_refl _⟩
theorem split_ok {s s' : Sta} (hs : Sok s) (h : s' ∈ split s) : Sok s' := by
  rcases split_sub hs h with e | ⟨v, e, hv⟩
  · rw [e]
    exact hs
  · rw [e]
    exact half_ok hs hv
theorem parts_ok {s : Sta} (hs : Sok s) : ∀ (n : Nat) {s' : Sta}, s' ∈ parts s n → Sok s'
  | 0, s', h => by
    rw [List.mem_singleton.mp h]
    exact hs
  | n + 1, s', h => by
    obtain ⟨p, h1, h2⟩ := List.mem_flatMap.mp h
    exact split_ok (parts_ok hs n h1) h2
/-! ### all states -/
theorem stepAll_snoc {mu ob : Int} {c : Cr} {t : Int} {s : Sta} : ∀ l : List Sta, stepAll mu ob c t (l ++ [s]) = match stepAll mu ob c t l, stepM mu ob s (pushAt c.burns t) c.drift with
    | some r, some s' => some (r ++ [s'])
    | _, _ => none
  | [] => by
    show stepAll mu ob c t [s] = _
    unfold stepAll
    cases stepM mu ob s (pushAt c.burns t) c.drift <;> rfl
  | a :: l => by
    have ih := stepAll_snoc (mu := mu) (ob := ob) (c := c) (t := t) (s := s) l
    show stepAll mu ob c t (a :: (l ++ [s])) = _
    unfold stepAll
    rw [ih]
    cases stepM mu ob a (pushAt c.burns t) c.drift with
    | none => rfl
    | some a' =>
      cases stepAll mu ob c t l with
      | none => rfl
      | some r =>
        cases stepM mu ob s (pushAt c.burns t) c.drift <;> rfl
theorem stepAll_none {mu ob : Int} {c : Cr} {t : Int} {r : List Sta} : ∀ l : List Sta, stepAll mu ob c t l = none → stepAll mu ob c t (l ++ r) = none
  | [], h => by cases h
  | a :: l, h => by
    show stepAll mu ob c t (a :: (l ++ r)) = none
    unfold stepAll at h ⊢
    cases ha : stepM mu ob a (pushAt c.burns t) c.drift with
    | none => rfl
    | some a' =>
      rw [ha] at h
      cases hl : stepAll mu ob c t l with
      | none => rw [stepAll_none l hl]
      | some r' =>
        rw [hl] at h
        cases h
theorem stepAll_mem {mu ob : Int} {c : Cr} {t : Int} : ∀ {l r : List Sta}, stepAll mu ob c t l = some r → r.length = l.length ∧ (∀ s' ∈ r, ∃ s ∈ l, stepM mu ob s (pushAt c.burns t) c.drift = some s') ∧ ∀ s ∈ l, ∃ s' ∈ r, stepM mu ob s (pushAt c.burns t) c.drift = some s'
  | [], r, h => by
    cases h
    exact ⟨rfl, (fun _ h => (by cases h)), (fun _ h => (by cases h))⟩
  | a :: l, r, h => by
    unfold stepAll at h
    cases ha : stepM mu ob a (pushAt c.burns t) c.drift with
    | none =>
      rw [ha] at h
      cases h
    | some a' =>
      rw [ha] at h
      cases hl : stepAll mu ob c t l with
      | none =>
        rw [hl] at h
        cases h
      | some r' =>
        rw [hl] at h
        have e := Option.some.inj h
        subst e
        obtain ⟨h1, h2, h3⟩ := stepAll_mem hl
        refine ⟨congrArg Nat.succ h1, fun s' hs => ?_, fun s hs => ?_⟩
        · rcases List.mem_cons.mp hs with e | e
          · exact ⟨a, List.mem_cons_self, by rw [e]; exact ha⟩
          · obtain ⟨s, q1, q2⟩ := h2 s' e
            exact ⟨s, List.mem_cons_of_mem _ q1, q2⟩
        · rcases List.mem_cons.mp hs with e | e
          · exact ⟨a', List.mem_cons_self, by rw [e]; exact ha⟩
          · obtain ⟨s', q1, q2⟩ := h3 s e
            exact ⟨s', List.mem_cons_of_mem _ q1, q2⟩
/-! ### a craft's data -/
structure CrOk (c : Cr) : Prop where
  start : 0 ≤ c.start ∧ c.start ≤ 1000
  place : BB 134 c.place ∧ BV c.place
  speed : BV c.speed
  drift : 0 ≤ c.drift
  burns : ∀ b ∈ c.burns, BV b.p
  sights : ∀ s ∈ c.sights, BB 134 s.p ∧ BV s.p
theorem zeroB_v : BV zeroB := ⟨Int.le_refl _, Int.le_refl _, Int.le_refl _⟩
theorem push_v {t : Int} : ∀ {bs : List Bn}, (∀ b ∈ bs, BV b.p) → BV (pushAt bs t)
  | [], _ => zeroB_v
  | b :: r, h => by
    unfold pushAt
    split
    · exact h b List.mem_cons_self
    · exact push_v fun x hx => h x (List.mem_cons_of_mem _ hx)
theorem sight_mem {t : Int} {p : Bx} : ∀ {ss : List Sg}, sightAt ss t = some p → ∃ s ∈ ss, s.at_ = t ∧ s.p = p
  | [], h => by cases h
  | s :: r, h => by
    unfold sightAt at h
    split at h
    · rename_i e
      exact ⟨s, List.mem_cons_self, e, Option.some.inj h⟩
    · obtain ⟨s', h1, h2⟩ := sight_mem h
      exact ⟨s', List.mem_cons_of_mem _ h1, h2⟩
/-! ### the states at each offset -/
def nonE (l : List Sta) : Option (List Sta) := match l with
  | [] => none
  | s :: r => some (s :: r)
def stAt (mu ob : Int) (fin : Nat) (c : Cr) : Nat → Option (List Sta)
  | 0 => nonE (firstS fin c)
  | i + 1 => match stAt mu ob fin c i with
    | none => none
    | some ss => match stepAll mu ob c (c.start + i) ss with
      | none => none
      | some ss' => nonE (cutAll ss' (sightAt c.sights (c.start + i + 1)))
/-- no state is left at offset m -/
def voidAt (mu ob : Int) (fin : Nat) (c : Cr) : Nat → Prop
  | 0 => firstS fin c = []
  | m + 1 => ∃ ss ss', stAt mu ob fin c m = some ss ∧ stepAll mu ob c (c.start + m) ss = some ss' ∧ cutAll ss' (sightAt c.sights (c.start + m + 1)) = []
theorem nonE_some {l r : List Sta} (h : nonE l = some r) : l = r ∧ r ≠ [] := by
  cases l with
  | nil => cases h
  | cons a l =>
    have e : a :: l = r := Option.some.inj h
    subst e
    exact ⟨rfl, by simp⟩
theorem cutAll_len (ss : List Sta) (o : Option Bx) : (cutAll ss o).length ≤ ss.length := by
  cases o with
  | none => exact Nat.le_refl _
  | some b => exact List.length_filterMap_le _ _
theorem cutAll_ok {ss : List Sta} {o : Option Bx} (hs : ∀ s ∈ ss, Sok s) (ho : ∀ b, o = some b → BB 134 b) : ∀ s ∈ cutAll ss o, Sok s := by
  cases o with
  | none => exact hs
  | some b =>
    intro s h
    obtain ⟨s', h1, h2⟩ := List.mem_filterMap.mp h
    exact cut_ok (hs s' h1) (ho b rfl) h2
theorem sights_b {c : Cr} (h : CrOk c) (t : Int) : ∀ b, sightAt c.sights t = some b → BB 134 b := fun b e => by
  obtain ⟨s, h1, _, h3⟩ := sight_mem e
  rw [← h3]
  exact (h.sights s h1).1
theorem first_ok {fin : Nat} {c : Cr} (h : CrOk c) (hf : fin ≤ 2) : (∀ s ∈ firstS fin c, Sok s) ∧ (firstS fin c).length ≤ 4 := by
  refine ⟨cutAll_ok (fun s hs => parts_ok ⟨h.place.1, h.place.2, h.speed⟩ fin hs) (sights_b h _), ?_⟩
  refine Nat.le_trans (cutAll_len _ _) (Nat.le_trans (parts_len _ fin) ?_)
  exact Nat.le_trans (Nat.pow_le_pow_right (by decide) hf) (by decide)
theorem stAt_ok {mu ob : Int} {fin : Nat} {c : Cr} (h : CrOk c) (hf : fin ≤ 2) : ∀ (i : Nat) {ss : List Sta}, stAt mu ob fin c i = some ss → (∀ s ∈ ss, Sok s) ∧ ss.length ≤ 4 ∧ ss ≠ []
  | 0, ss, e => by
    obtain ⟨e1, e2⟩ := nonE_some e
    rw [← e1] at e2 ⊢
    exact ⟨(first_ok h hf).1, (first_ok h hf).2, e2⟩
  | i + 1, ss, e => by
    unfold stAt at e
    cases h1 : stAt mu ob fin c i with
    | none =>
      rw [h1] at e
      cases e
    | some s1 =>
      rw [h1] at e
      obtain ⟨o1, o2, _⟩ := stAt_ok h hf i h1
      cases h2 : stepAll mu ob c (c.start + i) s1 with
      | none =>
        simp only [h2] at e
        cases e
      | some s2 =>
        simp only [h2] at e
        obtain ⟨e1, e2⟩ := nonE_some e
        obtain ⟨m1, m2, _⟩ := stepAll_mem h2
        have o3 : ∀ s ∈ s2, Sok s := fun s hs => by
          obtain ⟨s', q1, q2⟩ := m2 s hs
          exact step_ok (o1 s' q1) (push_v h.burns) h.drift q2
        rw [← e1] at e2 ⊢
        refine ⟨cutAll_ok o3 (sights_b h _), Nat.le_trans (cutAll_len _ _) (by omega), e2⟩
end M
end
section
set_option Elab.async false
set_option linter.all false
/-! The mirror: journeys and meetings. -/
namespace M
def endw (mu ob : Int) (fin : Nat) (c : Cr) : Nat → PySem.Str
  | 0 => "void"
  | m + 1 => match stAt mu ob fin c m with
    | none => "lost"
    | some ss => match stepAll mu ob c (c.start + m) ss with
      | none => "lost"
      | some _ => "void"
def alive (mu ob : Int) (fin : Nat) (c : Cr) : Nat → Nat
  | 0 => 0
  | n + 1 => if alive mu ob fin c n = n ∧ (stAt mu ob fin c n).isSome = true then n + 1 else alive mu ob fin c n
def moAt (mu ob : Int) (fin : Nat) (c : Cr) (i : Nat) : Mo := ⟨c.start + i, (stAt mu ob fin c i).getD []⟩
def moms (mu ob : Int) (fin : Nat) (c : Cr) (m : Nat) : List Mo := (List.range m).map (moAt mu ob fin c)
def many (c : Cr) (u : Int) : Nat := (u + 1 - c.start).toNat
def jM (mu ob : Int) (fin : Nat) (c : Cr) (u : Int) : Jo :=
  ⟨moms mu ob fin c (alive mu ob fin c (many c u)),
   if alive mu ob fin c (many c u) = many c u then "whole" else endw mu ob fin c (alive mu ob fin c (many c u)),
   if alive mu ob fin c (many c u) = many c u then none else some (c.start + alive mu ob fin c (many c u))⟩
def momAt (ms : List Mo) (z : Int) : Option Mo := match ms with
  | [] => none
  | m :: r => if m.at_ = z then some m else momAt r z
section
variable {mu ob : Int} {fin : Nat} {c : Cr}
theorem alive_all : ∀ n : Nat, (∀ i, i < n → (stAt mu ob fin c i).isSome = true) → alive mu ob fin c n = n
  | 0, _ => rfl
  | n + 1, h => by
    unfold alive
    rw [alive_all n fun i hi => h i (by omega), if_pos ⟨rfl, h n (by omega)⟩]
theorem alive_at {m : Nat} (h : ∀ i, i < m → (stAt mu ob fin c i).isSome = true) (hm : stAt mu ob fin c m = none) : ∀ k : Nat, alive mu ob fin c (m + 1 + k) = m
  | 0 => by
    show alive mu ob fin c (m + 1) = m
    unfold alive
    rw [alive_all m h, hm]
    exact if_neg fun z => by cases z.2
  | k + 1 => by
    show alive mu ob fin c (m + 1 + k + 1) = m
    unfold alive
    rw [alive_at h hm k]
    exact if_neg fun z => by omega
theorem alive_spec : ∀ n : Nat, alive mu ob fin c n ≤ n ∧ (∀ i, i < alive mu ob fin c n → (stAt mu ob fin c i).isSome = true) ∧ (alive mu ob fin c n < n → stAt mu ob fin c (alive mu ob fin c n) = none)
  | 0 => ⟨Nat.le_refl _, (fun i h => absurd h (Nat.not_lt_zero _)), (fun h => absurd h (Nat.lt_irrefl _))⟩
  | n + 1 => by
    obtain ⟨h1, h2, h3⟩ := alive_spec n
    unfold alive
    split
    · rename_i h
      refine ⟨Nat.le_refl _, (fun i hi => ?_), (fun h => absurd h (Nat.lt_irrefl _))⟩
      rcases Nat.lt_succ_iff_lt_or_eq.mp hi with q | q
      · exact h2 i (by omega)
      · rw [q]
        exact h.2
    · rename_i h
      refine ⟨by omega, h2, fun _ => ?_⟩
      by_cases e : alive mu ob fin c n = n
      · rw [e]
        cases hs : stAt mu ob fin c n with
        | none => rfl
        | some ss => exact absurd ⟨e, by rw [hs]; rfl⟩ h
      · exact h3 (by omega)
theorem jM_whole {u : Int} {n : Nat} (e : many c u = n) (h : ∀ i, i < n → (stAt mu ob fin c i).isSome = true) : jM mu ob fin c u = ⟨moms mu ob fin c n, "whole", none⟩ := by
  unfold jM
  rw [e, alive_all n h, if_pos rfl, if_pos rfl]
theorem jM_end {u : Int} {m : Nat} {w : PySem.Str} {z : Int} (e : m < many c u) (h : ∀ i, i < m → (stAt mu ob fin c i).isSome = true) (hm : stAt mu ob fin c m = none) (hw : endw mu ob fin c m = w) (hz : c.start + m = z) : jM mu ob fin c u = ⟨moms mu ob fin c m, w, some z⟩ := by
  obtain ⟨k, hk⟩ := Nat.exists_eq_add_of_lt e
  unfold jM
  rw [hk, show m + k + 1 = m + 1 + k from by omega, alive_at h hm, if_neg (by omega), if_neg (by omega), hw, hz]
theorem moms_succ (m : Nat) : moms mu ob fin c (m + 1) = moms mu ob fin c m ++ [moAt mu ob fin c m] := by
  unfold moms
  rw [List.range_succ, List.map_append]
  rfl
theorem moms_len (m : Nat) : (moms mu ob fin c m).length = m := by
  unfold moms
  rw [List.length_map, List.length_range]
theorem momAt_lt : ∀ (m : Nat) {i : Nat}, i < m → momAt (moms mu ob fin c m) (c.start + i) = some (moAt mu ob fin c i) := by
  have key : ∀ (l : List Nat) (i : Nat), i ∈ l → momAt (l.map (moAt mu ob fin c)) (c.start + i) = some (moAt mu ob fin c i) := by
    intro l
    induction l with
    | nil => intro i h; cases h
    | cons a r ih =>
      intro i h
      show (if (moAt mu ob fin c a).at_ = _ then _ else _) = _
      by_cases e : a = i
      · subst e
        exact if_pos rfl
      · rw [if_neg (fun z => e (by have : c.start + (a : Int) = c.start + i := z; omega))]
        rcases List.mem_cons.mp h with q | q
        · exact absurd q.symm e
        · exact ih i q
  exact fun m i h => key _ i (List.mem_range.mpr h)
theorem momAt_some : ∀ {ms : List Mo} {z : Int} {m : Mo}, momAt ms z = some m → m ∈ ms ∧ m.at_ = z
  | [], _, _, h => by cases h
  | a :: r, z, m, h => by
    unfold momAt at h
    split at h
    · rename_i e
      have q := Option.some.inj h
      subst q
      exact ⟨List.mem_cons_self, e⟩
    · obtain ⟨h1, h2⟩ := momAt_some h
      exact ⟨List.mem_cons_of_mem _ h1, h2⟩
/-- the moment of a tick, if there is one -/
theorem momAt_moms {m : Nat} {z : Int} {x : Mo} (h : momAt (moms mu ob fin c m) z = some x) : ∃ i : Nat, i < m ∧ z = c.start + i ∧ x = moAt mu ob fin c i := by
  obtain ⟨h1, h2⟩ := momAt_some h
  obtain ⟨i, h3, h4⟩ := List.mem_map.mp h1
  rw [← h4] at h2 ⊢
  exact ⟨i, List.mem_range.mp h3, h2.symm, rfl⟩
end
/-! ### meetings -/
def gaps (a b : List Sta) : List Iv := a.flatMap fun s => b.map fun o => sqLen (bSub s.1 o.1)
def hulls (x : Iv) (l : List Iv) : Iv := l.foldl iHull x
def gapM (a b : List Sta) : Iv := hulls ((gaps a b).headD (0, 0)) (gaps a b)
def rootUp (n : Int) : Int := if sq n * sq n = n then sq n else sq n + 1
inductive Vd where
  | imp | cer | pos | voi | unk
deriving DecidableEq
def Vd.str : Vd → PySem.Str
  | .imp => "impossible" | .cer => "certain" | .pos => "possible" | .voi => "void" | .unk => "unknown"
theorem Vd.inj : ∀ {a b : Vd}, a.str = b.str → a = b := by
  intro a b
  cases a <;> cases b <;> first | exact fun _ => rfl | exact fun h => absurd h (by decide)
theorem Vd.dec {a b : Vd} : decide (a.str = b.str) = decide (a = b) := by
  by_cases h : a = b
  · rw [h]
    simp
  · rw [decide_eq_false h, decide_eq_false fun q => h (Vd.inj q)]
def verdictM (q : Iv) (d : Int) : Vd := if d * d < q.1 then .imp else if q.2 ≤ d * d then .cer else .pos
/-- the journey has no moment of the tick, and ends void -/
def isVoid (j : Jo) (z : Int) : Bool := (momAt j.moments z).isNone && decide (j.ending = "void")
def brokenM (a b : Jo) (z : Int) : Vd := if isVoid a z = true ∨ isVoid b z = true then .voi else .unk
def rowM (one other : Jo) (z : Int) : Iv ⊕ Vd := match momAt one.moments z with
  | none => .inr (brokenM one other z)
  | some h => match momAt other.moments z with
    | none => .inr (brokenM one other z)
    | some t => .inl (gapM h.states t.states)
def sqOf : Iv ⊕ Vd → Option Iv
  | .inl q => some q
  | .inr _ => none
def wdOf : Iv ⊕ Vd → Option Vd
  | .inl _ => none
  | .inr v => some v
def vdOf (d : Int) : Iv ⊕ Vd → Vd
  | .inl q => verdictM q d
  | .inr v => v
structure Sn where
  b : Int
  e : Int
  v : Vd
  q : Option Iv
def both (p r : Option Iv) : Option Iv := match r with
  | none => none
  | some r => some (iHull (p.getD (0, 0)) r)
def grow (d : Int) (ss : List Sn) (z : Int) (r : Iv ⊕ Vd) : List Sn := match ss.getLast? with
  | none => ss ++ [⟨z, z, vdOf d r, sqOf r⟩]
  | some s => if s.v = vdOf d r then ss.dropLast ++ [⟨s.b, z, vdOf d r, both s.q (sqOf r)⟩] else ss ++ [⟨z, z, vdOf d r, sqOf r⟩]
/-- the spans behind the first i ticks -/
def spansM (one other : Jo) (low d : Int) : Nat → List Sn
  | 0 => []
  | i + 1 => grow d (spansM one other low d i) (low + i) (rowM one other (low + i))
end M
end
section
set_option Elab.async false
set_option linter.all false
set_option maxRecDepth 100000
set_option maxHeartbeats 4000000
namespace T
open PySem PySem.Spec PyProof.Rows L2 M
section
variable {P : Program} {w : World} {K : PySem.W.Frag} {mg : Str → Option Value} {base : Heap}
theorem atI_last {α : Type} {l : List α} {a : α} : atI (l ++ [a]) (-1) = some a := by
  unfold atI ixN
  rw [if_neg (by decide), if_pos (by rw [List.length_append, List.length_singleton]; omega)]
  show (l ++ [a])[((-1 : Int) + ((l ++ [a]).length : Nat)).toNat]? = some a
  rw [show ((-1 : Int) + ((l ++ [a]).length : Nat)).toNat = l.length from by rw [List.length_append, List.length_singleton]; omega, List.getElem?_concat_length]
theorem drop_get {α : Type} {l : List α} {i : Nat} {a : α} (h : l[i]? = some a) : l.drop i = a :: l.drop (i + 1) := by
  obtain ⟨h1, h2⟩ := List.getElem?_eq_some_iff.mp h
  rw [← h2]
  exact List.drop_eq_getElem_cons h1
abbrev tS3 (ss : List Sta) : Ty K := tL (ss.map sta)
theorem sc_step_all : FnScope ["body", "craft", "moment", "push", "states", "state", "later"] ["body", "craft", "moment"] Hd.d_step_all.scope := ⟨rfl, rfl, rfl, by decide +kernel, rfl, by decide +kernel, by decide +kernel⟩
def dom_step_all : Dom K := fun ts t => ∃ (mu ob : Int) (c : Cr) (m : Mo), ts = [bod mu ob, cr c, mo m] ∧ t = tO tS3 (stepAll mu ob c m.at_ m.states) ∧ (∀ s ∈ m.states, Sok s) ∧ m.states.length ≤ 1000 ∧ Bt 100 mu ∧ Bt 100 ob
theorem fn_step_all (Z : Tp K mg) : Fn P w K mg base "step_all" 5 3 (dom_step_all (K := K)) := by
  obtain ⟨fd, F⟩ := Z.f_step_all
  refine ⟨_, fd, ["body", "craft", "moment"], fn_mk F sc_step_all (by decide) fun cdv Ar outer sh Hh Ee B hr ts t hd _ => ?_, Z.g_step_all, F.kp, FunD.bindsN F fun _ _ _ _ _ _ us hl => match us, hl with | [_, _, _], _ => rfl⟩
  obtain ⟨mu, ob, c, m, rfl, rfl, hs, hz, hm, ho⟩ := hd
  refine hj_set B 3 (ej_call (fn_push_at Z) (hr.mono (by decide)) (aj_cons (ej_v 1) (aj_cons (ej_fld Z.cl_Moment Z.na_Moment_at (ej_v 2)) aj_nil)) ⟨_, _, rfl, rfl⟩) ?_
  refine hj_ownL B 4 aj_nil ?_
  refine hj_forE B (ij_L (ej_fld Z.cl_Moment Z.na_Moment_states (ej_v 2))) (n := m.states.length) (δ := List Sta) (fun i r => stepAll mu ob c m.at_ (m.states.take i) = some r) (fun _ _ => [some (bod mu ob), some (cr c), some (mo m), some (bx (pushAt c.burns m.at_)), none, none, none]) (fun _ r => some (4, oL (r.map sta))) [] rfl Le.refl (fun i t r ht hφ => ?_) (fun r hφ => ?_) (by rw [List.length_map])
  · obtain ⟨s0, hs0, rfl⟩ := map_get ht
    have hm0 := List.mem_of_getElem? hs0
    obtain ⟨o1, o2, _⟩ := hs s0 hm0
    have hsn := stepAll_snoc (mu := mu) (ob := ob) (c := c) (t := m.at_) (s := s0) (m.states.take i)
    have htk : m.states.take (i + 1) = m.states.take i ++ [s0] := by
      rw [List.take_add_one, hs0]
      rfl
    rw [← htk, hφ] at hsn
    refine hb_name B 5 ?_
    refine hj_set B 6 (ej_call (fn_step Z) (hr.mono (by decide)) (aj_cons (ej_v 0) (aj_cons (ej_v 5) (aj_cons (ej_v 3) (aj_cons (ej_fld Z.cl_Craft Z.na_Craft_drift (ej_v 1)) aj_nil)))) ⟨_, _, _, _, _, rfl, rfl, o1, o2, hm, ho⟩) ?_
    refine hj_ifr (bj_isN (ej_v 6) ej_non (nonIs_O (fun _ => nonIs_C) _)) (fun h => ?_) fun h => ?_
    · rw [Option.isNone_iff_eq_none.mp h] at hsn
      have e : stepAll mu ob c m.at_ m.states = none := by
        have q := stepAll_none (r := m.states.drop (i + 1)) _ hsn
        rw [List.take_append_drop] at q
        exact q
      rw [e]
      exact hj_ret ej_non (fun _ _ h => h)
    · cases hc : stepM mu ob s0 (pushAt c.burns m.at_) c.drift with
      | none =>
        rw [hc] at h
        cases h
      | some s1 =>
        rw [hc] at hsn
        have hl := (stepAll_mem hφ).1
        rw [List.length_take] at hl
        have h3 := Nat.min_le_right i m.states.length
        refine hj_app 4 (ej_v 6) ?_ (by rw [List.length_map]; omega)
        refine hj_endL (us := r.map sta ++ [sta s1]) (ts := (r ++ [s1]).map sta) (by rw [List.map_append]; rfl) (hM := le_ex (r ++ [s1]) hsn Le.refl)
  · rw [List.take_length] at hφ
    rw [hφ]
    exact hj_frz 4 (hj_ret (ej_v 4) (fun _ _ h => h))
theorem sc_first_states : FnScope ["fineness", "craft"] ["fineness", "craft"] Hd.d_first_states.scope := ⟨rfl, rfl, rfl, by decide +kernel, rfl, by decide +kernel, by decide +kernel⟩
def dom_first_states : Dom K := fun ts t => ∃ (n : Nat) (c : Cr), ts = [tI n, cr c] ∧ t = tL ((firstS n c).map sta) ∧ n ≤ 6
theorem fn_first_states (Z : Tp K mg) : Fn P w K mg base "first_states" 5 2 (dom_first_states (K := K)) := by
  obtain ⟨fd, F⟩ := Z.f_first_states
  refine ⟨_, fd, ["fineness", "craft"], fn_mk F sc_first_states (by decide) fun cdv Ar outer sh Hh Ee B hr ts t hd _ => ?_, Z.g_first_states, F.kp, FunD.bindsN F fun _ _ _ _ _ _ us hl => match us, hl with | [_, _], _ => rfl⟩
  obtain ⟨n, c, rfl, rfl, hn⟩ := hd
  exact hj_ret (ej_call (fn_cut_all Z) (hr.mono (by decide)) (aj_cons (ej_call (fn_parts_of Z) (hr.mono (by decide)) (aj_cons (ej_make (cs_State Z) (hr.mono (by decide)) (aj_cons (ej_fld Z.cl_Craft Z.na_Craft_place (ej_v 1)) (aj_cons (ej_fld Z.cl_Craft Z.na_Craft_speed (ej_v 1)) aj_nil)) ⟨_, _, rfl, rfl⟩) (aj_cons (ej_v 0) aj_nil)) ⟨(c.place, c.speed), n, rfl, rfl, hn⟩) (aj_cons (ej_call (fn_sighting_at Z) (hr.mono (by decide)) (aj_cons (ej_v 1) (aj_cons (ej_fld Z.cl_Craft Z.na_Craft_start (ej_v 1)) aj_nil)) ⟨_, _, rfl, rfl⟩) aj_nil)) ⟨_, _, rfl, rfl, Nat.le_trans (parts_len _ n) (Nat.le_trans (Nat.pow_le_pow_right (by decide) hn) (by decide))⟩) (fun _ _ h => h)
theorem sc_Moment_init : FnScope ["self", "at", "states"] ["self", "at", "states"] Hd.d_Moment_init.scope := ⟨rfl, rfl, rfl, by decide +kernel, rfl, by decide +kernel, by decide +kernel⟩
def dom_Moment_init : DomI K := fun ts fs => ∃ (a : Ty K) (ss : List (Ty K)), ts = [a, tL ss] ∧ fs = ([("at", a), ("states", tL ss)] : List (Str × Ty K))
theorem cs_Moment (Z : Tp K mg) : Cs P w K mg base "Moment" (He.ga K "Moment") 1 2 (dom_Moment_init (K := K)) := by
  obtain ⟨fd, F⟩ := Z.f_Moment_init
  refine ⟨Z.cl_Moment, _, fd, ["self", "at", "states"], init_mk F rfl sc_Moment_init (by decide) fun cdv Ar outer sh Hh Ee B hr q ts fs hd _ => ?_, Z.g_Moment, Z.mk_Moment, FunD.bindsN F fun _ _ _ _ _ _ us hl => match us, hl with | [_, _, _], _ => rfl⟩
  obtain ⟨a, ss, rfl, rfl⟩ := hd
  refine hj_fld 0 Z.cl_Moment Z.na_Moment_at (ej_v 1) ?_
  refine hj_fld 0 Z.cl_Moment Z.na_Moment_states (ej_callTy call_list_of Z.list (by decide +kernel) (aj_cons (ej_v 2) aj_nil) rok_listL) ?_
  exact hj_nil fun _ _ _ _ p => p.2
theorem sc_Journey_init : FnScope ["self", "moments", "ending", "broken"] ["self", "moments", "ending", "broken"] Hd.d_Journey_init.scope := ⟨rfl, rfl, rfl, by decide +kernel, rfl, by decide +kernel, by decide +kernel⟩
def dom_Journey_init : DomI K := fun ts fs => ∃ (ss : List (Ty K)) (a b : Ty K), ts = [tL ss, a, b] ∧ fs = ([("moments", tL ss), ("ending", a), ("broken", b)] : List (Str × Ty K))
theorem cs_Journey (Z : Tp K mg) : Cs P w K mg base "Journey" (He.ga K "Journey") 1 3 (dom_Journey_init (K := K)) := by
  obtain ⟨fd, F⟩ := Z.f_Journey_init
  refine ⟨Z.cl_Journey, _, fd, ["self", "moments", "ending", "broken"], init_mk F rfl sc_Journey_init (by decide) fun cdv Ar outer sh Hh Ee B hr q ts fs hd _ => ?_, Z.g_Journey, Z.mk_Journey, FunD.bindsN F fun _ _ _ _ _ _ us hl => match us, hl with | [_, _, _, _], _ => rfl⟩
  obtain ⟨ss, a, b, rfl, rfl⟩ := hd
  refine hj_fld 0 Z.cl_Journey Z.na_Journey_moments (ej_callTy call_list_of Z.list (by decide +kernel) (aj_cons (ej_v 1) aj_nil) rok_listL) ?_
  refine hj_fld 0 Z.cl_Journey Z.na_Journey_ending (ej_v 2) ?_
  refine hj_fld 0 Z.cl_Journey Z.na_Journey_broken (ej_v 3) ?_
  exact hj_nil fun _ _ _ _ p => p.2
theorem sc_Journey_moment : FnScope ["self", "at", "each"] ["self", "at"] Hd.d_Journey_moment.scope := ⟨rfl, rfl, rfl, by decide +kernel, rfl, by decide +kernel, by decide +kernel⟩
def dom_Journey_moment : Dom K := fun ts t => ∃ (j : Jo) (z : Int), ts = [jo j, tI z] ∧ t = tO mo (momAt j.moments z)
theorem mt_Journey_moment (Z : Tp K mg) : Mt P w K mg base (He.ga K "Journey") "moment" 1 2 (dom_Journey_moment (K := K)) := by
  obtain ⟨fd, F⟩ := Z.f_Journey_moment
  refine ⟨Z.cl_Journey, _, fd, ["self", "at"], fn_mk F sc_Journey_moment (by decide) fun cdv Ar outer sh Hh Ee B hr ts t hd _ => ?_, Z.me_Journey_moment, FunD.bindsN F fun _ _ _ _ _ _ us hl => match us, hl with | [_, _], _ => rfl⟩
  obtain ⟨j, z, rfl, rfl⟩ := hd
  refine hj_forE B (ij_L (ej_fld Z.cl_Journey Z.na_Journey_moments (ej_v 0))) (n := j.moments.length) (δ := Unit) (fun i _ => momAt j.moments z = momAt (j.moments.drop i) z) (fun _ _ => [some (jo j), some (tI z), none]) (fun _ _ => none) () rfl Le.refl (fun i t _ ht hφ => ?_) (fun _ hφ => ?_) (by rw [List.length_map])
  · obtain ⟨b, hb, rfl⟩ := map_get ht
    have hd := drop_get hb
    refine hb_name B 2 ?_
    refine hj_ifr (bj_eq (ej_fld Z.cl_Moment Z.na_Moment_at (ej_v 2)) (ej_v 1)) (fun h => ?_) fun h => ?_
    · have e : momAt j.moments z = some b := by
        rw [hφ, hd]
        exact if_pos (of_decide_eq_true h)
      rw [e]
      exact hj_ret (ej_v 2) (fun _ _ h => h)
    · refine hj_end (hM := le_ex () ?_ Le.refl)
      rw [hφ, hd]
      exact if_neg (of_decide_eq_false h)
  · have e : momAt j.moments z = none := by
      rw [hφ, List.drop_of_length_le (Nat.le_refl _)]
      rfl
    rw [e]
    exact hj_ret ej_non (fun _ _ h => h)
theorem sc_journey : FnScope ["body", "fineness", "craft", "until", "moments", "states", "at"] ["body", "fineness", "craft", "until"] Hd.d_journey.scope := ⟨rfl, rfl, rfl, by decide +kernel, rfl, by decide +kernel, by decide +kernel⟩
def dom_journey : Dom K := fun ts t => ∃ (mu ob : Int) (fin : Nat) (c : Cr) (u : Int), ts = [bod mu ob, tI fin, cr c, tI u] ∧ t = jo (jM mu ob fin c u) ∧ CrOk c ∧ fin ≤ 2 ∧ -1000 ≤ u ∧ u ≤ 2000 ∧ Bt 100 mu ∧ Bt 100 ob
theorem fn_journey (Z : Tp K mg) : Fn P w K mg base "journey" 6 4 (dom_journey (K := K)) := by
  obtain ⟨fd, F⟩ := Z.f_journey
  refine ⟨_, fd, ["body", "fineness", "craft", "until"], fn_mk F sc_journey (by decide) fun cdv Ar outer sh Hh Ee B hr ts t hd _ => ?_, Z.g_journey, F.kp, FunD.bindsN F fun _ _ _ _ _ _ us hl => match us, hl with | [_, _, _, _], _ => rfl⟩
  obtain ⟨mu, ob, fin, c, u, rfl, rfl, hc, hf, hu0, hu, hm, ho⟩ := hd
  have hst := hc.start
  refine hj_ownL B 4 aj_nil ?_
  refine hj_ifr (bj_lt (ej_v 3) (ej_fld Z.cl_Craft Z.na_Craft_start (ej_v 2))) (fun h => ?_) fun h => ?_
  · have h2 := of_decide_eq_true h
    rw [jM_whole (n := 0) (by unfold many; omega) (fun i hi => absurd hi (Nat.not_lt_zero _))]
    refine hj_frz 4 ?_
    exact hj_ret (ej_make (cs_Journey Z) (hr.mono (by decide)) (aj_cons (ej_v 4) (aj_cons ej_str (aj_cons ej_non aj_nil))) ⟨_, _, _, rfl, rfl⟩) (fun _ _ h => h)
  have hle := of_decide_eq_false h
  obtain ⟨f1, f2⟩ := first_ok hc hf
  refine hj_set B 5 (ej_call (fn_first_states Z) (hr.mono (by decide)) (aj_cons (ej_v 1) (aj_cons (ej_v 2) aj_nil)) ⟨_, _, rfl, rfl, by omega⟩) ?_
  refine hj_ifr (bj_eq (ej_callB call_len_seq Z.len PySem.boot_len (aj_cons (ej_v 5) aj_nil) rok_lenL) ej_int) (fun h => ?_) fun h => ?_
  · have h2 := of_decide_eq_true h
    rw [List.length_map] at h2
    have h3 : firstS fin c = [] := List.eq_nil_of_length_eq_zero (by omega)
    rw [jM_end (m := 0) (w := "void") (z := c.start) (by unfold many; omega) (fun i hi => absurd hi (Nat.not_lt_zero _)) (by show nonE _ = none; rw [h3]; rfl) rfl (by simp)]
    refine hj_frz 4 ?_
    exact hj_ret (ej_make (cs_Journey Z) (hr.mono (by decide)) (aj_cons (ej_v 4) (aj_cons ej_str (aj_cons (ej_fld Z.cl_Craft Z.na_Craft_start (ej_v 2)) aj_nil))) ⟨_, _, _, rfl, rfl⟩) (fun _ _ h => h)
  have h2 := of_decide_eq_false h
  rw [List.length_map] at h2
  have s0 : stAt mu ob fin c 0 = some (firstS fin c) := by
    show nonE _ = _
    cases hq : firstS fin c with
    | nil =>
      rw [hq] at h2
      exact absurd rfl h2
    | cons a l => rfl
  refine hj_app 4 (ej_make (cs_Moment Z) (hr.mono (by decide)) (aj_cons (ej_fld Z.cl_Craft Z.na_Craft_start (ej_v 2)) (aj_cons (ej_v 5) aj_nil)) ⟨_, _, rfl, rfl⟩) ?_ (by show 0 < 100000; omega)
  have e0 : ([] : List (Ty K)) ++ [tIn (He.ga K "Moment") [("at", tI c.start), ("states", tL ((firstS fin c).map sta))]] = (moms mu ob fin c 1).map mo := by
    show [_] = [tIn _ [("at", tI (c.start + (0 : Nat))), ("states", tL (((stAt mu ob fin c 0).getD []).map sta))]]
    rw [s0, show c.start + ((0 : Nat) : Int) = c.start from by simp]
    rfl
  rw [e0]
  refine hj_forE B (ij_r2 Z.range (ej_add (ej_fld Z.cl_Craft Z.na_Craft_start (ej_v 2)) ej_int) (ej_add (ej_v 3) ej_int) (by omega)) (n := (u + 1 - (c.start + 1)).toNat) (δ := Unit) (fun i _ => ∀ k, k < i + 1 → (stAt mu ob fin c k).isSome = true) (fun _ _ => [some (bod mu ob), some (tI fin), some (cr c), some (tI u), none, none, none]) (fun i _ => some (4, oL ((moms mu ob fin c (i + 1)).map mo))) () (fun k hk => by rw [show k = 0 from by omega, s0]; rfl) (le_less (by repeat (first | exact trivial | refine ⟨fun _ _ h => (by first | exact h | cases h), ?_⟩))) (fun i t _ ht hφ => ?_) (fun _ hφ => ?_) (by rw [rngT_len])
  · obtain ⟨hi, rfl⟩ := rngT_get ht
    obtain ⟨ss, hss⟩ := Option.isSome_iff_exists.mp (hφ i (by omega))
    obtain ⟨k1, k2, _⟩ := stAt_ok hc hf i hss
    have hmo : moAt mu ob fin c i = ⟨c.start + i, ss⟩ := by
      unfold moAt
      rw [hss]
      rfl
    have hlt : i + 1 < many c u := by
      unfold many
      omega
    have ml := moms_len (mu := mu) (ob := ob) (fin := fin) (c := c) (i + 1)
    refine hb_name B 6 ?_
    refine hj_set B 5 (ej_call (fn_step_all Z) (hr.mono (by decide)) (aj_cons (ej_v 0) (aj_cons (ej_v 2) (aj_cons (ej_ixO (ej_neg ej_int) (h := by rw [moms_succ, List.map_append, hmo]; exact atI_last)) aj_nil))) ⟨mu, ob, c, ⟨c.start + i, ss⟩, rfl, rfl, k1, by show ss.length ≤ 1000; omega, hm, ho⟩) ?_
    refine hj_ifr (bj_isN (ej_v 5) ej_non (nonIs_O (fun _ => nonIs_L) _)) (fun h => ?_) fun h => ?_
    · have h4 : stepAll mu ob c (c.start + i) ss = none := Option.isNone_iff_eq_none.mp h
      rw [jM_end (m := i + 1) (w := "lost") (z := c.start + 1 + i) hlt hφ (by unfold stAt; simp only [hss, h4]) (by unfold endw; simp only [hss, h4]) (by omega)]
      refine hj_frz 4 ?_
      exact hj_ret (ej_make (cs_Journey Z) (hr.mono (by decide)) (aj_cons (ej_v 4) (aj_cons ej_str (aj_cons (ej_v 6) aj_nil))) ⟨_, _, _, rfl, rfl⟩) (fun _ _ h => h)
    · cases h4 : stepAll mu ob c (c.start + i) ss with
      | none =>
        rw [show stepAll mu ob c (Mo.at_ ⟨c.start + i, ss⟩) (Mo.states ⟨c.start + i, ss⟩) = stepAll mu ob c (c.start + i) ss from rfl, h4] at h
        cases h
      | some s2 =>
        have l2 := (stepAll_mem h4).1
        refine hj_set B 5 (ej_call (fn_cut_all Z) (hr.mono (by decide)) (aj_cons (ej_v 5) (aj_cons (ej_call (fn_sighting_at Z) (hr.mono (by decide)) (aj_cons (ej_v 2) (aj_cons (ej_v 6) aj_nil)) ⟨_, _, rfl, rfl⟩) aj_nil)) ⟨s2, _, rfl, rfl, by omega⟩) ?_
        have hnx : stAt mu ob fin c (i + 1) = nonE (cutAll s2 (sightAt c.sights (c.start + 1 + i))) := by
          rw [show c.start + 1 + (i : Int) = c.start + i + 1 from by omega]
          show (match stAt mu ob fin c i with | none => none | some ss => _) = _
          simp only [hss, h4]
        refine hj_ifr (bj_eq (ej_callB call_len_seq Z.len PySem.boot_len (aj_cons (ej_v 5) aj_nil) rok_lenL) ej_int) (fun h => ?_) fun h => ?_
        · have h5 := of_decide_eq_true h
          rw [List.length_map] at h5
          have h6 : cutAll s2 (sightAt c.sights (c.start + 1 + i)) = [] := List.eq_nil_of_length_eq_zero (by omega)
          rw [jM_end (m := i + 1) (w := "void") (z := c.start + 1 + i) hlt hφ (by rw [hnx, h6]; rfl) (by unfold endw; simp only [hss, h4]) (by omega)]
          refine hj_frz 4 ?_
          exact hj_ret (ej_make (cs_Journey Z) (hr.mono (by decide)) (aj_cons (ej_v 4) (aj_cons ej_str (aj_cons (ej_v 6) aj_nil))) ⟨_, _, _, rfl, rfl⟩) (fun _ _ h => h)
        · have h5 := of_decide_eq_false h
          rw [List.length_map] at h5
          have s1 : stAt mu ob fin c (i + 1) = some (cutAll s2 (sightAt c.sights (c.start + 1 + i))) := by
            rw [hnx]
            cases hq : cutAll s2 (sightAt c.sights (c.start + 1 + i)) with
            | nil =>
              rw [hq] at h5
              exact absurd rfl h5
            | cons a l => rfl
          refine hj_app 4 (ej_make (cs_Moment Z) (hr.mono (by decide)) (aj_cons (ej_v 6) (aj_cons (ej_v 5) aj_nil)) ⟨_, _, rfl, rfl⟩) ?_ (by rw [List.length_map, ml]; omega)
          refine hj_endL (ts := (moms mu ob fin c (i + 1 + 1)).map mo) ?_ (hM := le_ex () ?_ Le.refl)
          · rw [moms_succ (i + 1), List.map_append]
            show _ = _ ++ [tIn _ [("at", tI (c.start + ((i + 1 : Nat) : Int))), ("states", tL (((stAt mu ob fin c (i + 1)).getD []).map sta))]]
            rw [s1, show c.start + ((i + 1 : Nat) : Int) = c.start + 1 + i from by omega]
            rfl
          · intro k hk
            rcases Nat.lt_succ_iff_lt_or_eq.mp hk with q | q
            · exact hφ k q
            · rw [q, s1]
              rfl
  · rw [jM_whole (by unfold many; omega) hφ]
    refine hj_frz 4 ?_
    exact hj_ret (ej_make (cs_Journey Z) (hr.mono (by decide)) (aj_cons (ej_v 4) (aj_cons ej_str (aj_cons ej_non aj_nil))) ⟨_, _, _, rfl, rfl⟩) (fun _ _ h => h)
end
end T
end
section
set_option Elab.async false
set_option linter.all false
/-! Meetings: the sizes. -/
namespace M
def Mok (m : Mo) : Prop := (∀ s ∈ m.states, Sok s) ∧ m.states.length ≤ 4 ∧ m.states ≠ []
/-- an interval of squares -/
def QOk (q : Iv) : Prop := 0 ≤ q.1 ∧ 0 ≤ q.2 ∧ IB 1000 q
theorem sok_q {s o : Sta} (hs : Sok s) (ho : Sok o) : QOk (sqLen (bSub s.1 o.1)) := by
  have hv : BV (bSub s.1 o.1) := ⟨iSub_v hs.2.1.1 ho.2.1.1, iSub_v hs.2.1.2.1 ho.2.1.2.1, iSub_v hs.2.1.2.2 ho.2.1.2.2⟩
  have hb : BB 135 (bSub s.1 o.1) := ⟨hs.1.1.sub ho.1.1, hs.1.2.1.sub ho.1.2.1, hs.1.2.2.sub ho.1.2.2⟩
  have h1 := sqLen_nn (bSub s.1 o.1)
  have h2 : (sqLen (bSub s.1 o.1)).1 ≤ (sqLen (bSub s.1 o.1)).2 := sqLen_v hv
  exact ⟨h1, Int.le_trans h1 h2, hb.len.mono (by omega)⟩
theorem gaps_mem {a b : List Sta} {q : Iv} (h : q ∈ gaps a b) : ∃ s ∈ a, ∃ o ∈ b, q = sqLen (bSub s.1 o.1) := by
  obtain ⟨s, h1, h2⟩ := List.mem_flatMap.mp h
  obtain ⟨o, h3, h4⟩ := List.mem_map.mp h2
  exact ⟨s, h1, o, h3, h4.symm⟩
theorem gaps_mk {a b : List Sta} {s o : Sta} (h : s ∈ a) (k : o ∈ b) : sqLen (bSub s.1 o.1) ∈ gaps a b := List.mem_flatMap.mpr ⟨s, h, List.mem_map.mpr ⟨o, k, rfl⟩⟩
theorem gaps_ne {a b : List Sta} (h : a ≠ []) (k : b ≠ []) : gaps a b ≠ [] := by
  cases a with
  | nil => exact absurd rfl h
  | cons s r =>
    cases b with
    | nil => exact absurd rfl k
    | cons o r2 => exact fun z => by cases z
theorem gaps_ok {a b : Mo} (ha : Mok a) (hb : Mok b) : ∀ q ∈ gaps a.states b.states, QOk q := fun q h => by
  obtain ⟨s, h1, o, h2, e⟩ := gaps_mem h
  rw [e]
  exact sok_q (ha.1 s h1) (hb.1 o h2)
theorem gaps_len : ∀ a b : List Sta, (gaps a b).length = a.length * b.length
  | [], b => by simp [gaps]
  | s :: r, b => by
    have ih := gaps_len r b
    show ((b.map fun o => sqLen (bSub s.1 o.1)) ++ gaps r b).length = _
    rw [List.length_append, ih, List.length_map, List.length_cons, Nat.succ_mul, Nat.add_comm]
theorem hulls_ok : ∀ {l : List Iv} {x : Iv}, QOk x → (∀ q ∈ l, QOk q) → QOk (hulls x l)
  | [], x, hx, _ => hx
  | q :: l, x, hx, h => by
    have hq := h q List.mem_cons_self
    refine hulls_ok (l := l) (x := iHull x q) ⟨?_, ?_, hx.2.2.1.min hq.2.2.1, hx.2.2.2.max hq.2.2.2⟩ fun z hz => h z (List.mem_cons_of_mem _ hz)
    · have := hx.1
      have := hq.1
      show 0 ≤ min x.1 q.1
      omega
    · have := hx.2.1
      show 0 ≤ max x.2 q.2
      omega
/-- the hull holds each -/
def InI (x : Int) (q : Iv) : Prop := q.1 ≤ x ∧ x ≤ q.2
theorem inI_hull {x : Int} {p q : Iv} (h : InI x p ∨ InI x q) : InI x (iHull p q) := by
  unfold InI at *
  show min p.1 q.1 ≤ x ∧ x ≤ max p.2 q.2
  omega
theorem hulls_x : ∀ {l : List Iv} {x : Iv} {z : Int}, InI z x → InI z (hulls x l)
  | [], _, _, h => h
  | q :: l, x, z, h => hulls_x (l := l) (x := iHull x q) (inI_hull (.inl h))
theorem hulls_in : ∀ {l : List Iv} {x q : Iv} {z : Int}, q ∈ l → InI z q → InI z (hulls x l)
  | p :: l, x, q, z, h, k => by
    rcases List.mem_cons.mp h with e | e
    · subst e
      exact hulls_x (l := l) (x := iHull x q) (inI_hull (.inr k))
    · exact hulls_in (l := l) (x := iHull x p) e k
theorem gapM_ok {a b : Mo} (ha : Mok a) (hb : Mok b) : QOk (gapM a.states b.states) := by
  have hne := gaps_ne ha.2.2 hb.2.2
  have hok := gaps_ok ha hb
  unfold gapM
  refine hulls_ok ?_ hok
  cases h : gaps a.states b.states with
  | nil => exact absurd h hne
  | cons q l => exact hok q (by rw [h]; exact List.mem_cons_self)
theorem gapM_in {a b : List Sta} {s o : Sta} {z : Int} (h : s ∈ a) (k : o ∈ b) (hz : InI z (sqLen (bSub s.1 o.1))) : InI z (gapM a b) := hulls_in (gaps_mk h k) hz
def num : Vd → Bool
  | .voi => false
  | .unk => false
  | _ => true
theorem verdictM_num (q : Iv) (d : Int) : num (verdictM q d) = true := by
  unfold verdictM
  split
  · rfl
  · split <;> rfl
def RowOk : Iv ⊕ Vd → Prop
  | .inl q => QOk q
  | .inr v => num v = false
theorem brokenM_num (a b : Jo) (z : Int) : num (brokenM a b z) = false := by
  unfold brokenM
  split <;> rfl
structure SnOk (s : Sn) : Prop where
  iff : s.q.isSome = num s.v
  q : ∀ p, s.q = some p → QOk p
theorem row_sp {r : Iv ⊕ Vd} {d a b : Int} (h : RowOk r) : SnOk ⟨a, b, vdOf d r, sqOf r⟩ := by
  cases r with
  | inl q => exact ⟨(verdictM_num q d).symm, fun p e => by cases e; exact h⟩
  | inr v => exact ⟨Eq.symm h, fun p e => by cases e⟩
theorem both_sp {r : Iv ⊕ Vd} {d a b : Int} {s : Sn} (h : RowOk r) (hs : SnOk s) (e : s.v = vdOf d r) : SnOk ⟨a, b, vdOf d r, both s.q (sqOf r)⟩ := by
  cases r with
  | inl q =>
    have h1 := hs.iff
    rw [e] at h1
    have h2 : num (vdOf d (.inl q)) = true := verdictM_num q d
    rw [h2] at h1
    obtain ⟨p, hp⟩ := Option.isSome_iff_exists.mp h1
    have h3 := hs.q p hp
    refine ⟨h2.symm, fun p' e' => ?_⟩
    have e2 : some (iHull (s.q.getD (0, 0)) q) = some p' := e'
    rw [hp] at e2
    cases e2
    exact hulls_ok (l := [q]) h3 fun z hz => by
      rw [List.mem_singleton.mp hz]
      exact h
  | inr v => exact ⟨Eq.symm h, fun p e => by cases e⟩
theorem grow_ok {d z : Int} {r : Iv ⊕ Vd} {ss : List Sn} (h : RowOk r) (hs : ∀ s ∈ ss, SnOk s) : ∀ s ∈ grow d ss z r, SnOk s := by
  intro s hm
  unfold grow at hm
  split at hm
  · rcases List.mem_append.mp hm with q | q
    · exact hs s q
    · rw [List.mem_singleton.mp q]
      exact row_sp h
  · rename_i l hl
    split at hm
    · rename_i e
      rcases List.mem_append.mp hm with q | q
      · exact hs s (List.dropLast_subset _ q)
      · rw [List.mem_singleton.mp q]
        exact both_sp h (hs l (List.mem_of_getLast? hl)) e
    · rcases List.mem_append.mp hm with q | q
      · exact hs s q
      · rw [List.mem_singleton.mp q]
        exact row_sp h
theorem grow_len (d z : Int) (r : Iv ⊕ Vd) (ss : List Sn) : (grow d ss z r).length ≤ ss.length + 1 := by
  unfold grow
  split
  · rw [List.length_append]
    exact Nat.le_refl _
  · split
    · rw [List.length_append, List.length_dropLast]
      show ss.length - 1 + 1 ≤ ss.length + 1
      omega
    · rw [List.length_append]
      exact Nat.le_refl _
theorem spans_len (a b : Jo) (low d : Int) : ∀ i, (spansM a b low d i).length ≤ i
  | 0 => Nat.le_refl _
  | i + 1 => Nat.le_trans (grow_len ..) (Nat.succ_le_succ (spans_len a b low d i))
/-- a journey whose moments are sound -/
def JOk (j : Jo) : Prop := ∀ z m, momAt j.moments z = some m → Mok m
theorem jM_ok {mu ob : Int} {fin : Nat} {c : Cr} (h : CrOk c) (hf : fin ≤ 2) (u : Int) : JOk (jM mu ob fin c u) := fun z m e => by
  obtain ⟨i, h1, _, rfl⟩ := momAt_moms e
  obtain ⟨ss, hss⟩ := Option.isSome_iff_exists.mp ((alive_spec _).2.1 i h1)
  have e2 : moAt mu ob fin c i = ⟨c.start + i, ss⟩ := by
    unfold moAt
    rw [hss]
    rfl
  rw [e2]
  exact stAt_ok h hf i hss
theorem rowM_ok {a b : Jo} (ha : JOk a) (hb : JOk b) (z : Int) : RowOk (rowM a b z) := by
  unfold rowM
  cases h1 : momAt a.moments z with
  | none => exact brokenM_num a b z
  | some m =>
    cases h2 : momAt b.moments z with
    | none => exact brokenM_num a b z
    | some m' => exact gapM_ok (ha z m h1) (hb z m' h2)
theorem spans_ok {a b : Jo} (ha : JOk a) (hb : JOk b) (low d : Int) : ∀ i, ∀ s ∈ spansM a b low d i, SnOk s
  | 0, s, h => by cases h
  | i + 1, s, h => grow_ok (rowM_ok ha hb _) (spans_ok ha hb low d i) s h
end M
end
section
set_option Elab.async false
set_option linter.all false
set_option maxRecDepth 100000
set_option maxHeartbeats 4000000
namespace T
open PySem PySem.Spec PyProof.Rows L2 M
section
variable {P : Program} {w : World} {K : PySem.W.Frag} {mg : Str → Option Value} {base : Heap}
abbrev tQo (q : Option Iv) : Ty K := tO iv q
abbrev tVo (v : Option Vd) : Ty K := tO (fun v => tS v.str) v
abbrev tRow (z : Int) (r : Iv ⊕ Vd) : Ty K := tT [tI z, tQo (sqOf r), tVo (wdOf r)]
abbrev tSp (s : Sn) : Ty K := tT [tI s.b, tI s.e, tS s.v.str, tQo s.q]
abbrev tTold (s : Sn) : Ty K := tT [tI s.b, tI s.e, tS s.v.str, tO tI (s.q.map fun q => sq q.1), tO tI (s.q.map fun q => rootUp q.2)]
def lowM (b : Int) (c d : Cr) : Int := max b (max c.start d.start)
def wideM (b e : Int) (c d : Cr) : Nat := (e + 1 - lowM b c d).toNat
theorem sc_gap : FnScope ["first", "second", "gaps", "one", "whole", "each", "other"] ["first", "second"] Hd.d_gap.scope := ⟨rfl, rfl, rfl, by decide +kernel, rfl, by decide +kernel, by decide +kernel⟩
def dom_gap : Dom K := fun ts t => ∃ a b : Mo, ts = [mo a, mo b] ∧ t = iv (gapM a.states b.states) ∧ Mok a ∧ Mok b
theorem fn_gap (Z : Tp K mg) : Fn P w K mg base "gap" 3 2 (dom_gap (K := K)) := by
  obtain ⟨fd, F⟩ := Z.f_gap
  refine ⟨_, fd, ["first", "second"], fn_mk F sc_gap (by decide) fun cdv Ar outer sh Hh Ee B hr ts t hd _ => ?_, Z.g_gap, F.kp, FunD.bindsN F fun _ _ _ _ _ _ us hl => match us, hl with | [_, _], _ => rfl⟩
  obtain ⟨a, b, rfl, rfl, ha, hb⟩ := hd
  have hlen := gaps_len a.states b.states
  have hmul : a.states.length * b.states.length ≤ 16 := Nat.mul_le_mul ha.2.1 hb.2.1
  refine hj_ownL B 2 aj_nil ?_
  refine hj_forF B (ij_L (ej_fld Z.cl_Moment Z.na_Moment_states (ej_v 0))) (n := a.states.length) (fun i => [some (mo a), some (mo b), none, none, none, none, none]) (fun i => some (2, oL ((gaps (a.states.take i) b.states).map iv))) Le.refl (fun i t ht => ?_) ?_ (by rw [List.length_map])
  · obtain ⟨s0, hs, rfl⟩ := map_get ht
    have hm0 := List.mem_of_getElem? hs
    have hi : i < a.states.length := (List.getElem?_eq_some_iff.mp hs).1
    have tk : gaps (a.states.take (i + 1)) b.states = gaps (a.states.take i) b.states ++ b.states.map fun o => sqLen (bSub s0.1 o.1) := by
      unfold gaps
      rw [List.take_add_one, hs, List.flatMap_append]
      show _ ++ (List.flatMap _ [s0]) = _
      rw [List.flatMap_cons, List.flatMap_nil, List.append_nil]
    refine hb_name B 3 ?_
    refine hj_forF B (ij_L (ej_fld Z.cl_Moment Z.na_Moment_states (ej_v 1))) (n := b.states.length) (fun j => [some (mo a), some (mo b), none, some (sta s0), none, none, none]) (fun j => some (2, oL ((gaps (a.states.take i) b.states ++ (b.states.take j).map fun o => sqLen (bSub s0.1 o.1)).map iv))) (by rw [List.take_zero, List.map_nil, List.append_nil]; exact Le.refl) (fun j t ht => ?_) ?_ (by rw [List.length_map])
    · obtain ⟨o0, ho, rfl⟩ := map_get ht
      have hn0 := List.mem_of_getElem? ho
      have hbb : BB 135 (bSub s0.1 o0.1) := by
        have h1 := (ha.1 s0 hm0).1
        have h2 := (hb.1 o0 hn0).1
        exact ⟨h1.1.sub h2.1, h1.2.1.sub h2.2.1, h1.2.2.sub h2.2.2⟩
      refine hb_name B 6 ?_
      refine hj_app 2 (ej_call (fn_square_length Z) (hr.mono (by decide)) (aj_cons (ej_call (fn_box_subtract Z) (hr.mono (by decide)) (aj_cons (ej_fld Z.cl_State Z.na_State_place (ej_v 3)) (aj_cons (ej_fld Z.cl_State Z.na_State_place (ej_v 6)) aj_nil)) ⟨_, _, rfl, rfl⟩) aj_nil) ⟨_, rfl, rfl, hbb.mono (by decide)⟩) ?_ ?_
      · refine hj_endL (ts := (gaps (a.states.take i) b.states ++ (b.states.take (j + 1)).map fun o => sqLen (bSub s0.1 o.1)).map iv) ?_
        rw [← take_map ho, ← List.append_assoc, List.map_append (l₂ := [_])]
        rfl
      · have h1 := gaps_len (a.states.take i) b.states
        have h2 : (a.states.take i).length ≤ 4 := by
          rw [List.length_take]
          have := ha.2.1
          omega
        have h3 : (a.states.take i).length * b.states.length ≤ 16 := Nat.mul_le_mul h2 hb.2.1
        have h4 : (b.states.take j).length ≤ 4 := by
          rw [List.length_take]
          have := hb.2.1
          omega
        rw [List.length_map, List.length_append, List.length_map]
        omega
    · rw [List.take_length, ← tk]
      exact hj_end
  rw [List.take_length]
  refine hj_frz 2 ?_
  have h0 : (gaps a.states b.states)[0]? = some ((gaps a.states b.states).headD (0, 0)) := by
    have := gaps_ne ha.2.2 hb.2.2
    cases h : gaps a.states b.states with
    | nil => exact absurd h this
    | cons q l => rfl
  refine hj_set B 4 (ej_ixL (ej_v 2) ej_int (atI_map (i := 0) rfl h0)) ?_
  refine hj_forF B (ij_L (ej_v 2)) (n := (gaps a.states b.states).length) (fun i => [some (mo a), some (mo b), some (tL ((gaps a.states b.states).map iv)), none, some (iv (hulls ((gaps a.states b.states).headD (0, 0)) ((gaps a.states b.states).take i))), none, none]) (fun _ => none) Le.refl (fun i t ht => ?_) ?_ (by rw [List.length_map])
  · obtain ⟨q, hq, rfl⟩ := map_get ht
    refine hb_name B 5 ?_
    refine hj_set B 4 (ej_call (fn_hull Z) (hr.mono (by decide)) (aj_cons (ej_v 4) (aj_cons (ej_v 5) aj_nil)) ⟨_, _, rfl, rfl⟩) ?_
    have e : hulls ((gaps a.states b.states).headD (0, 0)) ((gaps a.states b.states).take (i + 1)) = iHull (hulls ((gaps a.states b.states).headD (0, 0)) ((gaps a.states b.states).take i)) q := by
      unfold hulls
      rw [List.take_add_one, hq, List.foldl_append]
      rfl
    rw [e]
    exact hj_end
  rw [List.take_length]
  exact hj_ret (ej_v 4) (fun _ _ h => h)
theorem sc_root_up : FnScope ["n", "r"] ["n"] Hd.d_root_up.scope := ⟨rfl, rfl, rfl, by decide +kernel, rfl, by decide +kernel, by decide +kernel⟩
def dom_root_up : Dom K := fun ts t => ∃ n : Int, ts = [tI n] ∧ t = tI (rootUp n) ∧ 0 ≤ n ∧ Bt 1000 n
theorem fn_root_up (Z : Tp K mg) : Fn P w K mg base "root_up" 1 1 (dom_root_up (K := K)) := by
  obtain ⟨fd, F⟩ := Z.f_root_up
  refine ⟨_, fd, ["n"], fn_mk F sc_root_up (by decide) fun cdv Ar outer sh Hh Ee B hr ts t hd _ => ?_, Z.g_root_up, F.kp, FunD.bindsN F fun _ _ _ _ _ _ us hl => match us, hl with | [_], _ => rfl⟩
  obtain ⟨n, rfl, rfl, h0, hb⟩ := hd
  refine hj_set B 1 (ej_isqrt Z.isq (ej_v 0) h0 (Nat.lt_of_le_of_lt (bt_log hb) (by decide))) ?_
  refine hj_ifr (bj_eq (ej_mul (ej_v 1) (ej_v 1) (bt_cmul (sq_bt h0 hb) (sq_bt h0 hb) (by decide))) (ej_v 0)) (fun h => ?_) fun h => ?_
  · rw [show rootUp n = sq n from if_pos (of_decide_eq_true h)]
    exact hj_ret (ej_v 1) (fun _ _ h => h)
  · rw [show rootUp n = sq n + 1 from if_neg (of_decide_eq_false h)]
    exact hj_ret (ej_add (ej_v 1) ej_int) (fun _ _ h => h)
theorem sc_verdict_of : FnScope ["squares", "distance"] ["squares", "distance"] Hd.d_verdict_of.scope := ⟨rfl, rfl, rfl, by decide +kernel, rfl, by decide +kernel, by decide +kernel⟩
def dom_verdict_of : Dom K := fun ts t => ∃ (q : Iv) (d : Int), ts = [iv q, tI d] ∧ t = tS (verdictM q d).str ∧ Bt 1000 d
theorem fn_verdict_of (Z : Tp K mg) : Fn P w K mg base "verdict_of" 1 2 (dom_verdict_of (K := K)) := by
  obtain ⟨fd, F⟩ := Z.f_verdict_of
  refine ⟨_, fd, ["squares", "distance"], fn_mk F sc_verdict_of (by decide) fun cdv Ar outer sh Hh Ee B hr ts t hd _ => ?_, Z.g_verdict_of, F.kp, FunD.bindsN F fun _ _ _ _ _ _ us hl => match us, hl with | [_, _], _ => rfl⟩
  obtain ⟨q, d, rfl, rfl, hd⟩ := hd
  refine hj_ifr (bj_gt (ej_ixT (ej_v 0) ej_int) (ej_mul (ej_v 1) (ej_v 1) (bt_cmul hd hd (by decide)))) (fun h => ?_) fun h => ?_
  · rw [show verdictM q d = .imp from if_pos (of_decide_eq_true h)]
    exact hj_ret ej_str (fun _ _ h => h)
  have e1 : verdictM q d = if q.2 ≤ d * d then .cer else .pos := if_neg (of_decide_eq_false h)
  refine hj_ifr (bj_le (ej_ixT (ej_v 0) ej_int) (ej_mul (ej_v 1) (ej_v 1) (bt_cmul hd hd (by decide)))) (fun h => ?_) fun h => ?_
  · rw [e1, if_pos (of_decide_eq_true h)]
    exact hj_ret ej_str (fun _ _ h => h)
  · rw [e1, if_neg (of_decide_eq_false h)]
    exact hj_ret ej_str (fun _ _ h => h)
theorem sc_broken_word : FnScope ["first", "second", "at", "one"] ["first", "second", "at"] Hd.d_broken_word.scope := ⟨rfl, rfl, rfl, by decide +kernel, rfl, by decide +kernel, by decide +kernel⟩
def dom_broken_word : Dom K := fun ts t => ∃ (a b : Jo) (z : Int), ts = [jo a, jo b, tI z] ∧ t = tS (brokenM a b z).str
theorem fn_broken_word (Z : Tp K mg) : Fn P w K mg base "broken_word" 2 3 (dom_broken_word (K := K)) := by
  obtain ⟨fd, F⟩ := Z.f_broken_word
  refine ⟨_, fd, ["first", "second", "at"], fn_mk F sc_broken_word (by decide) fun cdv Ar outer sh Hh Ee B hr ts t hd _ => ?_, Z.g_broken_word, F.kp, FunD.bindsN F fun _ _ _ _ _ _ us hl => match us, hl with | [_, _, _], _ => rfl⟩
  obtain ⟨a, b, z, rfl, rfl⟩ := hd
  refine hj_forE B (ij_L (ej_lst (aj_cons (ej_v 0) (aj_cons (ej_v 1) aj_nil)))) (n := 2) (δ := Unit) (fun i _ => (1 ≤ i → isVoid a z = false) ∧ (2 ≤ i → isVoid b z = false)) (fun _ _ => [some (jo a), some (jo b), some (tI z), none]) (fun _ _ => none) () ⟨(fun h => absurd h (by decide)), (fun h => absurd h (by decide))⟩ Le.refl (fun i t _ ht hφ => ?_) (fun _ hφ => ?_)
  · obtain ⟨j, rfl, hj⟩ : ∃ j, t = jo j ∧ ((i = 0 ∧ j = a) ∨ (i = 1 ∧ j = b)) := by
      match i, ht with
      | 0, ht => exact ⟨a, (Option.some.inj ht).symm, .inl ⟨rfl, rfl⟩⟩
      | 1, ht => exact ⟨b, (Option.some.inj ht).symm, .inr ⟨rfl, rfl⟩⟩
    refine hb_name B 3 ?_
    refine hj_ifr (d := isVoid j z) (wj_bj (wj_and (bj_isN (ej_meth (mt_Journey_moment Z) (hr.mono (by decide)) (ej_v 3) (aj_cons (ej_v 2) aj_nil) ⟨_, _, rfl, rfl⟩) ej_non (nonIs_O (fun _ => nonIs_C) _)) fun h => (wj_and1 (bj_eqS (ej_fld Z.cl_Journey Z.na_Journey_ending (ej_v 3)) ej_str)))) (fun h => ?_) fun h => ?_
    · have e : brokenM a b z = .voi := by
        refine if_pos ?_
        rcases hj with ⟨_, e⟩ | ⟨_, e⟩
        · rw [e] at h
          exact .inl h
        · rw [e] at h
          exact .inr h
      rw [e]
      exact hj_ret ej_str (fun _ _ h => h)
    · refine hj_end (hM := le_ex () ?_ Le.refl)
      rcases hj with ⟨e0, e⟩ | ⟨e0, e⟩
      · rw [e] at h
        exact ⟨fun _ => h, fun hh => absurd hh (by omega)⟩
      · rw [e] at h
        exact ⟨fun _ => hφ.1 (by omega), fun _ => h⟩
  · have e : brokenM a b z = .unk := by
      refine if_neg ?_
      rw [hφ.1 (by decide), hφ.2 (by decide)]
      decide
    rw [e]
    exact hj_ret ej_str (fun _ _ h => h)
theorem sc_ticks_of : FnScope ["contents", "first", "second", "begin", "end", "one", "other", "rows", "at", "here", "there"] ["contents", "first", "second", "begin", "end"] Hd.d_ticks_of.scope := ⟨rfl, rfl, rfl, by decide +kernel, rfl, by decide +kernel, by decide +kernel⟩
def dom_ticks_of : Dom K := fun ts t => ∃ (mu ob : Int) (fin : Nat) (c d : Cr) (b e : Int), ts = [con mu ob fin c d, cr c, cr d, tI b, tI e] ∧ t = tL ((List.range (wideM b e c d)).map fun i => tRow (lowM b c d + (i : Nat)) (rowM (jM mu ob fin c e) (jM mu ob fin d e) (lowM b c d + (i : Nat)))) ∧ CrOk c ∧ CrOk d ∧ fin ≤ 2 ∧ (-1000 ≤ b ∧ b ≤ 2000) ∧ (-1000 ≤ e ∧ e ≤ 2000) ∧ Bt 100 mu ∧ Bt 100 ob
theorem fn_ticks_of (Z : Tp K mg) : Fn P w K mg base "ticks_of" 7 5 (dom_ticks_of (K := K)) := by
  obtain ⟨fd, F⟩ := Z.f_ticks_of
  refine ⟨_, fd, ["contents", "first", "second", "begin", "end"], fn_mk F sc_ticks_of (by decide) fun cdv Ar outer sh Hh Ee B hr ts t hd _ => ?_, Z.g_ticks_of, F.kp, FunD.bindsN F fun _ _ _ _ _ _ us hl => match us, hl with | [_, _, _, _, _], _ => rfl⟩
  obtain ⟨mu, ob, fin, c, d, b, e, rfl, rfl, hc, hd, hf, hb, he, hm, ho⟩ := hd
  have hs1 := hc.start
  have hs2 := hd.start
  have hlow : lowM b c d = max b (max c.start d.start) := rfl
  refine hj_set B 5 (ej_call (fn_journey Z) (hr.mono (by decide)) (aj_cons (ej_fld Z.cl_Contents Z.na_Contents_body (ej_v 0)) (aj_cons (ej_fld Z.cl_Contents Z.na_Contents_fineness (ej_v 0)) (aj_cons (ej_v 1) (aj_cons (ej_v 4) aj_nil)))) ⟨_, _, _, _, _, rfl, rfl, hc, hf, he.1, he.2, hm, ho⟩) ?_
  refine hj_set B 6 (ej_call (fn_journey Z) (hr.mono (by decide)) (aj_cons (ej_fld Z.cl_Contents Z.na_Contents_body (ej_v 0)) (aj_cons (ej_fld Z.cl_Contents Z.na_Contents_fineness (ej_v 0)) (aj_cons (ej_v 2) (aj_cons (ej_v 4) aj_nil)))) ⟨_, _, _, _, _, rfl, rfl, hd, hf, he.1, he.2, hm, ho⟩) ?_
  refine hj_ownL B 7 aj_nil ?_
  have jo1 := jM_ok (mu := mu) (ob := ob) hc hf e
  have jo2 := jM_ok (mu := mu) (ob := ob) hd hf e
  generalize jM mu ob fin c e = one at jo1 ⊢
  generalize jM mu ob fin d e = other at jo2 ⊢
  refine hj_forF B (ij_r2 Z.range (ej_callB (call_max3 B.calm) Z.«max» (by decide +kernel) (aj_cons (ej_v 3) (aj_cons (ej_fld Z.cl_Craft Z.na_Craft_start (ej_v 1)) (aj_cons (ej_fld Z.cl_Craft Z.na_Craft_start (ej_v 2)) aj_nil))) rok_max3) (ej_add (ej_v 4) ej_int) (by omega)) (n := wideM b e c d) (fun i => [some (con mu ob fin c d), some (cr c), some (cr d), some (tI b), some (tI e), some (jo one), some (jo other), none, none, none, none]) (fun i => some (7, oL ((List.range i).map fun i => tRow (lowM b c d + (i : Nat)) (rowM one other (lowM b c d + (i : Nat)))))) Le.refl (fun i t ht => ?_) ?_ (by rw [rngT_len]; rfl)
  · obtain ⟨hi, rfl⟩ := rngT_get ht
    have hi2 : i < 100000 := by omega
    have hlen : ((List.range i).map fun i => tRow (K := K) (lowM b c d + (i : Nat)) (rowM one other (lowM b c d + (i : Nat)))).length = i := by rw [List.length_map, List.length_range]
    rw [← hlow]
    refine hb_name B 8 ?_
    refine hj_set B 9 (ej_meth (mt_Journey_moment Z) (hr.mono (by decide)) (ej_v 5) (aj_cons (ej_v 8) aj_nil) ⟨_, _, rfl, rfl⟩) ?_
    refine hj_set B 10 (ej_meth (mt_Journey_moment Z) (hr.mono (by decide)) (ej_v 6) (aj_cons (ej_v 8) aj_nil) ⟨_, _, rfl, rfl⟩) ?_
    have hrow : (List.range (i + 1)).map (fun i => tRow (K := K) (lowM b c d + (i : Nat)) (rowM one other (lowM b c d + (i : Nat)))) = ((List.range i).map fun i => tRow (lowM b c d + (i : Nat)) (rowM one other (lowM b c d + (i : Nat)))) ++ [tRow (lowM b c d + (i : Nat)) (rowM one other (lowM b c d + (i : Nat)))] := by
      rw [List.range_succ, List.map_append]
      rfl
    rw [hrow]
    refine hj_ifm (A (K := K) [some (con mu ob fin c d), some (cr c), some (cr d), some (tI b), some (tI e), some (jo one), some (jo other), none, none, none, none] (some (7, oL (((List.range i).map fun i => tRow (lowM b c d + (i : Nat)) (rowM one other (lowM b c d + (i : Nat)))) ++ [tRow (lowM b c d + (i : Nat)) (rowM one other (lowM b c d + (i : Nat)))])))) (wj_bj (wj_or (bj_isN (ej_v 9) ej_non (nonIs_O (fun _ => nonIs_C) _)) fun h => (wj_or1 (bj_isN (ej_v 10) ej_non (nonIs_O (fun _ => nonIs_C) _))))) (fun h => ?_) (fun h => ?_) (hj_nil Le.refl)
    · have hr2 : rowM one other (lowM b c d + (i : Nat)) = .inr (brokenM one other (lowM b c d + (i : Nat))) := by
        unfold rowM
        cases h1 : momAt one.moments (lowM b c d + (i : Nat)) with
        | none => rfl
        | some m1 =>
          cases h2 : momAt other.moments (lowM b c d + (i : Nat)) with
          | none => rfl
          | some m2 =>
            rw [h1, h2] at h
            cases h
      rw [hr2]
      refine hj_app 7 (ej_tup (aj_cons (ej_v 8) (aj_cons ej_non (aj_cons (ej_call (fn_broken_word Z) (hr.mono (by decide)) (aj_cons (ej_v 5) (aj_cons (ej_v 6) (aj_cons (ej_v 8) aj_nil))) ⟨_, _, _, rfl, rfl⟩) aj_nil)))) ?_ (by rw [hlen]; exact hi2)
      exact hj_end
    · rw [Bool.or_eq_false_iff] at h
      cases h1 : momAt one.moments (lowM b c d + (i : Nat)) with
      | none =>
        rw [h1] at h
        cases h.1
      | some m1 =>
        cases h2 : momAt other.moments (lowM b c d + (i : Nat)) with
        | none =>
          rw [h2] at h
          cases h.2
        | some m2 =>
          have hr2 : rowM one other (lowM b c d + (i : Nat)) = .inl (gapM m1.states m2.states) := by
            unfold rowM
            rw [h1, h2]
          rw [hr2]
          refine hj_app 7 (ej_tup (aj_cons (ej_v 8) (aj_cons (ej_call (fn_gap Z) (hr.mono (by decide)) (aj_cons (ej_v 9) (aj_cons (ej_v 10) aj_nil)) ⟨m1, m2, rfl, rfl, jo1 _ _ h1, jo2 _ _ h2⟩) (aj_cons ej_non aj_nil)))) ?_ (by rw [hlen]; exact hi2)
          exact hj_end
  · exact hj_frz 7 (hj_ret (ej_v 7) (fun _ _ h => h))
theorem sc_told : FnScope ["span", "begin", "end", "verdict", "squares"] ["span"] Hd.d_told.scope := ⟨rfl, rfl, rfl, by decide +kernel, rfl, by decide +kernel, by decide +kernel⟩
def dom_told : Dom K := fun ts t => ∃ s : Sn, ts = [tSp s] ∧ t = tTold s ∧ SnOk s
theorem fn_told (Z : Tp K mg) : Fn P w K mg base "told" 2 1 (dom_told (K := K)) := by
  obtain ⟨fd, F⟩ := Z.f_told
  refine ⟨_, fd, ["span"], fn_mk F sc_told (by decide) fun cdv Ar outer sh Hh Ee B hr ts t hd _ => ?_, Z.g_told, F.kp, FunD.bindsN F fun _ _ _ _ _ _ us hl => match us, hl with | [_], _ => rfl⟩
  obtain ⟨s, rfl, rfl, hs⟩ := hd
  refine hj_unp B [1, 2, 3, 4] (ej_v 0) ?_
  refine hj_ifr (bj_isN (ej_v 4) ej_non (nonIs_O (fun _ => nonIs_T) _)) (fun h => ?_) fun h => ?_
  · have e := Option.isNone_iff_eq_none.mp h
    rw [e]
    exact hj_ret (ej_tup (aj_cons (ej_v 1) (aj_cons (ej_v 2) (aj_cons (ej_v 3) (aj_cons ej_non (aj_cons ej_non aj_nil)))))) (fun _ _ h => by unfold tTold; rw [e]; exact h)
  · obtain ⟨p, hp⟩ : ∃ p, s.q = some p := by
      cases hq : s.q with
      | none =>
        rw [hq] at h
        cases h
      | some p => exact ⟨p, rfl⟩
    obtain ⟨h1, h2, h3⟩ := hs.q p hp
    have e : tTold (K := K) s = tT [tI s.b, tI s.e, tS s.v.str, tI (sq p.1), tI (rootUp p.2)] := by
      unfold tTold
      rw [hp]
      rfl
    rw [e, hp]
    exact hj_ret (ej_tup (aj_cons (ej_v 1) (aj_cons (ej_v 2) (aj_cons (ej_v 3) (aj_cons (ej_isqrt Z.isq (ej_ixT (ts := [tI p.1, tI p.2]) (ej_v 4) ej_int) h1 (Nat.lt_of_le_of_lt (bt_log h3.1) (by decide))) (aj_cons (ej_call (fn_root_up Z) (hr.mono (by decide)) (aj_cons (ej_ixT (ts := [tI p.1, tI p.2]) (ej_v 4) ej_int) aj_nil) ⟨_, rfl, rfl, h2, h3.2⟩) aj_nil)))))) (fun _ _ h => h)
theorem sc_meeting : FnScope ["contents", "first", "second", "begin", "end", "distance", "spans", "at", "squares", "word", "verdict", "before", "both", "span"] ["contents", "first", "second", "begin", "end", "distance"] Hd.d_meeting.scope := ⟨rfl, rfl, rfl, by decide +kernel, rfl, by decide +kernel, by decide +kernel⟩
def dom_meeting : Dom K := fun ts t => ∃ (mu ob : Int) (fin : Nat) (c d : Cr) (b e dist : Int), ts = [con mu ob fin c d, cr c, cr d, tI b, tI e, tI dist] ∧ t = tL ((spansM (jM mu ob fin c e) (jM mu ob fin d e) (lowM b c d) dist (wideM b e c d)).map tTold) ∧ CrOk c ∧ CrOk d ∧ fin ≤ 2 ∧ (-1000 ≤ b ∧ b ≤ 2000) ∧ (-1000 ≤ e ∧ e ≤ 2000) ∧ Bt 100 mu ∧ Bt 100 ob ∧ Bt 1000 dist
theorem fn_meeting (Z : Tp K mg) : Fn P w K mg base "meeting" 8 6 (dom_meeting (K := K)) := by
  obtain ⟨fd, F⟩ := Z.f_meeting
  refine ⟨_, fd, ["contents", "first", "second", "begin", "end", "distance"], fn_mk F sc_meeting (by decide) fun cdv Ar outer sh Hh Ee B hr ts t hd _ => ?_, Z.g_meeting, F.kp, FunD.bindsN F fun _ _ _ _ _ _ us hl => match us, hl with | [_, _, _, _, _, _], _ => rfl⟩
  obtain ⟨mu, ob, fin, c, d, b, e, dist, rfl, rfl, hc, hd, hf, hb, he, hm, ho, hdi⟩ := hd
  have hs1 := hc.start
  have hs2 := hd.start
  have hlow : lowM b c d = max b (max c.start d.start) := rfl
  have hwide : wideM b e c d = (e + 1 - lowM b c d).toNat := rfl
  have jo1 := jM_ok (mu := mu) (ob := ob) hc hf e
  have jo2 := jM_ok (mu := mu) (ob := ob) hd hf e
  refine hj_ownL B 6 aj_nil ?_
  refine hj_forF B (ij_L (ej_call (fn_ticks_of Z) (hr.mono (by decide)) (aj_cons (ej_v 0) (aj_cons (ej_v 1) (aj_cons (ej_v 2) (aj_cons (ej_v 3) (aj_cons (ej_v 4) aj_nil))))) ⟨mu, ob, fin, c, d, b, e, rfl, rfl, hc, hd, hf, hb, he, hm, ho⟩)) (n := wideM b e c d) (fun _ => [some (con mu ob fin c d), some (cr c), some (cr d), some (tI b), some (tI e), some (tI dist), none, none, none, none, none, none, none, none]) (fun i => some (6, oL ((spansM (jM mu ob fin c e) (jM mu ob fin d e) (lowM b c d) dist i).map tSp))) Le.refl (fun i t ht => ?_) ?_ (by rw [List.length_map, List.length_range])
  · obtain ⟨i', hi', rfl⟩ := map_get ht
    have hi : i < wideM b e c d := by
      have := (List.getElem?_eq_some_iff.mp hi').1
      rw [List.length_range] at this
      exact this
    have hii : i' = i := by
      rw [List.getElem?_range hi] at hi'
      exact (Option.some.inj hi').symm
    subst hii
    have hrk := rowM_ok jo1 jo2 (lowM b c d + (i' : Nat))
    have hsk := spans_ok jo1 jo2 (lowM b c d) dist i'
    have hln := spans_len (jM mu ob fin c e) (jM mu ob fin d e) (lowM b c d) dist i'
    rw [show spansM (jM mu ob fin c e) (jM mu ob fin d e) (lowM b c d) dist (i' + 1) = grow dist (spansM (jM mu ob fin c e) (jM mu ob fin d e) (lowM b c d) dist i') (lowM b c d + (i' : Nat)) (rowM (jM mu ob fin c e) (jM mu ob fin d e) (lowM b c d + (i' : Nat))) from rfl]
    generalize spansM (jM mu ob fin c e) (jM mu ob fin d e) (lowM b c d) dist i' = ss at hsk hln ⊢
    generalize rowM (jM mu ob fin c e) (jM mu ob fin d e) (lowM b c d + (i' : Nat)) = r at hrk ⊢
    generalize lowM b c d + (i' : Nat) = z
    have hln2 : ss.length < 100000 := by omega
    refine hb_tup B [7, 8, 9] ?_
    refine hj_set B 10 (ej_v 9) ?_
    refine hj_ifm (A (K := K) [some (con mu ob fin c d), some (cr c), some (cr d), some (tI b), some (tI e), some (tI dist), none, some (tI z), some (tQo (sqOf r)), some (tVo (wdOf r)), some (tS (vdOf dist r).str), none, none, none] (some (6, oL (ss.map tSp)))) (bj_notN (ej_v 8) ej_non (nonIs_O (fun _ => nonIs_T) _)) (fun h => ?_) (fun h => ?_) ?_
    · cases r with
      | inl q => exact hj_set B 10 (ej_call (fn_verdict_of Z) (hr.mono (by decide)) (aj_cons (ej_v 8) (aj_cons (ej_v 5) aj_nil)) ⟨q, dist, rfl, rfl, hdi⟩) hj_end
      | inr v => cases h
    · cases r with
      | inl q => cases h
      | inr v => exact hj_end
    refine hj_ifm (A (K := K) [some (con mu ob fin c d), some (cr c), some (cr d), some (tI b), some (tI e), some (tI dist), none, none, none, none, none, none, none, none] (some (6, oL ((grow dist ss z r).map tSp)))) (d := decide ((0 : Int) < ((ss.map (tSp (K := K))).length : Nat)) && decide ((ss.getLast?.getD ⟨0, 0, .unk, none⟩).v.str = (vdOf dist r).str)) (wj_bj (wj_and (bj_gt (ej_lenO Z.len) ej_int) fun h => (wj_and1 (bj_eqS (ej_ixT (ts := [tI (ss.getLast?.getD ⟨0, 0, .unk, none⟩).b, tI (ss.getLast?.getD ⟨0, 0, .unk, none⟩).e, tS (ss.getLast?.getD ⟨0, 0, .unk, none⟩).v.str, tQo (ss.getLast?.getD ⟨0, 0, .unk, none⟩).q]) (ej_ixO (ej_neg ej_int) (h := ?_)) ej_int) (ej_v 10))))) (fun h => ?_) (fun h => ?_) (hj_nil Le.refl)
    · have h0 := of_decide_eq_true h
      rcases List.eq_nil_or_concat ss with e | ⟨l, s, e⟩
      · subst e
        exact absurd h0 (by show ¬ ((0 : Int) < 0); decide)
      · subst e
        rw [List.concat_eq_append, List.map_append, List.getLast?_concat]
        exact atI_last
    · rw [Bool.and_eq_true, decide_eq_true_eq, decide_eq_true_eq] at h
      rcases List.eq_nil_or_concat ss with e | ⟨l, s, e⟩
      · subst e
        exact absurd h.1 (by show ¬ ((0 : Int) < 0); decide)
      subst e
      rw [List.concat_eq_append] at h hsk hln2 ⊢
      rw [List.getLast?_concat] at h
      have hv : s.v = vdOf dist r := Vd.inj h.2
      have hs := hsk s (List.mem_append.mpr (.inr (List.mem_singleton_self _)))
      have hg : grow dist (l ++ [s]) z r = l ++ [⟨s.b, z, vdOf dist r, both s.q (sqOf r)⟩] := by
        unfold grow
        rw [List.getLast?_concat]
        show (if s.v = vdOf dist r then _ else _) = _
        rw [if_pos hv, List.dropLast_concat]
      rw [hg, List.map_append, List.map_append]
      refine hj_set B 11 (ej_ixO (ej_neg ej_int) (h := atI_last)) ?_
      refine hj_set B 12 ej_non ?_
      refine hj_ifm (A (K := K) [some (con mu ob fin c d), some (cr c), some (cr d), some (tI b), some (tI e), some (tI dist), none, some (tI z), some (tQo (sqOf r)), some (tVo (wdOf r)), some (tS (vdOf dist r).str), some (tSp s), some (tQo (both s.q (sqOf r))), none] (some (6, oL (l.map tSp ++ [tSp s])))) (bj_notN (ej_v 8) ej_non (nonIs_O (fun _ => nonIs_T) _)) (fun h => ?_) (fun h => ?_) ?_
      · cases r with
        | inl q =>
          have h1 := hs.iff
          rw [hv] at h1
          rw [show num (vdOf dist (.inl q)) = true from verdictM_num q dist] at h1
          obtain ⟨p, hp⟩ := Option.isSome_iff_exists.mp h1
          refine hj_set B 12 (ej_call (fn_hull Z) (hr.mono (by decide)) (aj_cons (ej_ixT (t := iv p) (ej_v 11) ej_int (h := by rw [hp]; rfl)) (aj_cons (ej_v 8) aj_nil)) ⟨p, q, rfl, rfl⟩) ?_
          rw [hp]
          exact hj_end
        | inr v => cases h
      · cases r with
        | inl q => cases h
        | inr v => exact hj_end
      refine hj_setO 6 (px2 := ⟨0, 0, 0, 0⟩) (ej_tup (aj_cons (ej_ixT (ej_v 11) ej_int) (aj_cons (ej_v 7) (aj_cons (ej_v 10) (aj_cons (ej_v 12) aj_nil))))) (ej_neg ej_int) (jj := l.length) ?_ ?_
      · unfold ixN
        rw [if_neg (by decide), if_pos (by rw [List.length_append, List.length_singleton]; omega)]
        rw [List.length_append, List.length_singleton, List.length_map]
        congr 1
        omega
      · rw [List.set_append_right _ _ (by rw [List.length_map]; exact Nat.le_refl _), List.length_map, Nat.sub_self]
        exact hj_end
    · have hg : grow dist ss z r = ss ++ [⟨z, z, vdOf dist r, sqOf r⟩] := by
        unfold grow
        rcases List.eq_nil_or_concat ss with e | ⟨l, s, e⟩
        · subst e
          rfl
        · subst e
          rw [List.concat_eq_append] at h ⊢
          rw [List.getLast?_concat] at h ⊢
          rw [Bool.and_eq_false_iff, decide_eq_false_iff_not, decide_eq_false_iff_not] at h
          show (if s.v = vdOf dist r then _ else _) = _
          refine if_neg fun z => ?_
          rcases h with h | h
          · refine h ?_
            rw [List.length_map, List.length_append, List.length_singleton]
            omega
          · exact h (congrArg Vd.str z)
      rw [hg, List.map_append]
      refine hj_app 6 (ej_tup (aj_cons (ej_v 7) (aj_cons (ej_v 7) (aj_cons (ej_v 10) (aj_cons (ej_v 8) aj_nil))))) ?_ (by rw [List.length_map]; exact hln2)
      exact hj_end
  · have hsk := spans_ok jo1 jo2 (lowM b c d) dist (wideM b e c d)
    have hln := spans_len (jM mu ob fin c e) (jM mu ob fin d e) (lowM b c d) dist (wideM b e c d)
    generalize spansM (jM mu ob fin c e) (jM mu ob fin d e) (lowM b c d) dist (wideM b e c d) = ss at hsk hln ⊢
    refine hj_frz 6 ?_
    refine hj_ret (ej_lc (own := [("span", 13)]) (f := fun i Γ => Γ.set 13 ((ss.map tSp)[i]?)) B rfl (ij_L (ej_v 6)) [13] (ss.map tTold) (by rw [List.length_map, List.length_map]) (fun i t ht s H' C cl fp => ?_) (fun i t u ht hu s H' C cl fp => ?_) (blkOk_by (N := ["contents", "first", "second", "begin", "end", "distance", "spans", "at", "squares", "word", "verdict", "before", "both", "span"]) (sc := Hd.d_meeting.scope) (by decide +kernel)) (hz := by rw [List.length_map]; omega)) (fun _ _ h => h)
    · rw [ht]
      exact gj_name B.blk 13
    · obtain ⟨s0, hs, rfl⟩ := map_get ht
      obtain ⟨s1, hs1, rfl⟩ := map_get hu
      rw [hs] at hs1
      cases hs1
      rw [ht]
      exact ej_call (fn_told Z) (hr.mono (by decide)) (aj_cons (ej_v 13) aj_nil) ⟨s0, rfl, rfl, hsk s0 (List.mem_of_getElem? hs)⟩
end
end T
end
section
set_option Elab.async false
set_option linter.all false
/-! The mirror: the law's own functions. -/
namespace M
theorem bt_of {n : Nat} {x : Int} (h1 : -(2 ^ n) < x) (h2 : x < 2 ^ n) : Bt n x := by
  unfold Bt
  have e : ((2 ^ n : Nat) : Int) = 2 ^ n := by simp
  omega
theorem bt40 {x : Int} (h1 : -1000000000000 ≤ x) (h2 : x ≤ 1000000000000) : Bt 40 x := by
  unfold Bt
  omega
theorem bt60 {x : Int} (h1 : -(10 ^ 18) ≤ x) (h2 : x ≤ 10 ^ 18) : Bt 60 x := by
  unfold Bt
  omega
def pick2 (a b i : Int) : Int := if i = 0 then a else b
def pick3 (a b c i : Int) : Int := if i = 0 then a else if i = 1 then b else c
def pick4 (a b c d i : Int) : Int := if i = 0 then a else if i = 1 then b else if i = 2 then c else d
/-- _law_row -/
def row0 (s : List Int) (k : Nat) : Int := if k < s.length then s.getD k 0 else 0
def row1 (x : Int) : Int := if x < 0 then 1 - 2 * x else x
def rowA (x k : Int) : Int := ((x + 1) * 48271 + (k + 1) * 69621) % 2147483647
def rowB (x k : Int) : Int := (x * 16807 + k * 40014 + 11) % 2147483399 * 2147483029 + x * x % 2147482951
def lrow (s : List Int) (k : Nat) : Int := if row1 (row0 s k) < 10 ^ 9 then rowB (rowA (row1 (row0 s k)) k) k else row1 (row0 s k)
theorem row1_nn (x : Int) : 0 ≤ row1 x := by
  unfold row1
  split <;> omega
theorem rowA_b (x k : Int) : 0 ≤ rowA x k ∧ rowA x k < 2147483647 := ⟨Int.emod_nonneg _ (by decide), Int.emod_lt_of_pos _ (by decide)⟩
theorem lrow_nn (s : List Int) (k : Nat) : 0 ≤ lrow s k := by
  unfold lrow
  split
  · unfold rowB
    have h1 := Int.emod_nonneg (rowA (row1 (row0 s k)) k * 16807 + k * 40014 + 11) (show (2147483399 : Int) ≠ 0 by decide)
    have h2 := Int.emod_nonneg (rowA (row1 (row0 s k)) k * rowA (row1 (row0 s k)) k) (show (2147482951 : Int) ≠ 0 by decide)
    omega
  · exact row1_nn _
/-- r, divided by d i times -/
def dv (d r : Int) : Nat → Int
  | 0 => r
  | i + 1 => dv d r i / d
/-- _law_spread -/
def spi (span r : Int) (i : Nat) : Int := dv (2 * span + 1) r i % (2 * span + 1) - span
def spr (r : Int) (n : Nat) (span : Int) : List Int := (List.range n).map (spi span r)
theorem spi_b {span r : Int} (h : 0 ≤ span) (i : Nat) : -span ≤ spi span r i ∧ spi span r i ≤ span := by
  unfold spi
  have h1 := Int.emod_nonneg (dv (2 * span + 1) r i) (show 2 * span + 1 ≠ 0 by omega)
  have h2 := Int.emod_lt_of_pos (dv (2 * span + 1) r i) (show 0 < 2 * span + 1 by omega)
  omega
/-- _law_box -/
def half (wd r : Int) (i : Nat) : Int := dv (wd + 1) r i % (wd + 1)
theorem half_b {wd r : Int} (h : 0 ≤ wd) (i : Nat) : 0 ≤ half wd r i ∧ half wd r i ≤ wd := by
  unfold half
  have h1 := Int.emod_nonneg (dv (wd + 1) r i) (show wd + 1 ≠ 0 by omega)
  have h2 := Int.emod_lt_of_pos (dv (wd + 1) r i) (show 0 < wd + 1 by omega)
  omega
def lbi (r span wd : Int) (i : Nat) : Iv := (spi span r i - half wd (r / (2 * span + 1) ^ 3) i, spi span r i + half wd (r / (2 * span + 1) ^ 3) i)
def lbox (r span wd : Int) : Bx := (lbi r span wd 0, lbi r span wd 1, lbi r span wd 2)
/-- within most -/
def IW (most : Int) (a : Iv) : Prop := -most ≤ a.1 ∧ a.1 ≤ a.2 ∧ a.2 ≤ most
def BW (most : Int) (b : Bx) : Prop := IW most b.1 ∧ IW most b.2.1 ∧ IW most b.2.2
theorem IW.mono {m n : Int} {a : Iv} (h : IW m a) (k : m ≤ n) : IW n a := by
  unfold IW at *
  omega
theorem BW.mono {m n : Int} {b : Bx} (h : BW m b) (k : m ≤ n) : BW n b := ⟨h.1.mono k, h.2.1.mono k, h.2.2.mono k⟩
theorem lbi_w {r span wd : Int} (h : 0 ≤ span) (k : 0 ≤ wd) (i : Nat) : IW (span + wd) (lbi r span wd i) := by
  have h1 := spi_b (r := r) h i
  have h2 := half_b (r := r / (2 * span + 1) ^ 3) k i
  show -(span + wd) ≤ spi span r i - half wd _ i ∧ spi span r i - half wd _ i ≤ spi span r i + half wd _ i ∧ spi span r i + half wd _ i ≤ span + wd
  omega
theorem lbox_w {r span wd : Int} (h : 0 ≤ span) (k : 0 ≤ wd) : BW (span + wd) (lbox r span wd) := ⟨lbi_w h k 0, lbi_w h k 1, lbi_w h k 2⟩
/-- _law_member -/
def biv (b : Bx) : Nat → Iv
  | 0 => b.1
  | 1 => b.2.1
  | _ => b.2.2
def mrow (b : Bx) (r : Int) : Nat → Int
  | 0 => r
  | i + 1 => mrow b r i / ((biv b i).2 - (biv b i).1 + 1)
def mei (b : Bx) (r : Int) (i : Nat) : Int := (biv b i).1 + mrow b r i % ((biv b i).2 - (biv b i).1 + 1)
def mem (b : Bx) (r : Int) : Pt := (mei b r 0, mei b r 1, mei b r 2)
theorem biv_w {m : Int} {b : Bx} (h : BW m b) : ∀ i, IW m (biv b i)
  | 0 => h.1
  | 1 => h.2.1
  | _ + 2 => h.2.2
theorem mei_in {m : Int} {b : Bx} {r : Int} (h : BW m b) (i : Nat) : InI (mei b r i) (biv b i) := by
  have hb := biv_w h i
  unfold IW at hb
  unfold mei InI
  have h1 := Int.emod_nonneg (mrow b r i) (show (biv b i).2 - (biv b i).1 + 1 ≠ 0 by omega)
  have h2 := Int.emod_lt_of_pos (mrow b r i) (show 0 < (biv b i).2 - (biv b i).1 + 1 by omega)
  omega
/-- a point in a box -/
def InB (p : Pt) (b : Bx) : Prop := InI p.1 b.1 ∧ InI p.2.1 b.2.1 ∧ InI p.2.2 b.2.2
theorem mem_in {m : Int} {b : Bx} {r : Int} (h : BW m b) : InB (mem b r) b := ⟨mei_in h 0, mei_in h 1, mei_in h 2⟩
/-- a point within most -/
def PW (m : Int) (p : Pt) : Prop := (-m ≤ p.1 ∧ p.1 ≤ m) ∧ (-m ≤ p.2.1 ∧ p.2.1 ≤ m) ∧ (-m ≤ p.2.2 ∧ p.2.2 ≤ m)
theorem InB.w {m : Int} {b : Bx} {p : Pt} (h : InB p b) (k : BW m b) : PW m p := by
  obtain ⟨⟨a1, a2⟩, ⟨a3, a4⟩, a5, a6⟩ := h
  obtain ⟨⟨b1, b2, b3⟩, ⟨b4, b5, b6⟩, b7, b8, b9⟩ := k
  exact ⟨⟨by omega, by omega⟩, ⟨by omega, by omega⟩, by omega, by omega⟩
/-- _law_pull -/
def len2 (p : Pt) : Int := p.1 * p.1 + p.2.1 * p.2.1 + p.2.2 * p.2.2
def plc (mu ob : Int) (p : Pt) (c k : Int) : Int :=
  -mu * c / (len2 p * sq (len2 p)) + ob * c * (5 * p.2.2 * p.2.2 - k * len2 p) / (len2 p * len2 p * len2 p * sq (len2 p))
def lpull (mu ob : Int) (p : Pt) : Pt := (plc mu ob p p.1 1, plc mu ob p p.2.1 1, plc mu ob p p.2.2 3)
/-- _law_world -/
structure Wo where
  mu : Int
  ob : Int
  drift : Int
  start : Int
  fin : Int
  many : Int
  place : Bx
  speed : Bx
  burns : List Bn
def wSpan (s : List Int) : Int := pick3 30 300 5000 (lrow s 2 % 3)
def bFirst (s : List Int) : Nat → Int
  | 0 => lrow s 1 / 31 % 9 + lrow s 6 % 4
  | k + 1 => bFirst s k + 1 + lrow s 6 / 5 % 3 + lrow s 6 / 7 % 2
def bOne (s : List Int) (k : Nat) : Bn := ⟨bFirst s k, bFirst s k + 1 + lrow s 6 / 5 % 3, lbox (lrow s 6 / 12 + k * 7919) 30 (pick2 0 4 ((k : Int) % 2))⟩
def bMany (s : List Int) : Nat := (lrow s 6 / 4 % 3).toNat
def world (s : List Int) : Wo where
  mu := pick3 (1 + lrow s 0 / 7 % 1000) (1 + lrow s 0 / 7 % 10 ^ 7) (1 + lrow s 0 / 7 % 10 ^ 9) (lrow s 0 % 3)
  ob := pick2 0 (lrow s 0 / 11 % 10 ^ 12) (lrow s 0 / 3 % 2)
  drift := pick3 0 1 (lrow s 1 / 5 % 6) (lrow s 1 % 3)
  start := lrow s 1 / 31 % 9
  fin := lrow s 1 / 279 % 3
  many := 3 + lrow s 1 / 837 % 9
  place := lbox (lrow s 2 / 3) (wSpan s) (pick3 0 3 40 (lrow s 2 / 17 % 3))
  speed := lbox (lrow s 3 / 3) (pick2 5 60 (lrow s 3 % 2)) (pick3 0 2 9 (lrow s 3 / 13 % 3))
  burns := (List.range (bMany s)).map (bOne s)
/-- _law_motion -/
structure Mi where
  mu : Int
  ob : Int
  drift : Int
  burns : List Bn
  start : Int
def padd (p q : Pt) : Pt := (p.1 + q.1, p.2.1 + q.2.1, p.2.2 + q.2.2)
def spt (r span : Int) : Pt := (spi span r 0, spi span r 1, spi span r 2)
def nxF (s : List Int) (w : Mi) (k : Nat) (d : Pt × Pt) : Pt :=
  padd (padd (padd d.2 (lpull w.mu w.ob d.1)) (mem (pushAt w.burns (w.start + k)) (lrow s (8 + k)))) (spt (lrow s (8 + k) / 10 ^ 9) w.drift)
def nxt (s : List Int) (w : Mi) (k : Nat) (d : Pt × Pt) : Pt × Pt := (padd d.1 (nxF s w k d), nxF s w k d)
def mot (s : List Int) (w : Mi) (d0 : Pt × Pt) : Nat → Option (Pt × Pt)
  | 0 => some d0
  | k + 1 => match mot s w d0 k with
    | none => none
    | some d => if d.1 = (0, 0, 0) then none else some (nxt s w k d)
def motL (s : List Int) (w : Mi) (d0 : Pt × Pt) (n : Nat) : List (Pt × Pt) := (List.range (n + 1)).filterMap (mot s w d0)
theorem mot_none {s : List Int} {w : Mi} {d0 : Pt × Pt} {i : Nat} (h : mot s w d0 i = none) : ∀ k, mot s w d0 (i + k) = none
  | 0 => h
  | k + 1 => by
    show (match mot s w d0 (i + k) with | none => none | some d => _) = _
    rw [mot_none h k]
theorem motL_end {s : List Int} {w : Mi} {d0 : Pt × Pt} {i : Nat} (h : mot s w d0 (i + 1) = none) : ∀ k, motL s w d0 (i + k) = motL s w d0 i
  | 0 => rfl
  | k + 1 => by
    show (List.range (i + k + 1 + 1)).filterMap (mot s w d0) = _
    rw [List.range_succ, List.filterMap_append]
    have e : mot s w d0 (i + k + 1) = none := by
      have := mot_none h k
      rw [show i + 1 + k = i + k + 1 from by omega] at this
      exact this
    rw [List.filterMap_cons_none e, List.filterMap_nil, List.append_nil]
    exact motL_end h k
theorem motL_succ {s : List Int} {w : Mi} {d0 d : Pt × Pt} {i : Nat} (h : mot s w d0 (i + 1) = some d) : motL s w d0 (i + 1) = motL s w d0 i ++ [d] := by
  show (List.range (i + 1 + 1)).filterMap (mot s w d0) = _
  rw [List.range_succ, List.filterMap_append, List.filterMap_cons_some h]
  rfl
theorem motL_len (s : List Int) (w : Mi) (d0 : Pt × Pt) (n : Nat) : (motL s w d0 n).length ≤ n + 1 := by
  refine Nat.le_trans (List.length_filterMap_le _ _) ?_
  rw [List.length_range]
  exact Nat.le_refl _
/-- the k-th of the motion -/
theorem motL_get {s : List Int} {w : Mi} {d0 : Pt × Pt} : ∀ {n k : Nat}, k < (motL s w d0 n).length → ∃ d, mot s w d0 k = some d ∧ (motL s w d0 n)[k]? = some d
  | 0, k, h => by
    have h2 : k < [d0].length := h
    obtain rfl : k = 0 := by
      rw [List.length_singleton] at h2
      omega
    exact ⟨d0, rfl, rfl⟩
  | n + 1, k, h => by
    cases e : mot s w d0 (n + 1) with
    | none =>
      have e2 : motL s w d0 (n + 1) = motL s w d0 n := motL_end e 1
      rw [e2] at h ⊢
      exact motL_get h
    | some d =>
      rw [motL_succ e] at h ⊢
      have hlen : ∀ m, m ≤ n + 1 → (motL s w d0 m).length = m + 1 := by
        intro m
        induction m with
        | zero => intro _; rfl
        | succ m ih =>
          intro hm
          cases e3 : mot s w d0 (m + 1) with
          | none =>
            have := mot_none e3 (n - m)
            rw [show m + 1 + (n - m) = n + 1 from by omega, e] at this
            cases this
          | some d' =>
            rw [motL_succ e3, List.length_append, ih (by omega)]
            rfl
      have hl := hlen n (by omega)
      rw [List.length_append, hl, List.length_singleton] at h
      by_cases hk : k < n + 1
      · obtain ⟨d', h1, h2⟩ := motL_get (n := n) (k := k) (s := s) (w := w) (d0 := d0) (by rw [hl]; exact hk)
        exact ⟨d', h1, by rw [List.getElem?_append_left (by rw [hl]; exact hk)]; exact h2⟩
      · obtain rfl : k = n + 1 := by omega
        exact ⟨d, e, by rw [List.getElem?_append_right (by rw [hl]; exact Nat.le_refl _), hl, Nat.sub_self]; rfl⟩
/-- _law_seen -/
def srow (r : Int) : Nat → Int
  | 0 => r
  | k + 1 => srow r k / 15 + k * 31
def sWide (r : Int) : Int := pick3 0 (r / 3 % 5) (r / 3 % 400) (r / 5 % 3)
def sLess (r : Int) : Int := pick2 0 (r / 7 % 3) (r / 2 % 2)
def sIv (r c : Int) : Iv := (c - sWide r, c + sWide r + sLess r)
def sBox (r : Int) (p : Pt) : Bx := (sIv r p.1, sIv r p.2.1, sIv r p.2.2)
def sOne (r start : Int) (ms : List (Pt × Pt)) (k : Nat) : Option Sg := if srow r k % 3 = 0 then some ⟨start + k, sBox (srow r k) (ms.getD k ((0, 0, 0), (0, 0, 0))).1⟩ else none
def seen (r start : Int) (ms : List (Pt × Pt)) : List Sg := (List.range ms.length).filterMap (sOne r start ms)
/-- _law_two -/
structure Tw where
  mu : Int
  ob : Int
  fin : Int
  c : Cr
  d : Cr
  one : List (Pt × Pt)
  other : List (Pt × Pt)
def shB (b : Bx) (q : Pt) : Bx := ((b.1.1 + q.1, b.1.2 + q.1), (b.2.1.1 + q.2.1, b.2.1.2 + q.2.1), (b.2.2.1 + q.2.2, b.2.2.2 + q.2.2))
def sw1 (a : Iv) (r : Int) : Iv := (a.1 + r / 9 % 5 - 2, a.2 + r / 9 % 5 - 2)
def swB (b : Bx) (r : Int) : Bx := (sw1 b.1 r, sw1 b.2.1 r, sw1 b.2.2 r)
def cells (s : List Int) : List Int := (List.range 30).map fun k => lrow s (62 - k)
def here (s : List Int) : Bx := shB (world s).place (spt (lrow s 31 / 4) (pick4 0 5 90 900 (lrow s 31 % 4)))
def swift (s : List Int) : Bx := swB (world s).speed (lrow s 31)
def later (s : List Int) : Int := (world s).start + pick2 0 (lrow s 31 / 11 % 4) (lrow s 31 / 3 % 2)
def mi1 (s : List Int) : Mi := ⟨(world s).mu, (world s).ob, (world s).drift, (world s).burns, (world s).start⟩
def mi2 (s : List Int) : Mi := ⟨(world s).mu, (world s).ob, (world s).drift, [], later s⟩
def st1 (s : List Int) : Pt × Pt := (mem (world s).place (lrow s 4), mem (world s).speed (lrow s 5))
def st2 (s : List Int) : Pt × Pt := (mem (here s) (lrow (cells s) 4), mem (swift s) (lrow (cells s) 5))
def one (s : List Int) : List (Pt × Pt) := motL s (mi1 s) (st1 s) (world s).many.toNat
def other (s : List Int) : List (Pt × Pt) := motL (cells s) (mi2 s) (st2 s) (world s).many.toNat
def cr1 (s : List Int) : Cr := ⟨"a", (world s).start, (world s).place, (world s).speed, (world s).drift, (world s).burns, seen (lrow s 7) (world s).start (one s)⟩
def cr2 (s : List Int) : Cr := ⟨"b", later s, here s, swift s, (world s).drift, [], seen (lrow (cells s) 7) (later s) (other s)⟩
end M
end
section
set_option Elab.async false
set_option linter.all false
set_option maxRecDepth 100000
set_option maxHeartbeats 4000000
namespace T
open PySem PySem.Spec PyProof.Rows L2 M
section
variable {P : Program} {w : World} {K : PySem.W.Frag} {mg : Str → Option Value} {base : Heap}
section
variable {X : Cx} {Γ : Env1 K} {Ω : Ow K} {a b c d : Expr} {pos : Pos}
theorem bj_notInS {q : Nat} {z : Str} (ha : EJ X Γ Ω a (tS ⟨#[q]⟩)) (hb : EJ X Γ Ω b (tS z)) (hm : behindInMarks .NotIn b = false := by rfl) : BJ X Γ Ω (.Compare a [.NotIn] [b] pos) (!decide (q ∈ z.cps.toList)) :=
  bj_cmp op_notIn_sign ha hb (fun F H x y s hx hy Q k => ⟨q, z, hx, hy, k _ F H (Wd.refl s) rfl⟩) hm
theorem bj_ch3 {op op' op'' : CmpOp} {g g' g'' : Int → Int → Bool} {i j k l : Int} (ho : OpR X (compareOp op) (rI0 fun i j => .bl (g i j))) (ho' : OpR X (compareOp op') (rI0 fun i j => .bl (g' i j))) (ho'' : OpR X (compareOp op'') (rI0 fun i j => .bl (g'' i j))) (ha : EJ X Γ Ω a (tI i)) (hb : EJ X Γ Ω b (tI j)) (hc : EJ X Γ Ω c (tI k)) (hd : EJ X Γ Ω d (tI l))
    (hm : lastMarks [op, op', op''] [b, c, d] = false := by with_unfolding_all rfl) : BJ X Γ Ω (.Compare a [op, op', op''] [b, c, d] pos) (g i j && (g' j k && g'' k l)) := fun H0 σ F H P Q q =>
  ttU_of (pt_ch3 ho ho' ho'' peU peU peU peU hm) (ha H0 σ F H P _ fun x F1 H1 w1 o1 => hb H0 σ F1 H1 (P.mono w1) _ fun y F2 H2 w2 o2 => ⟨i, j, o1, o2, g i j, rfl, by
    have w12 := w1.trans w2
    cases hg : g i j with
    | true =>
      refine iteT (hc H0 σ F2 H2 (P.mono w12) _ fun z F3 H3 w3 o3 => ⟨j, k, o2, o3, g' j k, rfl, ?_⟩)
      have w13 := w12.trans w3
      cases hg2 : g' j k with
      | true =>
        refine iteT (hd H0 σ F3 H3 (P.mono w13) _ fun z4 F4 H4 w4 o4 => ⟨k, l, o3, o4, g'' k l, rfl, ?_⟩)
        have := q F4 H4 (w13.trans w4)
        rw [hg, hg2, Bool.true_and, Bool.true_and] at this
        exact this
      | false =>
        have := q F3 H3 w13
        rw [hg, hg2, Bool.true_and, Bool.false_and] at this
        exact iteF this
    | false =>
      have := q F2 H2 w12
      rw [hg, Bool.false_and] at this
      exact iteF this⟩)
theorem ej_tr {p q : Bool} (h : EJ X Γ Ω a (tB p)) (e : p = q) : EJ X Γ Ω a (tB q) := by
  subst e
  exact h
theorem EJ.tr {p : Bool} (h : EJ X Γ Ω a (tB p)) (e : p = true) : EJ X Γ Ω a (tB true) := ej_tr h e
theorem BJ.fa {p : Bool} (h : BJ X Γ Ω a p) (e : p = false) : BJ X Γ Ω a false := by
  subst e
  exact h
end
theorem bind_Craft_init {f : Addr} {fd : FuncData} (F : FnD K Hd.d_Craft_init f fd) : Binds K fd ["self", "name", "start", "place", "speed", "drift", "burns", "sightings"] [] := by
  obtain ⟨ds, h1, h2⟩ := FunD.binds1 (ps := ["self", "name", "start", "place", "speed", "drift", "burns", "sightings"]) F 8 2 (fun h => by cases h) rfl (fun T kV doc pm an cdv ct us its hl hi => match us, hl, its, hi with
    | [_, _, _, _, _, _, _, _], _, [_, _], _ => ⟨_, rfl, rfl⟩)
  cases h1
  exact h2
theorem bind_Contents_init {f : Addr} {fd : FuncData} (F : FnD K Hd.d_Contents_init f fd) : Binds K fd ["self", "body", "stride", "fineness", "crafts", "sites"] [] := by
  obtain ⟨ds, h1, h2⟩ := FunD.binds1 (ps := ["self", "body", "stride", "fineness", "crafts", "sites"]) F 6 2 (fun h => by cases h) rfl (fun T kV doc pm an cdv ct us its hl hi => match us, hl, its, hi with
    | [_, _, _, _, _, _], _, [_, _], _ => ⟨_, rfl, rfl⟩)
  cases h1
  exact h2
theorem sc_check : FnScope ["good", "name"] ["good", "name"] Hd.d_check.scope := ⟨rfl, rfl, rfl, by decide +kernel, rfl, by decide +kernel, by decide +kernel⟩
def dom_check : Dom K := fun ts t => ∃ z : Str, ts = [tB true, tS z] ∧ t = tN
theorem fn_check (Z : Tp K mg) : Fn P w K mg base "check" 1 2 (dom_check (K := K)) := by
  obtain ⟨fd, F⟩ := Z.f_check
  refine ⟨_, fd, ["good", "name"], fn_mk F sc_check (by decide) fun cdv Ar outer sh Hh Ee B hr ts t hd _ => ?_, Z.g_check, F.kp, FunD.bindsN F fun _ _ _ _ _ _ us hl => match us, hl with | [_, _], _ => rfl⟩
  obtain ⟨z, rfl, rfl⟩ := hd
  exact hj_iff ((bj_not (bj_val (d := true) (ej_v 0))).fa rfl) (hj_nil fun _ _ _ _ _ => rfl)
theorem sc_is_name : FnScope ["text", "char"] ["text"] Hd.d_is_name.scope := ⟨rfl, rfl, rfl, by decide +kernel, rfl, by decide +kernel, by decide +kernel⟩
def dom_is_name : Dom K := fun ts t => ∃ z : Str, ts = [tS z] ∧ t = tB true ∧ (z = "a" ∨ z = "b")
theorem fn_is_name (Z : Tp K mg) : Fn P w K mg base "is_name" 1 1 (dom_is_name (K := K)) := by
  obtain ⟨fd, F⟩ := Z.f_is_name
  refine ⟨_, fd, ["text"], fn_mk F sc_is_name (by decide) fun cdv Ar outer sh Hh Ee B hr ts t hd _ => ?_, Z.g_is_name, F.kp, FunD.bindsN F fun _ _ _ _ _ _ us hl => match us, hl with | [_], _ => rfl⟩
  obtain ⟨z, rfl, rfl, hz⟩ := hd
  have hl : z.length = 1 := by
    rcases hz with rfl | rfl
    · rfl
    · rfl
  have hs : ∃ q : Nat, strT (K := K) z = [tS ⟨#[q]⟩] ∧ (!decide (q ∈ (("abcdefghijklmnopqrstuvwxyz0123456789_" : Str)).cps.toList)) = false := by
    rcases hz with rfl | rfl
    · exact ⟨97, rfl, by decide +kernel⟩
    · exact ⟨98, rfl, by decide +kernel⟩
  obtain ⟨q, hq, hin⟩ := hs
  refine hj_iff ((bj_not (bj_ch2 op_le op_le ej_int (ej_callB call_len_str Z.len PySem.boot_len (aj_cons (ej_v 0) aj_nil) (rok_lenS (by rw [hl]; decide))) ej_int)).fa (by rw [hl]; rfl)) ?_
  refine hj_forF B (ij_S (ej_v 0)) (n := 1) (fun _ => [some (tS z), none]) (fun _ => none) Le.refl (fun i t ht => ?_) ?_ (by rw [hq]; rfl)
  · rw [hq] at ht
    obtain rfl : t = tS ⟨#[q]⟩ := by
      match i, ht with
      | 0, ht => exact (Option.some.inj ht).symm
    refine hb_name B 1 ?_
    refine hj_iff ((bj_notInS (ej_v 1) ej_str).fa hin) ?_
    exact hj_end
  · exact hj_ret ej_bl (fun _ _ h => h)
theorem sc_is_tick : FnScope ["number"] ["number"] Hd.d_is_tick.scope := ⟨rfl, rfl, rfl, by decide +kernel, rfl, by decide +kernel, by decide +kernel⟩
def dom_is_tick : Dom K := fun ts t => ∃ z : Int, ts = [tI z] ∧ t = tB true ∧ 0 ≤ z ∧ z ≤ 100000
theorem fn_is_tick (Z : Tp K mg) : Fn P w K mg base "is_tick" 1 1 (dom_is_tick (K := K)) := by
  obtain ⟨fd, F⟩ := Z.f_is_tick
  refine ⟨_, fd, ["number"], fn_mk F sc_is_tick (by decide) fun cdv Ar outer sh Hh Ee B hr ts t hd _ => ?_, Z.g_is_tick, F.kp, FunD.bindsN F fun _ _ _ _ _ _ us hl => match us, hl with | [_], _ => rfl⟩
  obtain ⟨z, rfl, rfl, h0, h1⟩ := hd
  exact hj_ret ((ej_ch2 op_le op_le ej_int (ej_v 0) (ej_LAST_TICK Z)).tr (by rw [Bool.and_eq_true, decide_eq_true_eq, decide_eq_true_eq]; exact ⟨h0, h1⟩)) (fun _ _ h => h)
theorem sc_is_box : FnScope ["box", "most", "low", "high"] ["box", "most"] Hd.d_is_box.scope := ⟨rfl, rfl, rfl, by decide +kernel, rfl, by decide +kernel, by decide +kernel⟩
def dom_is_box : Dom K := fun ts t => ∃ (b : Bx) (m : Int), ts = [bx b, tI m] ∧ t = tB true ∧ BW m b
theorem fn_is_box (Z : Tp K mg) : Fn P w K mg base "is_box" 1 2 (dom_is_box (K := K)) := by
  obtain ⟨fd, F⟩ := Z.f_is_box
  refine ⟨_, fd, ["box", "most"], fn_mk F sc_is_box (by decide) fun cdv Ar outer sh Hh Ee B hr ts t hd _ => ?_, Z.g_is_box, F.kp, FunD.bindsN F fun _ _ _ _ _ _ us hl => match us, hl with | [_, _], _ => rfl⟩
  obtain ⟨b, m, rfl, rfl, hb⟩ := hd
  refine hj_forF B (ij_T (ej_v 0)) (n := 3) (fun _ => [some (bx b), some (tI m), none, none]) (fun _ => none) Le.refl (fun i t ht => ?_) ?_
  · obtain ⟨a, rfl, ha⟩ : ∃ a, t = iv a ∧ IW m a := by
      match i, ht with
      | 0, ht => exact ⟨b.1, (Option.some.inj ht).symm, hb.1⟩
      | 1, ht => exact ⟨b.2.1, (Option.some.inj ht).symm, hb.2.1⟩
      | 2, ht => exact ⟨b.2.2, (Option.some.inj ht).symm, hb.2.2⟩
    refine hb_tup B [2, 3] ?_
    refine hj_iff ((bj_not (bj_ch3 op_le op_le op_le (ej_neg (ej_v 1)) (ej_v 2) (ej_v 3) (ej_v 1))).fa ?_) ?_
    · rw [Bool.not_eq_false', Bool.and_eq_true, Bool.and_eq_true, decide_eq_true_eq, decide_eq_true_eq, decide_eq_true_eq]
      exact ha
    · exact hj_end
  · exact hj_ret ej_bl (fun _ _ h => h)
theorem sc_Body_init : FnScope ["self", "mu", "oblateness", "turn", "a", "b", "n"] ["self", "mu", "oblateness", "turn"] Hd.d_Body_init.scope := ⟨rfl, rfl, rfl, by decide +kernel, rfl, by decide +kernel, by decide +kernel⟩
def dom_Body_init : DomI K := fun ts fs => ∃ (mu ob : Int), ts = [tI mu, tI ob, pt (1, 0, 1)] ∧ fs = ([("mu", tI mu), ("oblateness", tI ob), ("turn", pt (1, 0, 1))] : List (Str × Ty K)) ∧ 1 ≤ mu ∧ mu ≤ 10 ^ 30 ∧ 0 ≤ ob ∧ ob ≤ 10 ^ 30
theorem cs_Body (Z : Tp K mg) : Cs P w K mg base "Body" (He.ga K "Body") 2 3 (dom_Body_init (K := K)) := by
  obtain ⟨fd, F⟩ := Z.f_Body_init
  refine ⟨Z.cl_Body, _, fd, ["self", "mu", "oblateness", "turn"], init_mk F rfl sc_Body_init (by decide) fun cdv Ar outer sh Hh Ee B hr q ts fs hd _ => ?_, Z.g_Body, Z.mk_Body, FunD.bindsN F fun _ _ _ _ _ _ us hl => match us, hl with | [_, _, _, _], _ => rfl⟩
  obtain ⟨mu, ob, rfl, rfl, h1, h2, h3, h4⟩ := hd
  refine hj_expr (ej_call (fn_check Z) (hr.mono (by decide)) (aj_cons ((ej_ch2 op_le op_le ej_int (ej_v 1) (ej_pow ej_int ej_int (by unfold CPow; decide))).tr (by rw [Bool.and_eq_true, decide_eq_true_eq, decide_eq_true_eq]; exact ⟨h1, h2⟩)) (aj_cons ej_str aj_nil)) ⟨_, rfl, rfl⟩) ?_
  refine hj_expr (ej_call (fn_check Z) (hr.mono (by decide)) (aj_cons ((ej_ch2 op_le op_le ej_int (ej_v 2) (ej_pow ej_int ej_int (by unfold CPow; decide))).tr (by rw [Bool.and_eq_true, decide_eq_true_eq, decide_eq_true_eq]; exact ⟨h3, h4⟩)) (aj_cons ej_str aj_nil)) ⟨_, rfl, rfl⟩) ?_
  refine hj_unp B [4, 5, 6] (ej_v 3) ?_
  refine hj_expr (ej_call (fn_check Z) (hr.mono (by decide)) (aj_cons ((ej_and (ej_ch2 op_le op_le ej_int (ej_v 6) (ej_pow ej_int ej_int (by unfold CPow; decide))) fun h => (ej_one (ej_eq (ej_add (ej_mul (ej_v 4) (ej_v 4) (bt_cmul (n := 2) (m := 2) (by unfold Bt; decide) (by unfold Bt; decide) (by decide))) (ej_mul (ej_v 5) (ej_v 5) (bt_cmul (n := 2) (m := 2) (by unfold Bt; decide) (by unfold Bt; decide) (by decide)))) (ej_mul (ej_v 6) (ej_v 6) (bt_cmul (n := 2) (m := 2) (by unfold Bt; decide) (by unfold Bt; decide) (by decide)))))).tr (by decide +kernel)) (aj_cons ej_str aj_nil)) ⟨_, rfl, rfl⟩) ?_
  refine hj_fld 0 Z.cl_Body Z.na_Body_mu (ej_v 1) ?_
  refine hj_fld 0 Z.cl_Body Z.na_Body_oblateness (ej_v 2) ?_
  refine hj_fld 0 Z.cl_Body Z.na_Body_turn (ej_v 3) ?_
  exact hj_nil fun _ _ _ _ p => p.2
theorem sc_Burn_init : FnScope ["self", "begin", "end", "push"] ["self", "begin", "end", "push"] Hd.d_Burn_init.scope := ⟨rfl, rfl, rfl, by decide +kernel, rfl, by decide +kernel, by decide +kernel⟩
def dom_Burn_init : DomI K := fun ts fs => ∃ (b e : Int) (p : Bx), ts = [tI b, tI e, bx p] ∧ fs = ([("begin", tI b), ("end", tI e), ("push", bx p)] : List (Str × Ty K)) ∧ 0 ≤ b ∧ b < e ∧ e ≤ 100000 ∧ BW (10 ^ 12) p
theorem cs_Burn (Z : Tp K mg) : Cs P w K mg base "Burn" (He.ga K "Burn") 2 3 (dom_Burn_init (K := K)) := by
  obtain ⟨fd, F⟩ := Z.f_Burn_init
  refine ⟨Z.cl_Burn, _, fd, ["self", "begin", "end", "push"], init_mk F rfl sc_Burn_init (by decide) fun cdv Ar outer sh Hh Ee B hr q ts fs hd _ => ?_, Z.g_Burn, Z.mk_Burn, FunD.bindsN F fun _ _ _ _ _ _ us hl => match us, hl with | [_, _, _, _], _ => rfl⟩
  obtain ⟨b, e, p, rfl, rfl, h1, h2, h3, h4⟩ := hd
  refine hj_expr (ej_call (fn_check Z) (hr.mono (by decide)) (aj_cons (ej_call (fn_is_tick Z) (hr.mono (by decide)) (aj_cons (ej_v 1) aj_nil) ⟨_, rfl, rfl, h1, by omega⟩) (aj_cons ej_str aj_nil)) ⟨_, rfl, rfl⟩) ?_
  refine hj_expr (ej_call (fn_check Z) (hr.mono (by decide)) (aj_cons ((ej_and (ej_call (fn_is_tick Z) (hr.mono (by decide)) (aj_cons (ej_v 2) aj_nil) ⟨_, rfl, rfl, by omega, h3⟩) fun h => (ej_one (ej_lt (ej_v 1) (ej_v 2)))).tr (by rw [Bool.true_and]; exact decide_eq_true h2)) (aj_cons ej_str aj_nil)) ⟨_, rfl, rfl⟩) ?_
  refine hj_expr (ej_call (fn_check Z) (hr.mono (by decide)) (aj_cons (ej_call (fn_is_box Z) (hr.mono (by decide)) (aj_cons (ej_v 3) (aj_cons (ej_MOST_DRIFT Z) aj_nil)) ⟨_, _, rfl, rfl, h4⟩) (aj_cons ej_str aj_nil)) ⟨_, rfl, rfl⟩) ?_
  refine hj_fld 0 Z.cl_Burn Z.na_Burn_begin (ej_v 1) ?_
  refine hj_fld 0 Z.cl_Burn Z.na_Burn_end (ej_v 2) ?_
  refine hj_fld 0 Z.cl_Burn Z.na_Burn_push (ej_v 3) ?_
  exact hj_nil fun _ _ _ _ p => p.2
theorem sc_Sighting_init : FnScope ["self", "at", "place"] ["self", "at", "place"] Hd.d_Sighting_init.scope := ⟨rfl, rfl, rfl, by decide +kernel, rfl, by decide +kernel, by decide +kernel⟩
def dom_Sighting_init : DomI K := fun ts fs => ∃ (z : Int) (p : Bx), ts = [tI z, bx p] ∧ fs = ([("at", tI z), ("place", bx p)] : List (Str × Ty K)) ∧ 0 ≤ z ∧ z ≤ 100000 ∧ BW (10 ^ 15) p
theorem cs_Sighting (Z : Tp K mg) : Cs P w K mg base "Sighting" (He.ga K "Sighting") 2 2 (dom_Sighting_init (K := K)) := by
  obtain ⟨fd, F⟩ := Z.f_Sighting_init
  refine ⟨Z.cl_Sighting, _, fd, ["self", "at", "place"], init_mk F rfl sc_Sighting_init (by decide) fun cdv Ar outer sh Hh Ee B hr q ts fs hd _ => ?_, Z.g_Sighting, Z.mk_Sighting, FunD.bindsN F fun _ _ _ _ _ _ us hl => match us, hl with | [_, _, _], _ => rfl⟩
  obtain ⟨z, p, rfl, rfl, h1, h2, h3⟩ := hd
  refine hj_expr (ej_call (fn_check Z) (hr.mono (by decide)) (aj_cons (ej_call (fn_is_tick Z) (hr.mono (by decide)) (aj_cons (ej_v 1) aj_nil) ⟨_, rfl, rfl, h1, h2⟩) (aj_cons ej_str aj_nil)) ⟨_, rfl, rfl⟩) ?_
  refine hj_expr (ej_call (fn_check Z) (hr.mono (by decide)) (aj_cons (ej_call (fn_is_box Z) (hr.mono (by decide)) (aj_cons (ej_v 2) (aj_cons (ej_MOST Z) aj_nil)) ⟨_, _, rfl, rfl, h3⟩) (aj_cons ej_str aj_nil)) ⟨_, rfl, rfl⟩) ?_
  refine hj_fld 0 Z.cl_Sighting Z.na_Sighting_at (ej_v 1) ?_
  refine hj_fld 0 Z.cl_Sighting Z.na_Sighting_place (ej_v 2) ?_
  exact hj_nil fun _ _ _ _ p => p.2
theorem sc_Craft_init : FnScope ["self", "name", "start", "place", "speed", "drift", "burns", "sightings"] ["self", "name", "start", "place", "speed", "drift", "burns", "sightings"] Hd.d_Craft_init.scope := ⟨rfl, rfl, rfl, by decide +kernel, rfl, by decide +kernel, by decide +kernel⟩
def dom_Craft_init : DomI K := fun ts fs => ∃ (z : Str) (st : Int) (p v : Bx) (dr : Int) (bs ss : List (Ty K)), ts = [tS z, tI st, bx p, bx v, tI dr, tL bs, tL ss] ∧ fs = ([("name", tS z), ("start", tI st), ("place", bx p), ("speed", bx v), ("drift", tI dr), ("burns", tT bs), ("sightings", tT ss)] : List (Str × Ty K)) ∧ (z = "a" ∨ z = "b") ∧ 0 ≤ st ∧ st ≤ 100000 ∧ BW (10 ^ 15) p ∧ BW (10 ^ 15) v ∧ 0 ≤ dr ∧ dr ≤ 10 ^ 12
theorem cs_Craft (Z : Tp K mg) : Cs P w K mg base "Craft" (He.ga K "Craft") 2 7 (dom_Craft_init (K := K)) := by
  obtain ⟨fd, F⟩ := Z.f_Craft_init
  refine ⟨Z.cl_Craft, _, fd, ["self", "name", "start", "place", "speed", "drift", "burns", "sightings"], init_mk F rfl sc_Craft_init (by decide) fun cdv Ar outer sh Hh Ee B hr q ts fs hd _ => ?_, Z.g_Craft, Z.mk_Craft, bind_Craft_init F⟩
  obtain ⟨z, st, p, v, dr, bs, ss, rfl, rfl, hz, h1, h2, h3, h4, h5, h6⟩ := hd
  refine hj_expr (ej_call (fn_check Z) (hr.mono (by decide)) (aj_cons (ej_call (fn_is_name Z) (hr.mono (by decide)) (aj_cons (ej_v 1) aj_nil) ⟨_, rfl, rfl, hz⟩) (aj_cons ej_str aj_nil)) ⟨_, rfl, rfl⟩) ?_
  refine hj_expr (ej_call (fn_check Z) (hr.mono (by decide)) (aj_cons (ej_call (fn_is_tick Z) (hr.mono (by decide)) (aj_cons (ej_v 2) aj_nil) ⟨_, rfl, rfl, h1, h2⟩) (aj_cons ej_str aj_nil)) ⟨_, rfl, rfl⟩) ?_
  refine hj_expr (ej_call (fn_check Z) (hr.mono (by decide)) (aj_cons (ej_call (fn_is_box Z) (hr.mono (by decide)) (aj_cons (ej_v 3) (aj_cons (ej_MOST Z) aj_nil)) ⟨_, _, rfl, rfl, h3⟩) (aj_cons ej_str aj_nil)) ⟨_, rfl, rfl⟩) ?_
  refine hj_expr (ej_call (fn_check Z) (hr.mono (by decide)) (aj_cons (ej_call (fn_is_box Z) (hr.mono (by decide)) (aj_cons (ej_v 4) (aj_cons (ej_MOST Z) aj_nil)) ⟨_, _, rfl, rfl, h4⟩) (aj_cons ej_str aj_nil)) ⟨_, rfl, rfl⟩) ?_
  refine hj_expr (ej_call (fn_check Z) (hr.mono (by decide)) (aj_cons ((ej_ch2 op_le op_le ej_int (ej_v 5) (ej_MOST_DRIFT Z)).tr (by rw [Bool.and_eq_true, decide_eq_true_eq, decide_eq_true_eq]; exact ⟨h5, h6⟩)) (aj_cons ej_str aj_nil)) ⟨_, rfl, rfl⟩) ?_
  refine hj_fld 0 Z.cl_Craft Z.na_Craft_name (ej_v 1) ?_
  refine hj_fld 0 Z.cl_Craft Z.na_Craft_start (ej_v 2) ?_
  refine hj_fld 0 Z.cl_Craft Z.na_Craft_place (ej_v 3) ?_
  refine hj_fld 0 Z.cl_Craft Z.na_Craft_speed (ej_v 4) ?_
  refine hj_fld 0 Z.cl_Craft Z.na_Craft_drift (ej_v 5) ?_
  refine hj_fld 0 Z.cl_Craft Z.na_Craft_burns (ej_callTy call_tuple_of Z.tuple (by decide +kernel) (aj_cons (ej_v 6) aj_nil) rok_tupL) ?_
  refine hj_fld 0 Z.cl_Craft Z.na_Craft_sightings (ej_callTy call_tuple_of Z.tuple (by decide +kernel) (aj_cons (ej_v 7) aj_nil) rok_tupL) ?_
  exact hj_nil fun _ _ _ _ p => p.2
theorem sc_Contents_init : FnScope ["self", "body", "stride", "fineness", "crafts", "sites"] ["self", "body", "stride", "fineness", "crafts", "sites"] Hd.d_Contents_init.scope := ⟨rfl, rfl, rfl, by decide +kernel, rfl, by decide +kernel, by decide +kernel⟩
def dom_Contents_init : DomI K := fun ts fs => ∃ (b : Ty K) (st fi : Int) (cs ss : List (Ty K)), ts = [b, tI st, tI fi, tL cs, tL ss] ∧ fs = ([("body", b), ("stride", tI st), ("fineness", tI fi), ("crafts", tT cs), ("sites", tT ss)] : List (Str × Ty K)) ∧ 1 ≤ st ∧ st ≤ 1000 ∧ 0 ≤ fi ∧ fi ≤ 6
theorem cs_Contents (Z : Tp K mg) : Cs P w K mg base "Contents" (He.ga K "Contents") 2 5 (dom_Contents_init (K := K)) := by
  obtain ⟨fd, F⟩ := Z.f_Contents_init
  refine ⟨Z.cl_Contents, _, fd, ["self", "body", "stride", "fineness", "crafts", "sites"], init_mk F rfl sc_Contents_init (by decide) fun cdv Ar outer sh Hh Ee B hr q ts fs hd _ => ?_, Z.g_Contents, Z.mk_Contents, bind_Contents_init F⟩
  obtain ⟨b, st, fi, cs, ss, rfl, rfl, h1, h2, h3, h4⟩ := hd
  refine hj_expr (ej_call (fn_check Z) (hr.mono (by decide)) (aj_cons ((ej_ch2 op_le op_le ej_int (ej_v 2) ej_int).tr (by rw [Bool.and_eq_true, decide_eq_true_eq, decide_eq_true_eq]; exact ⟨h1, h2⟩)) (aj_cons ej_str aj_nil)) ⟨_, rfl, rfl⟩) ?_
  refine hj_expr (ej_call (fn_check Z) (hr.mono (by decide)) (aj_cons ((ej_ch2 op_le op_le ej_int (ej_v 3) ej_int).tr (by rw [Bool.and_eq_true, decide_eq_true_eq, decide_eq_true_eq]; exact ⟨h3, h4⟩)) (aj_cons ej_str aj_nil)) ⟨_, rfl, rfl⟩) ?_
  refine hj_fld 0 Z.cl_Contents Z.na_Contents_body (ej_v 1) ?_
  refine hj_fld 0 Z.cl_Contents Z.na_Contents_stride (ej_v 2) ?_
  refine hj_fld 0 Z.cl_Contents Z.na_Contents_fineness (ej_v 3) ?_
  refine hj_fld 0 Z.cl_Contents Z.na_Contents_crafts (ej_callTy call_tuple_of Z.tuple (by decide +kernel) (aj_cons (ej_v 4) aj_nil) rok_tupL) ?_
  refine hj_fld 0 Z.cl_Contents Z.na_Contents_sites (ej_callTy call_tuple_of Z.tuple (by decide +kernel) (aj_cons (ej_v 5) aj_nil) rok_tupL) ?_
  exact hj_nil fun _ _ _ _ p => p.2
end
end T
end
section
set_option Elab.async false
set_option linter.all false
set_option maxRecDepth 100000
set_option maxHeartbeats 4000000
namespace T
open PySem PySem.Spec PyProof.Rows L2 M
section
variable {P : Program} {w : World} {K : PySem.W.Frag} {mg : Str → Option Value} {base : Heap}
section
variable {X : Cx} {Γ : Env1 K} {Ω : Ow K} {a b c d it tg : Expr} {ts : List (Ty K)} {body rest : List Stmt} {D : Dn} {n : Nat} {pos : Pos}
/-- a loop with breaks that keeps some data of which φ holds; M: what holds behind it -/
theorem hj_forB {δ : Type} (B : Bd X) (hi : IJ X Γ Ω tg it ts) (φ : Nat → δ → Prop) (G : Nat → δ → Env1 K) (O : Nat → δ → Ow K) (d0 : δ) (hd0 : φ 0 d0) (h0 : Le (A Γ Ω) (A (G 0 d0) (O 0 d0))) (M : As)
    (hs : ∀ i t d, ts[i]? = some t → φ i d → HB X tg t body (A (G i d) (O i d)) { D with nx := Ex1 (φ (i + 1)) (G (i + 1)) (O (i + 1)), ct := Ex1 (φ (i + 1)) (G (i + 1)) (O (i + 1)), bk := M }) (hd : ∀ d, φ n d → Le (A (G n d) (O n d)) M) (hr : HJ X rest M D) (hn : ts.length = n := by rfl)
    (hfs : ∀ x, foldedSetIterable it X.env x = pure x := by intro _; rfl) : HJ X (.For tg it body [] pos :: rest) (A Γ Ω) D := by
  subst hn
  exact hj_for (M := M) (hfs := hfs) B hi (fun i => Ex1 (φ i) (G i) (O i)) (le_ex d0 hd0 h0) (fun i t ht => HB.ex fun d hd => hs i t d ht hd) (fun _ _ _ _ ⟨d, q, p⟩ => hd d q _ _ _ _ p) hr (fun i H0 σ F H F' H' w ⟨d, q, p⟩ => ⟨d, q, mono_A _ _ _ _ _ _ w p⟩)
end
theorem atI_p2 {a b i : Int} (h0 : 0 ≤ i) (h1 : i < 2) : atI [tI (K := K) a, tI b] i = some (tI (pick2 a b i)) := by
  obtain rfl | rfl : i = 0 ∨ i = 1 := by omega
  · rfl
  · rfl
theorem atI_p3 {a b c i : Int} (h0 : 0 ≤ i) (h1 : i < 3) : atI [tI (K := K) a, tI b, tI c] i = some (tI (pick3 a b c i)) := by
  obtain rfl | rfl | rfl : i = 0 ∨ i = 1 ∨ i = 2 := by omega
  · rfl
  · rfl
  · rfl
theorem atI_p4 {a b c d i : Int} (h0 : 0 ≤ i) (h1 : i < 4) : atI [tI (K := K) a, tI b, tI c, tI d] i = some (tI (pick4 a b c d i)) := by
  obtain rfl | rfl | rfl | rfl : i = 0 ∨ i = 1 ∨ i = 2 ∨ i = 3 := by omega
  · rfl
  · rfl
  · rfl
  · rfl
theorem sc__law_row : FnScope ["_law_script", "_law_k", "_law_row_here"] ["_law_script", "_law_k"] Hd.d__law_row.scope := ⟨rfl, rfl, rfl, by decide +kernel, rfl, by decide +kernel, by decide +kernel⟩
def dom__law_row : Dom K := fun ts t => ∃ (s : List Int) (k : Nat), ts = [tQ (s.map tI), tI k] ∧ t = tI (lrow s k) ∧ k ≤ 1000
theorem fn__law_row (Z : Tp K mg) : Fn P w K mg base "_law_row" 1 2 (dom__law_row (K := K)) := by
  obtain ⟨fd, F⟩ := Z.f__law_row
  refine ⟨_, fd, ["_law_script", "_law_k"], fn_mk F sc__law_row (by decide) fun cdv Ar outer sh Hh Ee B hr ts t hd _ => ?_, Z.g__law_row, F.kp, FunD.bindsN F fun _ _ _ _ _ _ us hl => match us, hl with | [_, _], _ => rfl⟩
  obtain ⟨s, k, rfl, rfl, hk⟩ := hd
  refine hj_set B 2 ej_int ?_
  refine hj_ifm (A (K := K) [some (tQ (s.map tI)), some (tI k), some (tI (row0 s k))] none) (bj_lt (ej_v 1) (ej_callB call_len_seq Z.len PySem.boot_len (aj_cons (ej_v 0) aj_nil) rok_lenQ)) (fun h => ?_) (fun h => ?_) ?_
  · have h2 := of_decide_eq_true h
    rw [List.length_map] at h2
    have h3 : k < s.length := by omega
    have e : row0 s k = s.getD k 0 := if_pos h3
    rw [e]
    have hg : s[k]? = some (s.getD k 0) := by
      rw [List.getD_eq_getElem?_getD, List.getElem?_eq_getElem h3]
      rfl
    exact hj_set B 2 (ej_callTy call_int1 Z.int (by decide +kernel) (aj_cons (ej_ixQ (ej_v 0) (ej_v 1) (atI_map (i := k) rfl hg)) aj_nil) rok_int) hj_end
  · have h2 := of_decide_eq_false h
    rw [List.length_map] at h2
    have e : row0 s k = 0 := if_neg (by omega)
    rw [e]
    exact hj_end
  show HJ _ _ _ (Dr (tI (if row1 (row0 s k) < 10 ^ 9 then rowB (rowA (row1 (row0 s k)) k) k else row1 (row0 s k))))
  generalize row0 s k = x
  refine hj_ifm (A (K := K) [some (tQ (s.map tI)), some (tI k), some (tI (row1 x))] none) (bj_lt (ej_v 2) ej_int) (fun h => ?_) (fun h => ?_) ?_
  · rw [show row1 x = 1 - 2 * x from if_pos (of_decide_eq_true h)]
    exact hj_set B 2 (ej_sub ej_int (ej_mulS ej_int (ej_v 2) (.inl ⟨by decide, by decide⟩))) hj_end
  · rw [show row1 x = x from if_neg (of_decide_eq_false h)]
    exact hj_end
  have hx := row1_nn x
  generalize row1 x = y at hx ⊢
  refine hj_ifm (A (K := K) [some (tQ (s.map tI)), some (tI k), some (tI (if y < 10 ^ 9 then rowB (rowA y k) k else y))] none) (bj_lt (ej_v 2) (ej_pow ej_int ej_int (by unfold CPow; decide))) (fun h => ?_) (fun h => ?_) (hj_ret (ej_v 2) (fun _ _ h => h))
  · have h2 : y < 10 ^ 9 := of_decide_eq_true h
    obtain ⟨a1, a2⟩ := rowA_b y k
    rw [if_pos h2]
    refine hj_set B 2 ((ej_mod (ej_callTy call_int1 Z.int (by decide +kernel) (aj_cons (ej_add (ej_mul (ej_add (ej_v 2) ej_int) ej_int (bt_cmul (bt40 (by omega) (by omega)) (bt40 (by omega) (by omega)) (by decide))) (ej_mul (ej_add (ej_v 1) ej_int) ej_int (bt_cmul (bt40 (by omega) (by omega)) (bt40 (by omega) (by omega)) (by decide)))) aj_nil) rok_int) ej_int (by decide)).eq (show _ = tI (rowA y k) from rfl)) ?_
    refine hj_set B 2 ((ej_add (ej_mul (ej_mod (ej_callTy call_int1 Z.int (by decide +kernel) (aj_cons (ej_add (ej_add (ej_mul (ej_v 2) ej_int (bt_cmul (bt40 (by omega) (by omega)) (bt40 (by omega) (by omega)) (by decide))) (ej_mul (ej_v 1) ej_int (bt_cmul (bt40 (by omega) (by omega)) (bt40 (by omega) (by omega)) (by decide)))) ej_int) aj_nil) rok_int) ej_int (by decide)) ej_int ?_) (ej_mod (ej_callTy call_int1 Z.int (by decide +kernel) (aj_cons (ej_mul (ej_v 2) (ej_v 2) (bt_cmul (bt40 (by omega) (by omega)) (bt40 (by omega) (by omega)) (by decide))) aj_nil) rok_int) ej_int (by decide))).eq (show _ = tI (rowB (rowA y k) k) from rfl)) ?_
    · have b1 := Int.emod_nonneg (rowA y k * 16807 + k * 40014 + 11) (show (2147483399 : Int) ≠ 0 by decide)
      have b2 := Int.emod_lt_of_pos (rowA y k * 16807 + k * 40014 + 11) (show (0 : Int) < 2147483399 by decide)
      exact bt_cmul (bt40 (by omega) (by omega)) (bt40 (by omega) (by omega)) (by decide)
    · exact hj_end
  · rw [if_neg (show ¬ y < 10 ^ 9 from of_decide_eq_false h)]
    exact hj_end
theorem sc__law_spread : FnScope ["_law_row_here", "_law_places", "_law_span", "_law_numbers", "_law_k"] ["_law_row_here", "_law_places", "_law_span"] Hd.d__law_spread.scope := ⟨rfl, rfl, rfl, by decide +kernel, rfl, by decide +kernel, by decide +kernel⟩
def dom__law_spread : Dom K := fun ts t => ∃ (r : Int) (n : Nat) (span : Int), ts = [tI r, tI n, tI span] ∧ t = tL ((spr r n span).map tI) ∧ n ≤ 1000 ∧ 0 ≤ span ∧ span ≤ 1000000
theorem fn__law_spread (Z : Tp K mg) : Fn P w K mg base "_law_spread" 1 3 (dom__law_spread (K := K)) := by
  obtain ⟨fd, F⟩ := Z.f__law_spread
  refine ⟨_, fd, ["_law_row_here", "_law_places", "_law_span"], fn_mk F sc__law_spread (by decide) fun cdv Ar outer sh Hh Ee B hr ts t hd _ => ?_, Z.g__law_spread, F.kp, FunD.bindsN F fun _ _ _ _ _ _ us hl => match us, hl with | [_, _, _], _ => rfl⟩
  obtain ⟨r, n, span, rfl, rfl, hn, h0, h1⟩ := hd
  refine hj_ownL B 3 aj_nil ?_
  refine hj_forF B (ij_r1 Z.range (ej_v 1) (by omega) (by omega)) (n := n) (fun i => [some (tI (dv (2 * span + 1) r i)), some (tI n), some (tI span), none, none]) (fun i => some (3, oL ((spr r i span).map tI))) Le.refl (fun i t ht => ?_) ?_ (by rw [rngT_len]; omega)
  · obtain ⟨hi, rfl⟩ := rngT_get ht
    have hl : ((spr r i span).map (tI (K := K))).length = i := by
      unfold spr
      rw [List.length_map, List.length_map, List.length_range]
    refine hb_name B 4 ?_
    refine hj_app 3 (ej_sub (ej_mod (ej_callTy call_int1 Z.int (by decide +kernel) (aj_cons (ej_v 0) aj_nil) rok_int) (ej_add (ej_mul ej_int (ej_v 2) (bt_cmul (bt40 (by omega) (by omega)) (bt40 (by omega) (by omega)) (by decide))) ej_int) (by omega)) (ej_v 2)) ?_ (by rw [hl]; omega)
    refine hj_set B 0 (ej_div (ej_v 0) (ej_add (ej_mul ej_int (ej_v 2) (bt_cmul (bt40 (by omega) (by omega)) (bt40 (by omega) (by omega)) (by decide))) ej_int) (bt_cdiv (by omega) (bt40 (by omega) (by omega)) (by decide))) ?_
    refine hj_endL (ts := (spr r (i + 1) span).map tI) ?_
    unfold spr
    rw [List.range_succ, List.map_append, List.map_append]
    rfl
  · exact hj_frz 3 (hj_ret (ej_v 3) (fun _ _ h => h))
theorem sc__law_box : FnScope ["_law_row_here", "_law_span", "_law_wide", "_law_centres", "_law_box_here", "_law_k", "_law_half"] ["_law_row_here", "_law_span", "_law_wide"] Hd.d__law_box.scope := ⟨rfl, rfl, rfl, by decide +kernel, rfl, by decide +kernel, by decide +kernel⟩
def dom__law_box : Dom K := fun ts t => ∃ (r span wd : Int), ts = [tI r, tI span, tI wd] ∧ t = bx (lbox r span wd) ∧ 0 ≤ span ∧ span ≤ 1000000 ∧ 0 ≤ wd ∧ wd ≤ 1000000
theorem fn__law_box (Z : Tp K mg) : Fn P w K mg base "_law_box" 2 3 (dom__law_box (K := K)) := by
  obtain ⟨fd, F⟩ := Z.f__law_box
  refine ⟨_, fd, ["_law_row_here", "_law_span", "_law_wide"], fn_mk F sc__law_box (by decide) fun cdv Ar outer sh Hh Ee B hr ts t hd _ => ?_, Z.g__law_box, F.kp, FunD.bindsN F fun _ _ _ _ _ _ us hl => match us, hl with | [_, _, _], _ => rfl⟩
  obtain ⟨r, span, wd, rfl, rfl, h0, h1, h2, h3⟩ := hd
  refine hj_set B 3 (ej_call (fn__law_spread Z) (hr.mono (by decide)) (aj_cons (ej_v 0) (aj_cons ej_int (aj_cons (ej_v 1) aj_nil))) ⟨r, 3, span, rfl, rfl, by decide, h0, h1⟩) ?_
  refine hj_set B 0 ((ej_div (ej_v 0) (ej_pow (ej_add (ej_mul ej_int (ej_v 1) (bt_cmul (bt40 (by omega) (by omega)) (bt40 (by omega) (by omega)) (by decide))) ej_int) ej_int (by unfold CPow; omega)) ?_).eq (show _ = tI (r / (2 * span + 1) ^ 3) from rfl)) ?_
  · have hp : (2 * span + 1) ^ (Int.toNat 3) = (2 * span + 1) * (2 * span + 1) * (2 * span + 1) := by
      show (2 * span + 1) ^ 3 = _
      rw [Int.pow_succ, Int.pow_succ, Int.pow_succ, Int.pow_zero, Int.one_mul]
    rw [hp]
    have hb : Bt 40 (2 * span + 1) := bt40 (by omega) (by omega)
    refine bt_cdiv ?_ ((hb.mul hb).mul hb) (by decide)
    exact Int.mul_pos (Int.mul_pos (by omega) (by omega)) (by omega)
  refine hj_ownL B 4 aj_nil ?_
  refine hj_forF B (ij_r1 Z.range ej_int (by decide) (by decide)) (n := 3) (fun i => [some (tI (dv (wd + 1) (r / (2 * span + 1) ^ 3) i)), some (tI span), some (tI wd), some (tL ((spr r 3 span).map tI)), none, none, none]) (fun i => some (4, oL ((List.range i).map fun i => iv (lbi r span wd i)))) Le.refl (fun i t ht => ?_) ?_
  · obtain ⟨hi, rfl⟩ := rngT_get ht
    have hi3 : i < 3 := hi
    have hx : atI ((spr r 3 span).map (tI (K := K))) (0 + (i : Nat)) = some (tI (spi span r i)) := by
      refine atI_map (i := i) (by omega) ?_
      unfold spr
      rw [List.getElem?_map, List.getElem?_range hi3]
      rfl
    refine hb_name B 5 ?_
    refine hj_set B 6 (ej_mod (ej_callTy call_int1 Z.int (by decide +kernel) (aj_cons (ej_v 0) aj_nil) rok_int) (ej_add (ej_v 2) ej_int) (by omega)) ?_
    refine hj_set B 0 (ej_div (ej_v 0) (ej_add (ej_v 2) ej_int) (bt_cdiv (by omega) (bt40 (by omega) (by omega)) (by decide))) ?_
    refine hj_app 4 (ej_tup (aj_cons (ej_sub (ej_ixL (ej_v 3) (ej_v 5) hx) (ej_v 6)) (aj_cons (ej_add (ej_ixL (ej_v 3) (ej_v 5) hx) (ej_v 6)) aj_nil))) ?_ (by rw [List.length_map, List.length_range]; omega)
    refine hj_endL (ts := (List.range (i + 1)).map fun i => iv (lbi r span wd i)) ?_
    rw [List.range_succ, List.map_append]
    rfl
  · exact hj_ret (ej_tup (aj_cons (ej_ixO ej_int) (aj_cons (ej_ixO ej_int) (aj_cons (ej_ixO ej_int) aj_nil)))) (fun _ _ h => h)
theorem sc__law_member : FnScope ["_law_box_here", "_law_row_here", "_law_point", "_law_low", "_law_high"] ["_law_box_here", "_law_row_here"] Hd.d__law_member.scope := ⟨rfl, rfl, rfl, by decide +kernel, rfl, by decide +kernel, by decide +kernel⟩
def dom__law_member : Dom K := fun ts t => ∃ (b : Bx) (r m : Int), ts = [bx b, tI r] ∧ t = pt (mem b r) ∧ BW m b ∧ m ≤ 10 ^ 15
theorem fn__law_member (Z : Tp K mg) : Fn P w K mg base "_law_member" 1 2 (dom__law_member (K := K)) := by
  obtain ⟨fd, F⟩ := Z.f__law_member
  refine ⟨_, fd, ["_law_box_here", "_law_row_here"], fn_mk F sc__law_member (by decide) fun cdv Ar outer sh Hh Ee B hr ts t hd _ => ?_, Z.g__law_member, F.kp, FunD.bindsN F fun _ _ _ _ _ _ us hl => match us, hl with | [_, _], _ => rfl⟩
  obtain ⟨b, r, m, rfl, rfl, hb, hm⟩ := hd
  refine hj_ownL B 2 aj_nil ?_
  refine hj_forF B (ij_T (ej_v 0)) (n := 3) (fun i => [some (bx b), some (tI (mrow b r i)), none, none, none]) (fun i => some (2, oL ((List.range i).map fun i => tI (mei b r i)))) Le.refl (fun i t ht => ?_) ?_
  · have hi3 : i < 3 := (List.getElem?_eq_some_iff.mp ht).1
    obtain rfl : t = iv (biv b i) := by
      match i, ht with
      | 0, ht => exact (Option.some.inj ht).symm
      | 1, ht => exact (Option.some.inj ht).symm
      | 2, ht => exact (Option.some.inj ht).symm
    have hw := biv_w hb i
    unfold IW at hw
    refine hb_tup B [3, 4] ?_
    refine hj_app 2 (ej_add (ej_v 3) (ej_mod (ej_callTy call_int1 Z.int (by decide +kernel) (aj_cons (ej_v 1) aj_nil) rok_int) (ej_add (ej_sub (ej_v 4) (ej_v 3)) ej_int) (by omega))) ?_ (by rw [List.length_map, List.length_range]; omega)
    refine hj_set B 1 (ej_div (ej_v 1) (ej_add (ej_sub (ej_v 4) (ej_v 3)) ej_int) (bt_cdiv (by omega) (bt60 (by omega) (by omega)) (by decide))) ?_
    refine hj_endL (ts := (List.range (i + 1)).map fun i => tI (mei b r i)) ?_
    rw [List.range_succ, List.map_append]
    rfl
  · exact hj_ret (ej_tup (aj_cons (ej_ixO ej_int) (aj_cons (ej_ixO ej_int) (aj_cons (ej_ixO ej_int) aj_nil)))) (fun _ _ h => h)
theorem sc__law_root : FnScope ["_law_n", "_law_low", "_law_high", "_law_k", "_law_middle"] ["_law_n"] Hd.d__law_root.scope := ⟨rfl, rfl, rfl, by decide +kernel, rfl, by decide +kernel, by decide +kernel⟩
theorem sq_uni {n x : Int} (h0 : 0 ≤ x) (h1 : x * x ≤ n) (h2 : n < (x + 1) * (x + 1)) : x = sq n := by
  have hn : 0 ≤ n := Int.le_trans (Int.mul_nonneg h0 h0) h1
  have h3 := sq_le hn
  have h4 := sq_gt hn
  have h5 := sq_nn n
  rcases Int.lt_trichotomy x (sq n) with h | h | h
  · have : (x + 1) * (x + 1) ≤ sq n * sq n := Int.mul_le_mul h h (by omega) (by omega)
    omega
  · exact h
  · have : (sq n + 1) * (sq n + 1) ≤ x * x := Int.mul_le_mul h h (by omega) (by omega)
    omega
def RootI (n : Int) (i : Nat) (d : Int × Int) : Prop := 0 ≤ d.1 ∧ d.1 < d.2 ∧ d.1 * d.1 ≤ n ∧ n < d.2 * d.2 ∧ d.2 - d.1 ≤ 2 ^ (600 - i) ∧ d.2 ≤ 2 ^ 600
def dom__law_root : Dom K := fun ts t => ∃ (n : Int), ts = [tI n] ∧ t = tI (sq n) ∧ 0 ≤ n ∧ Bt 1000 n
theorem fn__law_root (Z : Tp K mg) : Fn P w K mg base "_law_root" 1 1 (dom__law_root (K := K)) := by
  obtain ⟨fd, F⟩ := Z.f__law_root
  refine ⟨_, fd, ["_law_n"], fn_mk F sc__law_root (by decide) fun cdv Ar outer sh Hh Ee B hr ts t hd _ => ?_, Z.g__law_root, F.kp, FunD.bindsN F fun _ _ _ _ _ _ us hl => match us, hl with | [_], _ => rfl⟩
  obtain ⟨n, rfl, rfl, h0, hb⟩ := hd
  have hn : n < (2 : Int) ^ 600 * 2 ^ 600 := by
    unfold Bt at hb
    have e : ((2 ^ 1000 : Nat) : Int) ≤ (2 : Int) ^ 600 * 2 ^ 600 := by decide +kernel
    omega
  refine hj_set B 1 ej_int ?_
  refine hj_set B 2 ej_int ?_
  refine hj_forB B (ij_r1 Z.range ej_int (by decide) (by decide)) (n := 600) (δ := Unit) (fun i _ => i ≤ 600) (fun i _ => [some (tI n), some (tI 0), some (tI (2 ^ i)), none, none]) (fun _ _ => none) () (Nat.zero_le _) Le.refl (Ex1 (fun h : Nat => h ≤ 600 ∧ n < (2 : Int) ^ h * 2 ^ h) (fun h => [some (tI n), some (tI 0), some (tI (2 ^ h)), none, none]) (fun _ => none)) (fun i t _ ht hφ => ?_) (fun _ _ => le_ex 600 ⟨Nat.le_refl _, hn⟩ Le.refl) (HJ.ex fun h hh => ?_) (by rw [rngT_len]; rfl)
  · obtain ⟨hi, rfl⟩ := rngT_get ht
    have hi2 : i < 600 := hi
    have hbi : Bt (i + 1) ((2 : Int) ^ i) := by
      unfold Bt
      rw [Int.natAbs_pow]
      exact Nat.pow_lt_pow_right (by decide) (Nat.lt_succ_self i)
    refine hb_name B 3 ?_
    refine hj_ifr (bj_gt (ej_mul (ej_v 2) (ej_v 2) (bt_cmul hbi hbi (by omega))) (ej_v 0)) (fun h => ?_) fun h => ?_
    · refine hj_brk (fun H0 σ F H p => le_ex i ⟨hφ, of_decide_eq_true h⟩ (le_less ?_) _ _ _ _ p)
      repeat (first | exact trivial | refine ⟨fun _ _ h => h, ?_⟩)
    · refine hj_set B 2 ((ej_mul (ej_v 2) ej_int (bt_cmul hbi (bt40 (by omega) (by omega)) (by omega))).eq (congrArg tI (Int.pow_succ 2 i).symm)) ?_
      exact hj_end (hM := le_ex () hi2 Le.refl)
  obtain ⟨hh1, hh2⟩ := hh
  have hp0 : (0 : Int) < 2 ^ h := Int.pow_pos (by decide)
  have hple : (2 : Int) ^ h ≤ 2 ^ 600 := by
    have := Nat.pow_le_pow_right (n := 2) (by decide) hh1
    have e1 : ((2 ^ h : Nat) : Int) = 2 ^ h := by simp
    have e2 : ((2 ^ 600 : Nat) : Int) = 2 ^ 600 := by decide +kernel
    omega
  refine hj_forB B (ij_r1 Z.range ej_int (by decide) (by decide)) (n := 600) (δ := Int × Int) (RootI n) (fun i d => [some (tI n), some (tI d.1), some (tI d.2), none, none]) (fun _ _ => none) (0, 2 ^ h) ⟨Int.le_refl _, by show (0 : Int) < 2 ^ h; omega, h0, hh2, by show (2 : Int) ^ h - 0 ≤ 2 ^ (600 - 0); rw [Int.sub_zero]; exact hple, hple⟩ Le.refl (A (K := K) [some (tI n), some (tI (sq n)), none, none, none] none) (fun i t d ht hφ => ?_) (fun d hφ => ?_) ?_ (by rw [rngT_len]; rfl)
  · obtain ⟨hi, rfl⟩ := rngT_get ht
    have hi2 : i < 600 := hi
    obtain ⟨lo, hi'⟩ := d
    obtain ⟨a1, a2, a3, a4, a5, a6⟩ := hφ
    replace a1 : 0 ≤ lo := a1
    replace a2 : lo < hi' := a2
    replace a3 : lo * lo ≤ n := a3
    replace a4 : n < hi' * hi' := a4
    replace a5 : hi' - lo ≤ 2 ^ (600 - i) := a5
    replace a6 : hi' ≤ 2 ^ 600 := a6
    have hpw : (2 : Int) ^ (600 - i) = 2 * 2 ^ (600 - (i + 1)) := by
      rw [show 600 - i = (600 - (i + 1)) + 1 from by omega, Int.pow_succ, Int.mul_comm]
    refine hb_name B 3 ?_
    refine hj_ifr (bj_le (ej_sub (ej_v 2) (ej_v 1)) ej_int) (fun h => ?_) fun h => ?_
    · have h2 : hi' - lo ≤ 1 := of_decide_eq_true h
      have e : lo = sq n := sq_uni a1 a3 (by rw [show lo + 1 = hi' from by omega]; exact a4)
      rw [← e]
      refine hj_brk (le_less ?_)
      repeat (first | exact trivial | refine ⟨fun _ _ h => (by first | exact h | cases h), ?_⟩)
    have h2 : ¬ hi' - lo ≤ 1 := of_decide_eq_false h
    have hbm : Bt 601 ((lo + hi') / 2) := by
      refine bt_of ?_ ?_
      · have : (0 : Int) < 2 ^ 601 := Int.pow_pos (by decide)
        omega
      · have : (2 : Int) ^ 601 = 2 * 2 ^ 600 := by decide +kernel
        omega
    refine hj_set B 4 (ej_div (ej_add (ej_v 1) (ej_v 2)) ej_int (bt_cdiv (by decide) (bt40 (by decide) (by decide)) (by decide))) ?_
    refine hj_ifm (Ex1 (RootI n (i + 1)) (fun d => [some (tI n), some (tI d.1), some (tI d.2), none, none]) (fun _ => none)) (bj_le (ej_mul (ej_v 4) (ej_v 4) (bt_cmul hbm hbm (by decide))) (ej_v 0)) (fun h => ?_) (fun h => ?_) (hj_nil fun _ _ _ _ p => p)
    · have h3 := of_decide_eq_true h
      exact hj_set B 1 (ej_v 4) (hj_end (hM := le_ex ((lo + hi') / 2, hi') ⟨by show 0 ≤ (lo + hi') / 2; omega, by show (lo + hi') / 2 < hi'; omega, h3, a4, by show hi' - (lo + hi') / 2 ≤ _; omega, a6⟩ Le.refl))
    · have h3 := of_decide_eq_false h
      exact hj_set B 2 (ej_v 4) (hj_end (hM := le_ex (lo, (lo + hi') / 2) ⟨a1, by show lo < (lo + hi') / 2; omega, a3, by show n < (lo + hi') / 2 * ((lo + hi') / 2); omega, by show (lo + hi') / 2 - lo ≤ _; omega, by show (lo + hi') / 2 ≤ 2 ^ 600; omega⟩ Le.refl))
  · obtain ⟨a1, a2, a3, a4, a5, a6⟩ := hφ
    have a7 : d.2 - d.1 ≤ 1 := a5
    have e : d.1 = sq n := sq_uni a1 a3 (by rw [show d.1 + 1 = d.2 from by omega]; exact a4)
    rw [← e]
    refine le_less ?_
    repeat (first | exact trivial | refine ⟨fun _ _ h => (by first | exact h | cases h), ?_⟩)
  · exact hj_ret (ej_v 1) (fun _ _ h => h)
end
end T
end
section
set_option Elab.async false
set_option linter.all false
set_option maxRecDepth 100000
set_option maxHeartbeats 4000000
namespace T
open PySem PySem.Spec PyProof.Rows L2 M
section
variable {P : Program} {w : World} {K : PySem.W.Frag} {mg : Str → Option Value} {base : Heap}
abbrev tBn (b : Bn) : Ty K := tT [tI b.b, tI b.e, bx b.p]
abbrev tSe (g : Sg) : Ty K := tT [tI g.at_, bx g.p]
abbrev tPP (d : Pt × Pt) : Ty K := tT [pt d.1, pt d.2]
def pc (p : Pt) : Nat → Int
  | 0 => p.1
  | 1 => p.2.1
  | _ => p.2.2
theorem atI_pt {p : Pt} {i : Nat} (h : i < 3) : atI [tI (K := K) p.1, tI p.2.1, tI p.2.2] (0 + (i : Nat)) = some (tI (pc p i)) := by
  match i, h with
  | 0, _ => rfl
  | 1, _ => rfl
  | 2, _ => rfl
theorem atI_bx {b : Bx} {i : Nat} (h : i < 3) : atI [iv (K := K) b.1, iv b.2.1, iv b.2.2] (0 + (i : Nat)) = some (iv (biv b i)) := by
  match i, h with
  | 0, _ => rfl
  | 1, _ => rfl
  | 2, _ => rfl
theorem atI_spr {r span : Int} {i : Nat} (h : i < 3) : atI ((spr r 3 span).map (tI (K := K))) (0 + (i : Nat)) = some (tI (spi span r i)) := by
  refine atI_map (i := i) (by omega) ?_
  unfold spr
  rw [List.getElem?_map, List.getElem?_range h]
  rfl
theorem range_get {α : Type} {n i : Nat} {f : Nat → α} {u : α} (h : ((List.range n).map f)[i]? = some u) : i < n ∧ u = f i := by
  have hi : i < n := by
    have := (List.getElem?_eq_some_iff.mp h).1
    rw [List.length_map, List.length_range] at this
    exact this
  rw [List.getElem?_map, List.getElem?_range hi] at h
  exact ⟨hi, (Option.some.inj h).symm⟩
section
variable {X : Cx} {Γ : Env1 K} {Ω : Ow K} {a b : Expr} {pos : Pos}
theorem bj_eqP {p q : Pt} (B : Bd X) (ha : EJ X Γ Ω a (pt p)) (hb : EJ X Γ Ω b (pt q)) (hK : X.K = K := by rfl) : BJ X Γ Ω (.Compare a [.Eq] [b] pos) (decide (p = q)) := by
  subst hK
  refine bj_cmp (op_eqD B.hu) ha hb (fun F H x y s hx hy Q k => ?_) (nomark _)
  obtain ⟨r1, xs, rfl, h1, h2⟩ := hx
  obtain ⟨r2, ys, rfl, h3, h4⟩ := hy
  obtain ⟨x1, x2, x3, rfl, e1, e2, e3⟩ := all2_3 h2
  obtain ⟨y1, y2, y3, rfl, g1, g2, g3⟩ := all2_3 h4
  cases (show x1 = .int _ from e1)
  cases (show x2 = .int _ from e2)
  cases (show x3 = .int _ from e3)
  cases (show y1 = .int _ from g1)
  cases (show y2 = .int _ from g2)
  cases (show y3 = .int _ from g3)
  refine ⟨.tuple [.int p.1, .int p.2.1, .int p.2.2], .tuple [.int q.1, .int q.2.1, .int q.2.2], .tup (Same.seqT s h1) (.cons (.int _) (.cons (.int _) (.cons (.int _) .nil))), .tup (Same.seqT s h3) (.cons (.int _) (.cons (.int _) (.cons (.int _) .nil))), rfl, rfl, ?_⟩
  refine k _ F H (Wd.refl s) ?_
  show V.bl _ = V.bl _
  congr 1
  show (p.1 == q.1 && (p.2.1 == q.2.1 && (p.2.2 == q.2.2 && true))) = decide (p = q)
  obtain ⟨a1, a2, a3⟩ := p
  obtain ⟨b1, b2, b3⟩ := q
  by_cases e : (a1, a2, a3) = (b1, b2, b3)
  · rw [decide_eq_true e]
    cases e
    simp
  · rw [decide_eq_false e, Bool.and_true]
    simp only [Prod.mk.injEq] at e
    simp only [Bool.and_eq_false_imp, beq_iff_eq, beq_eq_false_iff_ne]
    intro h1 h2 h3
    exact e ⟨h1, h2, h3⟩
end
theorem pick2_b {lo hi a b i : Int} (ha : lo ≤ a ∧ a ≤ hi) (hb : lo ≤ b ∧ b ≤ hi) : lo ≤ pick2 a b i ∧ pick2 a b i ≤ hi := by
  unfold pick2
  split <;> omega
theorem pick3_b {lo hi a b c i : Int} (ha : lo ≤ a ∧ a ≤ hi) (hb : lo ≤ b ∧ b ≤ hi) (hc : lo ≤ c ∧ c ≤ hi) : lo ≤ pick3 a b c i ∧ pick3 a b c i ≤ hi := by
  unfold pick3
  split
  · omega
  · split <;> omega
theorem sc__law_pull : FnScope ["_law_mu", "_law_bulge", "_law_place", "_law_s", "_law_r", "_law_pulls", "_law_x", "_law_y", "_law_z", "_law_c", "_law_k"] ["_law_mu", "_law_bulge", "_law_place"] Hd.d__law_pull.scope := ⟨rfl, rfl, rfl, by decide +kernel, rfl, by decide +kernel, by decide +kernel⟩
theorem sq_ge {x n : Int} (h : x * x ≤ n) : (x.natAbs : Int) ≤ sq n := by
  have h5 : (x.natAbs : Int) * x.natAbs = x * x := Int.natAbs_mul_self
  have h6 : 0 ≤ (x.natAbs : Int) * x.natAbs := Int.mul_nonneg (Int.natCast_nonneg _) (Int.natCast_nonneg _)
  have hn : 0 ≤ n := by omega
  have h2 := sq_gt hn
  have h3 := sq_nn n
  refine Int.lt_add_one_iff.mp (Int.not_le.mp fun q => ?_)
  have h4 : (sq n + 1) * (sq n + 1) ≤ (x.natAbs : Int) * x.natAbs := Int.mul_le_mul q q (by omega) (by omega)
  omega
theorem len2_pos {p : Pt} (h : p ≠ (0, 0, 0)) : 1 ≤ len2 p := by
  obtain ⟨x, y, z⟩ := p
  have sqn : ∀ a : Int, 0 ≤ a * a := fun a => by
    rcases Int.le_total 0 a with h | h
    · exact Int.mul_nonneg h h
    · exact Int.mul_nonneg_of_nonpos_of_nonpos h h
  have sqp : ∀ a : Int, a ≠ 0 → 1 ≤ a * a := fun a h => by
    have h2 := sqn a
    have h3 : a * a ≠ 0 := Int.mul_ne_zero h h
    omega
  have hx := sqn x
  have hy := sqn y
  have hz := sqn z
  show 1 ≤ x * x + y * y + z * z
  by_cases ex : x = 0
  · by_cases ey : y = 0
    · have ez : z ≠ 0 := fun ez => h (by rw [ex, ey, ez])
      have := sqp z ez
      omega
    · have := sqp y ey
      omega
  · have := sqp x ex
    omega
def plK (p : Pt) : List (Int × Int) := [(p.1, 1), (p.2.1, 1), (p.2.2, 3)]
def dom__law_pull : Dom K := fun ts t => ∃ (mu ob : Int) (p : Pt), ts = [tI mu, tI ob, pt p] ∧ t = pt (lpull mu ob p) ∧ PW (10 ^ 15) p ∧ p ≠ (0, 0, 0) ∧ Bt 100 mu ∧ Bt 100 ob
theorem fn__law_pull (Z : Tp K mg) : Fn P w K mg base "_law_pull" 2 3 (dom__law_pull (K := K)) := by
  obtain ⟨fd, F⟩ := Z.f__law_pull
  refine ⟨_, fd, ["_law_mu", "_law_bulge", "_law_place"], fn_mk F sc__law_pull (by decide) fun cdv Ar outer sh Hh Ee B hr ts t hd _ => ?_, Z.g__law_pull, F.kp, FunD.bindsN F fun _ _ _ _ _ _ us hl => match us, hl with | [_, _, _], _ => rfl⟩
  obtain ⟨mu, ob, p, rfl, rfl, hp, h0, hm, ho⟩ := hd
  have hx : Bt 60 p.1 := bt60 (by have := hp.1; omega) (by have := hp.1; omega)
  have hy : Bt 60 p.2.1 := bt60 (by have := hp.2.1; omega) (by have := hp.2.1; omega)
  have hz : Bt 60 p.2.2 := bt60 (by have := hp.2.2; omega) (by have := hp.2.2; omega)
  have hs : Bt 122 (len2 p) := ((hx.mul hx).add (hy.mul hy)).add ((hz.mul hz).mono (by decide))
  have hs1 := len2_pos h0
  have hr1 := sq_pos hs1
  have hrb : Bt 122 (sq (len2 p)) := sq_bt (by omega) hs
  refine hj_unp B [6, 7, 8] (ej_v 2) ?_
  refine hj_set B 3 ((ej_add (ej_add (ej_mul (ej_v 6) (ej_v 6) (bt_cmul hx hx (by decide))) (ej_mul (ej_v 7) (ej_v 7) (bt_cmul hy hy (by decide)))) (ej_mul (ej_v 8) (ej_v 8) (bt_cmul hz hz (by decide)))).eq (show _ = tI (len2 p) from rfl)) ?_
  refine hj_set B 4 (ej_call (fn__law_root Z) (hr.mono (by decide)) (aj_cons (ej_v 3) aj_nil) ⟨_, rfl, rfl, by omega, hs.mono (by decide)⟩) ?_
  refine hj_ownL B 5 aj_nil ?_
  refine hj_forF B (ij_L (ej_lst (aj_cons (ej_tup (aj_cons (ej_v 6) (aj_cons ej_int aj_nil))) (aj_cons (ej_tup (aj_cons (ej_v 7) (aj_cons ej_int aj_nil))) (aj_cons (ej_tup (aj_cons (ej_v 8) (aj_cons ej_int aj_nil))) aj_nil))))) (n := 3) (fun i => [some (tI mu), some (tI ob), some (pt p), some (tI (len2 p)), some (tI (sq (len2 p))), none, some (tI p.1), some (tI p.2.1), some (tI p.2.2), none, none]) (fun i => some (5, oL (((plK p).take i).map fun q => tI (plc mu ob p q.1 q.2)))) Le.refl (fun i t ht => ?_) ?_
  · obtain ⟨c, k, rfl, hck, hc, hk⟩ : ∃ c k, t = tT [tI c, tI k] ∧ (plK p)[i]? = some (c, k) ∧ Bt 60 c ∧ Bt 40 k := by
      match i, ht with
      | 0, ht => exact ⟨p.1, 1, (Option.some.inj ht).symm, rfl, hx, bt40 (by decide) (by decide)⟩
      | 1, ht => exact ⟨p.2.1, 1, (Option.some.inj ht).symm, rfl, hy, bt40 (by decide) (by decide)⟩
      | 2, ht => exact ⟨p.2.2, 3, (Option.some.inj ht).symm, rfl, hz, bt40 (by decide) (by decide)⟩
    have hi3 : i < 3 := (List.getElem?_eq_some_iff.mp hck).1
    have h5z : Bt 100 (5 * p.2.2) := (bt40 (x := 5) (by decide) (by decide)).mul hz
    have hq : Bt 163 (5 * p.2.2 * p.2.2 - k * len2 p) := ((h5z.mul hz).mono (by decide)).sub (hk.mul hs)
    have hss : Bt 244 (len2 p * len2 p) := hs.mul hs
    have hsss : Bt 366 (len2 p * len2 p * len2 p) := hss.mul hs
    have p2 : 0 < len2 p * len2 p := Int.mul_pos (by omega) (by omega)
    have p3 : 0 < len2 p * len2 p * len2 p := Int.mul_pos p2 (by omega)
    refine hb_tup B [9, 10] ?_
    refine hj_app 5 (ej_add (ej_div (ej_mul (ej_neg (ej_v 0)) (ej_v 9) (bt_cmul hm.neg hc (by decide))) (ej_mul (ej_v 3) (ej_v 4) (bt_cmul hs hrb (by decide))) (bt_cdiv (Int.mul_pos (by omega) (by omega)) (hs.mul hrb) (by decide))) (ej_div (ej_mul (ej_mul (ej_v 1) (ej_v 9) (bt_cmul ho hc (by decide))) (ej_sub (ej_mul (ej_mul ej_int (ej_v 8) (bt_cmul (bt40 (by decide) (by decide)) hz (by decide))) (ej_v 8) (bt_cmul h5z hz (by decide))) (ej_mul (ej_v 10) (ej_v 3) (bt_cmul hk hs (by decide)))) (bt_cmul (ho.mul hc) hq (by decide))) (ej_mul (ej_mul (ej_mul (ej_v 3) (ej_v 3) (bt_cmul hs hs (by decide))) (ej_v 3) (bt_cmul hss hs (by decide))) (ej_v 4) (bt_cmul hsss hrb (by decide))) (bt_cdiv (Int.mul_pos p3 (by omega)) (hsss.mul hrb) (by decide)))) ?_ ?_
    · refine hj_endL (ts := ((plK p).take (i + 1)).map fun q => tI (plc mu ob p q.1 q.2)) ?_
      rw [← take_map hck]
      rfl
    · rw [List.length_map, List.length_take]
      omega
  · exact hj_ret (ej_tup (aj_cons (ej_ixO ej_int) (aj_cons (ej_ixO ej_int) (aj_cons (ej_ixO ej_int) aj_nil)))) (fun _ _ h => h)
theorem sc__law_push : FnScope ["_law_burns", "_law_at", "_law_begin", "_law_end", "_law_box_here"] ["_law_burns", "_law_at"] Hd.d__law_push.scope := ⟨rfl, rfl, rfl, by decide +kernel, rfl, by decide +kernel, by decide +kernel⟩
def dom__law_push : Dom K := fun ts t => ∃ (bs : List Bn) (z : Int), ts = [tL (bs.map tBn), tI z] ∧ t = bx (pushAt bs z)
theorem fn__law_push (Z : Tp K mg) : Fn P w K mg base "_law_push" 1 2 (dom__law_push (K := K)) := by
  obtain ⟨fd, F⟩ := Z.f__law_push
  refine ⟨_, fd, ["_law_burns", "_law_at"], fn_mk F sc__law_push (by decide) fun cdv Ar outer sh Hh Ee B hr ts t hd _ => ?_, Z.g__law_push, F.kp, FunD.bindsN F fun _ _ _ _ _ _ us hl => match us, hl with | [_, _], _ => rfl⟩
  obtain ⟨bs, z, rfl, rfl⟩ := hd
  refine hj_forE B (ij_L (ej_v 0)) (n := bs.length) (δ := Unit) (fun i _ => pushAt bs z = pushAt (bs.drop i) z) (fun _ _ => [some (tL (bs.map tBn)), some (tI z), none, none, none]) (fun _ _ => none) () rfl Le.refl (fun i t _ ht hφ => ?_) (fun _ hφ => ?_) (by rw [List.length_map])
  · obtain ⟨b, hb, rfl⟩ := map_get ht
    have hd := drop_get hb
    refine hb_tup B [2, 3, 4] ?_
    refine hj_ifr (bj_ch2 op_le op_lt (ej_v 2) (ej_v 1) (ej_v 3)) (fun h => ?_) fun h => ?_
    · have e : pushAt bs z = b.p := by
        rw [hφ, hd]
        rw [Bool.and_eq_true, decide_eq_true_eq, decide_eq_true_eq] at h
        exact if_pos h
      rw [e]
      exact hj_ret (ej_v 4) (fun _ _ h => h)
    · refine hj_end (hM := le_ex () ?_ Le.refl)
      rw [hφ, hd]
      refine if_neg fun q => ?_
      have q2 : (decide (b.b ≤ z) && decide (z < b.e)) = true := by rw [Bool.and_eq_true, decide_eq_true_eq, decide_eq_true_eq]; exact q
      rw [q2] at h
      cases h
  · have e : pushAt bs z = zeroB := by
      rw [hφ, List.drop_of_length_le (Nat.le_refl _)]
      rfl
    rw [e]
    exact hj_ret (ej_tup (aj_cons (ej_tup (aj_cons ej_int (aj_cons ej_int aj_nil))) (aj_cons (ej_tup (aj_cons ej_int (aj_cons ej_int aj_nil))) (aj_cons (ej_tup (aj_cons ej_int (aj_cons ej_int aj_nil))) aj_nil)))) (fun _ _ h => h)
end
end T
end
section
set_option Elab.async false
set_option linter.all false
set_option maxRecDepth 100000
set_option maxHeartbeats 4000000
namespace T
open PySem PySem.Spec PyProof.Rows L2 M
section
variable {P : Program} {w : World} {K : PySem.W.Frag} {mg : Str → Option Value} {base : Heap}
theorem sc__law_world : FnScope ["_law_script", "_law_row_here", "_law_mu", "_law_bulge", "_law_drift", "_law_start", "_law_fineness", "_law_many", "_law_span", "_law_place", "_law_speed", "_law_burns", "_law_first", "_law_k", "_law_box_here"] ["_law_script"] Hd.d__law_world.scope := ⟨rfl, rfl, rfl, by decide +kernel, rfl, by decide +kernel, by decide +kernel⟩
def dom__law_world : Dom K := fun ts t => ∃ (s : List Int), ts = [tQ (s.map tI)] ∧ t = tT [tI (world s).mu, tI (world s).ob, tI (world s).drift, tI (world s).start, tI (world s).fin, tI (world s).many, bx (world s).place, bx (world s).speed, tL ((world s).burns.map tBn)]
theorem fn__law_world (Z : Tp K mg) : Fn P w K mg base "_law_world" 3 1 (dom__law_world (K := K)) := by
  obtain ⟨fd, F⟩ := Z.f__law_world
  refine ⟨_, fd, ["_law_script"], fn_mk F sc__law_world (by decide) fun cdv Ar outer sh Hh Ee B hr ts t hd _ => ?_, Z.g__law_world, F.kp, FunD.bindsN F fun _ _ _ _ _ _ us hl => match us, hl with | [_], _ => rfl⟩
  obtain ⟨s, rfl, rfl⟩ := hd
  have hsp : 0 ≤ wSpan s ∧ wSpan s ≤ 1000000 := pick3_b (by decide) (by decide) (by decide)
  have cd : ∀ {x j : Int}, 0 < j → j ≤ 1000000000000 → CDivW x j := fun h1 h2 => bt_cdiv h1 (bt40 (by omega) h2) (by decide)
  have n0 := lrow_nn s 0
  refine hj_set B 1 (ej_call (fn__law_row Z) (hr.mono (by decide)) (aj_cons (ej_v 0) (aj_cons ej_int aj_nil)) ⟨s, 0, rfl, rfl, by decide⟩) ?_
  refine hj_set B 2 (ej_ixL (ej_lst (aj_cons (ej_add ej_int (ej_mod (ej_div (ej_v 1) ej_int (cd (by decide) (by decide))) ej_int (by decide))) (aj_cons (ej_add ej_int (ej_mod (ej_div (ej_v 1) ej_int (cd (by decide) (by decide))) (ej_pow ej_int ej_int (by unfold CPow; decide)) (by decide +kernel))) (aj_cons (ej_add ej_int (ej_mod (ej_div (ej_v 1) ej_int (cd (by decide) (by decide))) (ej_pow ej_int ej_int (by unfold CPow; decide)) (by decide +kernel))) aj_nil)))) (ej_mod (ej_v 1) ej_int (by decide)) (atI_p3 (by omega) (by omega))) ?_
  refine hj_set B 3 (ej_ixL (ej_lst (aj_cons ej_int (aj_cons (ej_mod (ej_div (ej_v 1) ej_int (cd (by decide) (by decide))) (ej_pow ej_int ej_int (by unfold CPow; decide)) (by decide +kernel)) aj_nil))) (ej_mod (ej_div (ej_v 1) ej_int (cd (by decide) (by decide))) ej_int (by decide)) (atI_p2 (by omega) (by omega))) ?_
  refine hj_set B 1 (ej_call (fn__law_row Z) (hr.mono (by decide)) (aj_cons (ej_v 0) (aj_cons ej_int aj_nil)) ⟨s, 1, rfl, rfl, by decide⟩) ?_
  have n1 := lrow_nn s 1
  simp only [List.map_cons, List.map_nil, List.length_cons, List.length_nil, Nat.reduceAdd, Nat.reduceSub, List.replicate_succ, List.replicate_zero, List.cons_append, List.nil_append, List.set_cons_succ, List.set_cons_zero]
  refine hj_set B 4 (ej_ixL (ej_lst (aj_cons ej_int (aj_cons ej_int (aj_cons (ej_mod (ej_div (ej_v 1) ej_int (cd (by decide) (by decide))) ej_int (by decide)) aj_nil)))) (ej_mod (ej_v 1) ej_int (by decide)) (atI_p3 (by omega) (by omega))) ?_
  refine hj_set B 5 (ej_mod (ej_div (ej_v 1) ej_int (cd (by decide) (by decide))) ej_int (by decide)) ?_
  refine hj_set B 6 (ej_mod (ej_div (ej_v 1) ej_int (cd (by decide) (by decide))) ej_int (by decide)) ?_
  refine hj_set B 7 (ej_add ej_int (ej_mod (ej_div (ej_v 1) ej_int (cd (by decide) (by decide))) ej_int (by decide))) ?_
  refine hj_set B 1 (ej_call (fn__law_row Z) (hr.mono (by decide)) (aj_cons (ej_v 0) (aj_cons ej_int aj_nil)) ⟨s, 2, rfl, rfl, by decide⟩) ?_
  have n2 := lrow_nn s 2
  simp only [List.map_cons, List.map_nil, List.length_cons, List.length_nil, Nat.reduceAdd, Nat.reduceSub, List.replicate_succ, List.replicate_zero, List.cons_append, List.nil_append, List.set_cons_succ, List.set_cons_zero]
  refine hj_set B 8 ((ej_ixL (ej_lst (aj_cons ej_int (aj_cons ej_int (aj_cons ej_int aj_nil)))) (ej_mod (ej_v 1) ej_int (by decide)) (atI_p3 (by omega) (by omega))).eq (show _ = tI (wSpan s) from rfl)) ?_
  refine hj_set B 9 (ej_call (fn__law_box Z) (hr.mono (by decide)) (aj_cons (ej_div (ej_v 1) ej_int (cd (by decide) (by decide))) (aj_cons (ej_v 8) (aj_cons (ej_ixL (ej_lst (aj_cons ej_int (aj_cons ej_int (aj_cons ej_int aj_nil)))) (ej_mod (ej_div (ej_v 1) ej_int (cd (by decide) (by decide))) ej_int (by decide)) (atI_p3 (by omega) (by omega))) aj_nil))) ⟨_, _, _, rfl, rfl, hsp.1, hsp.2, pick3_b (by decide) (by decide) (by decide)⟩) ?_
  refine hj_set B 1 (ej_call (fn__law_row Z) (hr.mono (by decide)) (aj_cons (ej_v 0) (aj_cons ej_int aj_nil)) ⟨s, 3, rfl, rfl, by decide⟩) ?_
  have n3 := lrow_nn s 3
  have hs5 : 0 ≤ pick2 5 60 (lrow s 3 % 2) ∧ pick2 5 60 (lrow s 3 % 2) ≤ 1000000 := pick2_b (by decide) (by decide)
  refine hj_set B 10 (ej_call (fn__law_box Z) (hr.mono (by decide)) (aj_cons (ej_div (ej_v 1) ej_int (cd (by decide) (by decide))) (aj_cons (ej_ixL (ej_lst (aj_cons ej_int (aj_cons ej_int aj_nil))) (ej_mod (ej_v 1) ej_int (by decide)) (atI_p2 (by omega) (by omega))) (aj_cons (ej_ixL (ej_lst (aj_cons ej_int (aj_cons ej_int (aj_cons ej_int aj_nil)))) (ej_mod (ej_div (ej_v 1) ej_int (cd (by decide) (by decide))) ej_int (by decide)) (atI_p3 (by omega) (by omega))) aj_nil))) ⟨_, _, _, rfl, rfl, hs5.1, hs5.2, pick3_b (by decide) (by decide) (by decide)⟩) ?_
  refine hj_set B 1 (ej_call (fn__law_row Z) (hr.mono (by decide)) (aj_cons (ej_v 0) (aj_cons ej_int aj_nil)) ⟨s, 6, rfl, rfl, by decide⟩) ?_
  have n6 := lrow_nn s 6
  simp only [List.map_cons, List.map_nil, List.length_cons, List.length_nil, Nat.reduceAdd, Nat.reduceSub, List.replicate_succ, List.replicate_zero, List.cons_append, List.nil_append, List.set_cons_succ, List.set_cons_zero]
  refine hj_ownL B 11 aj_nil ?_
  refine hj_set B 12 ((ej_add (ej_v 5) (ej_mod (ej_v 1) ej_int (by decide))).eq (show _ = tI (bFirst s 0) from rfl)) ?_
  simp only [List.map_cons, List.map_nil, List.length_cons, List.length_nil, Nat.reduceAdd, Nat.reduceSub, List.replicate_succ, List.replicate_zero, List.cons_append, List.nil_append, List.set_cons_succ, List.set_cons_zero]
  refine hj_forF B (ij_r1 Z.range (ej_mod (ej_div (ej_v 1) ej_int (cd (by decide) (by decide))) ej_int (by decide)) (by omega) (by omega)) (n := bMany s) (fun i => [some (tQ (s.map tI)), some (tI (lrow s 6)), some (tI (world s).mu), some (tI (world s).ob), some (tI (world s).drift), some (tI (world s).start), some (tI (world s).fin), some (tI (world s).many), none, some (bx (world s).place), some (bx (world s).speed), none, some (tI (bFirst s i)), none, none]) (fun i => some (11, oL ((List.range i).map fun k => tBn (bOne s k)))) (le_less ?_) (fun i t ht => ?_) ?_ (by rw [rngT_len]; rfl)
  · repeat (first | exact trivial | refine ⟨fun _ _ h => (by first | exact h | cases h), ?_⟩)
  · obtain ⟨hi, rfl⟩ := rngT_get ht
    rw [Int.zero_add]
    have hi2 : i < 3 := by omega
    have hpk : 0 ≤ pick2 0 4 ((i : Int) % 2) ∧ pick2 0 4 ((i : Int) % 2) ≤ 1000000 := pick2_b (by decide) (by decide)
    refine hb_name B 13 ?_
    refine hj_set B 14 (ej_call (fn__law_box Z) (hr.mono (by decide)) (aj_cons (ej_add (ej_div (ej_v 1) ej_int (cd (by decide) (by decide))) (ej_mul (ej_v 13) ej_int (bt_cmul (bt40 (by omega) (by omega)) (bt40 (by omega) (by omega)) (by decide)))) (aj_cons ej_int (aj_cons (ej_ixL (ej_lst (aj_cons ej_int (aj_cons ej_int aj_nil))) (ej_mod (ej_v 13) ej_int (by decide)) (atI_p2 (by omega) (by omega))) aj_nil))) ⟨_, _, _, rfl, rfl, by decide, by decide, hpk.1, hpk.2⟩) ?_
    refine hj_app 11 (ej_tup (aj_cons (ej_v 12) (aj_cons (ej_add (ej_add (ej_v 12) ej_int) (ej_mod (ej_div (ej_v 1) ej_int (cd (by decide) (by decide))) ej_int (by decide))) (aj_cons (ej_v 14) aj_nil)))) ?_ (by rw [List.length_map, List.length_range]; omega)
    refine hj_set B 12 ((ej_add (ej_add (ej_add (ej_v 12) ej_int) (ej_mod (ej_div (ej_v 1) ej_int (cd (by decide) (by decide))) ej_int (by decide))) (ej_mod (ej_div (ej_v 1) ej_int (cd (by decide) (by decide))) ej_int (by decide))).eq (show _ = tI (bFirst s (i + 1)) from rfl)) ?_
    refine hj_endL (ts := (List.range (i + 1)).map fun k => tBn (bOne s k)) ?_
    rw [List.range_succ, List.map_append]
    rfl
  · refine hj_frz 11 ?_
    have e : (List.range (bMany s)).map (fun k => tBn (K := K) (bOne s k)) = (world s).burns.map tBn := by
      show _ = ((List.range (bMany s)).map (bOne s)).map tBn
      rw [List.map_map]
      rfl
    rw [e]
    exact hj_ret (ej_tup (aj_cons (ej_v 2) (aj_cons (ej_v 3) (aj_cons (ej_v 4) (aj_cons (ej_v 5) (aj_cons (ej_v 6) (aj_cons (ej_v 7) (aj_cons (ej_v 9) (aj_cons (ej_v 10) (aj_cons (ej_v 11) aj_nil)))))))))) (fun _ _ h => h)
end
end T
end
section
set_option Elab.async false
set_option linter.all false
set_option maxRecDepth 10000
/-! The sizes of the law's own numbers. -/
namespace M
theorem pick2_bd {lo hi a b i : Int} (ha : lo ≤ a ∧ a ≤ hi) (hb : lo ≤ b ∧ b ≤ hi) : lo ≤ pick2 a b i ∧ pick2 a b i ≤ hi := by
  unfold pick2
  split <;> omega
theorem pick3_bd {lo hi a b c i : Int} (ha : lo ≤ a ∧ a ≤ hi) (hb : lo ≤ b ∧ b ≤ hi) (hc : lo ≤ c ∧ c ≤ hi) : lo ≤ pick3 a b c i ∧ pick3 a b c i ≤ hi := by
  unfold pick3
  split
  · omega
  · split <;> omega
theorem pick4_bd {lo hi a b c d i : Int} (ha : lo ≤ a ∧ a ≤ hi) (hb : lo ≤ b ∧ b ≤ hi) (hc : lo ≤ c ∧ c ≤ hi) (hd : lo ≤ d ∧ d ≤ hi) : lo ≤ pick4 a b c d i ∧ pick4 a b c d i ≤ hi := by
  unfold pick4
  split
  · omega
  · split
    · omega
    · split <;> omega
structure WOk (w : Wo) : Prop where
  mu : 1 ≤ w.mu ∧ w.mu ≤ 1000000000
  ob : 0 ≤ w.ob ∧ w.ob ≤ 1000000000000
  drift : 0 ≤ w.drift ∧ w.drift ≤ 5
  start : 0 ≤ w.start ∧ w.start ≤ 8
  fin : 0 ≤ w.fin ∧ w.fin ≤ 2
  many : 3 ≤ w.many ∧ w.many ≤ 11
  place : BW 6000 w.place
  speed : BW 100 w.speed
  burns : ∀ b ∈ w.burns, 0 ≤ b.b ∧ b.b < b.e ∧ b.e ≤ 1000 ∧ BW 100 b.p
  many2 : w.burns.length ≤ 3
theorem bFirst_b (s : List Int) : ∀ k : Nat, 0 ≤ bFirst s k ∧ bFirst s k ≤ 20 + 4 * k
  | 0 => by
    have h0 := lrow_nn s 1
    have h6 := lrow_nn s 6
    show 0 ≤ lrow s 1 / 31 % 9 + lrow s 6 % 4 ∧ lrow s 1 / 31 % 9 + lrow s 6 % 4 ≤ _
    omega
  | k + 1 => by
    have h := bFirst_b s k
    show 0 ≤ bFirst s k + 1 + lrow s 6 / 5 % 3 + lrow s 6 / 7 % 2 ∧ bFirst s k + 1 + lrow s 6 / 5 % 3 + lrow s 6 / 7 % 2 ≤ _
    omega
theorem world_ok (s : List Int) : WOk (world s) where
  mu := by
    have h0 := lrow_nn s 0
    exact pick3_bd (by omega) (by omega) (by omega)
  ob := pick2_bd (by omega) (by omega)
  drift := pick3_bd (by omega) (by omega) (by omega)
  start := by
    show 0 ≤ lrow s 1 / 31 % 9 ∧ lrow s 1 / 31 % 9 ≤ 8
    omega
  fin := by
    show 0 ≤ lrow s 1 / 279 % 3 ∧ lrow s 1 / 279 % 3 ≤ 2
    omega
  many := by
    show 3 ≤ 3 + lrow s 1 / 837 % 9 ∧ 3 + lrow s 1 / 837 % 9 ≤ 11
    omega
  place := by
    have h1 : 0 ≤ wSpan s ∧ wSpan s ≤ 5000 := pick3_bd (by omega) (by omega) (by omega)
    have h2 : 0 ≤ pick3 0 3 40 (lrow s 2 / 17 % 3) ∧ pick3 0 3 40 (lrow s 2 / 17 % 3) ≤ 40 := pick3_bd (by omega) (by omega) (by omega)
    exact (lbox_w h1.1 h2.1).mono (by omega)
  speed := by
    have h1 : 0 ≤ pick2 5 60 (lrow s 3 % 2) ∧ pick2 5 60 (lrow s 3 % 2) ≤ 60 := pick2_bd (by omega) (by omega)
    have h2 : 0 ≤ pick3 0 2 9 (lrow s 3 / 13 % 3) ∧ pick3 0 2 9 (lrow s 3 / 13 % 3) ≤ 9 := pick3_bd (by omega) (by omega) (by omega)
    exact (lbox_w h1.1 h2.1).mono (by omega)
  burns := by
    intro b hb
    obtain ⟨k, hk, rfl⟩ := List.mem_map.mp hb
    have hk2 : k < bMany s := List.mem_range.mp hk
    have hk3 : k < 3 := by
      unfold bMany at hk2
      omega
    have h := bFirst_b s k
    have h2 : 0 ≤ pick2 0 4 ((k : Int) % 2) ∧ pick2 0 4 ((k : Int) % 2) ≤ 4 := pick2_bd (by omega) (by omega)
    refine ⟨h.1, ?_, ?_, (lbox_w (by decide) h2.1).mono (by omega)⟩
    · show bFirst s k < bFirst s k + 1 + lrow s 6 / 5 % 3
      omega
    · show bFirst s k + 1 + lrow s 6 / 5 % 3 ≤ 1000
      omega
  many2 := by
    show ((List.range (bMany s)).map (bOne s)).length ≤ 3
    rw [List.length_map, List.length_range]
    unfold bMany
    omega
theorem PW.mono {m n : Int} {p : Pt} (h : PW m p) (k : m ≤ n) : PW n p := by
  obtain ⟨⟨a, b⟩, ⟨c, d⟩, e, f⟩ := h
  exact ⟨⟨by omega, by omega⟩, ⟨by omega, by omega⟩, by omega, by omega⟩
theorem PW.add {m n : Int} {p q : Pt} (h : PW m p) (k : PW n q) : PW (m + n) (padd p q) := by
  obtain ⟨⟨a, b⟩, ⟨c, d⟩, e, f⟩ := h
  obtain ⟨⟨a2, b2⟩, ⟨c2, d2⟩, e2, f2⟩ := k
  refine ⟨?_, ?_, ?_⟩
  · show -(m + n) ≤ p.1 + q.1 ∧ p.1 + q.1 ≤ m + n
    omega
  · show -(m + n) ≤ p.2.1 + q.2.1 ∧ p.2.1 + q.2.1 ≤ m + n
    omega
  · show -(m + n) ≤ p.2.2 + q.2.2 ∧ p.2.2 + q.2.2 ≤ m + n
    omega
theorem shB_w {m n : Int} {b : Bx} {q : Pt} (h : BW m b) (k : PW n q) : BW (m + n) (shB b q) := by
  obtain ⟨⟨a1, a2, a3⟩, ⟨b1, b2, b3⟩, c1, c2, c3⟩ := h
  obtain ⟨⟨d1, d2⟩, ⟨d3, d4⟩, d5, d6⟩ := k
  refine ⟨?_, ?_, ?_⟩
  · show -(m + n) ≤ b.1.1 + q.1 ∧ b.1.1 + q.1 ≤ b.1.2 + q.1 ∧ b.1.2 + q.1 ≤ m + n
    omega
  · show -(m + n) ≤ b.2.1.1 + q.2.1 ∧ b.2.1.1 + q.2.1 ≤ b.2.1.2 + q.2.1 ∧ b.2.1.2 + q.2.1 ≤ m + n
    omega
  · show -(m + n) ≤ b.2.2.1 + q.2.2 ∧ b.2.2.1 + q.2.2 ≤ b.2.2.2 + q.2.2 ∧ b.2.2.2 + q.2.2 ≤ m + n
    omega
theorem sw1_w {m : Int} {a : Iv} {r : Int} (h : IW m a) : IW (m + 4) (sw1 a r) := by
  unfold IW at h
  show -(m + 4) ≤ a.1 + r / 9 % 5 - 2 ∧ a.1 + r / 9 % 5 - 2 ≤ a.2 + r / 9 % 5 - 2 ∧ a.2 + r / 9 % 5 - 2 ≤ m + 4
  omega
theorem swB_w {m : Int} {b : Bx} {r : Int} (h : BW m b) : BW (m + 4) (swB b r) := ⟨sw1_w h.1, sw1_w h.2.1, sw1_w h.2.2⟩
theorem spt_w {r span : Int} (h : 0 ≤ span) : PW span (spt r span) := ⟨spi_b h 0, spi_b h 1, spi_b h 2⟩
theorem near_b (s : List Int) : 0 ≤ pick4 0 5 90 900 (lrow s 31 % 4) ∧ pick4 0 5 90 900 (lrow s 31 % 4) ≤ 900 := pick4_bd (by omega) (by omega) (by omega) (by omega)
theorem here_w (s : List Int) : BW 7000 (here s) := (shB_w (world_ok s).place (spt_w (near_b s).1)).mono (by have := (near_b s).2; omega)
theorem swift_w (s : List Int) : BW 200 (swift s) := (swB_w (world_ok s).speed).mono (by decide)
theorem later_b (s : List Int) : 0 ≤ later s ∧ later s ≤ 11 := by
  have h := (world_ok s).start
  have h2 : 0 ≤ pick2 0 (lrow s 31 / 11 % 4) (lrow s 31 / 3 % 2) ∧ pick2 0 (lrow s 31 / 11 % 4) (lrow s 31 / 3 % 2) ≤ 3 := pick2_bd (by omega) (by omega)
  show 0 ≤ (world s).start + _ ∧ (world s).start + _ ≤ 11
  omega
/-- what the motion's numbers keep to -/
structure MiOk (w : Mi) : Prop where
  mu : 1 ≤ w.mu ∧ w.mu ≤ 1000000000
  ob : 0 ≤ w.ob ∧ w.ob ≤ 1000000000000
  drift : 0 ≤ w.drift ∧ w.drift ≤ 5
  burns : ∀ b ∈ w.burns, BW 100 b.p
theorem mi1_ok (s : List Int) : MiOk (mi1 s) := ⟨(world_ok s).mu, (world_ok s).ob, (world_ok s).drift, fun b h => ((world_ok s).burns b h).2.2.2⟩
theorem mi2_ok (s : List Int) : MiOk (mi2 s) := ⟨(world_ok s).mu, (world_ok s).ob, (world_ok s).drift, fun b h => by cases h⟩
theorem push_w {m : Int} (hm : 0 ≤ m) {z : Int} : ∀ {bs : List Bn}, (∀ b ∈ bs, BW m b.p) → BW m (pushAt bs z)
  | [], _ => by
    have z : IW m (0, 0) := ⟨by show -m ≤ 0; omega, Int.le_refl _, hm⟩
    exact ⟨z, z, z⟩
  | b :: r, h => by
    unfold pushAt
    split
    · exact h b List.mem_cons_self
    · exact push_w hm fun x hx => h x (List.mem_cons_of_mem _ hx)
/-! ### the pull is small -/
theorem abs_div {a d : Int} {m : Int} (hd : 0 < d) (h1 : -(m * d) ≤ a) (h2 : a ≤ m * d) : -m ≤ a / d ∧ a / d ≤ m := by
  constructor
  · exact (Int.le_ediv_iff_mul_le hd).mpr (by rw [Int.neg_mul]; exact h1)
  · exact Int.ediv_le_of_le_mul hd h2
theorem sq_abs {x n : Int} (h : x * x ≤ n) : -(sq n) ≤ x ∧ x ≤ sq n := by
  have h5 : (x.natAbs : Int) * x.natAbs = x * x := Int.natAbs_mul_self
  have h6 : 0 ≤ (x.natAbs : Int) * x.natAbs := Int.mul_nonneg (Int.natCast_nonneg _) (Int.natCast_nonneg _)
  have hn : 0 ≤ n := by omega
  have h2 := sq_gt hn
  have h3 := sq_nn n
  have : (x.natAbs : Int) ≤ sq n := by
    refine Int.lt_add_one_iff.mp (Int.not_le.mp fun q => ?_)
    have h4 : (sq n + 1) * (sq n + 1) ≤ (x.natAbs : Int) * x.natAbs := Int.mul_le_mul q q (by omega) (by omega)
    omega
  omega
theorem sqr_nn (a : Int) : 0 ≤ a * a := by
  rcases Int.le_total 0 a with h | h
  · exact Int.mul_nonneg h h
  · exact Int.mul_nonneg_of_nonpos_of_nonpos h h
theorem mul_bd {a b m n : Int} (h1 : -m ≤ a ∧ a ≤ m) (h2 : -n ≤ b ∧ b ≤ n) : -(m * n) ≤ a * b ∧ a * b ≤ m * n := by
  have hm : 0 ≤ m := by omega
  have hn : 0 ≤ n := by omega
  have key : ((a * b).natAbs : Int) ≤ m * n := by
    rw [Int.natAbs_mul, Int.natCast_mul]
    exact Int.mul_le_mul (by omega) (by omega) (Int.natCast_nonneg _) hm
  omega
theorem plc_b {mu ob : Int} {p : Pt} {c k : Int} (hs : 1 ≤ len2 p) (hc : c * c ≤ len2 p) (hm : 1 ≤ mu ∧ mu ≤ 1000000000) (ho : 0 ≤ ob ∧ ob ≤ 1000000000000) (hk : 0 ≤ k ∧ k ≤ 3) : -6000000000000 ≤ plc mu ob p c k ∧ plc mu ob p c k ≤ 6000000000000 := by
  have hz : p.2.2 * p.2.2 ≤ len2 p := by
    have h1 := sqr_nn p.1
    have h2 := sqr_nn p.2.1
    unfold len2
    omega
  have hz0 := sqr_nn p.2.2
  have hr := sq_pos hs
  have hcr := sq_abs hc
  unfold plc
  generalize len2 p = s at *
  generalize hrr : sq s = r at *
  have e5 : 5 * p.2.2 * p.2.2 = 5 * (p.2.2 * p.2.2) := Int.mul_assoc ..
  rw [e5]
  generalize p.2.2 * p.2.2 = zz at *
  have hks : 0 ≤ k * s ∧ k * s ≤ 3 * s := ⟨Int.mul_nonneg hk.1 (by omega), Int.mul_le_mul_of_nonneg_right hk.2 (by omega)⟩
  have hsr : r ≤ s * r := by
    have := Int.mul_le_mul_of_nonneg_right hs (show 0 ≤ r by omega)
    omega
  have hsr0 : 0 < s * r := by omega
  have p1 : -(mu * (s * r)) ≤ -mu * c ∧ -mu * c ≤ mu * (s * r) := by
    have h1 := mul_bd (a := -mu) (m := mu) (b := c) (n := s * r) (by omega) (by omega)
    exact h1
  have d1 := abs_div hsr0 p1.1 p1.2
  have q1 : -(5 * s) ≤ 5 * zz - k * s ∧ 5 * zz - k * s ≤ 5 * s := by omega
  have hss : s ≤ s * s := by
    have := Int.mul_le_mul_of_nonneg_right hs (show 0 ≤ s by omega)
    omega
  have q2 := mul_bd (a := ob * c) (m := ob * r) (b := 5 * zz - k * s) (n := 5 * s) (mul_bd (a := ob) (m := ob) (b := c) (n := r) (by omega) hcr) q1
  have hbig : ob * r * (5 * s) ≤ 5 * ob * (s * s * s * r) := by
    have e : ob * r * (5 * s) = 5 * ob * (s * r) := by
      rw [Int.mul_comm 5 ob, Int.mul_assoc ob r, Int.mul_assoc ob 5, Int.mul_left_comm r 5 s, Int.mul_comm r s]
    rw [e]
    refine Int.mul_le_mul_of_nonneg_left ?_ (by omega)
    refine Int.mul_le_mul_of_nonneg_right ?_ (by omega)
    have h1 : s * s ≤ s * s * s := by
      have := Int.mul_le_mul_of_nonneg_left hs (show 0 ≤ s * s by omega)
      rw [Int.mul_one] at this
      exact this
    omega
  have hsssr : 0 < s * s * s * r := Int.mul_pos (Int.mul_pos (Int.mul_pos (by omega) (by omega)) (by omega)) (by omega)
  have d2 := abs_div (m := 5 * ob) hsssr (a := ob * c * (5 * zz - k * s)) (by omega) (by omega)
  omega
theorem len2_c (p : Pt) : p.1 * p.1 ≤ len2 p ∧ p.2.1 * p.2.1 ≤ len2 p ∧ p.2.2 * p.2.2 ≤ len2 p := by
  have h1 := sqr_nn p.1
  have h2 := sqr_nn p.2.1
  have h3 := sqr_nn p.2.2
  unfold len2
  omega
theorem len2_pos {p : Pt} (h : p ≠ (0, 0, 0)) : 1 ≤ len2 p := by
  obtain ⟨x, y, z⟩ := p
  have sqp : ∀ a : Int, a ≠ 0 → 1 ≤ a * a := fun a h => by
    have h2 := sqr_nn a
    have h3 : a * a ≠ 0 := Int.mul_ne_zero h h
    omega
  have hx := sqr_nn x
  have hy := sqr_nn y
  have hz := sqr_nn z
  show 1 ≤ x * x + y * y + z * z
  by_cases ex : x = 0
  · by_cases ey : y = 0
    · have ez : z ≠ 0 := fun ez => h (by rw [ex, ey, ez])
      have := sqp z ez
      omega
    · have := sqp y ey
      omega
  · have := sqp x ex
    omega
theorem lpull_w {w : Mi} {p : Pt} (hw : MiOk w) (h : p ≠ (0, 0, 0)) : PW 6000000000000 (lpull w.mu w.ob p) := by
  have hs := len2_pos h
  obtain ⟨h1, h2, h3⟩ := len2_c p
  exact ⟨plc_b hs h1 hw.mu hw.ob ⟨by decide, by decide⟩, plc_b hs h2 hw.mu hw.ob ⟨by decide, by decide⟩, plc_b hs h3 hw.mu hw.ob ⟨by decide, by decide⟩⟩
/-- the motion stays small -/
theorem mot_w {s : List Int} {w : Mi} {d0 : Pt × Pt} (hw : MiOk w) (h1 : PW 7000 d0.1) (h2 : PW 1000 d0.2) : ∀ (i : Nat) {d : Pt × Pt}, i ≤ 11 → mot s w d0 i = some d → PW (7000 + i * 78000000000000) d.1 ∧ PW (1000 + i * 7000000000000) d.2
  | 0, d, _, e => by
    cases e
    exact ⟨h1.mono (by omega), h2.mono (by omega)⟩
  | i + 1, d, hi, e => by
    cases h3 : mot s w d0 i with
    | none =>
      have := mot_none h3 1
      rw [this] at e
      cases e
    | some d1 =>
      have e2 : (if d1.1 = (0, 0, 0) then none else some (nxt s w i d1)) = some d := by
        have e3 : (match mot s w d0 i with | none => none | some d => if d.1 = (0, 0, 0) then none else some (nxt s w i d)) = some d := e
        rw [h3] at e3
        exact e3
      split at e2
      · cases e2
      · rename_i hne
        cases e2
        obtain ⟨a1, a2⟩ := mot_w hw h1 h2 i (by omega) h3
        have b1 := lpull_w hw hne
        have b2 : PW 100 (mem (pushAt w.burns (w.start + i)) (lrow s (8 + i))) := by
          have hb := push_w (z := w.start + i) (show (0 : Int) ≤ 100 by decide) hw.burns
          exact (mem_in hb).w hb
        have b3 := (spt_w (r := lrow s (8 + i) / 10 ^ 9) hw.drift.1).mono hw.drift.2
        have hf : PW (1000 + ((i + 1 : Nat) : Int) * 7000000000000) (nxF s w i d1) := (((a2.add b1).add b2).add b3).mono (by omega)
        exact ⟨(a1.add hf).mono (by omega), hf⟩
theorem mot_w1 {s : List Int} {w : Mi} {d0 : Pt × Pt} (hw : MiOk w) (h1 : PW 7000 d0.1) (h2 : PW 1000 d0.2) {i : Nat} {d : Pt × Pt} (hi : i ≤ 11) (h : mot s w d0 i = some d) : PW 900000000000000 d.1 := (mot_w hw h1 h2 i hi h).1.mono (by omega)
theorem st1_w (s : List Int) : PW 7000 (st1 s).1 ∧ PW 1000 (st1 s).2 := ⟨((mem_in (world_ok s).place).w (world_ok s).place).mono (by decide), ((mem_in (world_ok s).speed).w (world_ok s).speed).mono (by decide)⟩
theorem st2_w (s : List Int) : PW 7000 (st2 s).1 ∧ PW 1000 (st2 s).2 := ⟨(mem_in (here_w s)).w (here_w s), ((mem_in (swift_w s)).w (swift_w s)).mono (by decide)⟩
/-! ### sightings -/
theorem sWide_b (r : Int) : 0 ≤ sWide r ∧ sWide r ≤ 400 := pick3_bd (by omega) (by omega) (by omega)
theorem sLess_b (r : Int) : 0 ≤ sLess r ∧ sLess r ≤ 2 := pick2_bd (by omega) (by omega)
theorem sIv_w {m c r : Int} (h : -m ≤ c ∧ c ≤ m) : IW (m + 402) (sIv r c) := by
  have h1 := sWide_b r
  have h2 := sLess_b r
  show -(m + 402) ≤ c - sWide r ∧ c - sWide r ≤ c + sWide r + sLess r ∧ c + sWide r + sLess r ≤ m + 402
  omega
theorem sIv_in (r c : Int) : InI c (sIv r c) := by
  have h1 := sWide_b r
  have h2 := sLess_b r
  show c - sWide r ≤ c ∧ c ≤ c + sWide r + sLess r
  omega
theorem sBox_w {m r : Int} {p : Pt} (h : PW m p) : BW (m + 402) (sBox r p) := ⟨sIv_w h.1, sIv_w h.2.1, sIv_w h.2.2⟩
theorem sBox_in (r : Int) (p : Pt) : InB p (sBox r p) := ⟨sIv_in r _, sIv_in r _, sIv_in r _⟩
/-- each sighting is a tick of the motion and holds its place -/
theorem seen_mem {r st : Int} {ms : List (Pt × Pt)} {g : Sg} (h : g ∈ seen r st ms) : ∃ k d, ms[k]? = some d ∧ g.at_ = st + (k : Nat) ∧ ∃ r', g.p = sBox r' d.1 := by
  obtain ⟨k, hk, e⟩ := List.mem_filterMap.mp h
  have hk2 := List.mem_range.mp hk
  unfold sOne at e
  split at e
  · cases e
    refine ⟨k, ms[k], List.getElem?_eq_getElem hk2, rfl, srow r k, ?_⟩
    show sBox _ (ms.getD k _).1 = _
    rw [List.getD_eq_getElem?_getD, List.getElem?_eq_getElem hk2]
    rfl
  · cases e
theorem seen_len (r st : Int) (ms : List (Pt × Pt)) : (seen r st ms).length ≤ ms.length := by
  have := List.length_filterMap_le (sOne r st ms) (List.range ms.length)
  rw [List.length_range] at this
  exact this
end M
end
section
set_option Elab.async false
set_option linter.all false
set_option maxRecDepth 100000
set_option maxHeartbeats 4000000
namespace T
open PySem PySem.Spec PyProof.Rows L2 M
section
variable {P : Program} {w : World} {K : PySem.W.Frag} {mg : Str → Option Value} {base : Heap}
theorem sc__law_motion : FnScope ["_law_script", "_law_mu", "_law_bulge", "_law_place", "_law_speed", "_law_drift", "_law_burns", "_law_start", "_law_many", "_law_at", "_law_fast", "_law_motion_here", "_law_k", "_law_row_here", "_law_box_here", "_law_push_here", "_law_more", "_law_pulls", "_law_j"] ["_law_script", "_law_mu", "_law_bulge", "_law_place", "_law_speed", "_law_drift", "_law_burns", "_law_start", "_law_many"] Hd.d__law_motion.scope := ⟨rfl, rfl, rfl, by decide +kernel, rfl, by decide +kernel, by decide +kernel⟩
def dom__law_motion : Dom K := fun ts t => ∃ (s : List Int) (wi : Mi) (pl sp : Bx) (n : Nat), ts = [tQ (s.map tI), tI wi.mu, tI wi.ob, bx pl, bx sp, tI wi.drift, tL (wi.burns.map tBn), tI wi.start, tI n] ∧ t = tL ((motL s wi (mem pl (lrow s 4), mem sp (lrow s 5)) n).map tPP) ∧ n ≤ 100 ∧ BW (10 ^ 15) pl ∧ BW (10 ^ 15) sp ∧ (∀ b ∈ wi.burns, BW (10 ^ 12) b.p) ∧ 0 ≤ wi.drift ∧ wi.drift ≤ 1000000 ∧ Bt 100 wi.mu ∧ Bt 100 wi.ob ∧ ∀ i d, i < n → mot s wi (mem pl (lrow s 4), mem sp (lrow s 5)) i = some d → PW (10 ^ 15) d.1
theorem fn__law_motion (Z : Tp K mg) : Fn P w K mg base "_law_motion" 3 9 (dom__law_motion (K := K)) := by
  obtain ⟨fd, F⟩ := Z.f__law_motion
  refine ⟨_, fd, ["_law_script", "_law_mu", "_law_bulge", "_law_place", "_law_speed", "_law_drift", "_law_burns", "_law_start", "_law_many"], fn_mk F sc__law_motion (by decide) fun cdv Ar outer sh Hh Ee B hr ts t hd _ => ?_, Z.g__law_motion, F.kp, FunD.bindsN F fun _ _ _ _ _ _ us hl => match us, hl with | [_, _, _, _, _, _, _, _, _], _ => rfl⟩
  obtain ⟨s, wi, pl, sp, n, rfl, rfl, hn, hpl, hsp, hbs, hd0, hd1, hm, ho, hpw⟩ := hd
  refine hj_set B 9 (ej_call (fn__law_member Z) (hr.mono (by decide)) (aj_cons (ej_v 3) (aj_cons (ej_call (fn__law_row Z) (hr.mono (by decide)) (aj_cons (ej_v 0) (aj_cons ej_int aj_nil)) ⟨s, 4, rfl, rfl, by decide⟩) aj_nil)) ⟨_, _, _, rfl, rfl, hpl, Int.le_refl _⟩) ?_
  refine hj_set B 10 (ej_call (fn__law_member Z) (hr.mono (by decide)) (aj_cons (ej_v 4) (aj_cons (ej_call (fn__law_row Z) (hr.mono (by decide)) (aj_cons (ej_v 0) (aj_cons ej_int aj_nil)) ⟨s, 5, rfl, rfl, by decide⟩) aj_nil)) ⟨_, _, _, rfl, rfl, hsp, Int.le_refl _⟩) ?_
  generalize hd : (mem pl (lrow s 4), mem sp (lrow s 5)) = d0 at hpw ⊢
  rw [show mem pl (lrow s 4) = d0.1 from by rw [← hd], show mem sp (lrow s 5) = d0.2 from by rw [← hd]]
  refine hj_ownL B 11 (aj_cons (ej_tup (aj_cons (ej_v 9) (aj_cons (ej_v 10) aj_nil))) aj_nil) ?_
  simp only [List.map_cons, List.map_nil, List.length_cons, List.length_nil, Nat.reduceAdd, Nat.reduceSub, List.replicate_succ, List.replicate_zero, List.cons_append, List.nil_append, List.set_cons_succ, List.set_cons_zero]
  refine hj_forB B (ij_r1 Z.range (ej_v 8) (by omega) (by omega)) (n := n) (δ := Pt × Pt) (fun i d => mot s wi d0 i = some d) (fun i d => [some (tQ (s.map tI)), some (tI wi.mu), some (tI wi.ob), some (bx pl), some (bx sp), some (tI wi.drift), some (tL (wi.burns.map tBn)), some (tI wi.start), some (tI n), some (pt d.1), some (pt d.2), none, none, none, none, none, none, none, none]) (fun i _ => some (11, oL ((motL s wi d0 i).map tPP))) d0 rfl Le.refl (A (K := K) [none, none, none, none, none, none, none, none, none, none, none, none, none, none, none, none, none, none, none] (some (11, oL ((motL s wi d0 n).map tPP)))) (fun i t d ht hφ => ?_) (fun d hφ => le_less ?_) ?_ (by rw [rngT_len]; omega)
  · obtain ⟨hi, rfl⟩ := rngT_get ht
    have hi2 : i < n := by omega
    have hp := hpw i d hi2 hφ
    have hml := motL_len s wi d0 i
    refine hb_name B 12 ?_
    refine hj_ifr (bj_eqP B (q := (0, 0, 0)) (ej_v 9) (ej_tup (aj_cons ej_int (aj_cons ej_int (aj_cons ej_int aj_nil))))) (fun h => ?_) fun h => ?_
    · have h2 := of_decide_eq_true h
      have hnx : mot s wi d0 (i + 1) = none := by
        show (match mot s wi d0 i with | none => none | some d => _) = _
        rw [hφ]
        exact if_pos h2
      have e : motL s wi d0 n = motL s wi d0 i := by
        have := motL_end hnx (n - i)
        rw [show i + (n - i) = n from by omega] at this
        exact this
      rw [e]
      refine hj_brk (le_less ?_)
      simp only [List.map_cons, List.map_nil, List.length_cons, List.length_nil, Nat.reduceAdd, Nat.reduceSub, List.replicate_succ, List.replicate_zero, List.cons_append, List.nil_append, List.set_cons_succ, List.set_cons_zero]
      repeat (first | exact trivial | refine ⟨fun _ _ h => (by first | exact h | cases h), ?_⟩)
    have h2 : ¬ d.1 = (0, 0, 0) := of_decide_eq_false h
    have hnx : mot s wi d0 (i + 1) = some (nxt s wi i d) := by
      show (match mot s wi d0 i with | none => none | some d => _) = _
      rw [hφ]
      exact if_neg h2
    have hbp : BW (10 ^ 15) (pushAt wi.burns (wi.start + (i : Nat))) := (push_w (by decide) hbs).mono (by decide)
    refine hj_set B 13 ((ej_call (fn__law_row Z) (hr.mono (by decide)) (aj_cons (ej_v 0) (aj_cons ((ej_add ej_int (ej_v 12)).eq (show _ = tI ((8 + i : Nat) : Int) from congrArg tI (by omega))) aj_nil)) ⟨s, 8 + i, rfl, rfl, by omega⟩)) ?_
    refine hj_set B 14 (ej_call (fn__law_push Z) (hr.mono (by decide)) (aj_cons (ej_v 6) (aj_cons ((ej_add (ej_v 7) (ej_v 12)).eq (show _ = tI (wi.start + (i : Nat)) from congrArg tI (by omega))) aj_nil)) ⟨_, _, rfl, rfl⟩) ?_
    refine hj_set B 15 (ej_call (fn__law_member Z) (hr.mono (by decide)) (aj_cons (ej_v 14) (aj_cons (ej_v 13) aj_nil)) ⟨_, _, _, rfl, rfl, hbp, Int.le_refl _⟩) ?_
    refine hj_set B 16 (ej_call (fn__law_spread Z) (hr.mono (by decide)) (aj_cons (ej_div (ej_v 13) (ej_pow ej_int ej_int (by unfold CPow; decide)) (bt_cdiv (by decide +kernel) (bt40 (by decide +kernel) (by decide +kernel)) (by decide))) (aj_cons ej_int (aj_cons (ej_v 5) aj_nil))) ⟨_, 3, _, rfl, rfl, by decide, hd0, hd1⟩) ?_
    refine hj_set B 17 (ej_call (fn__law_pull Z) (hr.mono (by decide)) (aj_cons (ej_v 1) (aj_cons (ej_v 2) (aj_cons (ej_v 9) aj_nil))) ⟨_, _, _, rfl, rfl, hp, h2, hm, ho⟩) ?_
    simp only [List.map_cons, List.map_nil, List.length_cons, List.length_nil, Nat.reduceAdd, Nat.reduceSub, List.replicate_succ, List.replicate_zero, List.cons_append, List.nil_append, List.set_cons_succ, List.set_cons_zero]
    refine hj_set B 10 ((ej_callTy call_tuple_of Z.tuple (by decide +kernel) (aj_cons (ej_lc (own := [("_law_j", 18)]) (f := fun i Γ => Γ.set 18 (some (tI (0 + (i : Nat))))) B rfl (ij_r1 Z.range ej_int (by decide) (by decide)) [18] ((List.range 3).map fun j => tI (pc d.2 j + pc (lpull wi.mu wi.ob d.1) j + pc (mem (pushAt wi.burns (wi.start + (i : Nat))) (lrow s (8 + i))) j + spi wi.drift (lrow s (8 + i) / 10 ^ 9) j)) rfl (fun i t ht s H' C cl fp => ?_) (fun j t u ht hu s H' C cl fp => ?_) (blkOk_by (N := ["_law_script", "_law_mu", "_law_bulge", "_law_place", "_law_speed", "_law_drift", "_law_burns", "_law_start", "_law_many", "_law_at", "_law_fast", "_law_motion_here", "_law_k", "_law_row_here", "_law_box_here", "_law_push_here", "_law_more", "_law_pulls", "_law_j"]) (sc := Hd.d__law_motion.scope) (by decide +kernel)) (hz := by rw [rngT_len]; decide)) aj_nil) rok_tupL).eq (show _ = pt (nxF s wi i d) from rfl)) ?_
    · obtain ⟨hi, rfl⟩ := rngT_get ht
      exact gj_name B.blk 18
    · obtain ⟨hj, rfl⟩ := rngT_get ht
      obtain ⟨hj3, rfl⟩ := range_get hu
      exact ej_add (ej_add (ej_add (ej_ixT (ej_v 10) (ej_v 18) (atI_pt hj3)) (ej_ixT (ej_v 17) (ej_v 18) (atI_pt hj3))) (ej_ixT (ej_v 15) (ej_v 18) (atI_pt hj3))) (ej_ixL (ej_v 16) (ej_v 18) (atI_spr hj3))
    refine hj_set B 9 ((ej_callTy call_tuple_of Z.tuple (by decide +kernel) (aj_cons (ej_lc (own := [("_law_j", 18)]) (f := fun i Γ => Γ.set 18 (some (tI (0 + (i : Nat))))) B rfl (ij_r1 Z.range ej_int (by decide) (by decide)) [18] ((List.range 3).map fun j => tI (pc d.1 j + pc (nxF s wi i d) j)) rfl (fun i t ht s H' C cl fp => ?_) (fun j t u ht hu s H' C cl fp => ?_) (blkOk_by (N := ["_law_script", "_law_mu", "_law_bulge", "_law_place", "_law_speed", "_law_drift", "_law_burns", "_law_start", "_law_many", "_law_at", "_law_fast", "_law_motion_here", "_law_k", "_law_row_here", "_law_box_here", "_law_push_here", "_law_more", "_law_pulls", "_law_j"]) (sc := Hd.d__law_motion.scope) (by decide +kernel)) (hz := by rw [rngT_len]; decide)) aj_nil) rok_tupL).eq (show _ = pt (padd d.1 (nxF s wi i d)) from rfl)) ?_
    · obtain ⟨hi, rfl⟩ := rngT_get ht
      exact gj_name B.blk 18
    · obtain ⟨hj, rfl⟩ := rngT_get ht
      obtain ⟨hj3, rfl⟩ := range_get hu
      exact ej_add (ej_ixT (ej_v 9) (ej_v 18) (atI_pt hj3)) (ej_ixT (ej_v 10) (ej_v 18) (atI_pt hj3))
    refine hj_app 11 (ej_tup (aj_cons (ej_v 9) (aj_cons (ej_v 10) aj_nil))) ?_ (by rw [List.length_map]; omega)
    refine hj_endL (ts := (motL s wi d0 (i + 1)).map tPP) ?_ (hM := le_ex (nxt s wi i d) hnx Le.refl) (hl := ?_)
    · rw [motL_succ hnx, List.map_append]
      rfl
    · simp only [List.map_cons, List.map_nil, List.length_cons, List.length_nil, Nat.reduceAdd, Nat.reduceSub, List.replicate_succ, List.replicate_zero, List.cons_append, List.nil_append, List.set_cons_succ, List.set_cons_zero]
      repeat (first | exact trivial | refine ⟨fun _ _ h => (by first | exact h | cases h), ?_⟩)
  · repeat (first | exact trivial | refine ⟨fun _ _ h => (by first | exact h | cases h), ?_⟩)
  · refine hj_frz 11 ?_
    exact hj_ret (ej_v 11) (fun _ _ h => h)
theorem sc__law_seen : FnScope ["_law_script", "_law_motion_here", "_law_start", "_law_row_here", "_law_seen_here", "_law_k", "_law_wide", "_law_less", "_law_c"] ["_law_script", "_law_motion_here", "_law_start"] Hd.d__law_seen.scope := ⟨rfl, rfl, rfl, by decide +kernel, rfl, by decide +kernel, by decide +kernel⟩
def dom__law_seen : Dom K := fun ts t => ∃ (s : List Int) (ms : List (Pt × Pt)) (st : Int), ts = [tQ (s.map tI), tL (ms.map tPP), tI st] ∧ t = tL ((seen (lrow s 7) st ms).map tSe) ∧ ms.length ≤ 100
theorem fn__law_seen (Z : Tp K mg) : Fn P w K mg base "_law_seen" 2 3 (dom__law_seen (K := K)) := by
  obtain ⟨fd, F⟩ := Z.f__law_seen
  refine ⟨_, fd, ["_law_script", "_law_motion_here", "_law_start"], fn_mk F sc__law_seen (by decide) fun cdv Ar outer sh Hh Ee B hr ts t hd _ => ?_, Z.g__law_seen, F.kp, FunD.bindsN F fun _ _ _ _ _ _ us hl => match us, hl with | [_, _, _], _ => rfl⟩
  obtain ⟨s, ms, st, rfl, rfl, hl⟩ := hd
  have cd : ∀ {x j : Int}, 0 < j → j ≤ 1000000000000 → CDivW x j := fun h1 h2 => bt_cdiv h1 (bt40 (by omega) h2) (by decide)
  refine hj_set B 3 (ej_call (fn__law_row Z) (hr.mono (by decide)) (aj_cons (ej_v 0) (aj_cons ej_int aj_nil)) ⟨s, 7, rfl, rfl, by decide⟩) ?_
  generalize lrow s 7 = r
  refine hj_ownL B 4 aj_nil ?_
  simp only [List.map_cons, List.map_nil, List.length_cons, List.length_nil, Nat.reduceAdd, Nat.reduceSub, List.replicate_succ, List.replicate_zero, List.cons_append, List.nil_append, List.set_cons_succ, List.set_cons_zero]
  refine hj_forF B (ij_r1 Z.range (ej_callB call_len_seq Z.len PySem.boot_len (aj_cons (ej_v 1) aj_nil) rok_lenL) (by rw [List.length_map]; omega) (by rw [List.length_map]; omega)) (n := ms.length) (fun i => [some (tQ (s.map tI)), some (tL (ms.map tPP)), some (tI st), some (tI (srow r i)), none, none, none, none, none]) (fun i => some (4, oL (((List.range i).filterMap (sOne r st ms)).map tSe))) Le.refl (fun i t ht => ?_) ?_ (by rw [rngT_len, List.length_map]; omega)
  · obtain ⟨hi, rfl⟩ := rngT_get ht
    rw [List.length_map] at hi
    have hi2 : i < ms.length := by omega
    rw [Int.zero_add]
    have hfl := List.length_filterMap_le (sOne r st ms) (List.range i)
    rw [List.length_range] at hfl
    have hget : ms[i]? = some (ms.getD i ((0, 0, 0), (0, 0, 0))) := by
      rw [List.getD_eq_getElem?_getD, List.getElem?_eq_getElem hi2]
      rfl
    have hss : (List.range (i + 1)).filterMap (sOne r st ms) = (List.range i).filterMap (sOne r st ms) ++ (sOne r st ms i).toList := by
      rw [List.range_succ, List.filterMap_append]
      show _ ++ List.filterMap (sOne r st ms) [i] = _
      rw [List.filterMap_cons]
      cases sOne r st ms i <;> rfl
    rw [hss]
    refine hb_name B 5 ?_
    refine hj_ifm (A (K := K) [some (tQ (s.map tI)), some (tL (ms.map tPP)), some (tI st), some (tI (srow r i)), none, some (tI i), none, none, none] (some (4, oL (((List.range i).filterMap (sOne r st ms) ++ (sOne r st ms i).toList).map tSe)))) (bj_eq (ej_mod (ej_v 3) ej_int (by decide)) ej_int) (fun h => ?_) (fun h => ?_) ?_
    · have h2 := of_decide_eq_true h
      have e : sOne r st ms i = some ⟨st + i, sBox (srow r i) (ms.getD i ((0, 0, 0), (0, 0, 0))).1⟩ := if_pos h2
      rw [e]
      generalize srow r i = rr
      generalize ms.getD i ((0, 0, 0), (0, 0, 0)) = m at hget
      refine hj_set B 6 ((ej_ixL (ej_lst (aj_cons ej_int (aj_cons (ej_mod (ej_div (ej_v 3) ej_int (cd (by decide) (by decide))) ej_int (by decide)) (aj_cons (ej_mod (ej_div (ej_v 3) ej_int (cd (by decide) (by decide))) ej_int (by decide)) aj_nil)))) (ej_mod (ej_div (ej_v 3) ej_int (cd (by decide) (by decide))) ej_int (by decide)) (atI_p3 (by omega) (by omega))).eq (show _ = tI (sWide rr) from rfl)) ?_
      refine hj_set B 7 ((ej_ixL (ej_lst (aj_cons ej_int (aj_cons (ej_mod (ej_div (ej_v 3) ej_int (cd (by decide) (by decide))) ej_int (by decide)) aj_nil))) (ej_mod (ej_div (ej_v 3) ej_int (cd (by decide) (by decide))) ej_int (by decide)) (atI_p2 (by omega) (by omega))).eq (show _ = tI (sLess rr) from rfl)) ?_
      refine hj_app 4 (ej_tup (aj_cons (ej_add (ej_v 2) (ej_v 5)) (aj_cons ((ej_callTy call_tuple_of Z.tuple (by decide +kernel) (aj_cons (ej_lc (own := [("_law_c", 8)]) (f := fun j Γ => Γ.set 8 (some (tI (pc m.1 j)))) B rfl (ij_T (ts := [tI m.1.1, tI m.1.2.1, tI m.1.2.2]) (ej_ixT (ts := [pt m.1, pt m.2]) (t := pt m.1) (ej_ixL (t := tPP m) (ej_v 1) (ej_v 5) (atI_map (l := ms) (f := tPP) (i := i) rfl hget)) ej_int)) [8] ((List.range 3).map fun j => iv (sIv rr (pc m.1 j))) rfl (fun j t ht s H' C cl fp => ?_) (fun j t u ht hu s H' C cl fp => ?_) (blkOk_by (N := ["_law_script", "_law_motion_here", "_law_start", "_law_row_here", "_law_seen_here", "_law_k", "_law_wide", "_law_less", "_law_c"]) (sc := Hd.d__law_seen.scope) (by decide +kernel))) aj_nil) rok_tupL).eq (show _ = bx (sBox rr m.1) from rfl)) aj_nil))) ?_ ?_
      · obtain rfl : t = tI (pc m.1 j) := by
          match j, ht with
          | 0, ht => exact (Option.some.inj ht).symm
          | 1, ht => exact (Option.some.inj ht).symm
          | 2, ht => exact (Option.some.inj ht).symm
        exact gj_name B.blk 8
      · obtain ⟨hj3, rfl⟩ := range_get hu
        exact ej_tup (aj_cons (ej_sub (ej_v 8) (ej_v 6)) (aj_cons (ej_add (ej_add (ej_v 8) (ej_v 6)) (ej_v 7)) aj_nil))
      · rw [List.map_append]
        exact hj_end
      · rw [List.length_map]
        omega
    · have h2 := of_decide_eq_false h
      have e : sOne r st ms i = none := if_neg h2
      rw [e, show (none : Option Sg).toList = [] from rfl, List.append_nil]
      exact hj_end
    · refine hj_set B 3 ((ej_add (ej_div (ej_v 3) ej_int (cd (by decide) (by decide))) (ej_mul (ej_v 5) ej_int (bt_cmul (bt40 (by omega) (by omega)) (bt40 (by omega) (by omega)) (by decide)))).eq (show _ = tI (srow r (i + 1)) from rfl)) ?_
      exact hj_end
  · exact hj_frz 4 (hj_ret (ej_v 4) (fun _ _ h => h))
theorem sc__law_craft : FnScope ["_law_name", "_law_start", "_law_place", "_law_speed", "_law_drift", "_law_burns", "_law_seen_here", "_law_pushes", "_law_sights", "_law_begin", "_law_end", "_law_box_here", "_law_at"] ["_law_name", "_law_start", "_law_place", "_law_speed", "_law_drift", "_law_burns", "_law_seen_here"] Hd.d__law_craft.scope := ⟨rfl, rfl, rfl, by decide +kernel, rfl, by decide +kernel, by decide +kernel⟩
def dom__law_craft : Dom K := fun ts t => ∃ (c : Cr), ts = [tS c.name, tI c.start, bx c.place, bx c.speed, tI c.drift, tL (c.burns.map tBn), tL (c.sights.map tSe)] ∧ t = cr c ∧ (c.name = "a" ∨ c.name = "b") ∧ 0 ≤ c.start ∧ c.start ≤ 100000 ∧ BW (10 ^ 15) c.place ∧ BW (10 ^ 15) c.speed ∧ 0 ≤ c.drift ∧ c.drift ≤ 10 ^ 12 ∧ (∀ b ∈ c.burns, 0 ≤ b.b ∧ b.b < b.e ∧ b.e ≤ 100000 ∧ BW (10 ^ 12) b.p) ∧ (∀ g ∈ c.sights, 0 ≤ g.at_ ∧ g.at_ ≤ 100000 ∧ BW (10 ^ 15) g.p) ∧ c.burns.length ≤ 1000 ∧ c.sights.length ≤ 1000
theorem fn__law_craft (Z : Tp K mg) : Fn P w K mg base "_law_craft" 4 7 (dom__law_craft (K := K)) := by
  obtain ⟨fd, F⟩ := Z.f__law_craft
  refine ⟨_, fd, ["_law_name", "_law_start", "_law_place", "_law_speed", "_law_drift", "_law_burns", "_law_seen_here"], fn_mk F sc__law_craft (by decide) fun cdv Ar outer sh Hh Ee B hr ts t hd _ => ?_, Z.g__law_craft, F.kp, FunD.bindsN F fun _ _ _ _ _ _ us hl => match us, hl with | [_, _, _, _, _, _, _], _ => rfl⟩
  obtain ⟨c, rfl, rfl, hn, h1, h2, h3, h4, h5, h6, hb, hs, hl1, hl2⟩ := hd
  refine hj_setLc (own := [("_law_begin", 9), ("_law_end", 10), ("_law_box_here", 11)]) (f := fun i Γ => match c.burns[i]? with | some b => setAll [9, 10, 11] [tI b.b, tI b.e, bx b.p] Γ | none => Γ) B 7 (ij_L (ej_v 5)) [9, 10, 11] (c.burns.map bn) (by rw [List.length_map, List.length_map]) (fun i t ht s H' C cl fp => ?_) (fun i t u ht hu s H' C cl fp => ?_) (blkOk_by (N := ["_law_name", "_law_start", "_law_place", "_law_speed", "_law_drift", "_law_burns", "_law_seen_here", "_law_pushes", "_law_sights", "_law_begin", "_law_end", "_law_box_here", "_law_at"]) (sc := Hd.d__law_craft.scope) (by decide +kernel)) ?_ rfl (hz := by rw [List.length_map]; omega)
  · obtain ⟨b, hb1, rfl⟩ := map_get ht
    rw [hb1]
    exact gj_tup B.blk [9, 10, 11]
  · obtain ⟨b, hb1, rfl⟩ := map_get ht
    obtain ⟨b2, hb2, rfl⟩ := map_get hu
    rw [hb1] at hb2
    cases hb2
    rw [hb1]
    obtain ⟨q1, q2, q3, q4⟩ := hb b (List.mem_of_getElem? hb1)
    exact ej_make (cs_Burn Z) (hr.mono (by decide)) (aj_cons (ej_v 9) (aj_cons (ej_v 10) (aj_cons (ej_v 11) aj_nil))) ⟨_, _, _, rfl, rfl, q1, q2, q3, q4⟩
  refine hj_setLc (own := [("_law_at", 12), ("_law_box_here", 11)]) (f := fun i Γ => match c.sights[i]? with | some b => setAll [12, 11] [tI b.at_, bx b.p] Γ | none => Γ) B 8 (ij_L (ej_v 6)) [12, 11] (c.sights.map sg) (by rw [List.length_map, List.length_map]) (fun i t ht s H' C cl fp => ?_) (fun i t u ht hu s H' C cl fp => ?_) (blkOk_by (N := ["_law_name", "_law_start", "_law_place", "_law_speed", "_law_drift", "_law_burns", "_law_seen_here", "_law_pushes", "_law_sights", "_law_begin", "_law_end", "_law_box_here", "_law_at"]) (sc := Hd.d__law_craft.scope) (by decide +kernel)) ?_ rfl (hz := by rw [List.length_map]; omega)
  · obtain ⟨b, hb1, rfl⟩ := map_get ht
    rw [hb1]
    exact gj_tup B.blk [12, 11]
  · obtain ⟨b, hb1, rfl⟩ := map_get ht
    obtain ⟨b2, hb2, rfl⟩ := map_get hu
    rw [hb1] at hb2
    cases hb2
    rw [hb1]
    obtain ⟨q1, q2, q3⟩ := hs b (List.mem_of_getElem? hb1)
    exact ej_make (cs_Sighting Z) (hr.mono (by decide)) (aj_cons (ej_v 12) (aj_cons (ej_v 11) aj_nil)) ⟨_, _, rfl, rfl, q1, q2, q3⟩
  exact hj_ret (ej_make (cs_Craft Z) (hr.mono (by decide)) (aj_cons (ej_v 0) (aj_cons (ej_v 1) (aj_cons (ej_v 2) (aj_cons (ej_v 3) (aj_cons (ej_v 4) (aj_cons (ej_v 7) (aj_cons (ej_v 8) aj_nil))))))) ⟨_, _, _, _, _, _, _, rfl, rfl, hn, h1, h2, h3, h4, h5, h6⟩) (fun _ _ h => h)
end
end T
end
section
set_option Elab.async false
set_option linter.all false
set_option maxRecDepth 10000
/-! A motion stays in the states. -/
namespace M
theorem inI_add {x y : Int} {a b : Iv} (h : InI x a) (k : InI y b) : InI (x + y) (iAdd a b) := by
  unfold InI at *
  show a.1 + b.1 ≤ x + y ∧ x + y ≤ a.2 + b.2
  omega
theorem inI_sub {x y : Int} {a b : Iv} (h : InI x a) (k : InI y b) : InI (x - y) (iSub a b) := by
  unfold InI at *
  show a.1 - b.2 ≤ x - y ∧ x - y ≤ a.2 - b.1
  omega
theorem inI_scl {x n : Int} {a : Iv} (h : InI x a) : InI (x * n) (iScl a n) := by
  unfold InI at *
  unfold iScl
  split
  · exact ⟨Int.mul_le_mul_of_nonpos_right h.2 (by omega), Int.mul_le_mul_of_nonpos_right h.1 (by omega)⟩
  · exact ⟨Int.mul_le_mul_of_nonneg_right h.1 (by omega), Int.mul_le_mul_of_nonneg_right h.2 (by omega)⟩
/-- x y is between the products of the ends -/
theorem mul_between {x lo hi y : Int} (h1 : lo ≤ x) (h2 : x ≤ hi) : min (lo * y) (hi * y) ≤ x * y ∧ x * y ≤ max (lo * y) (hi * y) := by
  rcases Int.le_total 0 y with h | h
  · have a := Int.mul_le_mul_of_nonneg_right h1 h
    have b := Int.mul_le_mul_of_nonneg_right h2 h
    omega
  · have a := Int.mul_le_mul_of_nonpos_right h1 h
    have b := Int.mul_le_mul_of_nonpos_right h2 h
    omega
theorem inI_mul {x y : Int} {a b : Iv} (h : InI x a) (k : InI y b) : InI (x * y) (iMul a b) := by
  unfold InI at *
  have h1 := mul_between (y := y) h.1 h.2
  have h2 := mul_between (y := a.1) k.1 k.2
  have h3 := mul_between (y := a.2) k.1 k.2
  rw [Int.mul_comm _ a.1, Int.mul_comm _ a.1, Int.mul_comm y a.1] at h2
  rw [Int.mul_comm _ a.2, Int.mul_comm _ a.2, Int.mul_comm y a.2] at h3
  show min (a.1 * b.1) (min (a.1 * b.2) (min (a.2 * b.1) (a.2 * b.2))) ≤ x * y ∧ x * y ≤ max (a.1 * b.1) (max (a.1 * b.2) (max (a.2 * b.1) (a.2 * b.2)))
  omega
theorem inI_sqr {x : Int} {a : Iv} (h : InI x a) : InI (x * x) (iSqr a) := by
  unfold InI at *
  unfold iSqr
  split
  · rename_i h0
    exact ⟨sqr_bound h0 h.1, sqr_bound (by omega) h.2⟩
  · split
    · rename_i h0 h1
      have e1 : x * x = (-x) * (-x) := by rw [Int.neg_mul_neg]
      have e2 : a.1 * a.1 = (-a.1) * (-a.1) := by rw [Int.neg_mul_neg]
      have e3 : a.2 * a.2 = (-a.2) * (-a.2) := by rw [Int.neg_mul_neg]
      rw [e1]
      refine ⟨?_, ?_⟩
      · show a.2 * a.2 ≤ _
        rw [e3]
        exact sqr_bound (by omega) (by omega)
      · show _ ≤ a.1 * a.1
        rw [e2]
        exact sqr_bound (by omega) (by omega)
    · rename_i h0 h1
      refine ⟨sqr_nn x, ?_⟩
      show x * x ≤ max (a.1 * a.1) (a.2 * a.2)
      rcases Int.le_total 0 x with q | q
      · have := sqr_bound q h.2
        omega
      · have e1 : x * x = (-x) * (-x) := by rw [Int.neg_mul_neg]
        have e2 : a.1 * a.1 = (-a.1) * (-a.1) := by rw [Int.neg_mul_neg]
        have := sqr_bound (x := -x) (y := -a.1) (by omega) (by omega)
        omega
theorem div_anti {x d e : Int} (hx : 0 ≤ x) (hd : 0 < d) (h : d ≤ e) : x / e ≤ x / d := by
  refine (Int.le_ediv_iff_mul_le hd).mpr ?_
  have h1 : x / e * e ≤ x := Int.ediv_mul_le x (by omega)
  have h2 : 0 ≤ x / e := Int.ediv_nonneg hx (by omega)
  exact Int.le_trans (Int.mul_le_mul_of_nonneg_left h h2) h1
theorem div_mono_neg {x d e : Int} (hx : x ≤ 0) (hd : 0 < d) (h : d ≤ e) : x / d ≤ x / e := by
  refine (Int.le_ediv_iff_mul_le (by omega)).mpr ?_
  have h1 : x / d * d ≤ x := Int.ediv_mul_le x (by omega)
  have h2 : x / d ≤ 0 := Int.le_trans (Int.ediv_le_ediv hd hx) (by simp)
  exact Int.le_trans (Int.mul_le_mul_of_nonpos_left h2 h) h1
theorem inI_quo {x d : Int} {a D : Iv} (h : InI x a) (k : InI d D) (hp : 0 < D.1) : InI (x / d) (iQuo a D) := by
  unfold InI at *
  have hd : 0 < d := by omega
  have l1 := ediv_mono h.1 hd
  have l2 := ediv_mono h.2 hd
  show min (a.1 / D.1) (a.1 / D.2) ≤ x / d ∧ x / d ≤ max (a.2 / D.1) (a.2 / D.2)
  constructor
  · rcases Int.le_total 0 a.1 with q | q
    · have := div_anti (x := a.1) q hd k.2
      omega
    · have := div_mono_neg (x := a.1) q hp k.1
      omega
  · rcases Int.le_total 0 a.2 with q | q
    · have := div_anti (x := a.2) q hp k.1
      omega
    · have := div_mono_neg (x := a.2) q hd k.2
      omega
theorem sq_mono {x y : Int} (h0 : 0 ≤ x) (h : x ≤ y) : sq x ≤ sq y := by
  have h1 := sq_le h0
  have h2 := sq_gt (show 0 ≤ y by omega)
  have h3 := sq_nn x
  have h4 := sq_nn y
  refine Int.lt_add_one_iff.mp (Int.not_le.mp fun q => ?_)
  have : (sq y + 1) * (sq y + 1) ≤ sq x * sq x := Int.mul_le_mul q q (by omega) h3
  omega
theorem inI_root {x : Int} {a : Iv} (h0 : 0 ≤ x) (h : InI x a) : InI (sq x) (iRoot a) := by
  unfold InI at *
  exact ⟨sq_mono (by omega) (by omega), sq_mono h0 h.2⟩
theorem inI_len {p : Pt} {b : Bx} (h : InB p b) : InI (len2 p) (sqLen b) := inI_add (inI_add (inI_sqr h.1) (inI_sqr h.2.1)) (inI_sqr h.2.2)
theorem inI_pull {mu ob k c : Int} {p : Pt} {b : Bx} {a : Iv} (hb : InB p b) (hc : InI c a) (hp : IP (sqLen b)) : InI (plc mu ob p c k) (pullC mu ob b a k) := by
  have hl := inI_len hb
  have hl0 : 0 ≤ len2 p := by
    have := hp.1
    have := hl.1
    omega
  have hr := inI_root hl0 hl
  have hrp := hp.root
  have e1 : -mu * c = c * -mu := Int.mul_comm _ _
  have e2 : ob * c * (5 * p.2.2 * p.2.2 - k * len2 p) = c * (p.2.2 * p.2.2 * 5 - len2 p * k) * ob := by
    rw [Int.mul_assoc 5, Int.mul_comm 5, Int.mul_comm k, Int.mul_assoc ob c, Int.mul_comm ob]
  have e3 : len2 p * len2 p * len2 p * sq (len2 p) = len2 p * len2 p * (len2 p * sq (len2 p)) := Int.mul_assoc _ _ _
  unfold plc pullC
  rw [e1, e2, e3]
  refine inI_add (inI_quo (inI_scl hc) (inI_mul hl hr) (hp.mul hrp).1) (inI_quo (inI_scl (inI_mul hc (inI_sub (inI_scl (inI_sqr hb.2.2)) (inI_scl hl)))) (inI_mul (inI_mul hl hl) (inI_mul hl hr)) ((hp.mul hp).mul (hp.mul hrp)).1)
theorem InB.add {p q : Pt} {a b : Bx} (h : InB p a) (k : InB q b) : InB (padd p q) (bAdd a b) := ⟨inI_add h.1 k.1, inI_add h.2.1 k.2.1, inI_add h.2.2 k.2.2⟩
theorem inI_wid {x e w : Int} {a : Iv} (h : InI x a) (k : -w ≤ e ∧ e ≤ w) : InI (x + e) (iWid a w) := by
  unfold InI at *
  show a.1 - w ≤ x + e ∧ x + e ≤ a.2 + w
  omega
theorem InB.wid {p e : Pt} {a : Bx} {w : Int} (h : InB p a) (k : PW w e) : InB (padd p e) (bWid a w) := ⟨inI_wid h.1 k.1, inI_wid h.2.1 k.2.1, inI_wid h.2.2 k.2.2⟩
theorem pullO_in {mu ob : Int} {p : Pt} {b a : Bx} (hv : BV b) (hb : InB p b) (h : pullO mu ob b = some a) : InB (lpull mu ob p) a := by
  unfold pullO at h
  split at h
  · cases h
  · rename_i h0
    cases h
    have hp := sqLen_p hv h0
    exact ⟨inI_pull hb hb.1 hp, inI_pull hb hb.2.1 hp, inI_pull hb hb.2.2 hp⟩
/-- a motion's place and speed in a state -/
def InS (d : Pt × Pt) (s : Sta) : Prop := InB d.1 s.1 ∧ InB d.2 s.2
theorem step_in {mu ob : Int} {s s' : Sta} {push : Bx} {drift : Int} {d : Pt × Pt} {u e : Pt} (hs : Sok s) (hd : InS d s) (hu : InB u push) (he : PW drift e) (h : stepM mu ob s push drift = some s') :
    InS (padd d.1 (padd (padd (padd d.2 (lpull mu ob d.1)) u) e), padd (padd (padd d.2 (lpull mu ob d.1)) u) e) s' := by
  obtain ⟨a, ha, e1, _⟩ := step_of h
  have hp := pullO_in hs.2.1 hd.1 ha
  have hf : InB (padd (padd (padd d.2 (lpull mu ob d.1)) u) e) (bWid (bAdd (bAdd s.2 a) push) drift) := ((hd.2.add hp).add hu).wid he
  rw [e1]
  exact ⟨hd.1.add hf, hf⟩
theorem iMeet_in {x : Int} {a b c : Iv} (h : InI x a) (k : InI x b) : ∃ c, iMeet a b = some c ∧ InI x c := by
  unfold InI at *
  refine ⟨(max a.1 b.1, min a.2 b.2), if_neg (by omega), ?_⟩
  show max a.1 b.1 ≤ x ∧ x ≤ min a.2 b.2
  omega
theorem cut_in {s : Sta} {b : Bx} {d : Pt × Pt} (h : InS d s) (k : InB d.1 b) : ∃ s', cutM s b = some s' ∧ InS d s' := by
  obtain ⟨x, x1, x2⟩ := iMeet_in (c := (0, 0)) h.1.1 k.1
  obtain ⟨y, y1, y2⟩ := iMeet_in (c := (0, 0)) h.1.2.1 k.2.1
  obtain ⟨z, z1, z2⟩ := iMeet_in (c := (0, 0)) h.1.2.2 k.2.2
  refine ⟨((x, y, z), s.2), ?_, ⟨x2, y2, z2⟩, h.2⟩
  unfold cutM bMeet
  rw [x1, y1, z1]
theorem cutAll_in {ss : List Sta} {o : Option Bx} {d : Pt × Pt} (h : ∃ s ∈ ss, InS d s) (k : ∀ b, o = some b → InB d.1 b) : ∃ s ∈ cutAll ss o, InS d s := by
  obtain ⟨s, h1, h2⟩ := h
  cases o with
  | none => exact ⟨s, h1, h2⟩
  | some b =>
    obtain ⟨s', e, h3⟩ := cut_in h2 (k b rfl)
    exact ⟨s', List.mem_filterMap.mpr ⟨s, h1, e⟩, h3⟩
/-! ### parts -/
/-- the number of a motion at k -/
def dAt (d : Pt × Pt) : Nat → Int
  | 0 => d.1.1
  | 1 => d.1.2.1
  | 2 => d.1.2.2
  | 3 => d.2.1
  | 4 => d.2.2.1
  | _ => d.2.2.2
theorem dAt_in {d : Pt × Pt} {s : Sta} (h : InS d s) : ∀ {k : Nat}, k < 6 → InI (dAt d k) (ivAt s k)
  | 0, _ => h.1.1
  | 1, _ => h.1.2.1
  | 2, _ => h.1.2.2
  | 3, _ => h.2.1
  | 4, _ => h.2.2.1
  | 5, _ => h.2.2.2
theorem half_in {d : Pt × Pt} {s : Sta} {v : Iv} (h : InS d s) (k : InI (dAt d (wide s)) v) : InS d (halfS s v) := by
  obtain ⟨⟨h1, h2, h3⟩, h4, h5, h6⟩ := h
  have hw := wide_lt s
  unfold halfS
  generalize wide s = w at *
  match w, hw with
  | 0, _ => exact ⟨⟨k, h2, h3⟩, h4, h5, h6⟩
  | 1, _ => exact ⟨⟨h1, k, h3⟩, h4, h5, h6⟩
  | 2, _ => exact ⟨⟨h1, h2, k⟩, h4, h5, h6⟩
  | 3, _ => exact ⟨⟨h1, h2, h3⟩, k, h5, h6⟩
  | 4, _ => exact ⟨⟨h1, h2, h3⟩, h4, k, h6⟩
  | 5, _ => exact ⟨⟨h1, h2, h3⟩, h4, h5, k⟩
theorem split_in {d : Pt × Pt} {s : Sta} (h : InS d s) : ∃ s' ∈ split s, InS d s' := by
  unfold split
  split
  · exact ⟨s, List.mem_singleton_self _, h⟩
  · have hk := dAt_in h (wide_lt s)
    by_cases q : dAt d (wide s) ≤ iMid (ivAt s (wide s))
    · exact ⟨_, List.mem_cons_self, half_in h ⟨hk.1, q⟩⟩
    · exact ⟨_, List.mem_cons_of_mem _ (List.mem_singleton_self _), half_in h ⟨by show iMid _ + 1 ≤ _; omega, hk.2⟩⟩
theorem parts_in {d : Pt × Pt} {s : Sta} (h : InS d s) : ∀ n : Nat, ∃ s' ∈ parts s n, InS d s'
  | 0 => ⟨s, List.mem_singleton_self _, h⟩
  | n + 1 => by
    obtain ⟨s1, h1, h2⟩ := parts_in h n
    obtain ⟨s2, h3, h4⟩ := split_in h2
    exact ⟨s2, List.mem_flatMap.mpr ⟨s1, h1, h3⟩, h4⟩
/-! ### a journey and a motion -/
structure Tr (mu ob : Int) (c : Cr) (f : Nat → Option (Pt × Pt)) : Prop where
  init : ∀ d, f 0 = some d → InB d.1 c.place ∧ InB d.2 c.speed
  step : ∀ i d', f (i + 1) = some d' → ∃ d u e, f i = some d ∧ InB u (pushAt c.burns (c.start + i)) ∧ PW c.drift e ∧ d' = (padd d.1 (padd (padd (padd d.2 (lpull mu ob d.1)) u) e), padd (padd (padd d.2 (lpull mu ob d.1)) u) e)
  seen : ∀ i d b, f i = some d → sightAt c.sights (c.start + i) = some b → InB d.1 b
theorem nonE_ne {l : List Sta} (h : nonE l = none) : l = [] := by
  cases l with
  | nil => rfl
  | cons a r => cases h
theorem tr_in {mu ob : Int} {fin : Nat} {c : Cr} {f : Nat → Option (Pt × Pt)} (T : Tr mu ob c f) (hc : CrOk c) (hf : fin ≤ 2) :
    ∀ (i : Nat) {d : Pt × Pt}, f i = some d → (∀ ss, stAt mu ob fin c i = some ss → ∃ s ∈ ss, InS d s) ∧ (stAt mu ob fin c i = none → endw mu ob fin c i = "lost")
  | 0, d, h => by
    have hp := parts_in (d := d) (s := (c.place, c.speed)) (T.init d h) fin
    have hcut : ∃ s ∈ firstS fin c, InS d s := cutAll_in hp fun b e => T.seen 0 d b h (by rw [show c.start + ((0 : Nat) : Int) = c.start from by simp]; exact e)
    constructor
    · intro ss e
      obtain ⟨e1, _⟩ := nonE_some e
      rw [← e1]
      exact hcut
    · intro e
      obtain ⟨s, h1, _⟩ := hcut
      rw [nonE_ne e] at h1
      cases h1
  | i + 1, d, h => by
    obtain ⟨d0, u, e, h0, hu, he, rfl⟩ := T.step i d h
    obtain ⟨i1, i2⟩ := tr_in T hc hf i h0
    cases h1 : stAt mu ob fin c i with
    | none =>
      constructor
      · intro ss e
        unfold stAt at e
        rw [h1] at e
        cases e
      · intro _
        unfold endw
        simp only [h1]
    | some s1 =>
      obtain ⟨s, m1, m2⟩ := i1 s1 h1
      obtain ⟨o1, _, _⟩ := stAt_ok hc hf i h1
      cases h2 : stepAll mu ob c (c.start + i) s1 with
      | none =>
        constructor
        · intro ss e
          unfold stAt at e
          simp only [h1, h2] at e
          cases e
        · intro _
          unfold endw
          simp only [h1, h2]
      | some s2 =>
        obtain ⟨_, _, q3⟩ := stepAll_mem h2
        obtain ⟨s', n1, n2⟩ := q3 s m1
        have hin := step_in (o1 s m1) m2 hu he n2
        have hcut := cutAll_in (ss := s2) (o := sightAt c.sights (c.start + i + 1)) ⟨s', n1, hin⟩ fun b e => T.seen (i + 1) _ b h (by rw [show c.start + ((i + 1 : Nat) : Int) = c.start + i + 1 from by omega]; exact e)
        have hst : stAt mu ob fin c (i + 1) = nonE (cutAll s2 (sightAt c.sights (c.start + i + 1))) := by
          show (match stAt mu ob fin c i with | none => none | some ss => _) = _
          simp only [h1, h2]
        constructor
        · intro ss e
          rw [hst] at e
          obtain ⟨e1, _⟩ := nonE_some e
          rw [← e1]
          exact hcut
        · intro e
          rw [hst] at e
          obtain ⟨s, k1, _⟩ := hcut
          rw [nonE_ne e] at k1
          cases k1
theorem tr_le {mu ob : Int} {c : Cr} {f : Nat → Option (Pt × Pt)} (T : Tr mu ob c f) : ∀ {i k : Nat} {d : Pt × Pt}, k ≤ i → f i = some d → ∃ d', f k = some d'
  | 0, k, d, hk, h => by
    obtain rfl : k = 0 := by omega
    exact ⟨d, h⟩
  | i + 1, k, d, hk, h => by
    by_cases e : k = i + 1
    · rw [e]
      exact ⟨d, h⟩
    · obtain ⟨d0, _, _, h0, _⟩ := T.step i d h
      exact tr_le T (by omega) h0
/-- the journey has a moment of the tick that holds the motion, or it does not end void there -/
theorem jo_row {mu ob : Int} {fin : Nat} {c : Cr} {f : Nat → Option (Pt × Pt)} (T : Tr mu ob c f) (hc : CrOk c) (hf : fin ≤ 2) {i : Nat} {d : Pt × Pt} (h : f i = some d) (u : Int) :
    (∀ m, momAt (jM mu ob fin c u).moments (c.start + i) = some m → ∃ s ∈ m.states, InS d s) ∧ isVoid (jM mu ob fin c u) (c.start + i) = false := by
  obtain ⟨a1, a2, a3⟩ := alive_spec (mu := mu) (ob := ob) (fin := fin) (c := c) (many c u)
  constructor
  · intro m hm
    obtain ⟨k, k1, k2, rfl⟩ := momAt_moms hm
    obtain rfl : i = k := by omega
    obtain ⟨ss, hss⟩ := Option.isSome_iff_exists.mp (a2 i k1)
    obtain ⟨s, h1, h2⟩ := (tr_in T hc hf i h).1 ss hss
    refine ⟨s, ?_, h2⟩
    show s ∈ (stAt mu ob fin c i).getD []
    rw [hss]
    exact h1
  · unfold isVoid
    rw [Bool.and_eq_false_iff]
    by_cases hlt : i < alive mu ob fin c (many c u)
    · left
      have := momAt_lt (mu := mu) (ob := ob) (fin := fin) (c := c) (alive mu ob fin c (many c u)) hlt
      show (momAt (moms mu ob fin c _) _).isNone = false
      rw [this]
      rfl
    · right
      refine decide_eq_false fun e => ?_
      have e2 : (if alive mu ob fin c (many c u) = many c u then ("whole" : PySem.Str) else endw mu ob fin c (alive mu ob fin c (many c u))) = "void" := e
      split at e2
      · exact absurd e2 (by decide)
      · rename_i hne
        obtain ⟨d', hd'⟩ := tr_le T (k := alive mu ob fin c (many c u)) (by omega) h
        have := (tr_in T hc hf _ hd').2 (a3 (by omega))
        rw [this] at e2
        exact absurd e2 (by decide)
/-- the square of a distance -/
def sqd (p q : Pt) : Int := (p.1 - q.1) * (p.1 - q.1) + ((p.2.1 - q.2.1) * (p.2.1 - q.2.1) + ((p.2.2 - q.2.2) * (p.2.2 - q.2.2) + 0))
theorem sqd_in {p q : Pt} {a b : Bx} (h : InB p a) (k : InB q b) : InI (sqd p q) (sqLen (bSub a b)) := by
  have := inI_len (p := (p.1 - q.1, p.2.1 - q.2.1, p.2.2 - q.2.2)) (b := bSub a b) ⟨inI_sub h.1 k.1, inI_sub h.2.1 k.2.1, inI_sub h.2.2 k.2.2⟩
  have e : sqd p q = len2 (p.1 - q.1, p.2.1 - q.2.1, p.2.2 - q.2.2) := by
    unfold sqd len2
    rw [Int.add_zero, ← Int.add_assoc]
  rw [e]
  exact this
/-- what a row says of two motions -/
theorem row_true {mu ob : Int} {fin : Nat} {c c2 : Cr} {f g : Nat → Option (Pt × Pt)} (T : Tr mu ob c f) (T2 : Tr mu ob c2 g) (hc : CrOk c) (hc2 : CrOk c2) (hf : fin ≤ 2) {i j : Nat} {d e : Pt × Pt} (h : f i = some d) (k : g j = some e) {z : Int} (hz : z = c.start + i) (hz2 : z = c2.start + j) (u : Int) :
    (∃ q, rowM (jM mu ob fin c u) (jM mu ob fin c2 u) z = .inl q ∧ InI (sqd d.1 e.1) q) ∨ rowM (jM mu ob fin c u) (jM mu ob fin c2 u) z = .inr .unk := by
  obtain ⟨a1, a2⟩ := jo_row T hc hf h u
  obtain ⟨b1, b2⟩ := jo_row T2 hc2 hf k u
  rw [← hz] at a1 a2
  rw [← hz2] at b1 b2
  have hbr : brokenM (jM mu ob fin c u) (jM mu ob fin c2 u) z = .unk := by
    refine if_neg ?_
    rw [a2, b2]
    decide
  unfold rowM
  cases h1 : momAt (jM mu ob fin c u).moments z with
  | none => exact .inr (congrArg Sum.inr hbr)
  | some m1 =>
    cases h2 : momAt (jM mu ob fin c2 u).moments z with
    | none => exact .inr (congrArg Sum.inr hbr)
    | some m2 =>
      obtain ⟨s, q1, q2⟩ := a1 m1 h1
      obtain ⟨o, q3, q4⟩ := b1 m2 h2
      exact .inl ⟨_, rfl, gapM_in q1 q3 (sqd_in q2.1 q4.1)⟩
end M
end
section
set_option Elab.async false
set_option linter.all false
set_option maxRecDepth 10000
/-! The spans, and what the law asks of them. -/
namespace M
/-! ### the spans follow one another -/
def Ch : Int → List Sn → Int → Prop
  | a, [], b => a = b
  | a, s :: r, b => s.b = a ∧ a ≤ s.e ∧ Ch (s.e + 1) r b
theorem ch_app : ∀ {l : List Sn} {a m b : Int} {s : Sn}, Ch a l m → s.b = m → m ≤ s.e → s.e + 1 = b → Ch a (l ++ [s]) b
  | [], a, m, b, s, h, h1, h2, h3 => by
    have e : a = m := h
    subst e
    exact ⟨h1, h2, h3⟩
  | x :: r, a, m, b, s, h, h1, h2, h3 => ⟨h.1, h.2.1, ch_app h.2.2 h1 h2 h3⟩
theorem ch_inv : ∀ {l : List Sn} {a b : Int} {s : Sn}, Ch a (l ++ [s]) b → ∃ m, Ch a l m ∧ s.b = m ∧ m ≤ s.e ∧ s.e + 1 = b
  | [], a, b, s, h => ⟨a, rfl, h.1, h.2.1, h.2.2⟩
  | x :: r, a, b, s, h => by
    obtain ⟨m, h1, h2⟩ := ch_inv h.2.2
    exact ⟨m, ⟨h.1, h.2.1, h1⟩, h2⟩
theorem ch_le : ∀ {l : List Sn} {a b : Int}, Ch a l b → a ≤ b
  | [], a, b, h => Int.le_of_eq h
  | s :: r, a, b, h => by
    have := ch_le h.2.2
    have := h.2.1
    omega
/-- what a span says of its ticks -/
def Cov (d : Int) (row : Int → Iv ⊕ Vd) (s : Sn) : Prop := ∀ z, s.b ≤ z → z ≤ s.e → s.v = vdOf d (row z) ∧ ∀ q, sqOf (row z) = some q → ∃ p, s.q = some p ∧ p.1 ≤ q.1 ∧ q.2 ≤ p.2
theorem cov_one {d z : Int} {row : Int → Iv ⊕ Vd} : Cov d row ⟨z, z, vdOf d (row z), sqOf (row z)⟩ := fun x h1 h2 => by
  have e : x = z := Int.le_antisymm h2 h1
  subst e
  exact ⟨rfl, fun q hq => ⟨q, hq, Int.le_refl _, Int.le_refl _⟩⟩
theorem cov_both {d z : Int} {row : Int → Iv ⊕ Vd} {s : Sn} (hs : SnOk s) (h : Cov d row s) (hz : s.e + 1 = z) (hv : s.v = vdOf d (row z)) (hok : RowOk (row z)) : Cov d row ⟨s.b, z, vdOf d (row z), both s.q (sqOf (row z))⟩ := by
  intro x h1 h2
  by_cases hx : x = z
  · subst hx
    refine ⟨rfl, fun q hq => ?_⟩
    refine ⟨iHull (s.q.getD (0, 0)) q, ?_, ?_, ?_⟩
    · show both s.q (sqOf (row x)) = _
      rw [hq]
      rfl
    · show min _ q.1 ≤ q.1
      omega
    · show q.2 ≤ max _ q.2
      omega
  · have h3 : x ≤ s.e := by
      have : x ≤ z := h2
      omega
    obtain ⟨a1, a2⟩ := h x h1 h3
    refine ⟨by rw [← hv]; exact a1, fun q hq => ?_⟩
    obtain ⟨p, p1, p2, p3⟩ := a2 q hq
    have hn : num s.v = true := by
      rw [← hs.iff, p1]
      rfl
    cases hr : row z with
    | inl r =>
      refine ⟨iHull p r, ?_, ?_, ?_⟩
      · show both s.q (sqOf (.inl r)) = _
        rw [p1]
        rfl
      · show min p.1 r.1 ≤ q.1
        omega
      · show q.2 ≤ max p.2 r.2
        omega
    | inr v =>
      rw [hr] at hv hok
      have e : num v = false := hok
      have e2 : s.v = v := hv
      rw [e2, e] at hn
      cases hn
theorem spans_inv {one other : Jo} {low d : Int} (ha : JOk one) (hb : JOk other) : ∀ i : Nat, Ch low (spansM one other low d i) (low + i) ∧ ∀ s ∈ spansM one other low d i, Cov d (rowM one other) s
  | 0 => ⟨by show low = low + ((0 : Nat) : Int); simp, (fun s h => (by cases h))⟩
  | i + 1 => by
    obtain ⟨h1, h2⟩ := spans_inv ha hb (d := d) i
    have hok := spans_ok ha hb low d i
    have hrow := rowM_ok ha hb (low + i)
    show Ch low (grow d (spansM one other low d i) (low + i) (rowM one other (low + i))) _ ∧ ∀ s ∈ grow d (spansM one other low d i) (low + i) (rowM one other (low + i)), Cov d (rowM one other) s
    generalize spansM one other low d i = ss at *
    have hnew : Ch low (ss ++ [⟨low + i, low + i, vdOf d (rowM one other (low + i)), sqOf (rowM one other (low + i))⟩]) (low + ((i + 1 : Nat) : Int)) ∧ ∀ s ∈ ss ++ [⟨low + i, low + i, vdOf d (rowM one other (low + i)), sqOf (rowM one other (low + i))⟩], Cov d (rowM one other) s := by
      refine ⟨ch_app h1 rfl (Int.le_refl _) (by show low + i + 1 = _; omega), fun s hs => ?_⟩
      rcases List.mem_append.mp hs with q | q
      · exact h2 s q
      · rw [List.mem_singleton.mp q]
        exact cov_one
    rcases List.eq_nil_or_concat ss with e | ⟨l, s, e⟩
    · subst e
      exact hnew
    · subst e
      rw [List.concat_eq_append] at *
      unfold grow
      rw [List.getLast?_concat]
      by_cases hv : s.v = vdOf d (rowM one other (low + i))
      · show Ch low (if s.v = _ then _ else _) _ ∧ ∀ x ∈ (if s.v = _ then _ else _), _
        rw [if_pos hv, List.dropLast_concat]
        obtain ⟨m, m1, m2, m3, m4⟩ := ch_inv h1
        have hmem : s ∈ l ++ [s] := List.mem_append.mpr (.inr (List.mem_singleton_self _))
        refine ⟨ch_app m1 m2 (by show m ≤ low + i; omega) (by show low + i + 1 = _; omega), fun x hx => ?_⟩
        rcases List.mem_append.mp hx with q | q
        · exact h2 x (List.mem_append.mpr (.inl q))
        · rw [List.mem_singleton.mp q]
          exact cov_both (hok s hmem) (h2 s hmem) m4 hv hrow
      · show Ch low (if s.v = _ then _ else _) _ ∧ ∀ x ∈ (if s.v = _ then _ else _), _
        rw [if_neg hv]
        exact hnew
/-! ### what the law asks of a span -/
structure TrOk (s : Sn) (v d : Int) : Prop where
  voi : s.v ≠ .voi
  unk : s.v = .unk → s.q = none
  imp : s.v = .imp → d * d < v
  cer : s.v = .cer → v ≤ d * d
  q : s.v ≠ .unk → ∃ p, s.q = some p ∧ sq p.1 * sq p.1 ≤ v ∧ v ≤ rootUp p.2 * rootUp p.2 ∧ QOk p
theorem rootUp_ge {n : Int} (h : 0 ≤ n) : n ≤ rootUp n * rootUp n := by
  unfold rootUp
  split
  · rename_i e
    omega
  · have := sq_gt h
    omega
theorem cov_true {d z v : Int} {row : Int → Iv ⊕ Vd} {s : Sn} (hs : SnOk s) (h : Cov d row s) (h1 : s.b ≤ z) (h2 : z ≤ s.e) (hr : (∃ q, row z = .inl q ∧ InI v q) ∨ row z = .inr .unk) : TrOk s v d := by
  obtain ⟨a1, a2⟩ := h z h1 h2
  rcases hr with ⟨q, hq, hin⟩ | hq
  · rw [hq] at a1 a2
    obtain ⟨p, p1, p2, p3⟩ := a2 q rfl
    have a1' : s.v = verdictM q d := a1
    obtain ⟨i1, i2⟩ := hin
    have hp := hs.q p p1
    have hnum := verdictM_num q d
    rw [← a1'] at hnum
    refine ⟨(fun e => by rw [e] at hnum; cases hnum), (fun e => by rw [e] at hnum; cases hnum), fun e => ?_, fun e => ?_, fun _ => ⟨p, p1, ?_, ?_, hp⟩⟩
    · rw [a1'] at e
      unfold verdictM at e
      split at e
      · omega
      · split at e <;> cases e
    · rw [a1'] at e
      unfold verdictM at e
      split at e
      · cases e
      · split at e
        · omega
        · cases e
    · have := sq_le hp.1
      omega
    · have := rootUp_ge hp.2.1
      omega
  · rw [hq] at a1
    have a1' : s.v = .unk := a1
    have hqn : s.q = none := by
      have := hs.iff
      rw [a1'] at this
      cases hsq : s.q with
      | none => rfl
      | some p =>
        rw [hsq] at this
        cases this
    exact ⟨(fun e => by rw [a1'] at e; cases e), (fun _ => hqn), (fun e => by rw [a1'] at e; cases e), (fun e => by rw [a1'] at e; cases e), (fun e => absurd a1' e)⟩
/-! ### the law's own crafts -/
theorem iw_bb {m : Int} {a : Iv} (h : IW m a) (hm : m ≤ 10 ^ 15) : IB 134 a ∧ IV a := by
  obtain ⟨h1, h2, h3⟩ := h
  exact ⟨⟨(bt60 (by omega) (by omega)).mono (by decide), (bt60 (by omega) (by omega)).mono (by decide)⟩, h2⟩
theorem bw_bb {m : Int} {b : Bx} (h : BW m b) (hm : m ≤ 10 ^ 15) : BB 134 b ∧ BV b := ⟨⟨(iw_bb h.1 hm).1, (iw_bb h.2.1 hm).1, (iw_bb h.2.2 hm).1⟩, (iw_bb h.1 hm).2, (iw_bb h.2.1 hm).2, (iw_bb h.2.2 hm).2⟩
/-- sightings of a motion -/
theorem seen_w {s : List Int} {w : Mi} {d0 : Pt × Pt} {n : Nat} {r st : Int} (hw : MiOk w) (h1 : PW 7000 d0.1) (h2 : PW 1000 d0.2) (hn : n ≤ 11) : ∀ g ∈ seen r st (motL s w d0 n), (∃ k : Nat, k ≤ 11 ∧ g.at_ = st + k) ∧ BW (10 ^ 15) g.p := fun g hg => by
  obtain ⟨k, d, e1, e2, r', e3⟩ := seen_mem hg
  have hk := (List.getElem?_eq_some_iff.mp e1).1
  have hl := motL_len s w d0 n
  obtain ⟨d', e4, e5⟩ := motL_get hk
  rw [e1] at e5
  cases e5
  rw [e3]
  exact ⟨⟨k, by omega, e2⟩, (sBox_w (mot_w1 hw h1 h2 (by omega) e4)).mono (by omega)⟩
theorem crOk_of {c : Cr} {m : Int} (hs : 0 ≤ c.start ∧ c.start ≤ 1000) (hm : m ≤ 10 ^ 15) (hp : BW m c.place) (hv : BW m c.speed) (hd : 0 ≤ c.drift) (hb : ∀ b ∈ c.burns, BW 100 b.p) (hg : ∀ g ∈ c.sights, BW (10 ^ 15) g.p) : CrOk c :=
  ⟨hs, bw_bb hp hm, (bw_bb hv hm).2, hd, fun b h => (bw_bb (hb b h) (by omega)).2, fun g h => bw_bb (hg g h) (Int.le_refl _)⟩
theorem many_le (s : List Int) : (world s).many.toNat ≤ 11 := by
  have := (world_ok s).many
  omega
theorem cr1_seen (s : List Int) : ∀ g ∈ (cr1 s).sights, (∃ k : Nat, k ≤ 11 ∧ g.at_ = (world s).start + k) ∧ BW (10 ^ 15) g.p := seen_w (mi1_ok s) (st1_w s).1 (st1_w s).2 (many_le s)
theorem cr2_seen (s : List Int) : ∀ g ∈ (cr2 s).sights, (∃ k : Nat, k ≤ 11 ∧ g.at_ = later s + k) ∧ BW (10 ^ 15) g.p := seen_w (mi2_ok s) (st2_w s).1 (st2_w s).2 (many_le s)
theorem cr1_ok (s : List Int) : CrOk (cr1 s) := crOk_of (m := 7000) (by have := (world_ok s).start; show 0 ≤ (world s).start ∧ (world s).start ≤ 1000; omega) (by decide) ((world_ok s).place.mono (by decide)) ((world_ok s).speed.mono (by decide)) (world_ok s).drift.1 (fun b h => ((world_ok s).burns b h).2.2.2) fun g h => (cr1_seen s g h).2
theorem cr2_ok (s : List Int) : CrOk (cr2 s) := crOk_of (m := 7000) (by have := later_b s; show 0 ≤ later s ∧ later s ≤ 1000; omega) (by decide) (here_w s) ((swift_w s).mono (by decide)) (world_ok s).drift.1 (fun b h => by cases h) fun g h => (cr2_seen s g h).2
theorem tr_of {s : List Int} {w : Mi} {d0 : Pt × Pt} {n : Nat} {r : Int} {c : Cr} (hw : MiOk w) (hi : InB d0.1 c.place ∧ InB d0.2 c.speed) (hb : c.burns = w.burns) (hst : c.start = w.start) (hdr : c.drift = w.drift) (hg : c.sights = seen r w.start (motL s w d0 n)) : Tr w.mu w.ob c (mot s w d0) where
  init := fun d h => by
    cases h
    exact hi
  step := fun i d' h => by
    cases h3 : mot s w d0 i with
    | none =>
      have := mot_none h3 1
      rw [this] at h
      cases h
    | some d =>
      have e2 : (if d.1 = (0, 0, 0) then none else some (nxt s w i d)) = some d' := by
        have e3 : (match mot s w d0 i with | none => none | some d => if d.1 = (0, 0, 0) then none else some (nxt s w i d)) = some d' := h
        rw [h3] at e3
        exact e3
      split at e2
      · cases e2
      · cases e2
        refine ⟨d, _, _, rfl, ?_, ?_, rfl⟩
        · rw [hb, hst]
          exact mem_in (push_w (show (0 : Int) ≤ 100 by decide) hw.burns)
        · rw [hdr]
          exact spt_w hw.drift.1
  seen := fun i d b h e => by
    obtain ⟨g, g1, g2, g3⟩ := sight_mem e
    rw [hg] at g1
    obtain ⟨k, d', e1, e2, r', e3⟩ := seen_mem g1
    have hk := (List.getElem?_eq_some_iff.mp e1).1
    obtain ⟨d2, e4, e5⟩ := motL_get hk
    rw [e1] at e5
    cases e5
    obtain rfl : i = k := by
      rw [hst] at g2
      omega
    rw [e4] at h
    cases h
    rw [← g3, e3]
    exact sBox_in _ _
theorem tr1 (s : List Int) : Tr (world s).mu (world s).ob (cr1 s) (mot s (mi1 s) (st1 s)) := tr_of (w := mi1 s) (mi1_ok s) ⟨mem_in (world_ok s).place, mem_in (world_ok s).speed⟩ rfl rfl rfl rfl
theorem tr2 (s : List Int) : Tr (world s).mu (world s).ob (cr2 s) (mot (cells s) (mi2 s) (st2 s)) := tr_of (w := mi2 s) (mi2_ok s) ⟨mem_in (here_w s), mem_in (swift_w s)⟩ rfl rfl rfl rfl
/-! ### the law -/
def lowS (s : List Int) : Int := max (cr1 s).start (cr2 s).start
def endS (s : List Int) : Int := lowS s - 1 + lrow s 30 % 10
def dflt : Pt × Pt := ((0, 0, 0), (0, 0, 0))
def at1 (s : List Int) (z : Int) : Pt := ((one s).getD (z - (cr1 s).start).toNat dflt).1
def at2 (s : List Int) (z : Int) : Pt := ((other s).getD (z - (cr2 s).start).toNat dflt).1
def btw (s : List Int) (z : Int) : Option Int := if z - (cr1 s).start < (one s).length ∧ z - (cr2 s).start < (other s).length then some (sqd (at1 s z) (at2 s z)) else none
def btwN (s : List Int) (i : Nat) (z : Int) : Option Int := if lowS s ≤ z ∧ z < lowS s + i then btw s z else none
def dist0 (s : List Int) : Int := pick3 0 (lrow s 30 / 10 % 100) (lrow s 30 / 10 % 3000) (lrow s 30 / 3 % 3)
def nS (s : List Int) : Nat := (lrow s 30 % 10).toNat
def distS (s : List Int) : Int := if lrow s 30 / 7 % 2 = 0 then (match btwN s (nS s) (lowS s + lrow s 30 / 11 % 10) with
  | some v => max 0 (rootUp v - lrow s 30 / 5 % 2)
  | none => dist0 s) else dist0 s
theorem sqd_nn (p q : Pt) : 0 ≤ sqd p q := by
  have h1 := sqr_nn (p.1 - q.1)
  have h2 := sqr_nn (p.2.1 - q.2.1)
  have h3 := sqr_nn (p.2.2 - q.2.2)
  unfold sqd
  omega
theorem sqd_b {p q : Pt} (h : PW (10 ^ 15) p) (k : PW (10 ^ 15) q) : Bt 200 (sqd p q) := by
  obtain ⟨⟨a1, a2⟩, ⟨a3, a4⟩, a5, a6⟩ := h
  obtain ⟨⟨b1, b2⟩, ⟨b3, b4⟩, b5, b6⟩ := k
  have x : Bt 60 (p.1 - q.1) := bt60 (by omega) (by omega)
  have y : Bt 60 (p.2.1 - q.2.1) := bt60 (by omega) (by omega)
  have z : Bt 60 (p.2.2 - q.2.2) := bt60 (by omega) (by omega)
  have h0 : Bt 120 (0 : Int) := .zero
  exact ((x.mul x).mono (by decide)).add (((y.mul y).mono (by decide)).add (((z.mul z).add h0).mono (by decide))) |>.mono (n := 150) (by decide)
/-- a tick at which both motions are told -/
theorem btw_some {s : List Int} {z v : Int} (hz : lowS s ≤ z) (h : btw s z = some v) : ∃ (i j : Nat) (d e : Pt × Pt), mot s (mi1 s) (st1 s) i = some d ∧ mot (cells s) (mi2 s) (st2 s) j = some e ∧ (one s)[i]? = some d ∧ (other s)[j]? = some e ∧ z = (cr1 s).start + i ∧ z = (cr2 s).start + j ∧ v = sqd d.1 e.1 ∧ i ≤ 11 ∧ j ≤ 11 := by
  unfold btw at h
  split at h
  · rename_i hc
    cases h
    have l1 : (cr1 s).start ≤ z := by
      have : (cr1 s).start ≤ lowS s := by
        unfold lowS
        omega
      omega
    have l2 : (cr2 s).start ≤ z := by
      have : (cr2 s).start ≤ lowS s := by
        unfold lowS
        omega
      omega
    have k1 : (z - (cr1 s).start).toNat < (one s).length := by omega
    have k2 : (z - (cr2 s).start).toNat < (other s).length := by omega
    have m1 := motL_len s (mi1 s) (st1 s) (world s).many.toNat
    have m2 := motL_len (cells s) (mi2 s) (st2 s) (world s).many.toNat
    have mm := many_le s
    obtain ⟨d, d1, d2⟩ := motL_get k1
    obtain ⟨e, e1, e2⟩ := motL_get k2
    refine ⟨_, _, d, e, d1, e1, d2, e2, by omega, by omega, ?_, ?_, ?_⟩
    · have a : at1 s z = d.1 := by
        unfold at1
        rw [List.getD_eq_getElem?_getD]
        show (((motL s (mi1 s) (st1 s) (world s).many.toNat)[_]?).getD dflt).1 = _
        rw [d2]
        rfl
      have b : at2 s z = e.1 := by
        unfold at2
        rw [List.getD_eq_getElem?_getD]
        show (((motL (cells s) (mi2 s) (st2 s) (world s).many.toNat)[_]?).getD dflt).1 = _
        rw [e2]
        rfl
      rw [a, b]
    · have : (one s).length ≤ (world s).many.toNat + 1 := m1
      omega
    · have : (other s).length ≤ (world s).many.toNat + 1 := m2
      omega
  · cases h
theorem btw_ok {s : List Int} {z v : Int} (hz : lowS s ≤ z) (h : btw s z = some v) : 0 ≤ v ∧ Bt 200 v := by
  obtain ⟨i, j, d, e, h1, h2, _, _, _, _, hv, hi, hj⟩ := btw_some hz h
  rw [hv]
  exact ⟨sqd_nn _ _, sqd_b ((mot_w1 (mi1_ok s) (st1_w s).1 (st1_w s).2 hi h1).mono (by decide)) ((mot_w1 (mi2_ok s) (st2_w s).1 (st2_w s).2 hj h2).mono (by decide))⟩
theorem rootUp_b {v : Int} (h0 : 0 ≤ v) (h : Bt 200 v) : 0 ≤ rootUp v ∧ Bt 201 (rootUp v) := by
  have h1 := sq_nn v
  have h2 := sq_bt h0 h
  have h3 : Bt 200 (1 : Int) := by
    unfold Bt
    decide
  unfold rootUp
  split
  · exact ⟨h1, h2.mono (by decide)⟩
  · exact ⟨by omega, h2.add h3⟩
theorem distS_ok (s : List Int) : Bt 1000 (distS s) := by
  have h0 : Bt 40 (dist0 s) := by
    have := pick3_bd (lo := 0) (hi := 3000) (a := 0) (b := lrow s 30 / 10 % 100) (c := lrow s 30 / 10 % 3000) (i := lrow s 30 / 3 % 3) (by omega) (by omega) (by omega)
    exact bt40 (by unfold dist0; omega) (by unfold dist0; omega)
  unfold distS
  split
  · split
    · rename_i v hv
      unfold btwN at hv
      split at hv
      · rename_i hc
        obtain ⟨b1, b2⟩ := btw_ok hc.1 hv
        obtain ⟨r1, r2⟩ := rootUp_b b1 b2
        have : Bt 40 (lrow s 30 / 5 % 2) := bt40 (by omega) (by omega)
        exact (Bt.max (n := 202) .zero (r2.sub (this.mono (by decide)))).mono (by decide)
      · cases hv
    · exact h0.mono (by decide)
  · exact h0.mono (by decide)
def j1 (s : List Int) : Jo := jM (world s).mu (world s).ob (world s).fin.toNat (cr1 s) (endS s)
def j2 (s : List Int) : Jo := jM (world s).mu (world s).ob (world s).fin.toNat (cr2 s) (endS s)
def spS (s : List Int) : List Sn := spansM (j1 s) (j2 s) (lowS s) (distS s) (nS s)
theorem fin_le (s : List Int) : (world s).fin.toNat ≤ 2 := by
  have := (world_ok s).fin
  omega
theorem j1_ok (s : List Int) : JOk (j1 s) := jM_ok (cr1_ok s) (fin_le s) _
theorem j2_ok (s : List Int) : JOk (j2 s) := jM_ok (cr2_ok s) (fin_le s) _
theorem spS_ch (s : List Int) : Ch (lowS s) (spS s) (lowS s + nS s) := (spans_inv (j1_ok s) (j2_ok s) (nS s)).1
theorem spS_len (s : List Int) : (spS s).length ≤ 9 := by
  have := spans_len (j1 s) (j2 s) (lowS s) (distS s) (nS s)
  unfold spS nS at *
  omega
/-- each span is true of both motions -/
theorem spS_true {s : List Int} {x : Sn} (hx : x ∈ spS s) {z v : Int} (h1 : x.b ≤ z) (h2 : z ≤ x.e) (h : btwN s (nS s) z = some v) : TrOk x v (distS s) := by
  unfold btwN at h
  split at h
  · rename_i hc
    obtain ⟨i, j, d, e, m1, m2, _, _, z1, z2, hv, _, _⟩ := btw_some hc.1 h
    refine cov_true (spans_ok (j1_ok s) (j2_ok s) (lowS s) (distS s) (nS s) x hx) ((spans_inv (j1_ok s) (j2_ok s) (nS s)).2 x hx) h1 h2 ?_
    rw [hv]
    exact row_true (tr1 s) (tr2 s) (cr1_ok s) (cr2_ok s) (fin_le s) m1 m2 z1 z2 (endS s)
  · cases h
end M
end
section
set_option Elab.async false
set_option linter.all false
set_option maxRecDepth 100000
set_option maxHeartbeats 4000000
namespace T
open PySem PySem.Spec PyProof.Rows L2 M
section
variable {P : Program} {w : World} {K : PySem.W.Frag} {mg : Str → Option Value} {base : Heap}
theorem sc__law_two : FnScope ["_law_script", "_law_body", "_law_one", "_law_seen_here", "_law_first", "_law_row_here", "_law_near", "_law_shift", "_law_here", "_law_swift", "_law_later", "_law_cells", "_law_other", "_law_second", "_law_mu", "_law_bulge", "_law_drift", "_law_start", "_law_fineness", "_law_many", "_law_place", "_law_speed", "_law_burns", "_law_k"] ["_law_script"] Hd.d__law_two.scope := ⟨rfl, rfl, rfl, by decide +kernel, rfl, by decide +kernel, by decide +kernel⟩
def dom__law_two : Dom K := fun ts t => ∃ (s : List Int), ts = [tQ (s.map tI)] ∧ t = tT [con (world s).mu (world s).ob (world s).fin (cr1 s) (cr2 s), tL ((one s).map tPP), tL ((other s).map tPP)]
theorem fn__law_two (Z : Tp K mg) : Fn P w K mg base "_law_two" 5 1 (dom__law_two (K := K)) := by
  obtain ⟨fd, F⟩ := Z.f__law_two
  refine ⟨_, fd, ["_law_script"], fn_mk F sc__law_two (by decide) fun cdv Ar outer sh Hh Ee B hr ts t hd _ => ?_, Z.g__law_two, F.kp, FunD.bindsN F fun _ _ _ _ _ _ us hl => match us, hl with | [_], _ => rfl⟩
  obtain ⟨s, rfl, rfl⟩ := hd
  have cd : ∀ {x j : Int}, 0 < j → j ≤ 1000000000000 → CDivW x j := fun h1 h2 => bt_cdiv h1 (bt40 (by omega) h2) (by decide)
  have W := world_ok s
  have hbm : Bt 100 (world s).mu := (bt40 (by have := W.mu; omega) (by have := W.mu; omega)).mono (by decide)
  have hbo : Bt 100 (world s).ob := (bt40 (by have := W.ob; omega) (by have := W.ob; omega)).mono (by decide)
  have hmany := W.many
  have hmn : (((world s).many.toNat : Nat) : Int) = (world s).many := by omega
  have hml := many_le s
  have hfin := W.fin
  have hlat := later_b s
  have hst := W.start
  refine hj_unp B [14, 15, 16, 17, 18, 19, 20, 21, 22] (ej_call (fn__law_world Z) (hr.mono (by decide)) (aj_cons (ej_v 0) aj_nil) ⟨s, rfl, rfl⟩) ?_
  unfold setAll setAll setAll setAll setAll setAll setAll setAll setAll setAll
  simp only [List.map_cons, List.map_nil, List.length_cons, List.length_nil, Nat.reduceAdd, Nat.reduceSub, List.replicate_succ, List.replicate_zero, List.cons_append, List.nil_append, List.set_cons_succ, List.set_cons_zero]
  refine hj_set B 1 (ej_make (cs_Body Z) (hr.mono (by decide)) (aj_cons (ej_v 14) (aj_cons (ej_v 15) (aj_cons (ej_tup (aj_cons ej_int (aj_cons ej_int (aj_cons ej_int aj_nil)))) aj_nil))) ⟨(world s).mu, (world s).ob, rfl, rfl, W.mu.1, by have := W.mu; omega, W.ob.1, by have := W.ob; omega⟩) ?_
  refine hj_set B 2 ((ej_call (fn__law_motion Z) (hr.mono (by decide)) (aj_cons (ej_v 0) (aj_cons (ej_v 14) (aj_cons (ej_v 15) (aj_cons (ej_v 20) (aj_cons (ej_v 21) (aj_cons (ej_v 16) (aj_cons (ej_v 22) (aj_cons (ej_v 17) (aj_cons ((ej_v 19).eq (congrArg tI hmn.symm)) aj_nil))))))))) ⟨s, mi1 s, (world s).place, (world s).speed, (world s).many.toNat, rfl, rfl, by omega, W.place.mono (by decide), W.speed.mono (by decide), fun b h => ((W.burns b h).2.2.2).mono (by decide), W.drift.1, by have := W.drift; show (world s).drift ≤ 1000000; omega, hbm, hbo, fun i d hi h => (mot_w1 (mi1_ok s) (st1_w s).1 (st1_w s).2 (by omega) h).mono (by decide)⟩).eq (show _ = tL ((one s).map tPP) from rfl)) ?_
  simp only [List.map_cons, List.map_nil, List.length_cons, List.length_nil, Nat.reduceAdd, Nat.reduceSub, List.replicate_succ, List.replicate_zero, List.cons_append, List.nil_append, List.set_cons_succ, List.set_cons_zero]
  have hl1 := motL_len s (mi1 s) (st1 s) (world s).many.toNat
  have hl2 := motL_len (cells s) (mi2 s) (st2 s) (world s).many.toNat
  refine hj_set B 3 ((ej_call (fn__law_seen Z) (hr.mono (by decide)) (aj_cons (ej_v 0) (aj_cons (ej_v 2) (aj_cons (ej_v 17) aj_nil))) ⟨s, one s, (world s).start, rfl, rfl, by show (one s).length ≤ 100; unfold one; omega⟩)) ?_
  have hsl1 := seen_len (lrow s 7) (world s).start (one s)
  have hsl2 := seen_len (lrow (cells s) 7) (later s) (other s)
  refine hj_set B 4 ((ej_call (fn__law_craft Z) (hr.mono (by decide)) (aj_cons ej_str (aj_cons (ej_v 17) (aj_cons (ej_v 20) (aj_cons (ej_v 21) (aj_cons (ej_v 16) (aj_cons (ej_v 22) (aj_cons (ej_v 3) aj_nil))))))) ⟨cr1 s, rfl, rfl, .inl rfl, hst.1, by show (world s).start ≤ 100000; omega, W.place.mono (by decide), W.speed.mono (by decide), W.drift.1, by have := W.drift; show (world s).drift ≤ 10 ^ 12; omega, fun b h => ⟨(W.burns b h).1, (W.burns b h).2.1, by have := (W.burns b h).2.2.1; omega, ((W.burns b h).2.2.2).mono (by decide)⟩, fun g h => ?_, by have := W.many2; show (world s).burns.length ≤ 1000; omega, by show (seen (lrow s 7) (world s).start (one s)).length ≤ 1000; unfold one at *; omega⟩)) ?_
  · obtain ⟨⟨k, k1, k2⟩, k3⟩ := cr1_seen s g h
    exact ⟨by omega, by omega, k3⟩
  simp only [List.map_cons, List.map_nil, List.length_cons, List.length_nil, Nat.reduceAdd, Nat.reduceSub, List.replicate_succ, List.replicate_zero, List.cons_append, List.nil_append, List.set_cons_succ, List.set_cons_zero]
  have n31 := lrow_nn s 31
  refine hj_set B 5 (ej_call (fn__law_row Z) (hr.mono (by decide)) (aj_cons (ej_v 0) (aj_cons ej_int aj_nil)) ⟨s, 31, rfl, rfl, by decide⟩) ?_
  refine hj_set B 6 (ej_ixL (ej_lst (aj_cons ej_int (aj_cons ej_int (aj_cons ej_int (aj_cons ej_int aj_nil))))) (ej_mod (ej_v 5) ej_int (by decide)) (atI_p4 (by omega) (by omega))) ?_
  refine hj_set B 7 (ej_call (fn__law_spread Z) (hr.mono (by decide)) (aj_cons (ej_div (ej_v 5) ej_int (cd (by decide) (by decide))) (aj_cons ej_int (aj_cons (ej_v 6) aj_nil))) ⟨_, 3, _, rfl, rfl, by decide, (near_b s).1, Int.le_trans (near_b s).2 (by decide)⟩) ?_
  simp only [List.map_cons, List.map_nil, List.length_cons, List.length_nil, Nat.reduceAdd, Nat.reduceSub, List.replicate_succ, List.replicate_zero, List.cons_append, List.nil_append, List.set_cons_succ, List.set_cons_zero]
  refine hj_set B 8 ((ej_callTy call_tuple_of Z.tuple (by decide +kernel) (aj_cons (ej_lc (own := [("_law_k", 23)]) (f := fun i Γ => Γ.set 23 (some (tI (0 + (i : Nat))))) B rfl (ij_r1 Z.range ej_int (by decide) (by decide)) [23] ((List.range 3).map fun j => iv ((biv (world s).place j).1 + spi (pick4 0 5 90 900 (lrow s 31 % 4)) (lrow s 31 / 4) j, (biv (world s).place j).2 + spi (pick4 0 5 90 900 (lrow s 31 % 4)) (lrow s 31 / 4) j)) rfl (fun i t ht s H' C cl fp => ?_) (fun j t u ht hu s H' C cl fp => ?_) (blkOk_by (N := ["_law_script", "_law_body", "_law_one", "_law_seen_here", "_law_first", "_law_row_here", "_law_near", "_law_shift", "_law_here", "_law_swift", "_law_later", "_law_cells", "_law_other", "_law_second", "_law_mu", "_law_bulge", "_law_drift", "_law_start", "_law_fineness", "_law_many", "_law_place", "_law_speed", "_law_burns", "_law_k"]) (sc := Hd.d__law_two.scope) (by decide +kernel)) (hz := by rw [rngT_len]; decide)) aj_nil) rok_tupL).eq (show _ = bx (here s) from rfl)) ?_
  · obtain ⟨hi, rfl⟩ := rngT_get ht
    exact gj_name B.blk 23
  · obtain ⟨hj, rfl⟩ := rngT_get ht
    obtain ⟨hj3, rfl⟩ := range_get hu
    exact ej_tup (aj_cons (ej_add (ej_ixT (ej_ixT (ej_v 20) (ej_v 23) (atI_bx hj3)) ej_int) (ej_ixL (ej_v 7) (ej_v 23) (atI_spr hj3))) (aj_cons (ej_add (ej_ixT (ej_ixT (ej_v 20) (ej_v 23) (atI_bx hj3)) ej_int) (ej_ixL (ej_v 7) (ej_v 23) (atI_spr hj3))) aj_nil))
  refine hj_set B 9 ((ej_callTy call_tuple_of Z.tuple (by decide +kernel) (aj_cons (ej_lc (own := [("_law_k", 23)]) (f := fun i Γ => Γ.set 23 (some (tI (0 + (i : Nat))))) B rfl (ij_r1 Z.range ej_int (by decide) (by decide)) [23] ((List.range 3).map fun j => iv (sw1 (biv (world s).speed j) (lrow s 31))) rfl (fun i t ht s H' C cl fp => ?_) (fun j t u ht hu s H' C cl fp => ?_) (blkOk_by (N := ["_law_script", "_law_body", "_law_one", "_law_seen_here", "_law_first", "_law_row_here", "_law_near", "_law_shift", "_law_here", "_law_swift", "_law_later", "_law_cells", "_law_other", "_law_second", "_law_mu", "_law_bulge", "_law_drift", "_law_start", "_law_fineness", "_law_many", "_law_place", "_law_speed", "_law_burns", "_law_k"]) (sc := Hd.d__law_two.scope) (by decide +kernel)) (hz := by rw [rngT_len]; decide)) aj_nil) rok_tupL).eq (show _ = bx (swift s) from rfl)) ?_
  · obtain ⟨hi, rfl⟩ := rngT_get ht
    exact gj_name B.blk 23
  · obtain ⟨hj, rfl⟩ := rngT_get ht
    obtain ⟨hj3, rfl⟩ := range_get hu
    exact ej_tup (aj_cons (ej_sub (ej_add (ej_ixT (ej_ixT (ej_v 21) (ej_v 23) (atI_bx hj3)) ej_int) (ej_mod (ej_div (ej_v 5) ej_int (cd (by decide) (by decide))) ej_int (by decide))) ej_int) (aj_cons (ej_sub (ej_add (ej_ixT (ej_ixT (ej_v 21) (ej_v 23) (atI_bx hj3)) ej_int) (ej_mod (ej_div (ej_v 5) ej_int (cd (by decide) (by decide))) ej_int (by decide))) ej_int) aj_nil))
  refine hj_set B 10 ((ej_add (ej_v 17) (ej_ixL (ej_lst (aj_cons ej_int (aj_cons (ej_mod (ej_div (ej_v 5) ej_int (cd (by decide) (by decide))) ej_int (by decide)) aj_nil))) (ej_mod (ej_div (ej_v 5) ej_int (cd (by decide) (by decide))) ej_int (by decide)) (atI_p2 (by omega) (by omega)))).eq (show _ = tI (later s) from rfl)) ?_
  simp only [List.map_cons, List.map_nil, List.length_cons, List.length_nil, Nat.reduceAdd, Nat.reduceSub, List.replicate_succ, List.replicate_zero, List.cons_append, List.nil_append, List.set_cons_succ, List.set_cons_zero]
  refine hj_setLc (own := [("_law_k", 23)]) (f := fun i Γ => Γ.set 23 (some (tI (0 + (i : Nat))))) B 11 (ij_r1 Z.range ej_int (by decide) (by decide)) [23] ((cells s).map tI) (by rw [List.length_map, rngT_len]; unfold cells; rw [List.length_map, List.length_range]; rfl) (fun i t ht s H' C cl fp => ?_) (fun j t u ht hu s' H' C cl fp => ?_) (blkOk_by (N := ["_law_script", "_law_body", "_law_one", "_law_seen_here", "_law_first", "_law_row_here", "_law_near", "_law_shift", "_law_here", "_law_swift", "_law_later", "_law_cells", "_law_other", "_law_second", "_law_mu", "_law_bulge", "_law_drift", "_law_start", "_law_fineness", "_law_many", "_law_place", "_law_speed", "_law_burns", "_law_k"]) (sc := Hd.d__law_two.scope) (by decide +kernel)) ?_ rfl (hz := by rw [rngT_len]; decide)
  · obtain ⟨hi, rfl⟩ := rngT_get ht
    exact gj_name B.blk 23
  · obtain ⟨hj, rfl⟩ := rngT_get ht
    have hj30 : j < 30 := hj
    obtain ⟨x, hx, rfl⟩ := map_get hu
    obtain ⟨_, rfl⟩ := range_get hx
    exact ej_call (fn__law_row Z) (hr.mono (by decide)) (aj_cons (ej_v 0) (aj_cons ((ej_sub ej_int (ej_v 23)).eq (show _ = tI ((62 - j : Nat) : Int) from congrArg tI (by omega))) aj_nil)) ⟨s, 62 - j, rfl, rfl, by omega⟩
  simp only [List.map_cons, List.map_nil, List.length_cons, List.length_nil, Nat.reduceAdd, Nat.reduceSub, List.replicate_succ, List.replicate_zero, List.cons_append, List.nil_append, List.set_cons_succ, List.set_cons_zero]
  refine hj_set B 12 ((ej_call (fn__law_motion Z) (hr.mono (by decide)) (aj_cons ((ej_v 11).to fun _ _ => tL_Q) (aj_cons (ej_v 14) (aj_cons (ej_v 15) (aj_cons (ej_v 8) (aj_cons (ej_v 9) (aj_cons (ej_v 16) (aj_cons (ej_lst aj_nil) (aj_cons (ej_v 10) (aj_cons ((ej_v 19).eq (congrArg tI hmn.symm)) aj_nil))))))))) ⟨cells s, mi2 s, here s, swift s, (world s).many.toNat, rfl, rfl, by omega, (here_w s).mono (by decide), (swift_w s).mono (by decide), (fun b h => (by cases h)), W.drift.1, by have := W.drift; show (world s).drift ≤ 1000000; omega, hbm, hbo, fun i d hi h => (mot_w1 (mi2_ok s) (st2_w s).1 (st2_w s).2 (by omega) h).mono (by decide)⟩).eq (show _ = tL ((other s).map tPP) from rfl)) ?_
  simp only [List.map_cons, List.map_nil, List.length_cons, List.length_nil, Nat.reduceAdd, Nat.reduceSub, List.replicate_succ, List.replicate_zero, List.cons_append, List.nil_append, List.set_cons_succ, List.set_cons_zero]
  refine hj_set B 13 ((ej_call (fn__law_craft Z) (hr.mono (by decide)) (aj_cons ej_str (aj_cons (ej_v 10) (aj_cons (ej_v 8) (aj_cons (ej_v 9) (aj_cons (ej_v 16) (aj_cons (ej_lst aj_nil) (aj_cons (ej_call (fn__law_seen Z) (hr.mono (by decide)) (aj_cons ((ej_v 11).to fun _ _ => tL_Q) (aj_cons (ej_v 12) (aj_cons (ej_v 10) aj_nil))) ⟨cells s, other s, later s, rfl, rfl, by show (other s).length ≤ 100; unfold other; omega⟩) aj_nil))))))) ⟨cr2 s, rfl, rfl, .inr rfl, hlat.1, by show later s ≤ 100000; omega, (here_w s).mono (by decide), (swift_w s).mono (by decide), W.drift.1, by have := W.drift; show (world s).drift ≤ 10 ^ 12; omega, (fun b h => (by cases h)), fun g h => ?_, by show 0 ≤ 1000; omega, by show (seen (lrow (cells s) 7) (later s) (other s)).length ≤ 1000; unfold other at *; omega⟩)) ?_
  · obtain ⟨⟨k, k1, k2⟩, k3⟩ := cr2_seen s g h
    exact ⟨by omega, by omega, k3⟩
  simp only [List.map_cons, List.map_nil, List.length_cons, List.length_nil, Nat.reduceAdd, Nat.reduceSub, List.replicate_succ, List.replicate_zero, List.cons_append, List.nil_append, List.set_cons_succ, List.set_cons_zero]
  exact hj_ret (ej_tup (aj_cons (ej_make (cs_Contents Z) (hr.mono (by decide)) (aj_cons (ej_v 1) (aj_cons ej_int (aj_cons (ej_v 18) (aj_cons (ej_lst (aj_cons (ej_v 4) (aj_cons (ej_v 13) aj_nil))) (aj_cons (ej_lst aj_nil) aj_nil))))) ⟨_, _, _, _, _, rfl, rfl, by decide, by decide, hfin.1, by omega⟩) (aj_cons (ej_v 2) (aj_cons (ej_v 12) aj_nil)))) (fun _ _ h => h)
theorem sc__law_true : FnScope ["_law_span", "_law_squares", "_law_distance", "_law_begin", "_law_end", "_law_verdict", "_law_least", "_law_most"] ["_law_span", "_law_squares", "_law_distance"] Hd.d__law_true.scope := ⟨rfl, rfl, rfl, by decide +kernel, rfl, by decide +kernel, by decide +kernel⟩
def dom__law_true : Dom K := fun ts t => ∃ (x : Sn) (v d : Int), ts = [tTold x, tI v, tI d] ∧ t = tB true ∧ TrOk x v d ∧ Bt 1000 d
theorem fn__law_true (Z : Tp K mg) : Fn P w K mg base "_law_true" 1 3 (dom__law_true (K := K)) := by
  obtain ⟨fd, F⟩ := Z.f__law_true
  refine ⟨_, fd, ["_law_span", "_law_squares", "_law_distance"], fn_mk F sc__law_true (by decide) fun cdv Ar outer sh Hh Ee B hr ts t hd _ => ?_, Z.g__law_true, F.kp, FunD.bindsN F fun _ _ _ _ _ _ us hl => match us, hl with | [_, _, _], _ => rfl⟩
  obtain ⟨x, v, d, rfl, rfl, hx, hd⟩ := hd
  refine hj_unp B [3, 4, 5, 6, 7] (ej_v 0) ?_
  refine hj_iff ((bj_eqS (ej_v 5) ej_str).fa (decide_eq_false fun e => hx.voi (Vd.inj (b := .voi) e))) ?_
  refine hj_ifr (bj_eqS (ej_v 5) ej_str) (fun h => ?_) fun h => ?_
  · have e := hx.unk (Vd.inj (b := .unk) (of_decide_eq_true h))
    rw [e]
    exact hj_ret (ej_and (ej_isN (ej_v 6) ej_non nonIs_N) fun h => (ej_one (ej_isN (ej_v 7) ej_non nonIs_N))) (fun _ _ h => h)
  have hnu : x.v ≠ .unk := fun e => (of_decide_eq_false h) (congrArg Vd.str e)
  obtain ⟨p, hp, q1, q2, q3⟩ := hx.q hnu
  have hs1 : Bt 1000 (sq p.1) := sq_bt q3.1 q3.2.2.1
  have hr1 : Bt 1001 (rootUp p.2) := by
    have h1 := sq_bt q3.2.1 q3.2.2.2
    unfold rootUp
    split
    · exact h1.mono (by decide)
    · exact h1.add ((show Bt 2 (1 : Int) by unfold Bt; decide).mono (by decide))
  refine hj_iff ((wj_bj (wj_and (d' := decide (v ≤ d * d)) (bj_eqS (ej_v 5) ej_str) fun h => (wj_and1 (bj_le (ej_v 1) (ej_mul (ej_v 2) (ej_v 2) (bt_cmul hd hd (by decide))))))).fa ?_) ?_
  · rw [Bool.and_eq_false_iff, decide_eq_false_iff_not, decide_eq_false_iff_not]
    by_cases e : x.v = .imp
    · right
      have := hx.imp e
      omega
    · exact .inl fun z => e (Vd.inj (b := .imp) z)
  refine hj_iff ((wj_bj (wj_and (d' := decide (d * d < v)) (bj_eqS (ej_v 5) ej_str) fun h => (wj_and1 (bj_gt (ej_v 1) (ej_mul (ej_v 2) (ej_v 2) (bt_cmul hd hd (by decide))))))).fa ?_) ?_
  · rw [Bool.and_eq_false_iff, decide_eq_false_iff_not, decide_eq_false_iff_not]
    by_cases e : x.v = .cer
    · right
      have := hx.cer e
      omega
    · exact .inl fun z => e (Vd.inj (b := .cer) z)
  rw [hp]
  exact hj_ret ((ej_and (ej_le (ej_mul (ej_v 6) (ej_v 6) (bt_cmul hs1 hs1 (by decide))) (ej_v 1)) fun h => (ej_one (ej_le (ej_v 1) (ej_mul (ej_v 7) (ej_v 7) (bt_cmul hr1 hr1 (by decide)))))).tr (by rw [Bool.and_eq_true, decide_eq_true_eq, decide_eq_true_eq]; exact ⟨q1, q2⟩)) (fun _ _ h => h)
end
end T
end
section
set_option Elab.async false
set_option linter.all false
set_option maxRecDepth 100000
set_option maxHeartbeats 4000000
namespace T
open PySem PySem.Spec PyProof.Rows L2 M
section
variable {P : Program} {w : World} {K : PySem.W.Frag} {mg : Str → Option Value} {base : Heap}
theorem pc_b {p : Pt} (h : PW (10 ^ 15) p) (q : Pt) (k : PW (10 ^ 15) q) {j : Nat} (hj : j < 3) : Bt 60 (pc p j - pc q j) := by
  obtain ⟨⟨a1, a2⟩, ⟨a3, a4⟩, a5, a6⟩ := h
  obtain ⟨⟨b1, b2⟩, ⟨b3, b4⟩, b5, b6⟩ := k
  match j, hj with
  | 0, _ => exact bt60 (by show _ ≤ p.1 - q.1; omega) (by show p.1 - q.1 ≤ _; omega)
  | 1, _ => exact bt60 (by show _ ≤ p.2.1 - q.2.1; omega) (by show p.2.1 - q.2.1 ≤ _; omega)
  | 2, _ => exact bt60 (by show _ ≤ p.2.2 - q.2.2; omega) (by show p.2.2 - q.2.2 ≤ _; omega)
theorem sc_law : FnScope ["_law_script", "_law_low", "_law_row_here", "_law_end", "_law_between", "_law_at", "_law_distance", "_law_span", "_law_contents", "_law_one", "_law_other", "_law_first", "_law_second", "_law_tick", "_law_p", "_law_q", "_law_k"] ["_law_script"] Hd.d_law.scope := ⟨rfl, rfl, rfl, by decide +kernel, rfl, by decide +kernel, by decide +kernel⟩
def dom_law : Dom K := fun ts t => ∃ (s : List Int), ts = [tQ (s.map tI)] ∧ t = tB true
theorem law_ok (Z : Tp K mg) {fd : FuncData} (F : FnD K Hd.d_law (He.fAd K Hd.d_law.at_) fd) : FnOk P w K mg base CX0 9 (He.fAd K Hd.d_law.at_) fd ["_law_script"] (spT 1 (dom_law (K := K))) := by
  refine fn_mk F sc_law (by decide) fun cdv Ar outer sh Hh Ee B hr ts t hd _ => ?_
  obtain ⟨s, rfl, rfl⟩ := hd
  have cd : ∀ {x j : Int}, 0 < j → j ≤ 1000000000000 → CDivW x j := fun h1 h2 => bt_cdiv h1 (bt40 (by omega) h2) (by decide)
  have W := world_ok s
  have hbm : Bt 100 (world s).mu := (bt40 (by have := W.mu; omega) (by have := W.mu; omega)).mono (by decide)
  have hbo : Bt 100 (world s).ob := (bt40 (by have := W.ob; omega) (by have := W.ob; omega)).mono (by decide)
  have hfin := W.fin
  have hfn : (((world s).fin.toNat : Nat) : Int) = (world s).fin := by omega
  have hst1 : 0 ≤ (cr1 s).start ∧ (cr1 s).start ≤ 8 := W.start
  have hst2 : 0 ≤ (cr2 s).start ∧ (cr2 s).start ≤ 11 := later_b s
  have hlow : lowS s = max (cr1 s).start (cr2 s).start := rfl
  have hend : endS s = lowS s - 1 + lrow s 30 % 10 := rfl
  have hn : nS s = (lrow s 30 % 10).toNat := rfl
  have n30 := lrow_nn s 30
  refine hj_unp B [8, 9, 10] (ej_call (fn__law_two Z) (hr.mono (by decide)) (aj_cons (ej_v 0) aj_nil) ⟨s, rfl, rfl⟩) ?_
  unfold setAll setAll setAll setAll
  simp only [List.map_cons, List.map_nil, List.length_cons, List.length_nil, Nat.reduceAdd, Nat.reduceSub, List.replicate_succ, List.replicate_zero, List.cons_append, List.nil_append, List.set_cons_succ, List.set_cons_zero]
  refine hj_unp B [11, 12] (ej_fld Z.cl_Contents Z.na_Contents_crafts (ej_v 8)) ?_
  unfold setAll setAll setAll
  simp only [List.map_cons, List.map_nil, List.length_cons, List.length_nil, Nat.reduceAdd, Nat.reduceSub, List.replicate_succ, List.replicate_zero, List.cons_append, List.nil_append, List.set_cons_succ, List.set_cons_zero]
  refine hj_set B 1 ((ej_callB (call_max2 B.calm) Z.«max» (by decide +kernel) (aj_cons (ej_fld Z.cl_Craft Z.na_Craft_start (ej_v 11)) (aj_cons (ej_fld Z.cl_Craft Z.na_Craft_start (ej_v 12)) aj_nil)) rok_max2).eq (show _ = tI (lowS s) from rfl)) ?_
  refine hj_set B 2 (ej_call (fn__law_row Z) (hr.mono (by decide)) (aj_cons (ej_v 0) (aj_cons ej_int aj_nil)) ⟨s, 30, rfl, rfl, by decide⟩) ?_
  refine hj_set B 3 ((ej_add (ej_sub (ej_v 1) ej_int) (ej_mod (ej_v 2) ej_int (by decide))).eq (show _ = tI (endS s) from rfl)) ?_
  refine hj_ownD B 4 ?_
  simp only [List.map_cons, List.map_nil, List.length_cons, List.length_nil, Nat.reduceAdd, Nat.reduceSub, List.replicate_succ, List.replicate_zero, List.cons_append, List.nil_append, List.set_cons_succ, List.set_cons_zero]
  have e0 : (fun _ => none : Int → Option (Ty K)) = fun z => (btwN s 0 z).map tI := by
    funext z
    have : btwN s 0 z = none := if_neg (by omega)
    rw [this]
    rfl
  rw [e0]
  refine hj_forE B (ij_r2 Z.range (ej_v 1) (ej_add (ej_v 3) ej_int) (by omega)) (n := nS s) (δ := Nat) (fun i m => m ≤ i) (fun _ _ => [some (tQ (s.map tI)), some (tI (lowS s)), some (tI (lrow s 30)), some (tI (endS s)), none, none, none, none, some (con (world s).mu (world s).ob (world s).fin (cr1 s) (cr2 s)), some (tL ((one s).map tPP)), some (tL ((other s).map tPP)), some (cr (cr1 s)), some (cr (cr2 s)), none, none, none, none]) (fun i m => some (4, oD m fun z => (btwN s i z).map tI)) 0 (Nat.le_refl _) Le.refl (fun i t m ht hm => ?_) (fun m hm => ?_) (by rw [rngT_len]; omega)
  · obtain ⟨hi, rfl⟩ := rngT_get ht
    have hz : lowS s ≤ lowS s + (i : Nat) := by omega
    refine hb_name B 5 ?_
    have hup : ∀ y : Int, btwN s (i + 1) y = if y = lowS s + (i : Nat) then btw s (lowS s + (i : Nat)) else btwN s i y := by
      intro y
      unfold btwN
      by_cases e : y = lowS s + (i : Nat)
      · rw [if_pos e, if_pos (by omega), e]
      · rw [if_neg e]
        by_cases q : lowS s ≤ y ∧ y < lowS s + (i : Nat)
        · rw [if_pos q, if_pos (by omega)]
        · rw [if_neg q, if_neg (by omega)]
    refine hj_ifm (Ex1 (fun m => m ≤ i + 1) (fun _ => [some (tQ (s.map tI)), some (tI (lowS s)), some (tI (lrow s 30)), some (tI (endS s)), none, none, none, none, some (con (world s).mu (world s).ob (world s).fin (cr1 s) (cr2 s)), some (tL ((one s).map tPP)), some (tL ((other s).map tPP)), some (cr (cr1 s)), some (cr (cr2 s)), none, none, none, none]) (fun m => some (4, oD m fun z => (btwN s (i + 1) z).map tI))) (d := decide (lowS s + (i : Nat) - (cr1 s).start < (((one s).map (tPP (K := K))).length : Nat)) && decide (lowS s + (i : Nat) - (cr2 s).start < (((other s).map (tPP (K := K))).length : Nat))) (wj_bj (wj_and (bj_lt (ej_sub (ej_v 5) (ej_fld Z.cl_Craft Z.na_Craft_start (ej_v 11))) (ej_callB call_len_seq Z.len PySem.boot_len (aj_cons (ej_v 9) aj_nil) rok_lenL)) fun h => (wj_and1 (bj_lt (ej_sub (ej_v 5) (ej_fld Z.cl_Craft Z.na_Craft_start (ej_v 12))) (ej_callB call_len_seq Z.len PySem.boot_len (aj_cons (ej_v 10) aj_nil) rok_lenL))))) (fun h => ?_) (fun h => ?_) (hj_nil fun _ _ _ _ p => p)
    · rw [Bool.and_eq_true, decide_eq_true_eq, decide_eq_true_eq, List.length_map, List.length_map] at h
      have hv : btw s (lowS s + (i : Nat)) = some (sqd (at1 s (lowS s + (i : Nat))) (at2 s (lowS s + (i : Nat)))) := if_pos h
      obtain ⟨i1, j1, d, e, m1, m2, g1, g2, z1, z2, hvv, hi1, hj1⟩ := btw_some hz hv
      rw [hvv] at hv
      have hpd : PW (10 ^ 15) d.1 := (mot_w1 (mi1_ok s) (st1_w s).1 (st1_w s).2 hi1 m1).mono (by decide)
      have hpe : PW (10 ^ 15) e.1 := (mot_w1 (mi2_ok s) (st2_w s).1 (st2_w s).2 hj1 m2).mono (by decide)
      refine hj_set B 14 (ej_ixT (ts := [pt d.1, pt d.2]) (t := pt d.1) (ej_ixL (t := tPP d) (ej_v 9) (ej_sub (ej_v 5) (ej_fld Z.cl_Craft Z.na_Craft_start (ej_v 11))) (atI_map (l := one s) (f := tPP) (i := i1) (by omega) g1)) ej_int) ?_
      refine hj_set B 15 (ej_ixT (ts := [pt e.1, pt e.2]) (t := pt e.1) (ej_ixL (t := tPP e) (ej_v 10) (ej_sub (ej_v 5) (ej_fld Z.cl_Craft Z.na_Craft_start (ej_v 12))) (atI_map (l := other s) (f := tPP) (i := j1) (by omega) g2)) ej_int) ?_
      refine hj_put B 4 ((ej_callB (cr_sum B.calm) Z.sum (by decide +kernel) (aj_cons (ej_lc (own := [("_law_k", 16)]) (f := fun i Γ => Γ.set 16 (some (tI (0 + (i : Nat))))) B rfl (ij_r1 Z.range ej_int (by decide) (by decide)) [16] (((List.range 3).map fun j => (pc d.1 j - pc e.1 j) * (pc d.1 j - pc e.1 j)).map tI) rfl (fun i t ht s H' C cl fp => ?_) (fun j t u ht hu s' H' C cl fp => ?_) (blkOk_by (N := ["_law_script", "_law_low", "_law_row_here", "_law_end", "_law_between", "_law_at", "_law_distance", "_law_span", "_law_contents", "_law_one", "_law_other", "_law_first", "_law_second", "_law_tick", "_law_p", "_law_q", "_law_k"]) (sc := Hd.d_law.scope) (by decide +kernel)) (hz := by rw [rngT_len]; decide)) aj_nil) rok_sum).eq (show _ = tI (K := K) (sqd d.1 e.1) from rfl)) (ej_v 5) (by omega) ?_
      · obtain ⟨hi, rfl⟩ := rngT_get ht
        exact gj_name B.blk 16
      · obtain ⟨hj, rfl⟩ := rngT_get ht
        obtain ⟨x, hx, rfl⟩ := map_get hu
        obtain ⟨hj3, rfl⟩ := range_get hx
        have hb := pc_b hpd e.1 hpe hj3
        exact ej_mul (ej_sub (ej_ixT (ej_v 14) (ej_v 16) (atI_pt hj3)) (ej_ixT (ej_v 15) (ej_v 16) (atI_pt hj3))) (ej_sub (ej_ixT (ej_v 14) (ej_v 16) (atI_pt hj3)) (ej_ixT (ej_v 15) (ej_v 16) (atI_pt hj3))) (bt_cmul hb hb (by decide))
      have ef : (fun z => if z = lowS s + (i : Nat) then some (tI (K := K) (sqd d.1 e.1)) else (btwN s i z).map tI) = fun z => (btwN s (i + 1) z).map tI := by
        funext y
        rw [hup y]
        by_cases q : y = lowS s + (i : Nat)
        · rw [if_pos q, if_pos q, hv]
          rfl
        · rw [if_neg q, if_neg q]
      rw [ef]
      exact hj_end (hM := le_ex (m + 1) (by omega) Le.refl)
    · have hv : btw s (lowS s + (i : Nat)) = none := by
        refine if_neg fun q => ?_
        rw [List.length_map, List.length_map] at h
        have : (decide (lowS s + (i : Nat) - (cr1 s).start < ((one s).length : Nat)) && decide (lowS s + (i : Nat) - (cr2 s).start < ((other s).length : Nat))) = true := by
          rw [Bool.and_eq_true, decide_eq_true_eq, decide_eq_true_eq]
          exact q
        rw [this] at h
        cases h
      have ef : (fun z => (btwN s i z).map (tI (K := K))) = fun z => (btwN s (i + 1) z).map tI := by
        funext y
        rw [hup y]
        by_cases q : y = lowS s + (i : Nat)
        · rw [if_pos q, hv, q]
          have : btwN s i (lowS s + (i : Nat)) = none := if_neg (by omega)
          rw [this]
        · rw [if_neg q]
      rw [ef]
      exact hj_end (hM := le_ex m (by omega) Le.refl)
  refine hj_set B 6 ((ej_ixL (ej_lst (aj_cons ej_int (aj_cons (ej_mod (ej_div (ej_v 2) ej_int (cd (by decide) (by decide))) ej_int (by decide)) (aj_cons (ej_mod (ej_div (ej_v 2) ej_int (cd (by decide) (by decide))) ej_int (by decide)) aj_nil)))) (ej_mod (ej_div (ej_v 2) ej_int (cd (by decide) (by decide))) ej_int (by decide)) (atI_p3 (by omega) (by omega))).eq (show _ = tI (dist0 s) from rfl)) ?_
  refine hj_ifm (A (K := K) [some (tQ (s.map tI)), some (tI (lowS s)), some (tI (lrow s 30)), some (tI (endS s)), none, none, some (tI (distS s)), none, some (con (world s).mu (world s).ob (world s).fin (cr1 s) (cr2 s)), some (tL ((one s).map tPP)), some (tL ((other s).map tPP)), some (cr (cr1 s)), some (cr (cr2 s)), none, none, none, none] (some (4, oD m fun z => (btwN s (nS s) z).map tI))) (d := decide (lrow s 30 / 7 % 2 = 0) && ((btwN s (nS s) (lowS s + lrow s 30 / 11 % 10)).map (tI (K := K))).isSome) (wj_bj (wj_and (bj_eq (ej_mod (ej_div (ej_v 2) ej_int (cd (by decide) (by decide))) ej_int (by decide)) ej_int) fun h => (wj_and1 (bj_inD B (ej_add (ej_v 1) (ej_mod (ej_div (ej_v 2) ej_int (cd (by decide) (by decide))) ej_int (by decide))))))) (fun h => ?_) (fun h => ?_) ?_
  · rw [Bool.and_eq_true, decide_eq_true_eq, Option.isSome_map] at h
    obtain ⟨v, hv⟩ := Option.isSome_iff_exists.mp h.2
    have hd : distS s = max 0 (rootUp v - lrow s 30 / 5 % 2) := by
      unfold distS
      rw [if_pos h.1, hv]
    have hb : 0 ≤ v ∧ Bt 200 v := by
      have hv2 := hv
      unfold btwN at hv2
      split at hv2
      · rename_i hc
        exact btw_ok hc.1 hv2
      · cases hv2
    rw [hd]
    exact hj_set B 6 (ej_callB (call_max2 B.calm) Z.«max» (by decide +kernel) (aj_cons ej_int (aj_cons (ej_sub (ej_call (fn_root_up Z) (hr.mono (by decide)) (aj_cons (ej_getD B (t := tI v) (ej_add (ej_v 1) (ej_mod (ej_div (ej_v 2) ej_int (cd (by decide) (by decide))) ej_int (by decide))) (by rw [hv]; rfl)) aj_nil) ⟨v, rfl, rfl, hb.1, hb.2.mono (by decide)⟩) (ej_mod (ej_div (ej_v 2) ej_int (cd (by decide) (by decide))) ej_int (by decide))) aj_nil)) rok_max2) hj_end
  · have hd : distS s = dist0 s := by
      rw [Bool.and_eq_false_iff, decide_eq_false_iff_not, Option.isSome_map] at h
      unfold distS
      rcases h with h | h
      · rw [if_neg h]
      · rw [Option.isSome_eq_false_iff, Option.isNone_iff_eq_none] at h
        rw [h]
        split <;> rfl
    rw [hd]
    exact hj_end
  refine hj_set B 5 (ej_v 1) ?_
  simp only [List.map_cons, List.map_nil, List.length_cons, List.length_nil, Nat.reduceAdd, Nat.reduceSub, List.replicate_succ, List.replicate_zero, List.cons_append, List.nil_append, List.set_cons_succ, List.set_cons_zero]
  have hlm : lowM 0 (cr1 s) (cr2 s) = lowS s := by
    unfold lowM lowS
    omega
  have hwm : wideM 0 (endS s) (cr1 s) (cr2 s) = nS s := by
    unfold wideM
    rw [hlm]
    omega
  have hsp : tL ((spansM (jM (world s).mu (world s).ob (world s).fin.toNat (cr1 s) (endS s)) (jM (world s).mu (world s).ob (world s).fin.toNat (cr2 s) (endS s)) (lowM 0 (cr1 s) (cr2 s)) (distS s) (wideM 0 (endS s) (cr1 s) (cr2 s))).map (tTold (K := K))) = tL ((spS s).map tTold) := by
    rw [hlm, hwm]
    rfl
  have hch := spS_ch s
  have hdd := distS_ok s
  refine hj_forE B (ij_L ((ej_call (fn_meeting Z) (hr.mono (by decide)) (aj_cons (ej_v 8) (aj_cons (ej_v 11) (aj_cons (ej_v 12) (aj_cons ej_int (aj_cons (ej_v 3) (aj_cons (ej_v 6) aj_nil)))))) ⟨(world s).mu, (world s).ob, (world s).fin.toNat, cr1 s, cr2 s, 0, endS s, distS s, by rw [hfn], rfl, cr1_ok s, cr2_ok s, fin_le s, by omega, by omega, hbm, hbo, hdd⟩).eq hsp)) (n := (spS s).length) (δ := Int) (fun i a => lowS s ≤ a ∧ Ch a ((spS s).drop i) (lowS s + nS s)) (fun _ a => [some (tQ (s.map tI)), some (tI (lowS s)), some (tI (lrow s 30)), some (tI (endS s)), none, some (tI a), some (tI (distS s)), none, some (con (world s).mu (world s).ob (world s).fin (cr1 s) (cr2 s)), some (tL ((one s).map tPP)), some (tL ((other s).map tPP)), some (cr (cr1 s)), some (cr (cr2 s)), none, none, none, none]) (fun _ _ => some (4, oD m fun z => (btwN s (nS s) z).map tI)) (lowS s) ⟨Int.le_refl _, hch⟩ Le.refl (fun i t a ht hφ => ?_) (fun a hφ => ?_) (by rw [List.length_map])
  · obtain ⟨x, hx, rfl⟩ := map_get ht
    have hxm := List.mem_of_getElem? hx
    obtain ⟨ha, hc⟩ := hφ
    rw [drop_get hx] at hc
    obtain ⟨c1, c2, c3⟩ := hc
    have c4 := ch_le c3
    refine hb_name B 7 ?_
    refine hj_iff ((wj_bj (wj_or (bj_ne (ej_ixT (ej_v 7) ej_int) (ej_v 5)) fun h => (wj_or (bj_lt (ej_ixT (ej_v 7) ej_int) (ej_v 5)) fun h => (wj_or1 (bj_gt (ej_ixT (ej_v 7) ej_int) (ej_v 3)))))).fa ?_) ?_
    · rw [Bool.or_eq_false_iff, Bool.or_eq_false_iff, Bool.not_eq_false', decide_eq_true_eq, decide_eq_false_iff_not, decide_eq_false_iff_not]
      exact ⟨c1, by omega, by omega⟩
    simp only [List.map_cons, List.map_nil, List.length_cons, List.length_nil, Nat.reduceAdd, Nat.reduceSub, List.replicate_succ, List.replicate_zero, List.cons_append, List.nil_append, List.set_cons_succ, List.set_cons_zero]
    refine hj_forF B (ij_r2 Z.range (ej_ixT (ej_v 7) ej_int) (ej_add (ej_ixT (ej_v 7) ej_int) ej_int) (by omega)) (n := (x.e + 1 - x.b).toNat) (fun _ => [some (tQ (s.map tI)), some (tI (lowS s)), some (tI (lrow s 30)), some (tI (endS s)), none, some (tI a), some (tI (distS s)), some (tTold x), some (con (world s).mu (world s).ob (world s).fin (cr1 s) (cr2 s)), some (tL ((one s).map tPP)), some (tL ((other s).map tPP)), some (cr (cr1 s)), some (cr (cr2 s)), none, none, none, none]) (fun _ => some (4, oD m fun z => (btwN s (nS s) z).map tI)) Le.refl (fun k t ht => ?_) ?_ (by rw [rngT_len])
    · obtain ⟨hk, rfl⟩ := rngT_get ht
      refine hb_name B 13 ?_
      refine hj_iff ((wj_bj (wj_and (d' := false) (bj_inD B (ej_v 13)) fun h => ?_)).fa (Bool.and_false _)) ?_
      · rw [Option.isSome_map] at h
        obtain ⟨v, hv⟩ := Option.isSome_iff_exists.mp h
        exact wj_and1 ((bj_not (bj_val (ej_call (fn__law_true Z) (hr.mono (by decide)) (aj_cons (ej_v 7) (aj_cons (ej_getD B (t := tI v) (ej_v 13) (by rw [hv]; rfl)) (aj_cons (ej_v 6) aj_nil))) ⟨x, v, distS s, rfl, rfl, spS_true hxm (by omega) (by omega) hv, hdd⟩))).fa rfl)
      · exact hj_end
    · refine hj_set B 5 (ej_add (ej_ixT (ej_v 7) ej_int) ej_int) ?_
      exact hj_end (hM := le_ex (x.e + 1) ⟨by omega, c3⟩ Le.refl)
  · obtain ⟨ha, hc⟩ := hφ
    rw [List.drop_of_length_le (Nat.le_refl _)] at hc
    have hc2 : a = lowS s + nS s := hc
    exact hj_ret ((ej_eq (ej_v 5) (ej_callB (call_max2 B.calm) Z.«max» (by decide +kernel) (aj_cons (ej_v 1) (aj_cons (ej_add (ej_v 3) ej_int) aj_nil)) rok_max2)).tr (decide_eq_true (by omega))) (fun _ _ h => h)
end
end T
end
section
set_option Elab.async false
set_option maxRecDepth 100000
set_option maxHeartbeats 0
open PySem PySem.W PySem.Calls PyProof.Rows
namespace Hd
abbrev dl : DefRec := HandSHeadRun.topDef Hd.R.prog 84
theorem h_def : defOf qv R.name = some (dl, []) := by kernel_rfl
theorem h_p : R.prog.theDef R.name = some (dl.params, dl.body, dl.scope) := by kernel_rfl
theorem h_k : kwWritten? dl.params.kwonlyargs dl.params.kw_defaults = some [] := by kernel_rfl
theorem h_wr : (!R.writes || R.records.isEmpty) = true := by kernel_rfl
end Hd
end
section
set_option Elab.async false
set_option maxRecDepth 100000
set_option maxHeartbeats 0
open PySem PySem.W PySem.Calls PyProof.Rows
namespace Hd
theorem h_k1 : R.wellSaid = true := by kernel_rfl
theorem h_ok : (chainsOk qv && opensWell R.prog && (frees R.toRowW && R.within.isEmpty)) = true := by kernel_rfl
theorem h_b : R.prog.bare := ⟨rfl, rfl, rfl, rfl, rfl, by decide +kernel⟩
theorem h_w : R.toRowW.promised := by w_witness2
/-- all but the law's walk -/
theorem fin (hc : PySem.W.WalkO qv loose (PySem.W.XL qv []) hookM.says R.toRowW dl [] (fun f vs => PySem.call f vs)) : PySem.Challenge.rw_orrery_k23_whole_meetings_are_true_of_al.Holds := by
  w_on; o_law
  exact HandSHeadRun.head_imp (r := R) (q := qv) (H := hookM) (ob := ob) (M := 6000) (loose := loose) (d := dl) (kwd := []) ob_eq run h_def h_p h_k h_wr h_k1 h_ok h_b h_w hc
end Hd
end
section
set_option Elab.async false
set_option linter.all false
set_option maxRecDepth 100000
set_option maxHeartbeats 0
open PySem PySem.W PySem.Calls PyProof.Rows
namespace T
theorem all2_of {K : PySem.W.Frag} {H : L2.Hp} : ∀ ns : List Int, All2 (K := K) H (ns.map tI) (ns.map L2.V.int)
  | [] => trivial
  | n :: ns => ⟨rfl, all2_of ns⟩
theorem hc : PySem.W.WalkO Hd.qv Hd.loose (PySem.W.XL Hd.qv []) Hd.hookM.says Hd.R.toRowW Hd.dl [] (fun f vs => PySem.call f vs) := by
  refine L2.walk_ofE (l := PySem.Challenge.rw_orrery_k23_whole_meetings_are_true_of_al) (n := 63) (k := 9) (x := "_law_script") (CX := L2.CX0) rfl (by decide) (by kernel_rfl) ⟨rfl, by decide, by decide⟩ ?F (fun _ _ _ _ z => z)
  intro w mg fa h Y G hmg0
  obtain ⟨K, KX, says, ex⟩ := Y
  have hmg : mg ("law" : PySem.Str) = some (.ref fa) := by
    have e : Hd.dl.name = ("law" : PySem.Str) := by kernel_rfl
    rw [← e]
    exact hmg0
  have Z : Tp K mg := ⟨⟨h, KX, G⟩, says, ex⟩
  obtain ⟨fd, F⟩ := Z.f_law
  have e := hmg.symm.trans Z.g_law
  cases e
  have b := L2.FunD.bindsA (ps := ["_law_script"]) F fun _ _ _ _ _ _ us hl => match us, hl with | [_], _ => rfl
  exact ⟨K, fd, spT 1 (dom_law (K := K)), KX, fun s v => b s [v] rfl, fun H a ns hl _ hS => ⟨rfl, H, [tQ (ns.map tI)], tB true, ⟨ns, rfl, rfl⟩, L2.Same.refl H, ⟨⟨a, ns.map L2.V.int, rfl, hS, all2_of ns⟩, trivial⟩, fun v F' H' w o => o⟩, fun base _ _ => law_ok Z F⟩
end T
end
theorem PySem.Challenge.cw_orrery_k23_whole_meetings_are_true_of_al_holds : PySem.Challenge.rw_orrery_k23_whole_meetings_are_true_of_al.Holds := by
  exact Hd.fin T.hc
