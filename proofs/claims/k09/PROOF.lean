import PyProof.Rows.All
import HandS.ForMost
import HandS.Exc
import HandS.TryOnly
import HandS.TupAny
import HandS.Wide
import HandS.WideMore
import HandS.WideBits
import HandS.Flow
import HandS.Deep
import HandS.IsInst
import HandS.Defaults
import HandS.Zip
import HandS.RevRange
import HandS.Style
import HandS.TupLe
import HandS.Gcd
import HandS.CallSlots
import HandS.More
import HandS.Walk
import HandS.Ends
import HandS.RaiseMore
import HandS.Conv
import HandS.ExcInit
import KE.KExcSuper
import HandS.ExcSuper
import HandS.ExcField
import KE.KExcLine
import KE.LtSeq
import PySem.Challenge.RW_chance_k09_draws_of_a_tape
set_option Elab.async false
set_option linter.all false
set_option maxRecDepth 100000
set_option maxHeartbeats 4000000
/-! The data layer: values as data, a store of mutable objects, functions on them; what a reading of the hand layer says of them. -/
namespace Dl
open PySem PySem.Spec PyProof.Rows L2

/-- a value: plain data, a mutable object by its place in the store, or a tuple in which such stand -/
inductive D where
  | p (x : PyData)
  | ref (k : Nat)
  | bag (xs : List D)
  | ro (xs : List PyData)
inductive O where
  | lst (xs : List D)
  | ins (c : Nat) (fs : List (Str × D))
abbrev Sto := List O
abbrev En := List (Option D)

inductive R (α : Type) where
  | ok (a : α) (s : Sto)
  | ex (c : Nat) (x : PyData) (s : Sto)
  | bad
def R.bind {α β : Type} (r : R α) (f : α → Sto → R β) : R β :=
  match r with
  | .ok a s => f a s
  | .ex c x s => .ex c x s
  | .bad => .bad
@[simp] theorem R.bind_ok {α β : Type} (a : α) (s : Sto) (f : α → Sto → R β) : R.bind (.ok a s) f = f a s := id rfl
@[simp] theorem R.bind_ex {α β : Type} (c : Nat) (x : PyData) (s : Sto) (f : α → Sto → R β) : R.bind (.ex c x s) f = .ex c x s := id rfl
@[simp] theorem R.bind_bad {α β : Type} (f : α → Sto → R β) : R.bind .bad f = .bad := id rfl

abbrev EV := En → Sto → R D
abbrev TV := En → Sto → R Bool
abbrev AV := En → Sto → R (List D)
inductive RS where
  | nx (e : En) (s : Sto)
  | rt (d : D) (s : Sto)
  | bk (e : En) (s : Sto)
  | ct (e : En) (s : Sto)
  | ex (c : Nat) (x : PyData) (e : En) (s : Sto)
  | bad
abbrev SV := En → Sto → RS

/-! ### worlds -/
structure Wd where
  mu : List Addr
  fz : Addr → Prop
  pr : Addr → Prop
  H : Hp

/-- a list that nobody writes any more -/
def FzL (w : Wd) (a : Addr) (vs : List V) : Prop := w.H a = some (.lst vs) ∧ w.fz a
/-- a list that may be read only -/
def SqR (K : PySem.W.Frag) (H : Hp) (a : Addr) (vs : List V) : Prop := (∃ o, H a = some (.frz o (.lst vs))) ∨
    ∃ (o : Obj) (its : Array Value) (n : Nat), K.lookup a = some o ∧ o.cls = .type "list" ∧ o.dict = none ∧ o.data = .seq its n ∧ its.size ≤ sizeLine ∧ Vals vs its.toList
theorem SqR.sq {K : PySem.W.Frag} {H : Hp} {a : Addr} {vs : List V} (h : SqR K H a vs) : SqL K H a vs := by
  rcases h with ⟨o, h⟩ | h
  · exact .inl (.inr ⟨o, h⟩)
  · exact .inr h
theorem FzL.sq {K : PySem.W.Frag} {w : Wd} {a : Addr} {vs : List V} (h : FzL w a vs) : SqL K w.H a vs := .inl (.inl h.1)

mutual
def RP (K : PySem.W.Frag) (w : Wd) : PyData → V → Prop
  | .none, v => v = .non
  | .bool b, v => v = .bl b
  | .int i, v => v = .int i
  | .str x, v => v = .str x
  | .tuple xs, v => ∃ a vs, v = .ref a ∧ SqT K w.H a vs ∧ RPs K w xs vs
  | .list xs, v => ∃ a vs, v = .ref a ∧ FzL w a vs ∧ RPs K w xs vs
  | .dict kvs, v => kvs = [] ∧ ∃ a, v = .ref a ∧ w.H a = some (.dK []) ∧ w.fz a
def RPs (K : PySem.W.Frag) (w : Wd) : List PyData → List V → Prop
  | [], vs => vs = []
  | x :: xs, vs => ∃ v r, vs = v :: r ∧ RP K w x v ∧ RPs K w xs r
end
mutual
def RD (K : PySem.W.Frag) (w : Wd) : D → V → Prop
  | .p x, v => RP K w x v
  | .ref k, v => ∃ a, w.mu[k]? = some a ∧ v = .ref a
  | .bag xs, v => ∃ a vs, v = .ref a ∧ SqT K w.H a vs ∧ RDs K w xs vs
  | .ro xs, v => ∃ a vs, v = .ref a ∧ SqR K w.H a vs ∧ RPs K w xs vs
def RDs (K : PySem.W.Frag) (w : Wd) : List D → List V → Prop
  | [], vs => vs = []
  | x :: xs, vs => ∃ v r, vs = v :: r ∧ RD K w x v ∧ RDs K w xs r
end
def RF (K : PySem.W.Frag) (w : Wd) : List (Str × D) → List (Str × V) → Prop
  | [], vs => vs = []
  | (f, x) :: xs, vs => ∃ v r, vs = (f, v) :: r ∧ RD K w x v ∧ RF K w xs r

structure Ext0 (K : PySem.W.Frag) (w w' : Wd) : Prop where
  mu : ∃ ν, w'.mu = w.mu ++ ν
  sq : ∀ a xs, SqT K w.H a xs → SqT K w'.H a xs
  sr : ∀ a xs, SqR K w.H a xs → SqR K w'.H a xs
  fz : ∀ a, w.fz a → w'.fz a ∧ w'.H a = w.H a
structure Ext (K : PySem.W.Frag) (w w' : Wd) : Prop extends Ext0 K w w' where
  pr : ∀ a, w.pr a → w'.pr a ∧ w'.H a = w.H a

section
variable {K : PySem.W.Frag} {w w' w'' : Wd}
theorem Ext0.fl (e : Ext0 K w w') (a : Addr) (xs : List V) (h : FzL w a xs) : FzL w' a xs := ⟨(e.fz a h.2).2.trans h.1, (e.fz a h.2).1⟩
theorem Ext0.refl : Ext0 K w w := ⟨⟨[], by simp⟩, fun _ _ h => h, fun _ _ h => h, fun _ h => ⟨h, rfl⟩⟩
theorem Ext.refl : Ext K w w := ⟨Ext0.refl, fun _ h => ⟨h, rfl⟩⟩
theorem Ext0.trans (a : Ext0 K w w') (b : Ext0 K w' w'') : Ext0 K w w'' :=
  ⟨by
    obtain ⟨x, hx⟩ := a.mu
    obtain ⟨y, hy⟩ := b.mu
    exact ⟨x ++ y, by rw [hy, hx, List.append_assoc]⟩,
  fun c xs h => b.sq c xs (a.sq c xs h), fun c xs h => b.sr c xs (a.sr c xs h), fun c h => ⟨(b.fz c (a.fz c h).1).1, ((b.fz c (a.fz c h).1).2).trans (a.fz c h).2⟩⟩
theorem Ext.trans (a : Ext K w w') (b : Ext K w' w'') : Ext K w w'' :=
  ⟨a.toExt0.trans b.toExt0, fun c h => ⟨(b.pr c (a.pr c h).1).1, ((b.pr c (a.pr c h).1).2).trans (a.pr c h).2⟩⟩
theorem Ext0.at (e : Ext0 K w w') {k : Nat} {a : Addr} (h : w.mu[k]? = some a) : w'.mu[k]? = some a := by
  obtain ⟨ν, hν⟩ := e.mu
  obtain ⟨hk, _⟩ := List.getElem?_eq_some_iff.mp h
  rw [hν, List.getElem?_append_left hk]
  exact h
mutual
theorem RP.ext0 (e : Ext0 K w w') : ∀ (x : PyData) (v : V), RP K w x v → RP K w' x v
  | .none, _, h => h
  | .bool _, _, h => h
  | .int _, _, h => h
  | .str _, _, h => h
  | .tuple xs, _, h => by
    obtain ⟨a, vs, rfl, h1, h2⟩ := h
    exact ⟨a, vs, rfl, e.sq _ _ h1, RPs.ext0 e xs vs h2⟩
  | .list xs, _, h => by
    obtain ⟨a, vs, rfl, h1, h2⟩ := h
    exact ⟨a, vs, rfl, e.fl _ _ h1, RPs.ext0 e xs vs h2⟩
  | .dict _, _, h => by
    obtain ⟨rfl, a, rfl, h1, h2⟩ := h
    exact ⟨rfl, a, rfl, (e.fz a h2).2.trans h1, (e.fz a h2).1⟩
theorem RPs.ext0 (e : Ext0 K w w') : ∀ (xs : List PyData) (vs : List V), RPs K w xs vs → RPs K w' xs vs
  | [], _, h => h
  | x :: xs, _, h => by
    obtain ⟨v, r, rfl, h1, h2⟩ := h
    exact ⟨v, r, rfl, RP.ext0 e x v h1, RPs.ext0 e xs r h2⟩
end
mutual
theorem RD.ext0 (e : Ext0 K w w') : ∀ (x : D) (v : V), RD K w x v → RD K w' x v
  | .p x, v, h => RP.ext0 e x v h
  | .ref k, _, h => by
    obtain ⟨a, h1, rfl⟩ := h
    exact ⟨a, e.at h1, rfl⟩
  | .bag xs, _, h => by
    obtain ⟨a, vs, rfl, h1, h2⟩ := h
    exact ⟨a, vs, rfl, e.sq _ _ h1, RDs.ext0 e xs vs h2⟩
  | .ro xs, _, h => by
    obtain ⟨a, vs, rfl, h1, h2⟩ := h
    exact ⟨a, vs, rfl, e.sr _ _ h1, RPs.ext0 e xs vs h2⟩
theorem RDs.ext0 (e : Ext0 K w w') : ∀ (xs : List D) (vs : List V), RDs K w xs vs → RDs K w' xs vs
  | [], _, h => h
  | x :: xs, _, h => by
    obtain ⟨v, r, rfl, h1, h2⟩ := h
    exact ⟨v, r, rfl, RD.ext0 e x v h1, RDs.ext0 e xs r h2⟩
end
theorem RF.ext0 (e : Ext0 K w w') : ∀ (xs : List (Str × D)) (vs : List (Str × V)), RF K w xs vs → RF K w' xs vs
  | [], _, h => h
  | (f, x) :: xs, _, h => by
    obtain ⟨v, r, rfl, h1, h2⟩ := h
    exact ⟨v, r, rfl, RD.ext0 e x v h1, RF.ext0 e xs r h2⟩
theorem RP.ext (e : Ext K w w') (x : PyData) (v : V) (h : RP K w x v) : RP K w' x v := RP.ext0 e.toExt0 x v h
theorem RPs.ext (e : Ext K w w') (x : List PyData) (v : List V) (h : RPs K w x v) : RPs K w' x v := RPs.ext0 e.toExt0 x v h
theorem RD.ext (e : Ext K w w') (x : D) (v : V) (h : RD K w x v) : RD K w' x v := RD.ext0 e.toExt0 x v h
theorem RDs.ext (e : Ext K w w') (x : List D) (v : List V) (h : RDs K w x v) : RDs K w' x v := RDs.ext0 e.toExt0 x v h
theorem RF.ext (e : Ext K w w') (x : List (Str × D)) (v : List (Str × V)) (h : RF K w x v) : RF K w' x v := RF.ext0 e.toExt0 x v h
theorem RPs.length : ∀ {xs : List PyData} {vs : List V}, RPs K w xs vs → vs.length = xs.length
  | [], _, h => by
    have h : _ = [] := h
    rw [h]
    rfl
  | x :: xs, _, h => by
    obtain ⟨v, r, rfl, _, h2⟩ := h
    simp [RPs.length h2]
theorem RDs.length : ∀ {xs : List D} {vs : List V}, RDs K w xs vs → vs.length = xs.length
  | [], _, h => by
    have h : _ = [] := h
    rw [h]
    rfl
  | x :: xs, _, h => by
    obtain ⟨v, r, rfl, _, h2⟩ := h
    simp [RDs.length h2]
theorem RPs.get : ∀ {xs : List PyData} {vs : List V} {i : Nat} {x : PyData}, RPs K w xs vs → xs[i]? = some x → ∃ v, vs[i]? = some v ∧ RP K w x v
  | [], _, _, _, _, e => by simp at e
  | y :: xs, _, 0, x, h, e => by
    obtain ⟨v, r, rfl, h1, _⟩ := h
    simp at e
    subst e
    exact ⟨v, rfl, h1⟩
  | y :: xs, _, i + 1, x, h, e => by
    obtain ⟨v, r, rfl, _, h2⟩ := h
    obtain ⟨u, e1, e2⟩ := RPs.get (i := i) (x := x) h2 (by simpa using e)
    exact ⟨u, by simpa using e1, e2⟩
theorem RDs.get : ∀ {xs : List D} {vs : List V} {i : Nat} {x : D}, RDs K w xs vs → xs[i]? = some x → ∃ v, vs[i]? = some v ∧ RD K w x v
  | [], _, _, _, _, e => by simp at e
  | y :: xs, _, 0, x, h, e => by
    obtain ⟨v, r, rfl, h1, _⟩ := h
    simp at e
    subst e
    exact ⟨v, rfl, h1⟩
  | y :: xs, _, i + 1, x, h, e => by
    obtain ⟨v, r, rfl, _, h2⟩ := h
    obtain ⟨u, e1, e2⟩ := RDs.get (i := i) (x := x) h2 (by simpa using e)
    exact ⟨u, by simpa using e1, e2⟩
theorem RDs.append : ∀ {xs : List D} {vs : List V} {ys : List D} {us : List V}, RDs K w xs vs → RDs K w ys us → RDs K w (xs ++ ys) (vs ++ us)
  | [], _, _, _, h, g => by
    have h : _ = [] := h
    rw [h]
    exact g
  | x :: xs, _, _, _, h, g => by
    obtain ⟨v, r, rfl, h1, h2⟩ := h
    exact ⟨v, r ++ _, rfl, h1, RDs.append h2 g⟩
theorem RPs.append : ∀ {xs : List PyData} {vs : List V} {ys : List PyData} {us : List V}, RPs K w xs vs → RPs K w ys us → RPs K w (xs ++ ys) (vs ++ us)
  | [], _, _, _, h, g => by
    have h : _ = [] := h
    rw [h]
    exact g
  | x :: xs, _, _, _, h, g => by
    obtain ⟨v, r, rfl, h1, h2⟩ := h
    exact ⟨v, r ++ _, rfl, h1, RPs.append h2 g⟩
theorem RDs.set {x : D} {v : V} (hx : RD K w x v) : ∀ {xs : List D} {vs : List V} (i : Nat), RDs K w xs vs → RDs K w (xs.set i x) (vs.set i v)
  | [], _, _, h => by
    have h : _ = [] := h
    rw [h]
    rfl
  | y :: xs, _, 0, h => by
    obtain ⟨u, r, rfl, _, h2⟩ := h
    exact ⟨v, r, rfl, hx, h2⟩
  | y :: xs, _, i + 1, h => by
    obtain ⟨u, r, rfl, h1, h2⟩ := h
    exact ⟨u, r.set i v, rfl, h1, RDs.set hx i h2⟩
theorem RDs.take : ∀ {xs : List D} {vs : List V} (i : Nat), RDs K w xs vs → RDs K w (xs.take i) (vs.take i)
  | [], _, i, h => by
    have h : _ = [] := h
    rw [h]
    simp [RDs]
  | y :: xs, _, 0, h => by simp [RDs]
  | y :: xs, _, i + 1, h => by
    obtain ⟨u, r, rfl, h1, h2⟩ := h
    exact ⟨u, r.take i, rfl, h1, RDs.take i h2⟩
theorem RDs.drop : ∀ {xs : List D} {vs : List V} (i : Nat), RDs K w xs vs → RDs K w (xs.drop i) (vs.drop i)
  | [], _, i, h => by
    have h : _ = [] := h
    rw [h]
    simp [RDs]
  | y :: xs, _, 0, h => h
  | y :: xs, _, i + 1, h => by
    obtain ⟨u, r, rfl, h1, h2⟩ := h
    exact RDs.drop i h2
theorem RPs.take : ∀ {xs : List PyData} {vs : List V} (i : Nat), RPs K w xs vs → RPs K w (xs.take i) (vs.take i)
  | [], _, i, h => by
    have h : _ = [] := h
    rw [h]
    simp [RPs]
  | y :: xs, _, 0, h => by simp [RPs]
  | y :: xs, _, i + 1, h => by
    obtain ⟨u, r, rfl, h1, h2⟩ := h
    exact ⟨u, r.take i, rfl, h1, RPs.take i h2⟩
theorem RPs.drop : ∀ {xs : List PyData} {vs : List V} (i : Nat), RPs K w xs vs → RPs K w (xs.drop i) (vs.drop i)
  | [], _, i, h => by
    have h : _ = [] := h
    rw [h]
    simp [RPs]
  | y :: xs, _, 0, h => h
  | y :: xs, _, i + 1, h => by
    obtain ⟨u, r, rfl, h1, h2⟩ := h
    exact RPs.drop i h2
theorem RPs.reverse : ∀ {xs : List PyData} {vs : List V}, RPs K w xs vs → RPs K w xs.reverse vs.reverse
  | [], _, h => by
    have h : _ = [] := h
    rw [h]
    rfl
  | x :: xs, _, h => by
    obtain ⟨v, r, rfl, h1, h2⟩ := h
    rw [List.reverse_cons, List.reverse_cons]
    exact RPs.append (RPs.reverse h2) ⟨v, [], rfl, h1, rfl⟩
theorem RPs.toD : ∀ {xs : List PyData} {vs : List V}, RPs K w xs vs → RDs K w (xs.map D.p) vs
  | [], _, h => h
  | x :: xs, _, h => by
    obtain ⟨v, r, rfl, h1, h2⟩ := h
    exact ⟨v, r, rfl, h1, RPs.toD h2⟩

/-- all are plain data -/
def allP : List D → Option (List PyData)
  | [] => some []
  | .p x :: r => (allP r).map fun l => x :: l
  | _ :: _ => none
@[simp] theorem allP_nil : allP [] = some [] := rfl
@[simp] theorem allP_p (x : PyData) (r : List D) : allP (.p x :: r) = (allP r).map fun l => x :: l := rfl
@[simp] theorem allP_ref (k : Nat) (r : List D) : allP (.ref k :: r) = none := rfl
@[simp] theorem allP_ro (xs : List PyData) (r : List D) : allP (.ro xs :: r) = none := rfl
@[simp] theorem allP_bag (xs : List D) (r : List D) : allP (.bag xs :: r) = none := rfl
@[simp] theorem allP_map (xs : List PyData) : allP (xs.map D.p) = some xs := by
  induction xs with
  | nil => rfl
  | cons x r ih => simp [ih]
theorem allP_some : ∀ {ds : List D} {xs : List PyData}, allP ds = some xs → ds = xs.map D.p
  | [], xs, h => by
    simp at h
    subst h
    rfl
  | .p x :: r, xs, h => by
    rw [allP_p] at h
    cases q : allP r with
    | none => rw [q] at h; cases h
    | some l =>
      rw [q] at h
      cases h
      rw [allP_some q]
      rfl
  | .ref _ :: _, _, h => by simp at h
  | .bag _ :: _, _, h => by simp at h
  | .ro _ :: _, _, h => by simp at h
theorem RDs.toP : ∀ {xs : List PyData} {vs : List V}, RDs K w (xs.map D.p) vs → RPs K w xs vs
  | [], _, h => h
  | x :: xs, _, h => by
    obtain ⟨v, r, rfl, h1, h2⟩ := h
    exact ⟨v, r, rfl, h1, RDs.toP h2⟩
/-- a tuple of such -/
def mkT (ds : List D) : D := match allP ds with
  | some xs => .p (.tuple xs)
  | none => .bag ds
theorem RD.mkT {ds : List D} {a : Addr} {vs : List V} (h : SqT K w.H a vs) (r : RDs K w ds vs) : RD K w (mkT ds) (.ref a) := by
  unfold Dl.mkT
  cases q : allP ds with
  | none => exact ⟨a, vs, rfl, h, r⟩
  | some xs =>
    rw [allP_some q] at r
    exact ⟨a, vs, rfl, h, r.toP⟩
end

/-! ### the store and the heap -/
def RO (K : PySem.W.Frag) (CT : Nat → Addr) (w : Wd) (a : Addr) : O → Prop
  | .lst ds => ∃ vs, w.H a = some (.lst vs) ∧ RDs K w ds vs
  | .ins c fs => ∃ dx vs, w.H a = some (.ins (CT c) dx vs) ∧ RF K w fs vs
structure Sim (K : PySem.W.Frag) (CT : Nat → Addr) (w : Wd) (s : Sto) : Prop where
  len : w.mu.length = s.length
  nd : w.mu.Nodup
  dj : ∀ a ∈ w.mu, ¬ w.fz a ∧ ¬ w.pr a
  fz : ∀ a, w.fz a → ∃ u, w.H a = some u
  fp : ∀ a, w.fz a → ¬ w.pr a
  pr : ∀ a, w.pr a → ∃ u, w.H a = some u
  ob : ∀ (k : Nat) (o : O), s[k]? = some o → ∃ a, w.mu[k]? = some a ∧ RO K CT w a o
/-- the slots -/
structure RE (K : PySem.W.Frag) (w : Wd) (e : En) (σ : L2.St) : Prop where
  len : e.length = σ.length
  at' : ∀ (i : Nat) (d : D), e[i]? = some (some d) → ∃ v, σ[i]? = some (some v) ∧ RD K w d v

section
variable {K : PySem.W.Frag} {CT : Nat → Addr} {w w' : Wd} {s : Sto} {e : En} {σ : L2.St}
theorem RE.ext0 (r : RE K w e σ) (x : Ext0 K w w') : RE K w' e σ := ⟨r.len, fun i d h => by
  obtain ⟨v, h1, h2⟩ := r.at' i d h
  exact ⟨v, h1, RD.ext0 x d v h2⟩⟩
theorem RE.ext (r : RE K w e σ) (x : Ext K w w') : RE K w' e σ := r.ext0 x.toExt0
theorem RE.set (r : RE K w e σ) (i : Nat) {d : D} {v : V} (h : RD K w d v) : RE K w (e.set i (some d)) (σ.set i (some v)) := ⟨by simp [r.len], fun j d' hj => by
  by_cases hij : i = j
  · subst hij
    have hi : i < e.length := by
      obtain ⟨hl, _⟩ := List.getElem?_eq_some_iff.mp hj
      simpa using hl
    rw [List.getElem?_set_self hi] at hj
    cases hj
    refine ⟨v, ?_, h⟩
    rw [List.getElem?_set_self (by rw [← r.len]; exact hi)]
  · rw [List.getElem?_set_ne hij] at hj
    obtain ⟨u, h1, h2⟩ := r.at' j d' hj
    exact ⟨u, by rw [List.getElem?_set_ne hij]; exact h1, h2⟩⟩
theorem RO.ext (x : Ext0 K w w') {a : Addr} {o : O} (h : RO K CT w a o) (hH : w'.H a = w.H a) : RO K CT w' a o := by
  cases o with
  | lst ds =>
    obtain ⟨vs, h1, h2⟩ := h
    exact ⟨vs, by rw [hH]; exact h1, RDs.ext0 x _ _ h2⟩
  | ins c fs =>
    obtain ⟨dx, vs, h1, h2⟩ := h
    exact ⟨dx, vs, by rw [hH]; exact h1, RF.ext0 x _ _ h2⟩

/-- a new object that is no object of the store: a tuple, a list that stays -/
theorem Ext.fresh {p : Addr} {o : HO} {mu' : List Addr} {fz' pr' : Addr → Prop} (hp : w.H p = none) (hm : ∃ ν, mu' = w.mu ++ ν) (hf : ∀ a, w.fz a → fz' a) (hr : ∀ a, w.pr a → pr' a) (hfz : ∀ a, w.fz a → ∃ u, w.H a = some u) (hpr : ∀ a, w.pr a → ∃ u, w.H a = some u) : Ext K w ⟨mu', fz', pr', upd w.H p o⟩ where
  mu := hm
  sq := fun a xs h => by
    rcases h with (h | ⟨ob, h⟩) | h
    · exact .inl (.inl (by show upd w.H p o a = _; rw [upd_ne (ne_of_none h hp)]; exact h))
    · exact .inl (.inr ⟨ob, by show upd w.H p o a = _; rw [upd_ne (ne_of_none h hp)]; exact h⟩)
    · exact .inr h
  sr := fun a xs h => by
    rcases h with ⟨ob, h⟩ | h
    · exact .inl ⟨ob, by show upd w.H p o a = _; rw [upd_ne (ne_of_none h hp)]; exact h⟩
    · exact .inr h
  fz := fun a h => ⟨hf a h, by
    obtain ⟨u, hu⟩ := hfz a h
    show upd w.H p o a = _
    rw [upd_ne (ne_of_none hu hp)]⟩
  pr := fun a h => ⟨hr a h, by
    obtain ⟨u, hu⟩ := hpr a h
    show upd w.H p o a = _
    rw [upd_ne (ne_of_none hu hp)]⟩
theorem Sim.at (m : Sim K CT w s) {k : Nat} {o : O} (h : s[k]? = some o) : ∃ a, w.mu[k]? = some a ∧ RO K CT w a o := m.ob k o h
theorem RO.some {a : Addr} {o : O} (h : RO K CT w a o) : ∃ u, w.H a = some u := by
  cases o with
  | lst ds => exact ⟨_, h.choose_spec.1⟩
  | ins c fs =>
    obtain ⟨dx, vs, h1, _⟩ := h
    exact ⟨_, h1⟩
theorem Sim.free (m : Sim K CT w s) {p : Addr} (hp : w.H p = none) : p ∉ w.mu := fun hm => by
  obtain ⟨k, hk⟩ := List.getElem?_of_mem hm
  have hl : k < s.length := by
    obtain ⟨h, _⟩ := List.getElem?_eq_some_iff.mp hk
    rw [← m.len]
    exact h
  obtain ⟨a, h1, h2⟩ := m.ob k s[k] (List.getElem?_eq_getElem hl)
  rw [hk] at h1
  cases h1
  obtain ⟨u, hu⟩ := h2.some
  rw [hp] at hu
  cases hu
theorem Sim.freeF (m : Sim K CT w s) {p : Addr} (hp : w.H p = none) : ¬ w.fz p := fun hm => by
  obtain ⟨vs, hv⟩ := m.fz p hm
  rw [hp] at hv
  cases hv
theorem Sim.freeP (m : Sim K CT w s) {p : Addr} (hp : w.H p = none) : ¬ w.pr p := fun hm => by
  obtain ⟨vs, hv⟩ := m.pr p hm
  rw [hp] at hv
  cases hv
/-- a tuple is made (or any object that the store does not name) -/
theorem Sim.extT (m : Sim K CT w s) {p : Addr} {o : HO} (hp : w.H p = none) : Ext K w { w with H := upd w.H p o } := Ext.fresh hp ⟨[], by simp⟩ (fun _ h => h) (fun _ h => h) m.fz m.pr
theorem Sim.newT (m : Sim K CT w s) {p : Addr} {o : HO} (hp : w.H p = none) : Sim K CT { w with H := upd w.H p o } s where
  len := m.len
  nd := m.nd
  dj := m.dj
  fz := fun a h => by
    obtain ⟨vs, hv⟩ := m.fz a h
    exact ⟨vs, by show upd w.H p o a = _; rw [upd_ne (ne_of_none hv hp)]; exact hv⟩
  fp := m.fp
  pr := fun a h => by
    obtain ⟨vs, hv⟩ := m.pr a h
    exact ⟨vs, by show upd w.H p o a = _; rw [upd_ne (ne_of_none hv hp)]; exact hv⟩
  ob := fun k ob h => by
    obtain ⟨a, h1, h2⟩ := m.ob k ob h
    obtain ⟨u, hu⟩ := h2.some
    exact ⟨a, h1, h2.ext (m.extT hp).toExt0 (by show upd w.H p o a = _; rw [upd_ne (ne_of_none hu hp)])⟩
/-- a list that stays is made -/
abbrev Wd.addF (w : Wd) (p : Addr) (vs : List V) : Wd := { w with H := upd w.H p (.lst vs), fz := fun a => w.fz a ∨ a = p }
theorem Sim.extF (m : Sim K CT w s) {p : Addr} {vs : List V} (hp : w.H p = none) : Ext K w (w.addF p vs) := Ext.fresh hp ⟨[], by simp⟩ (fun _ h => .inl h) (fun _ h => h) m.fz m.pr
theorem Sim.newF (m : Sim K CT w s) {p : Addr} {vs : List V} (hp : w.H p = none) : Sim K CT (w.addF p vs) s where
  len := m.len
  nd := m.nd
  dj := fun a ha => ⟨fun h => by
    rcases h with h | h
    · exact (m.dj a ha).1 h
    · subst h
      exact m.free hp ha, (m.dj a ha).2⟩
  fz := fun a h => by
    rcases h with h | h
    · obtain ⟨us, hv⟩ := m.fz a h
      exact ⟨us, by show upd w.H p _ a = _; rw [upd_ne (ne_of_none hv hp)]; exact hv⟩
    · subst h
      exact ⟨_, upd_same⟩
  fp := fun a h => by
    rcases h with h | h
    · exact m.fp a h
    · subst h
      exact m.freeP hp
  pr := fun a h => by
    obtain ⟨us, hv⟩ := m.pr a h
    exact ⟨us, by show upd w.H p _ a = _; rw [upd_ne (ne_of_none hv hp)]; exact hv⟩
  ob := fun k ob h => by
    obtain ⟨a, h1, h2⟩ := m.ob k ob h
    obtain ⟨u, hu⟩ := h2.some
    exact ⟨a, h1, h2.ext (m.extF hp).toExt0 (by show upd w.H p _ a = _; rw [upd_ne (ne_of_none hu hp)])⟩
/-- a new object of the store -/
abbrev Wd.addO (w : Wd) (p : Addr) (u : HO) : Wd := { w with H := upd w.H p u, mu := w.mu ++ [p] }
theorem Sim.extO (m : Sim K CT w s) {p : Addr} {o : HO} (hp : w.H p = none) : Ext K w (w.addO p o) := Ext.fresh hp ⟨[p], rfl⟩ (fun _ h => h) (fun _ h => h) m.fz m.pr
theorem Sim.newO (m : Sim K CT w s) {p : Addr} {u : HO} {o : O} (hp : w.H p = none) (r : RO K CT (w.addO p u) p o) : Sim K CT (w.addO p u) (s ++ [o]) where
  len := by simp [m.len]
  nd := by
    show (w.mu ++ [p]).Nodup
    rw [List.nodup_append]
    refine ⟨m.nd, by simp, fun a ha b hb => ?_⟩
    have : b = p := by simpa using hb
    subst this
    intro e
    subst e
    exact m.free hp ha
  dj := fun a ha => by
    rcases List.mem_append.mp ha with ha | ha
    · exact m.dj a ha
    · have : a = p := by simpa using ha
      subst this
      exact ⟨m.freeF hp, m.freeP hp⟩
  fz := fun a h => by
    obtain ⟨vs, hv⟩ := m.fz a h
    exact ⟨vs, by show upd w.H p _ a = _; rw [upd_ne (ne_of_none hv hp)]; exact hv⟩
  fp := m.fp
  pr := fun a h => by
    obtain ⟨vs, hv⟩ := m.pr a h
    exact ⟨vs, by show upd w.H p _ a = _; rw [upd_ne (ne_of_none hv hp)]; exact hv⟩
  ob := fun k ob h => by
    by_cases hk : k < s.length
    · rw [List.getElem?_append_left hk] at h
      obtain ⟨a, h1, h2⟩ := m.ob k ob h
      obtain ⟨v, hu⟩ := h2.some
      exact ⟨a, by show (w.mu ++ [p])[k]? = _; rw [List.getElem?_append_left (by rw [m.len]; exact hk)]; exact h1, h2.ext (m.extO hp).toExt0 (by show upd w.H p _ a = _; rw [upd_ne (ne_of_none hu hp)])⟩
    · have hk2 : k = s.length := by
        obtain ⟨hl, _⟩ := List.getElem?_eq_some_iff.mp h
        rw [List.length_append, List.length_singleton] at hl
        omega
      subst hk2
      rw [List.getElem?_append_right (Nat.le_refl _)] at h
      simp at h
      subst h
      exact ⟨p, by show (w.mu ++ [p])[s.length]? = _; rw [← m.len]; simp, r⟩
/-- an object of the store, or a list in the making, changes -/
theorem Ext.write {a : Addr} {u u' : HO} (h : w.H a = some u) (nz : ¬ w.fz a) (np : ¬ w.pr a) (nt : ∀ xs, u ≠ .tup xs) (nf : ∀ o x, u ≠ .frz o x) : Ext K w { w with H := upd w.H a u' } where
  mu := ⟨[], by simp⟩
  sq := fun b xs q => by
    have step : ∀ z, w.H b = some z → z ≠ u → upd w.H a u' b = some z := fun z hz ne => by
      rw [upd_ne]
      · exact hz
      · rintro rfl
        rw [h] at hz
        cases hz
        exact ne rfl
    rcases q with (q | ⟨ob, q⟩) | q
    · exact .inl (.inl (step _ q fun z => nt _ z.symm))
    · exact .inl (.inr ⟨ob, step _ q fun z => nf _ _ z.symm⟩)
    · exact .inr q
  sr := fun b xs q => by
    rcases q with ⟨ob, q⟩ | q
    · refine .inl ⟨ob, ?_⟩
      show upd w.H a u' b = _
      rw [upd_ne]
      · exact q
      · rintro rfl
        rw [h] at q
        cases q
        exact nf _ _ rfl
    · exact .inr q
  fz := fun b q => ⟨q, by
    show upd w.H a u' b = _
    rw [upd_ne]
    rintro rfl
    exact nz q⟩
  pr := fun b q => ⟨q, by
    show upd w.H a u' b = _
    rw [upd_ne]
    rintro rfl
    exact np q⟩
theorem Sim.extW (m : Sim K CT w s) {k : Nat} {a : Addr} {u u' : HO} (hk : w.mu[k]? = some a) (h : w.H a = some u) (nt : ∀ xs, u ≠ .tup xs) (nf : ∀ o x, u ≠ .frz o x) : Ext K w { w with H := upd w.H a u' } :=
  Ext.write h (m.dj a (List.mem_of_getElem? hk)).1 (m.dj a (List.mem_of_getElem? hk)).2 nt nf
theorem Sim.write (m : Sim K CT w s) {k : Nat} {a : Addr} {u u' : HO} {o : O} (hk : w.mu[k]? = some a) (h : w.H a = some u) (nt : ∀ xs, u ≠ .tup xs) (nf : ∀ o x, u ≠ .frz o x) (r : RO K CT { w with H := upd w.H a u' } a o) : Sim K CT { w with H := upd w.H a u' } (s.set k o) where
  len := by simp [m.len]
  nd := m.nd
  dj := m.dj
  fz := fun b hb => by
    obtain ⟨vs, hv⟩ := m.fz b hb
    refine ⟨vs, ?_⟩
    show upd w.H a u' b = _
    rw [upd_ne]
    · exact hv
    · rintro rfl
      exact (m.dj _ (List.mem_of_getElem? hk)).1 hb
  fp := m.fp
  pr := fun b hb => by
    obtain ⟨vs, hv⟩ := m.pr b hb
    refine ⟨vs, ?_⟩
    show upd w.H a u' b = _
    rw [upd_ne]
    · exact hv
    · rintro rfl
      exact (m.dj _ (List.mem_of_getElem? hk)).2 hb
  ob := fun j ob hj => by
    by_cases e : k = j
    · subst e
      have hl : k < s.length := by
        obtain ⟨hl, _⟩ := List.getElem?_eq_some_iff.mp hj
        simpa using hl
      rw [List.getElem?_set_self hl] at hj
      cases hj
      exact ⟨a, hk, r⟩
    · rw [List.getElem?_set_ne e] at hj
      obtain ⟨b, h1, h2⟩ := m.ob j ob hj
      refine ⟨b, h1, h2.ext (m.extW hk h nt nf).toExt0 ?_⟩
      show upd w.H a u' b = _
      rw [upd_ne]
      rintro rfl
      refine e ?_
      obtain ⟨l1, e1⟩ := List.getElem?_eq_some_iff.mp hk
      obtain ⟨l2, e2⟩ := List.getElem?_eq_some_iff.mp h1
      exact (List.getElem_inj m.nd).mp (e1.trans e2.symm)
end

/-! ### what an evaluation yields -/
abbrev XW := Nat → PyData → L2.St → Sto → Wd → Prop
def Ok {α : Type} (K : PySem.W.Frag) (CT : Nat → Addr) (W : Nat → PyData → Sto → Wd → Prop) (w : Wd) (r : R α) (k : α → Sto → Wd → Prop) : Prop :=
  match r with
  | .ok a s' => ∀ w', Ext K w w' → Sim K CT w' s' → k a s' w'
  | .ex c x s' => ∀ w', Ext K w w' → Sim K CT w' s' → W c x s' w'
  | .bad => False
section
variable {K : PySem.W.Frag} {CT : Nat → Addr} {W : Nat → PyData → Sto → Wd → Prop} {w w' : Wd} {s : Sto} {α β : Type}
theorem Ok.ext {r : R α} {k : α → Sto → Wd → Prop} (x : Ext K w w') (h : Ok K CT W w r k) : Ok K CT W w' r k := by
  cases r with
  | ok a s' => exact fun w2 e2 m2 => h w2 (x.trans e2) m2
  | ex c y s' => exact fun w2 e2 m2 => h w2 (x.trans e2) m2
  | bad => exact h
theorem Ok.imp {r : R α} {k k' : α → Sto → Wd → Prop} (h : Ok K CT W w r k) (i : ∀ a s' w', Ext K w w' → Sim K CT w' s' → k a s' w' → k' a s' w') : Ok K CT W w r k' := by
  cases r with
  | ok a s' => exact fun w2 e2 m2 => i a s' w2 e2 m2 (h w2 e2 m2)
  | ex c y s' => exact h
  | bad => exact h
theorem Ok.bind {r : R α} {f : α → Sto → R β} {k : β → Sto → Wd → Prop} (h : Ok K CT W w (r.bind f) k) : Ok K CT W w r fun a s' w' => Ext K w w' ∧ Sim K CT w' s' ∧ Ok K CT W w' (f a s') k := by
  cases r with
  | ok a s' => exact fun w2 e2 m2 => ⟨e2, m2, Ok.ext e2 h⟩
  | ex c y s' => exact h
  | bad => exact h
theorem Ok.get {a : α} {s' : Sto} {k : α → Sto → Wd → Prop} (h : Ok K CT W w (.ok a s') k) (x : Ext K w w') (m : Sim K CT w' s') : k a s' w' := h w' x m
end

/-- the reading of an expression that yields what f says -/
def tD (K : PySem.W.Frag) (CT : Nat → Addr) (W : XW) (f : EV) : TE := fun σ H Q => ∃ w s e, w.H = H ∧ Sim K CT w s ∧ RE K w e σ ∧ Ok K CT (fun c x s' w' => W c x σ s' w') w (f e s) fun d s' w' => ∀ v, RD K w' d v → Q v w'.H
def tDT (K : PySem.W.Frag) (CT : Nat → Addr) (W : XW) (f : TV) : TT := fun σ H Q => ∃ w s e, w.H = H ∧ Sim K CT w s ∧ RE K w e σ ∧ Ok K CT (fun c x s' w' => W c x σ s' w') w (f e s) fun b s' w' => Q b w'.H
def tDA (K : PySem.W.Frag) (CT : Nat → Addr) (W : XW) (f : AV) : TA := fun σ H Q => ∃ w s e, w.H = H ∧ Sim K CT w s ∧ RE K w e σ ∧ Ok K CT (fun c x s' w' => W c x σ s' w') w (f e s) fun ds s' w' => ∀ vs, RDs K w' ds vs → Q vs w'.H
def OkS (K : PySem.W.Frag) (CT : Nat → Addr) (W : XW) (w : Wd) (r : RS) (D : Ends) : Prop :=
  match r with
  | .nx e s => ∀ w' σ, Ext K w w' → Sim K CT w' s → RE K w' e σ → D.nx σ w'.H
  | .bk e s => ∀ w' σ, Ext K w w' → Sim K CT w' s → RE K w' e σ → D.bk σ w'.H
  | .ct e s => ∀ w' σ, Ext K w w' → Sim K CT w' s → RE K w' e σ → D.ct σ w'.H
  | .rt d s => ∀ w' v, Ext K w w' → Sim K CT w' s → RD K w' d v → D.rt v w'.H
  | .ex c x e s => ∀ w' σ, Ext K w w' → Sim K CT w' s → RE K w' e σ → W c x σ s w'
  | .bad => False
def tDS (K : PySem.W.Frag) (CT : Nat → Addr) (W : XW) (f : SV) : TS := fun D σ H => ∃ w s e, w.H = H ∧ Sim K CT w s ∧ RE K w e σ ∧ OkS K CT W w (f e s) D

abbrev PD (X : Cx) (CT : Nat → Addr) (W : XW) (e : Expr) (f : EV) : Prop := PE X e (tD X.K CT W f)
abbrev PDT (X : Cx) (CT : Nat → Addr) (W : XW) (e : Expr) (f : TV) : Prop := PT X e (tDT X.K CT W f)
abbrev PDA (X : Cx) (CT : Nat → Addr) (W : XW) (es : List Expr) (f : AV) : Prop := PA X es (tDA X.K CT W f)
abbrev PDS (X : Cx) (CT : Nat → Addr) (W : XW) (st : Stmt) (f : SV) : Prop := PS X st (tDS X.K CT W f)
abbrev PDB (X : Cx) (CT : Nat → Addr) (W : XW) (st : List Stmt) (f : SV) : Prop := PSs X st (tDS X.K CT W f)
end Dl

namespace L2
open PySem PySem.Spec PyProof.Rows
section
variable {X : Cx}
theorem PE.imp {e : Expr} {t t' : TE} (h : PE X e t) (i : ∀ σ H Q, t' σ H Q → t σ H Q) : PE X e t' := ⟨fun pins s σ H Q I h' => h.run pins s σ H Q I (i _ _ _ h')⟩
theorem PT.imp {e : Expr} {t t' : TT} (h : PT X e t) (i : ∀ σ H Q, t' σ H Q → t σ H Q) : PT X e t' := ⟨fun pins s σ H Q I h' => h.run pins s σ H Q I (i _ _ _ h')⟩
theorem PW.imp {e : Expr} {t t' : TT} (h : PW X e t) (i : ∀ σ H Q, t' σ H Q → t σ H Q) : PW X e t' := ⟨fun wh pins s σ H Q I h' => h.run wh pins s σ H Q I (i _ _ _ h')⟩
theorem PA.imp {es : List Expr} {t t' : TA} (h : PA X es t) (i : ∀ σ H Q, t' σ H Q → t σ H Q) : PA X es t' := ⟨fun pos pins s σ H Q I h' => h.run pos pins s σ H Q I (i _ _ _ h')⟩
theorem PS.imp {st : Stmt} {t t' : TS} (h : PS X st t) (i : ∀ D σ H, t' D σ H → t D σ H) : PS X st t' := ⟨fun pins s σ H D I h' => h.run pins s σ H D I (i _ _ _ h')⟩
theorem PSs.imp {st : List Stmt} {t t' : TS} (h : PSs X st t) (i : ∀ D σ H, t' D σ H → t D σ H) : PSs X st t' := ⟨fun pins s σ H D I h' => h.run pins s σ H D I (i _ _ _ h')⟩
end
end L2
/-! The data layer: expressions. -/
namespace Dl
open PySem PySem.Spec PyProof.Rows L2

/-! ### lists and tuples as they are read -/
def asM (s : Sto) : D → Option (List D)
  | .p (.list xs) => some (xs.map D.p)
  | .ref k => match s[k]? with
    | some (.lst ds) => some ds
    | _ => none
  | _ => none
def asL (s : Sto) : D → Option (List D)
  | .ro xs => some (xs.map D.p)
  | d => asM s d
def asT : D → Option (List D)
  | .p (.tuple xs) => some (xs.map D.p)
  | .bag xs => some xs
  | _ => none
section
variable {K : PySem.W.Frag} {CT : Nat → Addr} {W : Nat → PyData → Sto → Wd → Prop} {w : Wd} {s : Sto} {d : D} {v : V} {ds : List D}
theorem asM_rep (m : Sim K CT w s) (r : RD K w d v) (h : asM s d = some ds) : ∃ a vs, v = .ref a ∧ w.H a = some (.lst vs) ∧ RDs K w ds vs := by
  cases d with
  | p x =>
    cases x <;> try (cases h; done)
    obtain ⟨a, vs, rfl, h1, h2⟩ := r
    cases h
    exact ⟨a, vs, rfl, h1.1, h2.toD⟩
  | ref k =>
    obtain ⟨a, h1, rfl⟩ := r
    have h : (match s[k]? with | some (.lst ds) => some ds | _ => none) = some ds := h
    cases q : s[k]? with
    | none => rw [q] at h; cases h
    | some o =>
      rw [q] at h
      cases o with
      | ins c fs => cases h
      | lst es =>
        cases h
        obtain ⟨b, h2, vs, h3, h4⟩ := m.ob k _ q
        rw [h1] at h2
        cases h2
        exact ⟨a, vs, rfl, h3, h4⟩
  | bag xs => cases h
  | ro xs => cases h
theorem asL_rep (m : Sim K CT w s) (r : RD K w d v) (h : asL s d = some ds) : ∃ a vs, v = .ref a ∧ SqL K w.H a vs ∧ RDs K w ds vs := by
  cases d with
  | ro xs =>
    obtain ⟨a, vs, rfl, h1, h2⟩ := r
    cases h
    exact ⟨a, vs, rfl, h1.sq, h2.toD⟩
  | p x =>
    obtain ⟨a, vs, rfl, h1, h2⟩ := asM_rep m r h
    exact ⟨a, vs, rfl, .of h1, h2⟩
  | ref k =>
    obtain ⟨a, vs, rfl, h1, h2⟩ := asM_rep m r h
    exact ⟨a, vs, rfl, .of h1, h2⟩
  | bag xs => cases h
theorem asT_rep (r : RD K w d v) (h : asT d = some ds) : ∃ a vs, v = .ref a ∧ SqT K w.H a vs ∧ RDs K w ds vs := by
  cases d with
  | p x =>
    cases x <;> try (cases h; done)
    obtain ⟨a, vs, rfl, h1, h2⟩ := r
    cases h
    exact ⟨a, vs, rfl, h1, h2.toD⟩
  | bag xs =>
    obtain ⟨a, vs, rfl, h1, h2⟩ := r
    cases h
    exact ⟨a, vs, rfl, h1, h2⟩
  | ref k => cases h
  | ro xs => cases h

/-- a list is made: h, an object of the store; else one that stays, if its items are plain data -/
def newL (h : Bool) (ds : List D) (s : Sto) : R D :=
  if h then .ok (.ref s.length) (s ++ [.lst ds]) else
  match allP ds with
  | some xs => .ok (.p (.list xs)) s
  | none => .ok (.ref s.length) (s ++ [.lst ds])
theorem newL_ok {h : Bool} {p : Addr} {vs : List V} {Q : VK} (m : Sim K CT w s) (hp : w.H p = none) (r : RDs K w ds vs) (q : Ok K CT W w (newL h ds s) fun d s' w' => ∀ v, RD K w' d v → Q v w'.H) : Q (.ref p) (upd w.H p (.lst vs)) := by
  have asO : Ok K CT W w (.ok (.ref s.length) (s ++ [.lst ds])) (fun d s' w' => ∀ v, RD K w' d v → Q v w'.H) → Q (.ref p) (upd w.H p (.lst vs)) := fun q => by
    have x := m.extO (o := .lst vs) hp
    refine q.get x (m.newO hp ⟨vs, upd_same, RDs.ext x _ _ r⟩) (.ref p) ⟨p, ?_, rfl⟩
    show (w.mu ++ [p])[s.length]? = _
    rw [← m.len]
    simp
  unfold newL at q
  cases h with
  | true => exact asO q
  | false =>
    cases e : allP ds with
    | none =>
      rw [e] at q
      exact asO q
    | some xs =>
      rw [e] at q
      have x := m.extF (vs := vs) hp
      have r2 : RDs K w (xs.map D.p) vs := by rw [← allP_some e]; exact r
      exact q.get x (m.newF hp) (.ref p) ⟨p, vs, rfl, ⟨upd_same, .inr rfl⟩, (RPs.ext x _ _ r2.toP)⟩
theorem newT_ok {p : Addr} {vs : List V} {Q : VK} (m : Sim K CT w s) (hp : w.H p = none) (r : RDs K w ds vs) (q : Ok K CT W w (.ok (mkT ds) s) fun d s' w' => ∀ v, RD K w' d v → Q v w'.H) : Q (.ref p) (upd w.H p (.tup vs)) := by
  have x := m.extT (o := .tup vs) hp
  exact q.get x (m.newT hp) (.ref p) (RD.mkT (.of upd_same) (RDs.ext x _ _ r))
theorem oldT_ok {a : Addr} {vs : List V} {Q : VK} (m : Sim K CT w s) (h : SqT K w.H a vs) (r : RDs K w ds vs) (q : Ok K CT W w (.ok (mkT ds) s) fun d s' w' => ∀ v, RD K w' d v → Q v w'.H) : Q (.ref a) w.H :=
  q.get Ext.refl m (.ref a) (RD.mkT h r)
theorem now {x : PyData} {v : V} {Q : VK} (m : Sim K CT w s) (q : Ok K CT W w (.ok (.p x) s) fun d s' w' => ∀ v, RD K w' d v → Q v w'.H) (r : RP K w x v) : Q v w.H := q.get Ext.refl m v r
theorem nowD {d : D} {v : V} {Q : VK} (m : Sim K CT w s) (q : Ok K CT W w (.ok d s) fun d s' w' => ∀ v, RD K w' d v → Q v w'.H) (r : RD K w d v) : Q v w.H := q.get Ext.refl m v r
end

/-! ### names, constants -/
def eVar (i : Nat) : EV := fun e s => match e[i]? with
  | some (some d) => .ok d s
  | _ => .bad
def eC (x : PyData) : EV := fun _ s => .ok (.p x) s
section
variable {X : Cx} {CT : Nat → Addr} {W : XW} {pos : Pos}
theorem pd_var (i : Nat) {x : Str} (hN : X.N[i]? = some x := by rfl) (hv : Vis X.env.scope x := by first | exact Or.inl rfl | exact Or.inr (Or.inl rfl) | exact Or.inr (Or.inr rfl)) (hd : (x == ("__debug__" : Str)) = false := by decide)
    (hcd : (x == ("__classdict__" : Str)) = false := by decide) : PD X CT W (.Name x pos) (eVar i) := by
  refine (pe_var hN hv hd hcd).imp fun σ H Q h => ?_
  obtain ⟨w, s, e, rfl, m, r, ok⟩ := h
  unfold eVar at ok
  split at ok
  · rename_i d hd
    obtain ⟨v, h1, h2⟩ := r.at' i d hd
    exact ⟨v, h1, nowD m ok h2⟩
  · exact ok.elim
theorem pd_c {e : Expr} {x : PyData} {v : V} (h : PE X e (tC v)) (hr : ∀ w, RP X.K w x v) : PD X CT W e (eC x) := by
  refine h.imp fun σ H Q h => ?_
  obtain ⟨w, s, e, rfl, m, r, ok⟩ := h
  exact now m ok (hr w)
theorem pd_int {i : Int} {j : Nat} : PD X CT W (.Constant (.int i) j pos) (eC (.int i)) := pd_c pe_int fun _ => rfl
theorem pd_bl {b : Bool} {j : Nat} : PD X CT W (.Constant (.bool b) j pos) (eC (.bool b)) := pd_c pe_bl fun _ => rfl
theorem pd_non {j : Nat} : PD X CT W (.Constant .none j pos) (eC .none) := pd_c pe_non fun _ => rfl
theorem pd_str {x y : Str} {j : Nat} (h : x = y) : PD X CT W (.Constant (.str x) j pos) (eC (.str y)) := by
  subst h
  exact pd_c pe_str fun _ => rfl
/-- a module's constant -/
theorem pd_glob {x : Str} {y : PyData} {v : V} {u : Value} (hg : Gl X x) (hm : X.mg x = some u) (r : RelV v u) (hr : ∀ w, RP X.K w y v) (hd : (x == ("__debug__" : Str)) = false := by decide) : PD X CT W (.Name x pos) (eC y) := pd_c (pe_glob hg hm r hd) hr
end

/-! ### operators -/
def OpD (K : PySem.W.Frag) (CT : Nat → Addr) (r : R2) (h : D → D → Sto → R D) : Prop :=
  ∀ (W : Nat → PyData → Sto → Wd → Prop) (w : Wd) (s : Sto) (x y : D) (vx vy : V) (Q : VK), Sim K CT w s → RD K w x vx → RD K w y vy → Ok K CT W w (h x y s) (fun d s' w' => ∀ v, RD K w' d v → Q v w'.H) → r vx vy w.H Q
def eOp (h : D → D → Sto → R D) (f g : EV) : EV := fun e s => (f e s).bind fun x s => (g e s).bind fun y s => h x y s
section
variable {X : Cx} {CT : Nat → Addr} {W : XW} {pos : Pos} {a b c : Expr} {f g k : EV} {r r' : R2} {h h' : D → D → Sto → R D}
theorem tD_op {K : PySem.W.Frag} {σ : L2.St} {H : Hp} {Q : VK} (hr : OpD K CT r h) (q : tD K CT W (eOp h f g) σ H Q) : tD K CT W f σ H fun x H1 => tD K CT W g σ H1 fun y H2 => r x y H2 Q := by
  obtain ⟨w, s, e, rfl, m, re, ok⟩ := q
  refine ⟨w, s, e, rfl, m, re, (Ok.bind ok).imp fun x s1 w1 e1 m1 ⟨_, _, ok1⟩ vx rx => ?_⟩
  refine ⟨w1, s1, e, rfl, m1, re.ext e1, (Ok.bind ok1).imp fun y s2 w2 e2 m2 ⟨_, _, ok2⟩ vy ry => ?_⟩
  exact hr _ w2 s2 x y vx vy Q m2 (RD.ext e2 x vx rx) ry ok2
theorem pd_op {op : Operator} (ho : OpR X (binaryOp op) r) (hr : OpD X.K CT r h) (ha : PD X CT W a f) (hb : PD X CT W b g) : PD X CT W (.BinOp a op b pos) (eOp h f g) :=
  (pe_op ho ha hb).imp fun σ H Q q => tD_op hr q
theorem pd_cmp {op : CmpOp} (ho : OpR X (compareOp op) r) (hr : OpD X.K CT r h) (ha : PD X CT W a f) (hb : PD X CT W b g) (hm : behindInMarks op b = false := by first | exact nomark _ (by decide) (by decide) | rfl) : PD X CT W (.Compare a [op] [b] pos) (eOp h f g) :=
  (pe_cmpR ho ha hb hm).imp fun σ H Q q => tD_op hr q
theorem OpD.or {K : PySem.W.Frag} (p : D → D → Bool) (h1 : OpD K CT r h) (h2 : OpD K CT r' h') : OpD K CT (fun x y H Q => r x y H Q ∨ r' x y H Q) (fun x y s => if p x y then h x y s else h' x y s) := by
  intro W w s x y vx vy Q m rx ry ok
  by_cases q : p x y = true
  · simp only [q, if_true] at ok
    exact .inl (h1 W w s x y vx vy Q m rx ry ok)
  · simp only [q] at ok
    exact .inr (h2 W w s x y vx vy Q m rx ry ok)

/-- the ints of two values -/
def hInt2 (k : Int → Int → Option PyData) : D → D → Sto → R D
  | .p (.int i), .p (.int j), s => match k i j with
    | some x => .ok (.p x) s
    | none => .bad
  | _, _, _ => .bad
theorem rp_int {K : PySem.W.Frag} {w : Wd} {i : Int} {v : V} (h : RD K w (.p (.int i)) v) : v = .int i := h
theorem opd_int0 {K : PySem.W.Frag} (gi : Int → Int → Int) : OpD K CT (rI0 fun i j => .int (gi i j)) (hInt2 fun i j => some (.int (gi i j))) := by
  intro W w s x y vx vy Q m rx ry ok
  unfold hInt2 at ok
  split at ok
  · exact ⟨_, _, rx, ry, now m ok rfl⟩
  · exact ok.elim
theorem opd_intB {K : PySem.W.Frag} (gi : Int → Int → Bool) : OpD K CT (rI0 fun i j => .bl (gi i j)) (hInt2 fun i j => some (.bool (gi i j))) := by
  intro W w s x y vx vy Q m rx ry ok
  unfold hInt2 at ok
  split at ok
  · exact ⟨_, _, rx, ry, now m ok rfl⟩
  · exact ok.elim
theorem opd_int {K : PySem.W.Frag} {C : Int → Int → Prop} (cb : Int → Int → Bool) (gi : Int → Int → Int) (hc : ∀ i j, cb i j = true → C i j) : OpD K CT (rI C fun i j => .int (gi i j)) (hInt2 fun i j => if cb i j then some (.int (gi i j)) else none) := by
  intro W w s x y vx vy Q m rx ry ok
  unfold hInt2 at ok
  split at ok
  · rename_i i j
    by_cases q : cb i j = true
    · simp only [q, if_true] at ok
      exact ⟨_, _, rx, ry, hc _ _ q, now m ok rfl⟩
    · simp only [q] at ok
      exact ok.elim
  · exact ok.elim

/-! ### + -/
def hAdd : D → D → Sto → R D
  | .p (.int i), .p (.int j), s => .ok (.p (.int (i + j))) s
  | .p (.str x), .p (.str y), s => if x.length + y.length ≤ sizeLine then .ok (.p (.str (x ++ y))) s else .bad
  | x, y, s => match asT x, asT y with
    | some xs, some ys => if xs.length + ys.length ≤ sizeLine then .ok (mkT (xs ++ ys)) s else .bad
    | _, _ => match asM s x, asM s y with
      | some xs, some ys => if xs.length + ys.length ≤ sizeLine then newL false (xs ++ ys) s else .bad
      | _, _ => .bad
def rStrAdd : R2 := fun x y H Q => ∃ i j, x = .str i ∧ y = .str j ∧ i.length + j.length ≤ sizeLine ∧ Q (.str (i ++ j)) H
def rAddD (K : PySem.W.Frag) : R2 := fun x y H Q => rI0 (fun i j => .int (i + j)) x y H Q ∨ rStrAdd x y H Q ∨ rCatA K x y H Q ∨ rCat x y H Q
theorem op_addD : OpR X (binaryOp .Add) (rAddD X.K) := op_add.or (op_add_str.or (op_catA.or op_cat))
theorem opd_add {K : PySem.W.Frag} : OpD K CT (rAddD K) hAdd := by
  intro W w s x y vx vy Q m rx ry ok
  unfold hAdd at ok
  split at ok
  · exact .inl ⟨_, _, rx, ry, now m ok rfl⟩
  · split at ok
    · rename_i hz
      exact .inr (.inl ⟨_, _, rx, ry, hz, now m ok rfl⟩)
    · exact ok.elim
  · split at ok
    · rename_i xs ys hx hy
      split at ok
      · rename_i hz
        obtain ⟨a1, us, rfl, q1, r1⟩ := asT_rep rx hx
        obtain ⟨a2, vs, rfl, q2, r2⟩ := asT_rep ry hy
        have l1 := r1.length
        have l2 := r2.length
        refine .inr (.inr (.inl ⟨a1, a2, us, vs, rfl, rfl, q1, q2, by omega, fun e => ?_, fun _ e => ?_, fun _ _ p hp => ?_⟩))
        · subst e
          exact oldT_ok m q2 (r1.append r2) ok
        · subst e
          have r3 := r1.append r2
          rw [List.append_nil] at r3
          exact oldT_ok m q1 r3 ok
        · exact newT_ok m hp (r1.append r2) ok
      · exact ok.elim
    · split at ok
      · rename_i xs ys hx hy
        split at ok
        · rename_i hz
          obtain ⟨a1, us, rfl, q1, r1⟩ := asM_rep m rx hx
          obtain ⟨a2, vs, rfl, q2, r2⟩ := asM_rep m ry hy
          have l1 := r1.length
          have l2 := r2.length
          exact .inr (.inr (.inr ⟨a1, a2, us, vs, rfl, rfl, q1, q2, by omega, fun p hp => newL_ok m hp (r1.append r2) ok⟩))
        · exact ok.elim
      · exact ok.elim
theorem pd_add (ha : PD X CT W a f) (hb : PD X CT W b g) : PD X CT W (.BinOp a .Add b pos) (eOp hAdd f g) := pd_op op_addD opd_add ha hb
abbrev hSub := hInt2 fun i j => some (.int (i - j))
theorem pd_sub (ha : PD X CT W a f) (hb : PD X CT W b g) : PD X CT W (.BinOp a .Sub b pos) (eOp hSub f g) := pd_op op_sub (opd_int0 _) ha hb

/-! ### * -/
def mulOk (i j : Int) : Bool := decide (i.natAbs.log2 + j.natAbs.log2 < 1000000)
theorem mulOk_c {i j : Int} (h : mulOk i j = true) : CMulW i j := by
  unfold mulOk at h
  unfold CMulW
  exact of_decide_eq_true h
def hMul : D → D → Sto → R D
  | .p (.int i), .p (.int j), s => if mulOk i j then .ok (.p (.int (i * j))) s else .bad
  | x, .p (.int k), s => match asM s x with
    | some xs => if -(2 ^ 63) ≤ k ∧ k < 2 ^ 63 ∧ xs.length * k.toNat ≤ sizeLine then newL false (List.replicate k.toNat xs).flatten s else .bad
    | none => .bad
  | _, _, _ => .bad
/-- .. where the new list is an object of the store -/
def hMulH : D → D → Sto → R D
  | x, .p (.int k), s => match asM s x with
    | some xs => if -(2 ^ 63) ≤ k ∧ k < 2 ^ 63 ∧ xs.length * k.toNat ≤ sizeLine then newL true (List.replicate k.toNat xs).flatten s else .bad
    | none => .bad
  | _, _, _ => .bad
theorem RDs.rep {K : PySem.W.Frag} {w : Wd} {xs : List D} {vs : List V} (r : RDs K w xs vs) : ∀ k : Nat, RDs K w (List.replicate k xs).flatten (List.replicate k vs).flatten
  | 0 => rfl
  | k + 1 => by
    rw [List.replicate_succ, List.replicate_succ, List.flatten_cons, List.flatten_cons]
    exact r.append (RDs.rep r k)
theorem opd_mul {K : PySem.W.Frag} : OpD K CT (fun x y H Q => rI CMulW (fun i j => .int (i * j)) x y H Q ∨ rRep x y H Q) hMul := by
  intro W w s x y vx vy Q m rx ry ok
  unfold hMul at ok
  split at ok
  · split at ok
    · rename_i q
      exact .inl ⟨_, _, rx, ry, mulOk_c q, now m ok rfl⟩
    · exact ok.elim
  · split at ok
    · rename_i xs hx
      split at ok
      · rename_i hz
        obtain ⟨a1, us, rfl, q1, r1⟩ := asM_rep m rx hx
        have l1 := r1.length
        exact .inr ⟨a1, _, us, rfl, ry, q1, hz.1, hz.2.1, by rw [l1]; exact hz.2.2, fun p hp => newL_ok m hp (r1.rep _) ok⟩
      · exact ok.elim
    · exact ok.elim
  · exact ok.elim
theorem opd_mulH {K : PySem.W.Frag} : OpD K CT rRep hMulH := by
  intro W w s x y vx vy Q m rx ry ok
  unfold hMulH at ok
  split at ok
  · split at ok
    · rename_i xs hx
      split at ok
      · rename_i hz
        obtain ⟨a1, us, rfl, q1, r1⟩ := asM_rep m rx hx
        have l1 := r1.length
        exact ⟨a1, _, us, rfl, ry, q1, hz.1, hz.2.1, by rw [l1]; exact hz.2.2, fun p hp => newL_ok m hp (r1.rep _) ok⟩
      · exact ok.elim
    · exact ok.elim
  · exact ok.elim
theorem pd_mul (ha : PD X CT W a f) (hb : PD X CT W b g) : PD X CT W (.BinOp a .Mult b pos) (eOp hMul f g) := pd_op (op_mulW.or op_rep) opd_mul ha hb
theorem pd_mulH (ha : PD X CT W a f) (hb : PD X CT W b g) : PD X CT W (.BinOp a .Mult b pos) (eOp hMulH f g) := pd_op op_rep opd_mulH ha hb

/-! ### // % ** << -/
def divOk (i j : Int) : Bool := decide (0 < j) && (decide (j.natAbs.log2 < 9000) || !Builtin.divisionGoesByPylong i j)
abbrev hDiv := hInt2 fun i j => if divOk i j then some (.int (i / j)) else none
theorem op_fdivD : OpR X (binaryOp .FloorDiv) (fun x y H Q => rI CDivW (fun i j => .int (i / j)) x y H Q ∨ rI CDivP (fun i j => .int (i / j)) x y H Q) :=
  op_fdivW.or (opI fun i j _ _ _ _ _ hc q => floordiv_int (Int.ne_of_gt hc.1) (by rw [Int.fdiv_eq_ediv_of_nonneg _ (Int.le_of_lt hc.1)]; exact q) (.inl hc.2))
theorem opd_div {K : PySem.W.Frag} : OpD K CT (fun x y H Q => rI CDivW (fun i j => .int (i / j)) x y H Q ∨ rI CDivP (fun i j => .int (i / j)) x y H Q) hDiv := by
  intro W w s x y vx vy Q m rx ry ok
  unfold hDiv hInt2 at ok
  split at ok
  · rename_i i j
    by_cases q : divOk i j = true
    · simp only [q, if_true] at ok
      unfold divOk at q
      rw [Bool.and_eq_true, Bool.or_eq_true, decide_eq_true_eq, decide_eq_true_eq] at q
      rcases q with ⟨q1, q2 | q2⟩
      · exact .inl ⟨_, _, rx, ry, ⟨q1, q2⟩, now m ok rfl⟩
      · exact .inr ⟨_, _, rx, ry, ⟨q1, by simpa using q2⟩, now m ok rfl⟩
    · simp only [q] at ok
      exact ok.elim
  · exact ok.elim
theorem pd_div (ha : PD X CT W a f) (hb : PD X CT W b g) : PD X CT W (.BinOp a .FloorDiv b pos) (eOp hDiv f g) := pd_op op_fdivD opd_div ha hb
abbrev hMod := hInt2 fun i j => if decide (0 < j) then some (.int (i % j)) else none
theorem pd_mod (ha : PD X CT W a f) (hb : PD X CT W b g) : PD X CT W (.BinOp a .Mod b pos) (eOp hMod f g) := pd_op op_mod (opd_int (fun _ j => decide (0 < j)) _ fun _ _ h => of_decide_eq_true h) ha hb
def powOk (i j : Int) : Bool := decide (0 ≤ j) && decide (j ≤ 1000000) && decide (i.natAbs < 2 ^ 64)
theorem powOk_c (i j : Int) (h : powOk i j = true) : CPow i j := by
  unfold powOk at h
  simp only [Bool.and_eq_true, decide_eq_true_eq] at h
  exact ⟨h.1.1, h.1.2, h.2⟩
abbrev hPow := hInt2 fun i j => if powOk i j then some (.int (i ^ j.toNat)) else none
theorem pd_pow (ha : PD X CT W a f) (hb : PD X CT W b g) : PD X CT W (.BinOp a .Pow b pos) (eOp hPow f g) := pd_op op_pow (opd_int powOk _ powOk_c) ha hb
abbrev hShl := hInt2 fun i j => if powOk i j then some (.int (i * 2 ^ j.toNat)) else none
theorem pd_shl (ha : PD X CT W a f) (hb : PD X CT W b g) : PD X CT W (.BinOp a .LShift b pos) (eOp hShl f g) := pd_op op_shl (opd_int powOk _ powOk_c) ha hb
end
end Dl
/-! The data layer: comparisons, tests, subscripts, displays. -/
namespace Dl
open PySem PySem.Spec PyProof.Rows L2

/-! ### == -/
def toP (s : Sto) : D → Option PyData
  | .p x => some x
  | .ro xs => some (.list xs)
  | .ref k => match s[k]? with
    | some (.lst ds) => (allP ds).map .list
    | _ => none
  | .bag _ => none
section
variable {K : PySem.W.Frag} {CT : Nat → Addr} {W : Nat → PyData → Sto → Wd → Prop} {w : Wd} {s : Sto} {d : D} {v : V} {ds : List D}
mutual
theorem RP.dp : ∀ (x : PyData) (v : V), RP K w x v → x.canLay0 = true → Dp K w.H v x
  | .none, _, h, _ => by cases h; exact .non
  | .bool b, _, h, _ => by cases h; exact .bl b
  | .int i, _, h, _ => by cases h; exact .int i
  | .str x, _, h, _ => by cases h; exact .str x
  | .tuple xs, _, h, c => by
    obtain ⟨a, vs, rfl, h1, h2⟩ := h
    exact .tup h1 (RPs.dp xs vs h2 (by simpa [PyData.canLay0] using c))
  | .list xs, _, h, c => by
    obtain ⟨a, vs, rfl, h1, h2⟩ := h
    exact .lst (FzL.sq h1) (RPs.dp xs vs h2 (by simpa [PyData.canLay0] using c))
  | .dict _, _, _, c => by simp [PyData.canLay0] at c
theorem RPs.dp : ∀ (xs : List PyData) (vs : List V), RPs K w xs vs → PyData.canLayAll0 xs = true → DpAll K w.H vs xs
  | [], _, h, _ => by
    have h : _ = [] := h
    rw [h]
    exact .nil
  | x :: xs, _, h, c => by
    obtain ⟨v, r, rfl, h1, h2⟩ := h
    simp only [PyData.canLayAll0, Bool.and_eq_true] at c
    exact .cons (RP.dp x v h1 c.1) (RPs.dp xs r h2 c.2)
end
theorem toP_dp {x : PyData} (m : Sim K CT w s) (r : RD K w d v) (h : toP s d = some x) (c : x.canLay0 = true) : Dp K w.H v x := by
  cases d with
  | p y => cases h; exact RP.dp _ _ r c
  | ro xs =>
    cases h
    obtain ⟨a, vs, rfl, h1, h2⟩ := r
    exact .lst h1.sq (RPs.dp xs vs h2 (by simpa [PyData.canLay0] using c))
  | bag xs => cases h
  | ref k =>
    have h' : (match s[k]? with | some (.lst ds) => (allP ds).map PyData.list | _ => none) = some x := h
    cases q : s[k]? with
    | none => rw [q] at h'; cases h'
    | some o =>
      rw [q] at h'
      cases o with
      | ins _ _ => cases h'
      | lst es =>
        cases e : allP es with
        | none => simp [e] at h'
        | some xs =>
          simp only [e, Option.map_some, Option.some.injEq] at h'
          subst h'
          obtain ⟨a, vs, rfl, h1, h2⟩ := asM_rep (ds := es) m r (by show (match s[k]? with | some (.lst ds) => some ds | _ => none) = some es; rw [q])
          rw [allP_some e] at h2
          exact .lst (.of h1) (RPs.dp xs vs h2.toP (by simpa [PyData.canLay0] using c))
end
def flatP : PyData → Bool
  | .none => true
  | .bool _ => true
  | .int _ => true
  | .str _ => true
  | _ => false
theorem flat_rep {K : PySem.W.Frag} {w : Wd} {x : PyData} {v : V} (f : flatP x = true) (r : RP K w x v) : flatV v = true := by
  cases x <;> first | (cases f; done) | (cases r; rfl)
theorem eqV_rep {K : PySem.W.Frag} {w : Wd} {x y : PyData} {v u : V} (f : flatP x = true) (g : flatP y = true) (r : RP K w x v) (q : RP K w y u) : eqV v u = PyData.eqv x y := by
  cases x <;> cases y <;> first | (cases f; done) | (cases g; done) | (cases r; cases q; simp [eqV, PyData.eqv])

def hEqB (s : Sto) : D → D → Option Bool
  | .p (.int i), .p (.int j) => some (decide (i = j))
  | .p (.str x), .p (.str y) => some (decide (x = y))
  | .p (.bool x), .p (.bool y) => some (decide (x = y))
  | x, y => match toP s x, toP s y with
    | some a, some b => if SeqAt.shaped a && SeqAt.shaped b then some (PyData.eqv a b) else none
    | _, _ => none
def hEq (x y : D) (s : Sto) : R D := match hEqB s x y with
  | some b => .ok (.p (.bool b)) s
  | none => .bad
def hNe (x y : D) (s : Sto) : R D := match hEqB s x y with
  | some b => .ok (.p (.bool !b)) s
  | none => .bad
section
variable {X : Cx} {CT : Nat → Addr} {W : XW} {pos : Pos} {a b c : Expr} {f g k : EV}
theorem hEqB_ok {K : PySem.W.Frag} {W : Nat → PyData → Sto → Wd → Prop} {w : Wd} {s : Sto} {x y : D} {vx vy : V} {z : Bool} {Q : V → Hp → Prop} (m : Sim K CT w s) (rx : RD K w x vx) (ry : RD K w y vy) (h : hEqB s x y = some z) (q : Q (.bl z) w.H) : rEq vx vy w.H Q ∨ rEqD K vx vy w.H Q := by
  unfold hEqB at h
  split at h
  · rename_i i j
    cases (show vx = .int i from rx)
    cases (show vy = .int j from ry)
    refine .inl ⟨rfl, ?_⟩
    cases h
    have e : decide (V.int i = V.int j) = decide (i = j) := by simp
    rw [e]
    exact q
  · rename_i i j
    cases (show vx = .str i from rx)
    cases (show vy = .str j from ry)
    refine .inl ⟨rfl, ?_⟩
    cases h
    have e : decide (V.str i = V.str j) = decide (i = j) := by simp
    rw [e]
    exact q
  · rename_i i j
    cases (show vx = .bl i from rx)
    cases (show vy = .bl j from ry)
    refine .inl ⟨rfl, ?_⟩
    cases h
    have e : decide (V.bl i = V.bl j) = decide (i = j) := by simp
    rw [e]
    exact q
  · split at h
    · rename_i p1 p2 e1 e2
      split at h
      · rename_i sh
        rw [Bool.and_eq_true] at sh
        cases h
        exact .inr ⟨_, _, toP_dp m rx e1 (SeqAt.canLay_of_shaped sh.1), toP_dp m ry e2 (SeqAt.canLay_of_shaped sh.2), sh.1, sh.2, q⟩
      · cases h
    · cases h
theorem hNeB_ok {K : PySem.W.Frag} {W : Nat → PyData → Sto → Wd → Prop} {w : Wd} {s : Sto} {x y : D} {vx vy : V} {z : Bool} {Q : V → Hp → Prop} (m : Sim K CT w s) (rx : RD K w x vx) (ry : RD K w y vy) (h : hEqB s x y = some z) (q : Q (.bl !z) w.H) : rNe vx vy w.H Q ∨ rNeD K vx vy w.H Q := by
  rcases hEqB_ok (W := W) (Q := fun v _ => ∀ b, v = .bl b → Q (.bl !b) w.H) m rx ry h (fun b e => by cases e; exact q) with h | ⟨d, e, h1, h2, h3, h4, h5⟩
  · exact .inl ⟨h.1, h.2 _ rfl⟩
  · exact .inr ⟨d, e, h1, h2, h3, h4, h5 _ rfl⟩
theorem opd_eq {K : PySem.W.Frag} : OpD K CT (fun x y H Q => rEq x y H Q ∨ rEqD K x y H Q) hEq := by
  intro W w s x y vx vy Q m rx ry ok
  unfold hEq at ok
  split at ok
  · rename_i z e
    exact hEqB_ok (W := W) m rx ry e (now m ok rfl)
  · exact ok.elim
theorem opd_ne {K : PySem.W.Frag} : OpD K CT (fun x y H Q => rNe x y H Q ∨ rNeD K x y H Q) hNe := by
  intro W w s x y vx vy Q m rx ry ok
  unfold hNe at ok
  split at ok
  · rename_i z e
    exact hNeB_ok (W := W) m rx ry e (now m ok rfl)
  · exact ok.elim
variable (hu : X.A.units + 65 < cLine)
include hu
theorem pd_eq (ha : PD X CT W a f) (hb : PD X CT W b g) : PD X CT W (.Compare a [.Eq] [b] pos) (eOp hEq f g) := pd_cmp (op_eq.or (op_eqD (by omega))) opd_eq ha hb
theorem pd_ne (ha : PD X CT W a f) (hb : PD X CT W b g) : PD X CT W (.Compare a [.NotEq] [b] pos) (eOp hNe f g) := pd_cmp (op_ne.or (op_neD (by omega))) opd_ne ha hb
end

/-! ### order -/
section
variable {X : Cx} {CT : Nat → Addr} {W : XW} {pos : Pos} {a b c : Expr} {f g k : EV}
abbrev hLt := hInt2 fun i j => some (.bool (decide (i < j)))
abbrev hLe := hInt2 fun i j => some (.bool (decide (i ≤ j)))
abbrev hGt := hInt2 fun i j => some (.bool (decide (j < i)))
abbrev hGe := hInt2 fun i j => some (.bool (decide (j ≤ i)))
theorem pd_lt (ha : PD X CT W a f) (hb : PD X CT W b g) : PD X CT W (.Compare a [.Lt] [b] pos) (eOp hLt f g) := pd_cmp op_lt (opd_intB _) ha hb
theorem pd_le (ha : PD X CT W a f) (hb : PD X CT W b g) : PD X CT W (.Compare a [.LtE] [b] pos) (eOp hLe f g) := pd_cmp op_le (opd_intB _) ha hb
theorem pd_gt (ha : PD X CT W a f) (hb : PD X CT W b g) : PD X CT W (.Compare a [.Gt] [b] pos) (eOp hGt f g) := pd_cmp op_gt (opd_intB _) ha hb
theorem pd_ge (ha : PD X CT W a f) (hb : PD X CT W b g) : PD X CT W (.Compare a [.GtE] [b] pos) (eOp hGe f g) := pd_cmp op_ge (opd_intB _) ha hb
/-- a op b op' c -/
def eChain (h h' : D → D → Sto → R D) (f g k : EV) : EV := fun e s => (f e s).bind fun x s => (g e s).bind fun y s => (h x y s).bind fun z s => match z with
  | .p (.bool true) => (k e s).bind fun u s => h' y u s
  | .p (.bool false) => .ok (.p (.bool false)) s
  | _ => .bad
theorem pd_chain {op op' : CmpOp} {r r' : R2} {h h' : D → D → Sto → R D} (ho : OpR X (compareOp op) r) (ho' : OpR X (compareOp op') r') (hr : OpD X.K CT r h) (hr' : OpD X.K CT r' h') (ha : PD X CT W a f) (hb : PD X CT W b g) (hc : PD X CT W c k)
    (hm : lastMarks [op, op'] [b, c] = false := by with_unfolding_all rfl) : PD X CT W (.Compare a [op, op'] [b, c] pos) (eChain h h' f g k) := by
  refine (pe_chain ho ho' ha hb hc hm).imp fun σ H Q q => ?_
  obtain ⟨w, s, e, rfl, m, re, ok⟩ := q
  refine ⟨w, s, e, rfl, m, re, (Ok.bind ok).imp fun x s1 w1 e1 m1 ⟨_, _, ok1⟩ vx rx => ?_⟩
  refine ⟨w1, s1, e, rfl, m1, re.ext e1, (Ok.bind ok1).imp fun y s2 w2 e2 m2 ⟨_, _, ok2⟩ vy ry => ?_⟩
  refine hr (fun c x s' w' => W c x σ s' w') w2 s2 x y vx vy _ m2 (RD.ext e2 x vx rx) ry ((Ok.bind ok2).imp fun z s3 w3 e3 m3 ⟨_, _, ok3⟩ vz rz => ?_)
  cases z with
  | p z =>
   cases z with
   | bool t =>
    cases (show vz = .bl t from rz)
    refine ⟨t, rfl, ?_⟩
    cases t with
    | false => exact ok3.get Ext.refl m3 (.bl false) rfl
    | true =>
      rw [if_pos rfl]
      refine ⟨w3, s3, e, rfl, m3, ((re.ext e1).ext e2).ext e3, (Ok.bind ok3).imp fun u s4 w4 e4 m4 ⟨_, _, ok4⟩ vu ru => ?_⟩
      exact hr' (fun c x s' w' => W c x σ s' w') w4 s4 y u vy vu _ m4 (RD.ext e4 _ _ (RD.ext e3 _ _ ry)) ru ok4
   | _ => exact ok3.elim
  | _ => exact ok3.elim
theorem pd_leLt (ha : PD X CT W a f) (hb : PD X CT W b g) (hc : PD X CT W c k) (hm : lastMarks [.LtE, .Lt] [b, c] = false := by with_unfolding_all rfl) : PD X CT W (.Compare a [.LtE, .Lt] [b, c] pos) (eChain hLe hLt f g k) := pd_chain op_le op_lt (opd_intB _) (opd_intB _) ha hb hc hm
theorem pd_leLe (ha : PD X CT W a f) (hb : PD X CT W b g) (hc : PD X CT W c k) (hm : lastMarks [.LtE, .LtE] [b, c] = false := by with_unfolding_all rfl) : PD X CT W (.Compare a [.LtE, .LtE] [b, c] pos) (eChain hLe hLe f g k) := pd_chain op_le op_le (opd_intB _) (opd_intB _) ha hb hc hm
end

/-! ### in -/
def flatAll : List D → Option (List PyData)
  | [] => some []
  | .p x :: r => if flatP x then (flatAll r).map fun l => x :: l else none
  | _ :: _ => none
theorem flatAll_some : ∀ {ds : List D} {xs : List PyData}, flatAll ds = some xs → ds = xs.map D.p ∧ ∀ x ∈ xs, flatP x = true
  | [], xs, h => by
    cases h
    simp
  | .p x :: r, xs, h => by
    unfold flatAll at h
    by_cases fx : flatP x = true
    · rw [if_pos fx] at h
      cases q : flatAll r with
      | none => rw [q] at h; cases h
      | some l =>
        rw [q] at h
        cases h
        obtain ⟨h1, h2⟩ := flatAll_some q
        subst h1
        refine ⟨rfl, fun y hy => ?_⟩
        rcases List.mem_cons.mp hy with rfl | hy
        · exact fx
        · exact h2 y hy
    · rw [if_neg fx] at h
      cases h
  | .ref _ :: _, _, h => by cases h
  | .bag _ :: _, _, h => by cases h
  | .ro _ :: _, _, h => by cases h
/-- x in y: a text in a text; a flat thing in a list or tuple of such; data in a list -/
def hInB (s : Sto) : D → D → Option Bool
  | .p (.str x), .p (.str y) => some (!(Builtin.Str.occurrences y x 0 y.length 1).isEmpty)
  | .p x, .p (.tuple ys) => if flatP x && ys.all flatP then some (ys.any fun y => PyData.eqv y x) else none
  | x, y => match toP s x, toP s y with
    | some a, some (.list bs) => if SeqAt.shaped a && SeqAt.shaped (.list bs) then some (bs.any fun z => PyData.eqv z a) else none
    | _, _ => none
def hIn (x y : D) (s : Sto) : R D := match hInB s x y with
  | some b => .ok (.p (.bool b)) s
  | none => .bad
def hNotIn (x y : D) (s : Sto) : R D := match hInB s x y with
  | some b => .ok (.p (.bool !b)) s
  | none => .bad
def rStrIn (neg : Bool) : R2 := fun x y H Q => ∃ i j, x = .str i ∧ y = .str j ∧ Q (.bl (if neg then !(!(Builtin.Str.occurrences j i 0 j.length 1).isEmpty) else !(Builtin.Str.occurrences j i 0 j.length 1).isEmpty)) H
section
variable {X : Cx} {CT : Nat → Addr} {W : XW} {pos : Pos} {a b c : Expr} {f g k : EV}
theorem inV_rep {K : PySem.W.Frag} {w : Wd} {x : PyData} {v : V} (fx : flatP x = true) (rx : RP K w x v) : ∀ {ys : List PyData} {vs : List V}, (∀ y ∈ ys, flatP y = true) → RPs K w ys vs → vs.all flatV = true ∧ inV v vs = ys.any fun y => PyData.eqv y x
  | [], _, _, h => by
    have h : _ = [] := h
    subst h
    exact ⟨rfl, rfl⟩
  | y :: ys, _, fy, h => by
    obtain ⟨u, r, rfl, h1, h2⟩ := h
    obtain ⟨i1, i2⟩ := inV_rep fx rx (fun z hz => fy z (List.mem_cons_of_mem _ hz)) h2
    have g := fy y List.mem_cons_self
    refine ⟨by simp [flat_rep g h1, i1], ?_⟩
    unfold inV at i2 ⊢
    simp only [List.any_cons]
    rw [i2, eqV_rep g fx h1 rx]
theorem hInB_ok {K : PySem.W.Frag} {w : Wd} {s : Sto} {x y : D} {vx vy : V} {z : Bool} (neg : Bool) {Q : V → Hp → Prop} (m : Sim K CT w s) (rx : RD K w x vx) (ry : RD K w y vy) (h : hInB s x y = some z) (q : Q (.bl (if neg then !z else z)) w.H) :
    rStrIn neg vx vy w.H Q ∨ rIn K neg vx vy w.H Q ∨ ∃ d ds, Dp K w.H vx d ∧ Dp K w.H vy (.list ds) ∧ SeqAt.shaped d = true ∧ SeqAt.shaped (.list ds) = true ∧ Q (.bl (if neg then !(ds.any fun z => PyData.eqv z d) else ds.any fun z => PyData.eqv z d)) w.H := by
  unfold hInB at h
  split at h
  · rename_i i j
    cases h
    exact .inl ⟨_, _, rx, ry, q⟩
  · rename_i x ys _
    split at h
    · rename_i fl
      rw [Bool.and_eq_true, List.all_eq_true] at fl
      cases h
      obtain ⟨a, vs, rfl, h1, h2⟩ := ry
      obtain ⟨i1, i2⟩ := inV_rep fl.1 rx fl.2 h2
      refine .inr (.inl ⟨a, vs, rfl, .inr h1, flat_rep fl.1 rx, i1, ?_⟩)
      rw [i2]
      exact q
    · cases h
  · split at h
    · rename_i p1 p2 e1 e2
      split at h
      · rename_i sh
        rw [Bool.and_eq_true] at sh
        cases h
        exact .inr (.inr ⟨_, _, toP_dp m rx e1 (SeqAt.canLay_of_shaped sh.1), toP_dp m ry e2 (SeqAt.canLay_of_shaped sh.2), sh.1, sh.2, q⟩)
      · cases h
    · cases h
theorem opd_in {K : PySem.W.Frag} : OpD K CT (fun x y H Q => rStrIn false x y H Q ∨ rIn K false x y H Q ∨ rInD K x y H Q) hIn := by
  intro W w s x y vx vy Q m rx ry ok
  unfold hIn at ok
  split at ok
  · rename_i z e
    rcases hInB_ok false m rx ry e (Q := Q) (now m ok rfl) with h | h | h
    · exact .inl h
    · exact .inr (.inl h)
    · exact .inr (.inr h)
  · exact ok.elim
theorem opd_notIn {K : PySem.W.Frag} : OpD K CT (fun x y H Q => rStrIn true x y H Q ∨ rIn K true x y H Q ∨ rNotInD K x y H Q) hNotIn := by
  intro W w s x y vx vy Q m rx ry ok
  unfold hNotIn at ok
  split at ok
  · rename_i z e
    rcases hInB_ok true m rx ry e (Q := Q) (now m ok rfl) with h | h | h
    · exact .inl h
    · exact .inr (.inl h)
    · exact .inr (.inr h)
  · exact ok.elim
theorem pd_in (hu : X.A.units + 65 < cLine) (ha : PD X CT W a f) (hb : PD X CT W b g) (hm : behindInMarks .In b = false := by rfl) : PD X CT W (.Compare a [.In] [b] pos) (eOp hIn f g) := pd_cmp (op_in_str.or (op_in_seq.or (op_inD hu))) opd_in ha hb hm
theorem pd_notIn (hu : X.A.units + 65 < cLine) (ha : PD X CT W a f) (hb : PD X CT W b g) (hm : behindInMarks .NotIn b = false := by rfl) : PD X CT W (.Compare a [.NotIn] [b] pos) (eOp hNotIn f g) := pd_cmp (op_notin_str.or (op_notIn_seq.or (op_notInD hu))) opd_notIn ha hb hm
end

/-! ### is -/
def hIs : D → D → Sto → R D
  | x, .p .none, s => match x with
    | .p .none => .ok (.p (.bool true)) s
    | _ => .ok (.p (.bool false)) s
  | .p (.bool i), .p (.bool j), s => .ok (.p (.bool (decide (i = j)))) s
  | _, _, _ => .bad
def hIsNot (x y : D) (s : Sto) : R D := (hIs x y s).bind fun z s => match z with
  | .p (.bool b) => .ok (.p (.bool !b)) s
  | _ => .bad
theorem RD.non_iff {K : PySem.W.Frag} {w : Wd} {x : D} {v : V} (r : RD K w x v) : v = .non ↔ x = .p .none := by
  cases x with
  | p x => cases x with
    | none => exact ⟨fun _ => rfl, fun _ => r⟩
    | bool b => cases (show v = .bl b from r); simp
    | int b => cases (show v = .int b from r); simp
    | str b => cases (show v = .str b from r); simp
    | tuple xs => obtain ⟨a, vs, rfl, _⟩ := r; simp
    | list xs => obtain ⟨a, vs, rfl, _⟩ := r; simp
    | dict xs => obtain ⟨_, a, rfl, _⟩ := r; simp
  | ref k => obtain ⟨a, _, rfl⟩ := r; simp
  | bag xs => obtain ⟨a, vs, rfl, _⟩ := r; simp
  | ro xs => obtain ⟨a, vs, rfl, _⟩ := r; simp
section
variable {X : Cx} {CT : Nat → Addr} {W : XW} {pos : Pos} {a b c : Expr} {f g k : EV}
theorem opd_is {K : PySem.W.Frag} : OpD K CT (fun x y H Q => (y = .non ∧ Q (.bl (decide (x = .non))) H) ∨ rIsB x y H Q) hIs := by
  intro W w s x y vx vy Q m rx ry ok
  unfold hIs at ok
  split at ok
  · refine .inl ⟨ry, ?_⟩
    split at ok
    · rw [decide_eq_true (show vx = .non from rx)]
      exact now m ok rfl
    · rename_i ne
      rw [decide_eq_false (fun e => ne (rx.non_iff.mp e))]
      exact now m ok rfl
  · exact .inr ⟨_, _, rx, ry, now m ok rfl⟩
  · exact ok.elim
theorem opd_isNot {K : PySem.W.Frag} : OpD K CT (fun x y H Q => (y = .non ∧ Q (.bl (!decide (x = .non))) H) ∨ rNotB x y H Q) hIsNot := by
  intro W w s x y vx vy Q m rx ry ok
  unfold hIsNot hIs at ok
  split at ok
  · refine .inl ⟨ry, ?_⟩
    split at ok
    · rw [decide_eq_true (show vx = .non from rx)]
      exact now m ok rfl
    · rename_i ne
      rw [decide_eq_false (fun e => ne (rx.non_iff.mp e))]
      exact now m ok rfl
  · exact .inr ⟨_, _, rx, ry, now m ok rfl⟩
  · exact ok.elim
theorem pd_is (ha : PD X CT W a f) (hb : PD X CT W b g) : PD X CT W (.Compare a [.Is] [b] pos) (eOp hIs f g) := pd_cmp (op_isN.or op_isBl) opd_is ha hb
theorem pd_isNot (ha : PD X CT W a f) (hb : PD X CT W b g) : PD X CT W (.Compare a [.IsNot] [b] pos) (eOp hIsNot f g) := pd_cmp (op_notN.or op_notBl) opd_isNot ha hb
end

/-! ### truth -/
def truB (s : Sto) : D → Option Bool
  | .p .none => some false
  | .p (.bool b) => some b
  | .p (.int i) => some (i != 0)
  | .p (.str x) => if x.length ≤ sizeLine then some ((x.length : Int) != 0) else none
  | d => match asT d with
    | some ds => some !ds.isEmpty
    | none => (asL s d).map fun ds => !ds.isEmpty
theorem isEmpty_len {α β : Type} {xs : List α} {ys : List β} (h : xs.length = ys.length) : xs.isEmpty = ys.isEmpty := by
  cases xs <;> cases ys <;> first | rfl | simp at h
theorem tru_rep {K : PySem.W.Frag} {CT : Nat → Addr} {w : Wd} {s : Sto} {d : D} {v : V} {b : Bool} (m : Sim K CT w s) (r : RD K w d v) (h : truB s d = some b) : TruV K v w.H b := by
  unfold truB at h
  split at h
  · cases (show v = .non from r); cases h; rfl
  · cases (show v = .bl _ from r); cases h; rfl
  · cases (show v = .int _ from r); cases h; rfl
  · cases (show v = .str _ from r)
    split at h
    · rename_i hz
      cases h
      exact ⟨hz, rfl⟩
    · cases h
  · split at h
    · rename_i ds e
      obtain ⟨a, vs, rfl, h1, h2⟩ := asT_rep r e
      cases h
      exact .inr (.inl ⟨vs, h1, by rw [isEmpty_len h2.length]⟩)
    · cases q : asL s d with
      | none => rw [q] at h; cases h
      | some ds =>
        rw [q] at h
        cases h
        obtain ⟨a, vs, rfl, h1, h2⟩ := asL_rep m r q
        exact .inl ⟨vs, h1, by rw [isEmpty_len h2.length]⟩
def tTru (f : EV) : TV := fun e s => (f e s).bind fun d s => match truB s d with
  | some b => .ok b s
  | none => .bad
def tAnd (f g : TV) : TV := fun e s => (f e s).bind fun b s => if b then g e s else .ok false s
def tOr (f g : TV) : TV := fun e s => (f e s).bind fun b s => if b then .ok true s else g e s
def tNot (f : TV) : TV := fun e s => (f e s).bind fun b s => .ok (!b) s
/-- a comparison as a test: its value is a bool -/
def tB (f : EV) : TV := fun e s => (f e s).bind fun d s => match d with
  | .p (.bool b) => .ok b s
  | _ => .bad
section
variable {X : Cx} {CT : Nat → Addr} {W : XW} {pos : Pos} {a b c : Expr} {rest : List Expr} {f g k : EV} {p q : TV}
theorem pt_tru (ha : PD X CT W a f) (he : ∀ whole, isTrue a X.env whole = (do let v ← whole; standAt a.pos; holding [v] (truthy v)) := by intro _; rfl) : PDT X CT W a (tTru f) := by
  refine (pt_truth ha he).imp fun σ H Q q => ?_
  obtain ⟨w, s, e, rfl, m, re, ok⟩ := q
  refine ⟨w, s, e, rfl, m, re, (Ok.bind ok).imp fun d s1 w1 e1 m1 ⟨_, _, ok1⟩ v rv => ?_⟩
  split at ok1
  · rename_i b hb
    exact ⟨b, tru_rep m1 rv hb, ok1.get Ext.refl m1⟩
  · exact ok1.elim
/-- a comparison as a test -/
theorem pt_b {op : CmpOp} {r : R2} {h : D → D → Sto → R D} (ho : OpR X (compareOp op) r) (hr : OpD X.K CT r h) (ha : PD X CT W a f) (hb : PD X CT W b g) (hm : behindInMarks op b = false := by first | exact nomark _ (by decide) (by decide) | rfl) : PDT X CT W (.Compare a [op] [b] pos) (tB (eOp h f g)) := by
  refine (pt_cmpR ho ha hb hm).imp fun σ H Q q => ?_
  obtain ⟨w, s, e, rfl, m, re, ok⟩ := q
  show tTest (tOp r _ _) σ w.H Q
  show tOp r _ _ σ w.H fun x H' => ∃ k, x = .bl k ∧ Q k H'
  refine tD_op hr ⟨w, s, e, rfl, m, re, (Ok.bind ok).imp fun d s1 w1 e1 m1 ⟨_, _, ok1⟩ v rv => ?_⟩
  cases d with
  | p x =>
    cases x with
    | bool t => exact ⟨_, rv, ok1.get Ext.refl m1⟩
    | _ => exact ok1.elim
  | _ => exact ok1.elim
theorem pt_chainD {op op' : CmpOp} {r r' : R2} {h h' : D → D → Sto → R D} (ho : OpR X (compareOp op) r) (ho' : OpR X (compareOp op') r') (hr : OpD X.K CT r h) (hr' : OpD X.K CT r' h') (ha : PD X CT W a f) (hb : PD X CT W b g) (hc : PD X CT W c k)
    (hm : lastMarks [op, op'] [b, c] = false := by with_unfolding_all rfl) : PDT X CT W (.Compare a [op, op'] [b, c] pos) (tB (eChain h h' f g k)) := by
  refine (pt_chain ho ho' ha hb hc hm).imp fun σ H Q q => ?_
  obtain ⟨w, s, e, rfl, m, re, ok⟩ := q
  refine ⟨w, s, e, rfl, m, re, ?_⟩
  have ok' : Ok X.K CT (fun c x s' w' => W c x σ s' w') w (eChain h h' f g k e s) (fun d s' w' => ∀ v, RD X.K w' d v → ∃ k, v = .bl k ∧ Q k w'.H) := (Ok.bind ok).imp fun d s1 w1 e1 m1 ⟨_, _, ok1⟩ v rv => by
    cases d with
    | p x =>
      cases x with
      | bool t => exact ⟨_, rv, ok1.get Ext.refl m1⟩
      | _ => exact ok1.elim
    | _ => exact ok1.elim
  refine (Ok.bind ok').imp fun x s1 w1 e1 m1 ⟨_, _, ok1⟩ vx rx => ?_
  refine ⟨w1, s1, e, rfl, m1, re.ext e1, (Ok.bind ok1).imp fun y s2 w2 e2 m2 ⟨_, _, ok2⟩ vy ry => ?_⟩
  refine hr (fun c x s' w' => W c x σ s' w') w2 s2 x y vx vy _ m2 (RD.ext e2 x vx rx) ry ((Ok.bind ok2).imp fun z s3 w3 e3 m3 ⟨_, _, ok3⟩ vz rz => ?_)
  cases z with
  | p z =>
   cases z with
   | bool t =>
    cases (show vz = .bl t from rz)
    refine ⟨t, rfl, ?_⟩
    cases t with
    | false => exact ok3.get Ext.refl m3 (.bl false) rfl
    | true =>
      rw [if_pos rfl]
      refine ⟨w3, s3, e, rfl, m3, ((re.ext e1).ext e2).ext e3, (Ok.bind ok3).imp fun u s4 w4 e4 m4 ⟨_, _, ok4⟩ vu ru => ?_⟩
      exact hr' (fun c x s' w' => W c x σ s' w') w4 s4 y u vy vu _ m4 (RD.ext e4 _ _ (RD.ext e3 _ _ ry)) ru ok4
   | _ => exact ok3.elim
  | _ => exact ok3.elim
theorem pt_notD (ha : PDT X CT W a p) : PDT X CT W (.UnaryOp .Not a pos) (tNot p) := by
  refine (L2.pt_not ha).imp fun σ H Q q => ?_
  obtain ⟨w, s, e, rfl, m, re, ok⟩ := q
  exact ⟨w, s, e, rfl, m, re, (Ok.bind ok).imp fun b s1 w1 e1 m1 ⟨_, _, ok1⟩ => ok1.get Ext.refl m1⟩
abbrev PDW (X : Cx) (CT : Nat → Addr) (W : XW) (e : Expr) (f : TV) : Prop := PW X e (tDT X.K CT W f)
theorem pw_and1D (ha : PDT X CT W a p) : PDW X CT W (.BoolOp .And [a] pos) p := pw_and1 ha
theorem pw_or1D (ha : PDT X CT W a p) : PDW X CT W (.BoolOp .Or [a] pos) p := pw_or1 ha
theorem pw_andD (ha : PDT X CT W a p) (hb : PDW X CT W (.BoolOp .And (b :: rest) pos) q) : PDW X CT W (.BoolOp .And (a :: b :: rest) pos) (tAnd p q) := by
  refine (pw_and ha hb).imp fun σ H Q q => ?_
  obtain ⟨w, s, e, rfl, m, re, ok⟩ := q
  refine ⟨w, s, e, rfl, m, re, (Ok.bind ok).imp fun b s1 w1 e1 m1 ⟨_, _, ok1⟩ => ?_⟩
  cases b with
  | true => exact ⟨w1, s1, e, rfl, m1, re.ext e1, ok1⟩
  | false => exact ok1.get Ext.refl m1
theorem pw_orD (ha : PDT X CT W a p) (hb : PDW X CT W (.BoolOp .Or (b :: rest) pos) q) : PDW X CT W (.BoolOp .Or (a :: b :: rest) pos) (tOr p q) := by
  refine (pw_or ha hb).imp fun σ H Q q => ?_
  obtain ⟨w, s, e, rfl, m, re, ok⟩ := q
  refine ⟨w, s, e, rfl, m, re, (Ok.bind ok).imp fun b s1 w1 e1 m1 ⟨_, _, ok1⟩ => ?_⟩
  cases b with
  | true => exact ok1.get Ext.refl m1
  | false => exact ⟨w1, s1, e, rfl, m1, re.ext e1, ok1⟩

/-! and, or, not as values -/
def eAnd (f g : EV) : EV := fun e s => (f e s).bind fun x s => match truB s x with
  | some true => g e s
  | some false => .ok x s
  | none => .bad
def eOr (f g : EV) : EV := fun e s => (f e s).bind fun x s => match truB s x with
  | some true => .ok x s
  | some false => g e s
  | none => .bad
def eNot (f : EV) : EV := fun e s => (f e s).bind fun x s => match truB s x with
  | some b => .ok (.p (.bool !b)) s
  | none => .bad
def eIf (p : TV) (f g : EV) : EV := fun e s => (p e s).bind fun b s => if b then f e s else g e s
theorem pd_one {op : BoolOp} (h : PD X CT W a f) : PD X CT W (.BoolOp op [a] pos) f := pe_one h
theorem pd_and (ha : PD X CT W a f) (hb : PD X CT W (.BoolOp .And (b :: rest) pos) g) : PD X CT W (.BoolOp .And (a :: b :: rest) pos) (eAnd f g) := by
  refine (pe_andT ha hb).imp fun σ H Q q => ?_
  obtain ⟨w, s, e, rfl, m, re, ok⟩ := q
  refine ⟨w, s, e, rfl, m, re, (Ok.bind ok).imp fun x s1 w1 e1 m1 ⟨_, _, ok1⟩ v rv => ?_⟩
  split at ok1
  · rename_i hb
    exact ⟨true, tru_rep m1 rv hb, by rw [if_pos rfl]; exact ⟨w1, s1, e, rfl, m1, re.ext e1, ok1⟩⟩
  · rename_i hb
    exact ⟨false, tru_rep m1 rv hb, by rw [if_neg Bool.false_ne_true]; exact nowD m1 ok1 rv⟩
  · exact ok1.elim
theorem pd_or (ha : PD X CT W a f) (hb : PD X CT W (.BoolOp .Or (b :: rest) pos) g) : PD X CT W (.BoolOp .Or (a :: b :: rest) pos) (eOr f g) := by
  refine (pe_orT ha hb).imp fun σ H Q q => ?_
  obtain ⟨w, s, e, rfl, m, re, ok⟩ := q
  refine ⟨w, s, e, rfl, m, re, (Ok.bind ok).imp fun x s1 w1 e1 m1 ⟨_, _, ok1⟩ v rv => ?_⟩
  split at ok1
  · rename_i hb
    exact ⟨true, tru_rep m1 rv hb, by rw [if_pos rfl]; exact nowD m1 ok1 rv⟩
  · rename_i hb
    exact ⟨false, tru_rep m1 rv hb, by rw [if_neg Bool.false_ne_true]; exact ⟨w1, s1, e, rfl, m1, re.ext e1, ok1⟩⟩
  · exact ok1.elim
theorem pd_not (ha : PD X CT W a f) : PD X CT W (.UnaryOp .Not a pos) (eNot f) := by
  refine (pe_notT ha).imp fun σ H Q q => ?_
  obtain ⟨w, s, e, rfl, m, re, ok⟩ := q
  refine ⟨w, s, e, rfl, m, re, (Ok.bind ok).imp fun x s1 w1 e1 m1 ⟨_, _, ok1⟩ v rv => ?_⟩
  split at ok1
  · rename_i b hb
    exact ⟨b, tru_rep m1 rv hb, now m1 ok1 rfl⟩
  · exact ok1.elim
theorem pd_if (hc : PDT X CT W c p) (ha : PD X CT W a f) (hb : PD X CT W b g) : PD X CT W (.IfExp c a b pos) (eIf p f g) := by
  refine (pe_ifExp hc ha hb).imp fun σ H Q q => ?_
  obtain ⟨w, s, e, rfl, m, re, ok⟩ := q
  refine ⟨w, s, e, rfl, m, re, (Ok.bind ok).imp fun b s1 w1 e1 m1 ⟨_, _, ok1⟩ => ?_⟩
  cases b with
  | true => exact ⟨w1, s1, e, rfl, m1, re.ext e1, ok1⟩
  | false => exact ⟨w1, s1, e, rfl, m1, re.ext e1, ok1⟩
def eNeg (f : EV) : EV := fun e s => (f e s).bind fun x s => match x with
  | .p (.int i) => .ok (.p (.int (-i))) s
  | _ => .bad
theorem pd_neg (ha : PD X CT W a f) : PD X CT W (.UnaryOp .USub a pos) (eNeg f) := by
  refine (pe_un un_neg ha).imp fun σ H Q q => ?_
  obtain ⟨w, s, e, rfl, m, re, ok⟩ := q
  refine ⟨w, s, e, rfl, m, re, (Ok.bind ok).imp fun x s1 w1 e1 m1 ⟨_, _, ok1⟩ v rv => ?_⟩
  split at ok1
  · exact ⟨_, rv, now m1 ok1 rfl⟩
  · exact ok1.elim
end

/-! ### argument lists, displays -/
def aNil : AV := fun _ s => .ok [] s
def aCons (f : EV) (g : AV) : AV := fun e s => (f e s).bind fun x s => (g e s).bind fun r s => .ok (x :: r) s
def eTup (g : AV) : EV := fun e s => (g e s).bind fun ds s => if ds.length ≤ sizeLine then .ok (mkT ds) s else .bad
def eLst (h : Bool) (g : AV) : EV := fun e s => (g e s).bind fun ds s => if ds.length ≤ sizeLine then newL h ds s else .bad
section
variable {X : Cx} {CT : Nat → Addr} {W : XW} {pos : Pos} {a b c : Expr} {es : List Expr} {f g k : EV} {l : AV}
theorem pa_nilD : PDA X CT W [] aNil := by
  refine pa_nil.imp fun σ H Q q => ?_
  obtain ⟨w, s, e, rfl, m, re, ok⟩ := q
  exact ok.get Ext.refl m [] rfl
theorem pa_consD (ha : PD X CT W a f) (hr : PDA X CT W es l) (hs : starEach (a :: es) X.env = (false, eval a X.env) :: starEach es X.env := by rfl) : PDA X CT W (a :: es) (aCons f l) := by
  refine (pa_cons ha hr hs).imp fun σ H Q q => ?_
  obtain ⟨w, s, e, rfl, m, re, ok⟩ := q
  refine ⟨w, s, e, rfl, m, re, (Ok.bind ok).imp fun x s1 w1 e1 m1 ⟨_, _, ok1⟩ v rv => ?_⟩
  refine ⟨w1, s1, e, rfl, m1, re.ext e1, (Ok.bind ok1).imp fun ds s2 w2 e2 m2 ⟨_, _, ok2⟩ vs rvs => ?_⟩
  exact ok2.get Ext.refl m2 (v :: vs) ⟨v, vs, rfl, RD.ext e2 _ _ rv, rvs⟩
theorem pd_tup {x1} (h : PDA X CT W es l) : PD X CT W (.Tuple es x1 pos) (eTup l) := by
  refine (pe_tup h).imp fun σ H Q q => ?_
  obtain ⟨w, s, e, rfl, m, re, ok⟩ := q
  refine ⟨w, s, e, rfl, m, re, (Ok.bind ok).imp fun ds s1 w1 e1 m1 ⟨_, _, ok1⟩ vs rvs => ?_⟩
  split at ok1
  · rename_i hz
    exact ⟨by rw [rvs.length]; exact hz, fun p hp => newT_ok m1 hp rvs ok1⟩
  · exact ok1.elim
theorem pd_lst (h : Bool) (ha : PDA X CT W es l) : PD X CT W (.List es pos) (eLst h l) := by
  refine (pe_lst ha).imp fun σ H Q q => ?_
  obtain ⟨w, s, e, rfl, m, re, ok⟩ := q
  refine ⟨w, s, e, rfl, m, re, (Ok.bind ok).imp fun ds s1 w1 e1 m1 ⟨_, _, ok1⟩ vs rvs => ?_⟩
  split at ok1
  · rename_i hz
    exact ⟨by rw [rvs.length]; exact hz, fun p hp => newL_ok m1 hp rvs ok1⟩
  · exact ok1.elim
end

/-! ### subscripts, slices -/
/-- the i-th item, from behind where i is negative -/
def hIx : D → D → Sto → R D
  | .p (.str z), .p (.int i), s => if z.length ≤ sizeLine then (match atI z.cps.toList i with
    | some c => .ok (.p (.str ⟨#[c]⟩)) s
    | none => .bad) else .bad
  | x, .p (.int i), s => match asT x with
    | some xs => (match atI xs i with
      | some d => .ok d s
      | none => .bad)
    | none => match asL s x with
      | some xs => (match atI xs i with
        | some d => .ok d s
        | none => .bad)
      | none => .bad
  | _, _, _ => .bad
theorem RDs.atI {K : PySem.W.Frag} {w : Wd} {xs : List D} {vs : List V} {i : Int} {d : D} (r : RDs K w xs vs) (h : L2.atI xs i = some d) : ∃ v, L2.atI vs i = some v ∧ RD K w d v := by
  unfold L2.atI at h ⊢
  rw [r.length]
  cases q : ixN xs.length i with
  | none => rw [q] at h; cases h
  | some j =>
    rw [q] at h
    exact r.get h
theorem opd_ix {K : PySem.W.Frag} {CT : Nat → Addr} : OpD K CT (rIx K) hIx := by
  intro W w s x y vx vy Q m rx ry ok
  unfold hIx at ok
  split at ok
  · split at ok
    · rename_i hz
      split at ok
      · rename_i c hc
        exact .inr (.inr ⟨_, _, c, rx, ry, hz, hc, now m ok rfl⟩)
      · exact ok.elim
    · exact ok.elim
  · split at ok
    · rename_i xs hx
      split at ok
      · rename_i d hd
        obtain ⟨a, vs, rfl, h1, h2⟩ := asT_rep rx hx
        obtain ⟨v, h3, h4⟩ := h2.atI hd
        exact .inr (.inl ⟨a, vs, _, v, rfl, ry, h1, h3, nowD m ok h4⟩)
      · exact ok.elim
    · split at ok
      · rename_i xs hx
        split at ok
        · rename_i d hd
          obtain ⟨a, vs, rfl, h1, h2⟩ := asL_rep m rx hx
          obtain ⟨v, h3, h4⟩ := h2.atI hd
          exact .inl ⟨a, vs, _, v, rfl, ry, h1, h3, nowD m ok h4⟩
        · exact ok.elim
      · exact ok.elim
  · exact ok.elim
def cutD (xs : List D) (lo hi : Option Int) : List D := (xs.drop (HT.sIx xs.length 0 lo)).take (HT.sIx xs.length xs.length hi - HT.sIx xs.length 0 lo)
theorem RDs.cut {K : PySem.W.Frag} {w : Wd} {xs : List D} {vs : List V} (r : RDs K w xs vs) (lo hi : Option Int) : RDs K w (cutD xs lo hi) (cutV vs lo hi) := by
  unfold cutD cutV
  rw [r.length]
  exact (r.drop _).take _
abbrev OV := En → Sto → R (Option Int)
def oNone : OV := fun _ s => .ok none s
def oSome (f : EV) : OV := fun e s => (f e s).bind fun d s => match d with
  | .p (.int i) => .ok (some i) s
  | _ => .bad
def hCut (h : Bool) (x : D) (lo hi : Option Int) (s : Sto) : R D := match asT x with
  | some xs => .ok (mkT (cutD xs lo hi)) s
  | none => match asL s x with
    | some xs => newL h (cutD xs lo hi) s
    | none => .bad
def eCut (h : Bool) (f : EV) (lo hi : OV) : EV := fun e s => (f e s).bind fun x s => (lo e s).bind fun l s => (hi e s).bind fun u s => hCut h x l u s
def tDO (K : PySem.W.Frag) (CT : Nat → Addr) (W : XW) (f : OV) : TO := fun σ H Q => ∃ w s e, w.H = H ∧ Sim K CT w s ∧ RE K w e σ ∧ Ok K CT (fun c x s' w' => W c x σ s' w') w (f e s) fun d s' w' => Q d w'.H
section
variable {X : Cx} {CT : Nat → Addr} {W : XW} {pos p2 : Pos} {a b c : Expr} {lo hi : Option Expr} {f g k : EV} {l u : OV}
theorem po_imp {e : Option Expr} {t t' : TO} (h : PO X e t) (i : ∀ σ H Q, t' σ H Q → t σ H Q) : PO X e t' := ⟨fun pins s σ H Q I h' => h.run pins s σ H Q I (i _ _ _ h')⟩
theorem po_noneD : PO X none (tDO X.K CT W oNone) := po_imp po_none fun σ H Q q => by
  obtain ⟨w, s, e, rfl, m, re, ok⟩ := q
  exact ok.get Ext.refl m
theorem po_someD (h : PD X CT W a f) : PO X (some a) (tDO X.K CT W (oSome f)) := po_imp (po_some h) fun σ H Q q => by
  obtain ⟨w, s, e, rfl, m, re, ok⟩ := q
  refine ⟨w, s, e, rfl, m, re, (Ok.bind ok).imp fun d s1 w1 e1 m1 ⟨_, _, ok1⟩ v rv => ?_⟩
  split at ok1
  · exact ⟨_, rv, ok1.get Ext.refl m1⟩
  · exact ok1.elim
theorem pd_ix (ha : PD X CT W a f) (hb : PD X CT W b g) (hs : PlainIx b := by exact fun _ _ => rfl) : PD X CT W (.Subscript a b pos) (eOp hIx f g) :=
  (pe_ix ix_seq ha hb hs).imp fun σ H Q q => tD_op opd_ix q
theorem pd_cut (h : Bool) (ha : PD X CT W a f) (hl : PO X lo (tDO X.K CT W l)) (hh : PO X hi (tDO X.K CT W u)) : PD X CT W (.Subscript a (.Slice lo hi none p2) pos) (eCut h f l u) := by
  refine (pe_slice (sl_tupA.or sl_list) ha hl hh).imp fun σ H Q q => ?_
  obtain ⟨w, s, e, rfl, m, re, ok⟩ := q
  refine ⟨w, s, e, rfl, m, re, (Ok.bind ok).imp fun x s1 w1 e1 m1 ⟨_, _, ok1⟩ vx rx => ?_⟩
  refine ⟨w1, s1, e, rfl, m1, re.ext e1, (Ok.bind ok1).imp fun lo s2 w2 e2 m2 ⟨_, _, ok2⟩ => ?_⟩
  refine ⟨w2, s2, e, rfl, m2, (re.ext e1).ext e2, (Ok.bind ok2).imp fun hi s3 w3 e3 m3 ⟨_, _, ok3⟩ => ?_⟩
  have rx := RD.ext e3 _ _ (RD.ext e2 _ _ rx)
  unfold hCut at ok3
  split at ok3
  · rename_i xs hx
    obtain ⟨a, vs, rfl, h1, h2⟩ := asT_rep rx hx
    refine .inl ⟨a, vs, rfl, h1, fun hw => ?_, fun _ p hp => newT_ok m3 hp (h2.cut lo hi) ok3⟩
    have e1 : cutV vs lo hi = vs := by
      unfold cutV
      rw [hw.1, hw.2, List.drop_zero, Nat.sub_zero, List.take_length]
    exact oldT_ok m3 h1 (by rw [← e1]; exact h2.cut lo hi) ok3
  · split at ok3
    · rename_i xs hx
      obtain ⟨a, vs, rfl, h1, h2⟩ := asL_rep m3 rx hx
      exact .inr ⟨a, vs, rfl, h1, fun p hp => newL_ok m3 hp (h2.cut lo hi) ok3⟩
    · exact ok3.elim
end
end Dl
/-! The data layer: statements, loops, comprehensions. -/
namespace Dl
open PySem PySem.Spec PyProof.Rows L2

/-! ### what is wanted of exceptions -/
/-- how an exception of the store's kind lies: its class, its own dict with its one field -/
structure ExT where
  cls : Nat → Addr
  fld : Nat → Str
def ExR (K : PySem.W.Frag) (T : ExT) (w : Wd) (c : Nat) (x : PyData) (cls : Value) (d : Option Addr) : Prop :=
  cls = .ref (T.cls c) ∧ ∃ dd v, d = some dd ∧ w.H dd = some (.xd [(T.fld c, v)]) ∧ RP K w x v
def WL (K : PySem.W.Frag) (CT : Nat → Addr) (T : ExT) (W : XW) : WX := fun cls d σ H => ∃ c x s w, w.H = H ∧ Sim K CT w s ∧ ExR K T w c x cls d ∧ W c x σ s w
/-- no exception -/
abbrev W0 : XW := fun _ _ _ _ _ => False
/-- room for k calls, one in another; nothing is shown yet -/
structure RoomG (k : Nat) (A : Around) : Prop where
  hd : A.handled = none
  gd : A.guards = some []
  dp : A.depth + 2 * k + 5 < recursionLimit
  un : A.units + 8 * k + 200 < cLine
theorem RoomG.mono {j k : Nat} {A : Around} (r : RoomG k A) (h : j ≤ k) : RoomG j A := ⟨r.hd, r.gd, by have := r.dp; omega, by have := r.un; omega⟩
theorem RoomG.down {k : Nat} {A : Around} (r : RoomG (k + 1) A) (env : Env) : RoomG k (A.deeper env) :=
  ⟨r.hd, r.gd, by
    have := r.dp
    show A.depth + 1 + 2 * k + 5 < _
    omega, by
    have := r.un
    show A.units + 3 + 8 * k + 200 < _
    omega⟩
/-- what a body stands in -/
structure Bd (X : Cx) (CT : Nat → Addr) (T : ExT) (W : XW) (k : Nat) : Prop where
  calm : X.calm = true
  nd : X.N.Nodup
  own : PassesOwn (model X.prog X.w) X.A X.env X.xe
  room : RoomG k X.A
  dp1 : X.A.depth + 2 * k + 6 < recursionLimit ∧ X.A.units + 8 * k + 204 < cLine
  tk : Takes X (WL X.K CT T W)
theorem Bd.hu {X : Cx} {CT : Nat → Addr} {T : ExT} {W : XW} {k : Nat} (B : Bd X CT T W k) : X.A.units + 65 < cLine := by
  have := B.room.un
  omega
theorem Bd.blk {X : Cx} {CT : Nat → Addr} {T : ExT} {W : XW} {k : Nat} (B : Bd X CT T W k) (s : Shared) (H : Hp) (scope : Scope) (cenv : Env) (fp : List Addr) : Bd (X.blk s H scope cenv fp) CT T W0 k :=
  ⟨B.calm, B.nd, PassesOwn.never, B.room, B.dp1, fun _ _ x => by
    obtain ⟨_, _, _, _, _, _, _, _, _, _, _, _, _, _, _, _, _, _, _, _, _, _, _, z⟩ := x
    exact z.elim⟩

/-! ### statements -/
def R.toS {α : Type} (r : R α) (e : En) (f : α → Sto → RS) : RS := match r with
  | .ok a s => f a s
  | .ex c x s => .ex c x e s
  | .bad => .bad
@[simp] theorem R.toS_ok {α : Type} (a : α) (s : Sto) (e : En) (f : α → Sto → RS) : (R.ok a s).toS e f = f a s := id rfl
@[simp] theorem R.toS_ex {α : Type} (c : Nat) (x : PyData) (s : Sto) (e : En) (f : α → Sto → RS) : (R.ex c x s : R α).toS e f = .ex c x e s := id rfl
@[simp] theorem R.toS_bad {α : Type} (e : En) (f : α → Sto → RS) : (R.bad : R α).toS e f = .bad := id rfl
def RS.seq (r : RS) (k : En → Sto → RS) : RS := match r with
  | .nx e s => k e s
  | r => r
@[simp] theorem RS.seq_nx (e : En) (s : Sto) (k : En → Sto → RS) : (RS.nx e s).seq k = k e s := id rfl
@[simp] theorem RS.seq_rt (d : D) (s : Sto) (k : En → Sto → RS) : (RS.rt d s).seq k = .rt d s := id rfl
@[simp] theorem RS.seq_bk (e : En) (s : Sto) (k : En → Sto → RS) : (RS.bk e s).seq k = .bk e s := id rfl
@[simp] theorem RS.seq_ct (e : En) (s : Sto) (k : En → Sto → RS) : (RS.ct e s).seq k = .ct e s := id rfl
@[simp] theorem RS.seq_ex (c : Nat) (x : PyData) (e : En) (s : Sto) (k : En → Sto → RS) : (RS.ex c x e s).seq k = .ex c x e s := id rfl
@[simp] theorem RS.seq_bad (k : En → Sto → RS) : RS.bad.seq k = .bad := id rfl
/-- a loop's body -/
def RS.loop (r : RS) (k : En → Sto → RS) : RS := match r with
  | .nx e s => k e s
  | .ct e s => k e s
  | .bk e s => .nx e s
  | r => r
@[simp] theorem RS.loop_nx (e : En) (s : Sto) (k : En → Sto → RS) : (RS.nx e s).loop k = k e s := id rfl
@[simp] theorem RS.loop_ct (e : En) (s : Sto) (k : En → Sto → RS) : (RS.ct e s).loop k = k e s := id rfl
@[simp] theorem RS.loop_bk (e : En) (s : Sto) (k : En → Sto → RS) : (RS.bk e s).loop k = .nx e s := id rfl
@[simp] theorem RS.loop_rt (d : D) (s : Sto) (k : En → Sto → RS) : (RS.rt d s).loop k = .rt d s := id rfl
@[simp] theorem RS.loop_ex (c : Nat) (x : PyData) (e : En) (s : Sto) (k : En → Sto → RS) : (RS.ex c x e s).loop k = .ex c x e s := id rfl
@[simp] theorem RS.loop_bad (k : En → Sto → RS) : RS.bad.loop k = .bad := id rfl
section
variable {K : PySem.W.Frag} {CT : Nat → Addr} {W : XW} {w w' : Wd} {s : Sto} {e : En} {D D' : Ends} {α : Type}
theorem OkS.ext {r : RS} (x : Ext K w w') (h : OkS K CT W w r D) : OkS K CT W w' r D := by
  cases r with
  | nx e s => exact fun w2 σ e2 m2 => h w2 σ (x.trans e2) m2
  | bk e s => exact fun w2 σ e2 m2 => h w2 σ (x.trans e2) m2
  | ct e s => exact fun w2 σ e2 m2 => h w2 σ (x.trans e2) m2
  | rt d s => exact fun w2 σ e2 m2 => h w2 σ (x.trans e2) m2
  | ex c y e s => exact fun w2 σ e2 m2 => h w2 σ (x.trans e2) m2
  | bad => exact h
theorem OkS.toS {r : R α} {f : α → Sto → RS} {σ : L2.St} (re : RE K w e σ) (h : OkS K CT W w (r.toS e f) D) : Ok K CT (fun c x s' w' => W c x σ s' w') w r fun a s' w' => Ext K w w' ∧ Sim K CT w' s' ∧ OkS K CT W w' (f a s') D := by
  cases r with
  | ok a s' => exact fun w2 e2 m2 => ⟨e2, m2, OkS.ext e2 h⟩
  | ex c x s' => exact fun w2 e2 m2 => h w2 σ e2 m2 (re.ext e2)
  | bad => exact h
theorem OkS.seq {r : RS} {k : En → Sto → RS} (h : OkS K CT W w (r.seq k) D) : OkS K CT W w r { D with nx := fun σ H => ∃ w' s' e', w'.H = H ∧ Sim K CT w' s' ∧ RE K w' e' σ ∧ OkS K CT W w' (k e' s') D } := by
  cases r with
  | nx e s => exact fun w2 σ e2 m2 re => ⟨w2, s, e, rfl, m2, re, OkS.ext e2 h⟩
  | bk e s => exact h
  | ct e s => exact h
  | rt d s => exact h
  | ex c y e s => exact h
  | bad => exact h
theorem OkS.loop {r : RS} {k : En → Sto → RS} {N : L2.St → Hp → Prop} (h : OkS K CT W w (r.loop k) D) (hN : ∀ w' s' e' σ, Ext K w w' → Sim K CT w' s' → RE K w' e' σ → OkS K CT W w' (k e' s') D → N σ w'.H) : OkS K CT W w r { D with nx := N, ct := N, bk := D.nx } := by
  cases r with
  | nx e s => exact fun w2 σ e2 m2 re => hN w2 s e σ e2 m2 re (OkS.ext e2 h)
  | ct e s => exact fun w2 σ e2 m2 re => hN w2 s e σ e2 m2 re (OkS.ext e2 h)
  | bk e s => exact h
  | rt d s => exact h
  | ex c y e s => exact h
  | bad => exact h
end

def sNil : SV := fun e s => .nx e s
def sSeq (f g : SV) : SV := fun e s => (f e s).seq g
def sPass : SV := fun e s => .nx e s
def sBreak : SV := fun e s => .bk e s
def sCont : SV := fun e s => .ct e s
def sExpr (f : EV) : SV := fun e s => (f e s).toS e fun _ s => .nx e s
def sRet (f : EV) : SV := fun e s => (f e s).toS e fun d s => .rt d s
def sRetN : SV := fun _ s => .rt (.p .none) s
def sSet (i : Nat) (f : EV) : SV := fun e s => (f e s).toS e fun d s => .nx (e.set i (some d)) s
def sIf (p : TV) (f g : SV) : SV := fun e s => (p e s).toS e fun b s => if b then f e s else g e s
section
variable {X : Cx} {CT : Nat → Addr} {W : XW} {pos : Pos} {a b c : Expr} {st : Stmt} {rest es1 es2 : List Stmt} {f g k : EV} {p q : TV} {u v : SV}
theorem pb_nil : PDB X CT W [] sNil := by
  refine pss_nil.imp fun D σ H q => ?_
  obtain ⟨w, s, e, rfl, m, re, ok⟩ := q
  exact ok w σ Ext.refl m re
theorem pb_cons (h1 : PDS X CT W st u) (h2 : PDB X CT W rest v) : PDB X CT W (st :: rest) (sSeq u v) := by
  refine (pss_cons h1 h2).imp fun D σ H q => ?_
  obtain ⟨w, s, e, rfl, m, re, ok⟩ := q
  exact ⟨w, s, e, rfl, m, re, OkS.seq ok⟩
theorem pb_one (h1 : PDS X CT W st u) : PDB X CT W [st] u := pss_one h1
theorem ps_passD : PDS X CT W (.Pass pos) sPass := by
  refine ps_pass.imp fun D σ H q => ?_
  obtain ⟨w, s, e, rfl, m, re, ok⟩ := q
  exact ok w σ Ext.refl m re
theorem ps_docD {x : Str} {j : Nat} {pos' : Pos} : PDS X CT W (.Expr (.Constant (.str x) j pos) pos') sPass := by
  refine ps_doc.imp fun D σ H q => ?_
  obtain ⟨w, s, e, rfl, m, re, ok⟩ := q
  exact ok w σ Ext.refl m re
theorem ps_breakD : PDS X CT W (.Break pos) sBreak := by
  refine ps_break.imp fun D σ H q => ?_
  obtain ⟨w, s, e, rfl, m, re, ok⟩ := q
  exact ok w σ Ext.refl m re
theorem ps_contD : PDS X CT W (.Continue pos) sCont := by
  refine ps_continue.imp fun D σ H q => ?_
  obtain ⟨w, s, e, rfl, m, re, ok⟩ := q
  exact ok w σ Ext.refl m re
theorem ps_exprD (h : PD X CT W a f) (hs : swapsWith a none pos.line X.env = pure false := by rfl) : PDS X CT W (.Expr a pos) (sExpr f) := by
  refine (ps_expr h hs).imp fun D σ H q => ?_
  obtain ⟨w, s, e, rfl, m, re, ok⟩ := q
  exact ⟨w, s, e, rfl, m, re, (OkS.toS re ok).imp fun d s1 w1 e1 m1 ⟨_, _, ok1⟩ v _ => ok1 w1 σ Ext.refl m1 (re.ext e1)⟩
theorem ps_retD (h : PD X CT W a f) : PDS X CT W (.Return (some a) pos) (sRet f) := by
  refine (ps_ret h).imp fun D σ H q => ?_
  obtain ⟨w, s, e, rfl, m, re, ok⟩ := q
  exact ⟨w, s, e, rfl, m, re, (OkS.toS re ok).imp fun d s1 w1 e1 m1 ⟨_, _, ok1⟩ v rv => ok1 w1 v Ext.refl m1 rv⟩
theorem ps_retND : PDS X CT W (.Return none pos) sRetN := by
  refine ps_retN.imp fun D σ H q => ?_
  obtain ⟨w, s, e, rfl, m, re, ok⟩ := q
  exact ok w .non Ext.refl m rfl
theorem ps_setD (i : Nat) {x : Str} {pos' : Pos} (hN : X.N.Nodup) (h : PD X CT W a f) (hi : X.N[i]? = some x := by rfl) (hx : Loc X.env.scope x := by first | exact Or.inl rfl | exact Or.inr rfl) (hs : swapsWith a (some (.Name x pos')) pos.line X.env = pure false := by rfl)
    (hf : X.fn x = true ∨ X.env.scope.names.lookup x = some .local := by first | exact .inl rfl | exact .inr rfl | assumption) : PDS X CT W (.Assign [.Name x pos'] a pos) (sSet i f) := by
  refine (ps_set hN hi hx h hs hf).imp fun D σ H q => ?_
  obtain ⟨w, s, e, rfl, m, re, ok⟩ := q
  exact ⟨w, s, e, rfl, m, re, (OkS.toS re ok).imp fun d s1 w1 e1 m1 ⟨_, _, ok1⟩ v rv => ok1 w1 _ Ext.refl m1 ((re.ext e1).set i rv)⟩
theorem ps_ifD (hc : PDT X CT W c p) (ha : PDB X CT W es1 u) (hb : PDB X CT W es2 v) : PDS X CT W (.If c es1 es2 pos) (sIf p u v) := by
  refine (ps_if hc ha hb).imp fun D σ H q => ?_
  obtain ⟨w, s, e, rfl, m, re, ok⟩ := q
  refine ⟨w, s, e, rfl, m, re, (OkS.toS re ok).imp fun b s1 w1 e1 m1 ⟨_, _, ok1⟩ => ?_⟩
  cases b with
  | true => exact ⟨w1, s1, e, rfl, m1, re.ext e1, ok1⟩
  | false => exact ⟨w1, s1, e, rfl, m1, re.ext e1, ok1⟩
end

/-! ### targets -/
abbrev GV := D → En → Sto → R En
def tDG (K : PySem.W.Frag) (CT : Nat → Addr) (W : XW) (sl : List Nat) (g : GV) : TG := fun v σ H Q => ∃ w s e d, w.H = H ∧ Sim K CT w s ∧ RE K w e σ ∧ RD K w d v ∧
  Ok K CT (fun c x s' w' => W c x σ s' w') w (g d e s) fun e' s' w' => ∀ σ', RE K w' e' σ' → (∀ vs, (∀ i ∈ sl, i ∈ vs) → wipe σ' vs = wipe σ vs) → Q σ' w'.H
abbrev PDG (X : Cx) (CT : Nat → Addr) (W : XW) (sl : List Nat) (tg : Expr) (g : GV) : Prop := PG X tg (tDG X.K CT W sl g)
theorem pg_imp {X : Cx} {tg : Expr} {t t' : TG} (h : PG X tg t) (i : ∀ v σ H Q, t' v σ H Q → t v σ H Q) : PG X tg t' := ⟨fun pins s σ H v u Q I r h' => h.run pins s σ H v u Q I r (i _ _ _ _ h')⟩
theorem pgs_imp {X : Cx} {tg : List Expr} {t t' : TGs} (h : PGs X tg t) (i : ∀ v σ H Q, t' v σ H Q → t v σ H Q) : PGs X tg t' := ⟨fun pins s σ H v u Q I r h' => h.run pins s σ H v u Q I r (i _ _ _ _ h')⟩
theorem wipe_get {σ : L2.St} (i : Nat) : ∀ vs : List Nat, (wipe σ vs)[i]? = if i ∈ vs ∧ i < σ.length then some none else σ[i]?
  | [] => by simp [wipe]
  | v :: vs => by
    unfold wipe
    by_cases hv : v = i
    · subst hv
      by_cases hl : v < σ.length
      · rw [List.getElem?_set_self (by rw [wipe_length]; exact hl)]
        simp [hl]
      · rw [List.getElem?_eq_none (by rw [List.length_set, wipe_length]; omega)]
        simp [hl]
    · rw [List.getElem?_set_ne hv, wipe_get i vs]
      have : (i ∈ v :: vs) = (i ∈ vs) := by simp [Ne.symm hv]
      simp only [this]
theorem wipe_set {σ : L2.St} {i : Nat} {x : Option V} {vs : List Nat} (h : i ∈ vs) : wipe (σ.set i x) vs = wipe σ vs := by
  apply List.ext_getElem?
  intro j
  rw [wipe_get, wipe_get, List.length_set]
  by_cases e : i = j
  · subst e
    by_cases hl : i < σ.length
    · simp [h, hl]
    · simp [hl]
  · rw [List.getElem?_set_ne e]
def wipeE (e : En) : List Nat → En
  | [] => e
  | v :: vs => (wipeE e vs).set v none
theorem RE.wipe {K : PySem.W.Frag} {w : Wd} {e : En} {σ : L2.St} (r : RE K w e σ) : ∀ vs : List Nat, RE K w (wipeE e vs) (wipe σ vs)
  | [] => r
  | v :: vs => by
    have q := RE.wipe r vs
    refine ⟨by unfold wipeE L2.wipe; simp [q.len], fun i d h => ?_⟩
    unfold wipeE at h
    by_cases hv : v = i
    · subst hv
      have : v < (wipeE e vs).length := by
        obtain ⟨hl, _⟩ := List.getElem?_eq_some_iff.mp h
        simpa using hl
      rw [List.getElem?_set_self this] at h
      cases h
    · rw [List.getElem?_set_ne hv] at h
      obtain ⟨u, h1, h2⟩ := q.at' i d h
      exact ⟨u, by unfold L2.wipe; rw [List.getElem?_set_ne hv]; exact h1, h2⟩
def gSet (i : Nat) : GV := fun d e s => .ok (e.set i (some d)) s
/-- several targets, in order -/
abbrev GsV := List D → En → Sto → R En
/-- without exceptions -/
def R.noX {α : Type} (r : R α) : R α := match r with
  | .ok a s => .ok a s
  | _ => .bad
def gsNil : GsV := fun ds e s => match ds with
  | [] => .ok e s
  | _ => .bad
def gsCons (g : GV) (h : GsV) : GsV := fun ds e s => match ds with
  | d :: r => (g d e s).bind fun e s => h r e s
  | [] => .bad
def tDGs (K : PySem.W.Frag) (CT : Nat → Addr) (sl : List Nat) (g : GsV) : TGs := fun vs σ H Q => ∃ w s e ds, w.H = H ∧ Sim K CT w s ∧ RE K w e σ ∧ RDs K w ds vs ∧
  Ok K CT (fun _ _ _ _ => False) w (g ds e s) fun e' s' w' => ∀ σ', RE K w' e' σ' → (∀ vs, (∀ i ∈ sl, i ∈ vs) → wipe σ' vs = wipe σ vs) → Q σ' w'.H
abbrev PDGs (X : Cx) (CT : Nat → Addr) (sl : List Nat) (tg : List Expr) (g : GsV) : Prop := PGs X tg (tDGs X.K CT sl g)
def seqOf (s : Sto) (d : D) : Option (List D) := match asT d with
  | some ds => some ds
  | none => asL s d
def gTup (n : Nat) (g : GsV) : GV := fun d e s => match seqOf s d with
  | some ds => if ds.length = n then (g ds e s).noX else .bad
  | none => .bad
section
variable {X : Cx} {CT : Nat → Addr} {W : XW} {pos : Pos} {a b c tg : Expr} {tgs : List Expr} {f fi g k : EV} {h : GV} {hs : GsV} {sl sl' : List Nat}
theorem pg_set (i : Nat) {x : Str} (hN : X.N.Nodup) (hi : X.N[i]? = some x := by rfl) (hx : Loc X.env.scope x := by first | exact Or.inl rfl | exact Or.inr rfl) (hf : X.fn x = true ∨ X.env.scope.names.lookup x = some .local := by first | exact .inl rfl | exact .inr rfl | assumption) :
    PDG X CT W [i] (.Name x pos) (gSet i) := by
  refine pg_imp (pg_name hN hi hx hf) fun v σ H Q q => ?_
  obtain ⟨w, s, e, d, rfl, m, re, rd, ok⟩ := q
  exact ok.get Ext.refl m _ (re.set i rd) fun vs hv => wipe_set (hv i (by simp))
theorem pgs_nilD : PDGs X CT [] [] gsNil := by
  refine pgs_imp pgs_nil fun v σ H Q q => ?_
  obtain ⟨w, s, e, d, rfl, m, re, rd, ok⟩ := q
  cases d with
  | nil => exact ⟨rd, ok.get Ext.refl m _ re fun _ _ => rfl⟩
  | cons x r => exact ok.elim
theorem pgs_consD (h1 : PDG X CT W0 sl tg h) (h2 : PDGs X CT sl' tgs hs) (hs' : (assignEach (tg :: tgs) X.env).map (·.2) = assign tg X.env :: (assignEach tgs X.env).map (·.2) := by rfl) : PDGs X CT (sl ++ sl') (tg :: tgs) (gsCons h hs) := by
  refine pgs_imp (pgs_cons h1 h2 hs') fun vs σ H Q q => ?_
  obtain ⟨w, s, e, ds, rfl, m, re, rd, ok⟩ := q
  cases ds with
  | nil => exact ok.elim
  | cons d r =>
    obtain ⟨v, vr, rfl, r1, r2⟩ := rd
    refine ⟨v, vr, rfl, w, s, e, d, rfl, m, re, r1, (Ok.bind ok).imp fun e1 s1 w1 x1 m1 ⟨_, _, ok1⟩ σ1 re1 hw1 => ?_⟩
    refine ⟨w1, s1, e1, r, rfl, m1, re1, RDs.ext x1 _ _ r2, ok1.imp fun e2 s2 w2 x2 m2 q2 σ2 re2 hw2 => ?_⟩
    exact q2 σ2 re2 fun vs hv => (hw2 vs fun i hi => hv i (List.mem_append_right _ hi)).trans (hw1 vs fun i hi => hv i (List.mem_append_left _ hi))
theorem seqOf_rep {K : PySem.W.Frag} {w : Wd} {s : Sto} {d : D} {v : V} {ds : List D} (m : Sim K CT w s) (r : RD K w d v) (hq : seqOf s d = some ds) : ∃ a vs, v = .ref a ∧ (SqL K w.H a vs ∨ SqT K w.H a vs) ∧ RDs K w ds vs := by
  unfold seqOf at hq
  split at hq
  · rename_i e
    cases hq
    obtain ⟨a, vs, rfl, h1, h2⟩ := asT_rep r e
    exact ⟨a, vs, rfl, .inr h1, h2⟩
  · obtain ⟨a, vs, rfl, h1, h2⟩ := asL_rep m r hq
    exact ⟨a, vs, rfl, .inl h1, h2⟩
/-- a, b, .. = a tuple or a list of that length -/
theorem pg_tupD {kk : Nat} (n : Nat) (hc : X.calm = true) (h2 : PDGs X CT sl tgs hs) (hn : (assignEach tgs X.env).length = n := by rfl) (hst : (assignEach tgs X.env).findIdx? (·.1) = none := by rfl) : PDG X CT W sl (.Tuple tgs kk pos) (gTup n hs) := by
  refine ⟨fun pins s σ H v u Q I r q => ?_⟩
  obtain ⟨w, st, e, d, rfl, m, re, rd, ok⟩ := q
  unfold gTup at ok
  split at ok
  · rename_i ds hq
    split at ok
    · rename_i hl
      obtain ⟨a, vs, rfl, hsq, rvs⟩ := seqOf_rep m rd hq
      have go : tDGs X.K CT sl hs vs σ w.H Q := ⟨w, st, e, ds, rfl, m, re, rvs, by
        cases q : hs ds e st with
        | ok e' s' => rw [q] at ok; exact ok
        | ex c x s' => rw [q] at ok; exact ok.elim
        | bad => rw [q] at ok; exact ok⟩
      have lv := rvs.length
      rcases hsq with hsq | hsq
      · exact (pg_lst hc h2 hn hst).run pins s σ w.H _ u Q I r ⟨a, vs, rfl, hsq, by omega, go⟩
      · exact (pg_tup hc h2 hn hst).run pins s σ w.H _ u Q I r ⟨a, vs, rfl, hsq, by omega, go⟩
    · exact ok.elim
  · exact ok.elim
end
end Dl
/-! The data layer: stores, loops, comprehensions, calls. -/
namespace Dl
open PySem PySem.Spec PyProof.Rows L2

/-! ### stores -/
section
variable {K : PySem.W.Frag} {CT : Nat → Addr} {w : Wd} {s : Sto}
theorem wr_ok {k : Nat} {a : Addr} {ds : List D} {vs vs' : List V} (m : Sim K CT w s) (hk : w.mu[k]? = some a) (hH : w.H a = some (.lst vs)) (r : RDs K w ds vs') :
    Ext K w { w with H := upd w.H a (.lst vs') } ∧ Sim K CT { w with H := upd w.H a (.lst vs') } (s.set k (.lst ds)) := by
  have x := m.extW (u' := .lst vs') hk hH (fun _ z => nomatch z) (fun _ _ z => nomatch z)
  exact ⟨x, m.write hk hH (fun _ z => nomatch z) (fun _ _ z => nomatch z) ⟨vs', upd_same, RDs.ext x _ _ r⟩⟩
/-- the list that stands at a place of the store -/
def lstAt (s : Sto) (k : Nat) : Option (List D) := match s[k]? with
  | some (.lst ds) => some ds
  | _ => none
theorem lstAt_rep {k : Nat} {v : V} {ds : List D} (m : Sim K CT w s) (r : RD K w (.ref k) v) (h : lstAt s k = some ds) : ∃ a vs, v = .ref a ∧ w.mu[k]? = some a ∧ w.H a = some (.lst vs) ∧ RDs K w ds vs := by
  obtain ⟨a, h1, rfl⟩ := r
  obtain ⟨b, vs, e, h2, h3⟩ := asM_rep (d := .ref k) (ds := ds) m ⟨a, h1, rfl⟩ h
  cases e
  exact ⟨a, vs, rfl, h1, h2, h3⟩
end
def setIx (o i d : D) (s : Sto) : R Unit := match o, i with
  | .ref k, .p (.int i) => match lstAt s k with
    | some xs => match ixN xs.length i with
      | some j => .ok () (s.set k (.lst (xs.set j d)))
      | none => .bad
    | none => .bad
  | _, _ => .bad
def gIx (f g : EV) : GV := fun d e s => (f e s).bind fun o s => (g e s).bind fun i s => (setIx o i d s).bind fun _ s => .ok e s
def sAsg (f : EV) (g : GV) : SV := fun e s => (f e s).toS e fun d s => (g d e s).toS e fun e' s => .nx e' s
/-- x op= f -/
def sAug (i : Nat) (h : D → D → Sto → R D) (f : EV) : SV := fun e s => match e[i]? with
  | some (some x) => (f e s).toS e fun y s => (h x y s).toS e fun z s => .nx (e.set i (some z)) s
  | _ => .bad
/-- o[i] op= f, at a list -/
def hIxL (x i : D) (s : Sto) : R D := match asL s x, i with
  | some xs, .p (.int i) => match atI xs i with
    | some d => .ok d s
    | none => .bad
  | _, _ => .bad
def sAugIx (fo fi : EV) (h : D → D → Sto → R D) (f : EV) : SV := fun e s => (fo e s).toS e fun o s => (fi e s).toS e fun i s => (hIxL o i s).toS e fun x s => (f e s).toS e fun y s => (h x y s).toS e fun z s => (setIx o i z s).toS e fun _ s => .nx e s
section
variable {X : Cx} {CT : Nat → Addr} {W : XW} {pos : Pos} {a b c o i tg : Expr} {f g k : EV} {h : GV} {sl : List Nat}
theorem setIx_ok {K : PySem.W.Frag} {W : Nat → PyData → Sto → Wd → Prop} {w : Wd} {s : Sto} {o i d : D} {vo vi v : V} {Q : Hp → Prop} (m : Sim K CT w s) (ro : RD K w o vo) (ri : RD K w i vi) (rd : RD K w d v) (ok : Ok K CT W w (setIx o i d s) fun _ s' w' => Q w'.H) : rSetL vo vi v w.H Q := by
  unfold setIx at ok
  split at ok
  · split at ok
    · rename_i xs hx
      split at ok
      · rename_i j hj
        obtain ⟨a, vs, rfl, h1, h2, h3⟩ := lstAt_rep m ro hx
        obtain ⟨x, m'⟩ := wr_ok m h1 h2 (h3.set rd j)
        exact ⟨a, vs, _, j, rfl, ri, h2, by rw [h3.length]; exact hj, ok.get x m'⟩
      · exact ok.elim
    · exact ok.elim
  · exact ok.elim
theorem pg_ix (ho : PD X CT W o f) (hi : PD X CT W i g) (ha : ∀ v, assign (.Subscript o i pos) X.env v = (do
      let ov ← holding [v] (eval o X.env)
      let iv ← holding [v, ov] (eval i X.env)
      standAt pos
      holding [v, ov, iv] (setItem ov iv v)
      release [v, ov, iv] []) := by intro _; rfl) : PDG X CT W [] (.Subscript o i pos) (gIx f g) := by
  refine pg_imp (pg_sub ho hi set_list ha) fun v σ H Q q => ?_
  obtain ⟨w, s, e, d, rfl, m, re, rd, ok⟩ := q
  refine ⟨w, s, e, rfl, m, re, (Ok.bind ok).imp fun x s1 w1 e1 m1 ⟨_, _, ok1⟩ vo ro => ?_⟩
  refine ⟨w1, s1, e, rfl, m1, re.ext e1, (Ok.bind ok1).imp fun y s2 w2 e2 m2 ⟨_, _, ok2⟩ vi ri => ?_⟩
  refine setIx_ok (W := fun c x s' w' => W c x σ s' w') m2 (RD.ext e2 _ _ ro) ri (RD.ext e2 _ _ (RD.ext e1 _ _ rd)) ((Ok.bind ok2).imp fun z s3 w3 e3 m3 ⟨_, _, ok3⟩ => ?_)
  exact ok3.get Ext.refl m3 σ (((re.ext e1).ext e2).ext e3) fun _ _ => rfl
theorem ps_asgD (hf : PD X CT W a f) (hg : PDG X CT W sl tg h) (hs : swapsWithSole [tg] a pos.line X.env = pure false := by rfl) (hw : swappedStores [tg] a X.env = pure none := by rfl)
    (h1 : (assignEach [tg] X.env).map (·.2) = [assign tg X.env] := by rfl) : PDS X CT W (.Assign [tg] a pos) (sAsg f h) := by
  refine (ps_asg hf hg hs hw h1).imp fun D σ H q => ?_
  obtain ⟨w, s, e, rfl, m, re, ok⟩ := q
  refine ⟨w, s, e, rfl, m, re, (OkS.toS re ok).imp fun d s1 w1 e1 m1 ⟨_, _, ok1⟩ v rv => ?_⟩
  refine ⟨w1, s1, e, d, rfl, m1, re.ext e1, rv, (OkS.toS (re.ext e1) ok1).imp fun e' s2 w2 e2 m2 ⟨_, _, ok2⟩ σ' re' _ => ?_⟩
  exact ok2 w2 σ' Ext.refl m2 re'
theorem ps_augD (j : Nat) {x : Str} {op : Operator} {pos' : Pos} {r : R2} {hh : D → D → Sto → R D} (ho : OpR X (inplaceOp op) r) (hr : OpD X.K CT r hh) (hN : X.N.Nodup) (hf : PD X CT W a f) (hi : X.N[j]? = some x := by rfl) (hx : Loc X.env.scope x := by first | exact Or.inl rfl | exact Or.inr rfl)
    (hfn : X.fn x = true ∨ X.env.scope.names.lookup x = some .local := by first | exact .inl rfl | exact .inr rfl | assumption) : PDS X CT W (.AugAssign (.Name x pos') op a pos) (sAug j hh f) := by
  refine (ps_aug (ti := r) hN hi hx hf ho hfn).imp fun D σ H q => ?_
  obtain ⟨w, s, e, rfl, m, re, ok⟩ := q
  unfold sAug at ok
  split at ok
  · rename_i x hx
    obtain ⟨vx, h1, h2⟩ := re.at' _ _ hx
    refine ⟨vx, h1, w, s, e, rfl, m, re, (OkS.toS re ok).imp fun y s1 w1 e1 m1 ⟨_, _, ok1⟩ vy ry => ?_⟩
    refine hr (fun c x s' w' => W c x σ s' w') w1 s1 x y vx vy _ m1 (RD.ext e1 _ _ h2) ry ((OkS.toS (re.ext e1) ok1).imp fun z s2 w2 e2 m2 ⟨_, _, ok2⟩ vz rz => ?_)
    exact ok2 w2 _ Ext.refl m2 (((re.ext e1).ext e2).set j rz)
  · exact ok.elim
theorem opd_ixL {K : PySem.W.Frag} : OpD K CT (rIxL K) hIxL := by
  intro W w s x y vx vy Q m rx ry ok
  unfold hIxL at ok
  split at ok
  · rename_i xs i hx
    split at ok
    · rename_i d hd
      obtain ⟨a, vs, rfl, h1, h2⟩ := asL_rep m rx hx
      obtain ⟨v, h3, h4⟩ := h2.atI hd
      exact ⟨a, vs, _, v, rfl, ry, h1, h3, nowD m ok h4⟩
    · exact ok.elim
  · exact ok.elim
theorem get_list : PGet X (rIxL X.K) := by
  intro pins s σ H x y v u Q I rx ry h
  obtain ⟨p, xs, i, z, rfl, rfl, hq, he, q⟩ := h
  cases rx
  obtain ⟨t, rfl⟩ := ry
  obtain ⟨its, r, pl, hz⟩ := I.list hq
  obtain ⟨j, h1, h2, h3, h4, h5⟩ := atI_get he
  obtain ⟨w, ew, rw'⟩ := r.get h2
  have hl := r.length
  have hn := line63
  have fin : EP X pins σ Q w s := ⟨z, H, I, rw', q⟩
  by_cases h0 : 0 ≤ i
  · have hj : i.toNat = j := by
      rw [seqIndex_of h0 h5] at h1
      exact Option.some.inj h1
    exact wpAny_getItem_list (Q := fun r s' => EP X pins σ Q r s') pl.isList h0 (by omega) (by rw [hj]; simpa using ew) fin
  · have hj : (i + (its.toArray.size : Int)).toNat = j := by
      rw [seqIndex_neg (by omega) h4] at h1
      rw [List.size_toArray, ← hl]
      exact Option.some.inj h1
    exact wpAny_getItem_list_neg (Q := fun r s' => EP X pins σ Q r s') pl.isList (by omega) (by rw [List.size_toArray] <;> omega) (by omega) (by rw [hj]; simpa using ew) fin
theorem ps_augIxD {op : Operator} {tpos : Pos} {r : R2} {hh : D → D → Sto → R D} (hop : OpR X (inplaceOp op) r) (hr : OpD X.K CT r hh) (ho : PD X CT W o f) (hi : PD X CT W i g) (he : PD X CT W a k)
    (ha : ∀ ov iv new, augStore i ov iv new = (do holding [new, ov, iv] (setItem ov iv new); release [new, ov, iv] []; pure .next) := by intros; rfl) : PDS X CT W (.AugAssign (.Subscript o i tpos) op a pos) (sAugIx f g hh k) := by
  refine (ps_augS (tip := r) ho hi get_list he hop set_list ha).imp fun D σ H q => ?_
  obtain ⟨w, s, e, rfl, m, re, ok⟩ := q
  refine ⟨w, s, e, rfl, m, re, (OkS.toS re ok).imp fun x s1 w1 e1 m1 ⟨_, _, ok1⟩ vo ro => ?_⟩
  have re1 := re.ext e1
  refine ⟨w1, s1, e, rfl, m1, re1, (OkS.toS re1 ok1).imp fun y s2 w2 e2 m2 ⟨_, _, ok2⟩ vi ri => ?_⟩
  have re2 := re1.ext e2
  refine opd_ixL (fun c x s' w' => W c x σ s' w') w2 s2 x y vo vi _ m2 (RD.ext e2 _ _ ro) ri ((OkS.toS re2 ok2).imp fun z s3 w3 e3 m3 ⟨_, _, ok3⟩ vz rz => ?_)
  have re3 := re2.ext e3
  refine ⟨w3, s3, e, rfl, m3, re3, (OkS.toS re3 ok3).imp fun u s4 w4 e4 m4 ⟨_, _, ok4⟩ vu ru => ?_⟩
  have re4 := re3.ext e4
  refine hr (fun c x s' w' => W c x σ s' w') w4 s4 z u vz vu _ m4 (RD.ext e4 _ _ rz) ru ((OkS.toS re4 ok4).imp fun t s5 w5 e5 m5 ⟨_, _, ok5⟩ vt rt => ?_)
  have re5 := re4.ext e5
  have x5 := (e2.trans e3).trans (e4.trans e5)
  refine setIx_ok (W := fun c x s' w' => W c x σ s' w') m5 (RD.ext x5 _ _ ro) (RD.ext ((e3.trans e4).trans e5) _ _ ri) rt ((OkS.toS re5 ok5).imp fun _ s6 w6 e6 m6 ⟨_, _, ok6⟩ => ?_)
  exact ok6 w6 σ Ext.refl m6 (re5.ext e6)
end

/-! ### while -/
def whGo (c : TV) (b : SV) : Nat → En → Sto → RS
  | 0, _, _ => .bad
  | n + 1, e, s => (c e s).toS e fun t s => if t then (b e s).loop (whGo c b n) else .nx e s
def sWhile (n : Nat) (c : TV) (b : SV) : SV := fun e s => whGo c b n e s
section
variable {X : Cx} {CT : Nat → Addr} {T : ExT} {W : XW} {k : Nat} {pos : Pos} {c : Expr} {body : List Stmt} {p : TV} {u : SV}
theorem ps_whileD (n : Nat) (B : Bd X CT T W k) (hc : PDT X CT W c p) (hb : PDB X CT W body u) : PDS X CT W (.While c body [] pos) (sWhile n p u) := by
  refine (ps_while B.own hc hb).imp fun D σ H q => ?_
  obtain ⟨w, s, e, rfl, m, re, ok⟩ := q
  refine ⟨fun n σ H => ∃ w s e, w.H = H ∧ Sim X.K CT w s ∧ RE X.K w e σ ∧ OkS X.K CT W w (whGo p u n e s) D, ⟨n, w, s, e, rfl, m, re, ok⟩, ?_⟩
  rintro n σ H ⟨w, s, e, rfl, m, re, ok⟩
  cases n with
  | zero => exact ok.elim
  | succ n =>
    refine ⟨w, s, e, rfl, m, re, (OkS.toS re ok).imp fun t s1 w1 e1 m1 ⟨_, _, ok1⟩ => ?_⟩
    have re1 := re.ext e1
    cases t with
    | false =>
      exact ok1 w1 σ Ext.refl m1 re1
    | true =>
      refine ⟨fun σ' H' => ∃ w s e, w.H = H' ∧ Sim X.K CT w s ∧ RE X.K w e σ' ∧ OkS X.K CT W w (whGo p u n e s) D, fun σ' H' h => ⟨n, Nat.lt_succ_self n, h⟩, w1, s1, e, rfl, m1, re1, ?_⟩
      exact OkS.loop ok1 fun w' s' e' σ' x' m' re' ok' => ⟨w', s', e', rfl, m', re', ok'⟩
end

/-! ### what is walked -/
/-- n, a bound of the turns; at turn i: nothing known, the end, an item -/
structure IT where
  n : Nat
  nx : Nat → Sto → Option (Option D)
def itS (xs : List D) : IT := ⟨xs.length, fun i _ => some xs[i]?⟩
def itL (d : D) (n : Nat) : IT := ⟨n, fun i s => (asL s d).map fun xs => xs[i]?⟩
def itZ (x y : D) (n : Nat) : IT := ⟨n, fun i s => match asT x, asT y with
  | some xs, some ys => some (match xs[i]?, ys[i]? with
    | some a, some b => some (mkT [a, b])
    | _, _ => none)
  | _, _ => match asL s x, asL s y with
    | some xs, some ys => some (match xs[i]?, ys[i]? with
      | some a, some b => some (mkT [a, b])
      | _, _ => none)
    | _, _ => none⟩
structure ITok (K : PySem.W.Frag) (CT : Nat → Addr) (w : Wd) (J : It) (it : IT) : Prop where
  stop : ∀ w' s i, Ext K w w' → Sim K CT w' s → it.nx i s = some none → J.stop i w'.H
  go : ∀ w' s i d, Ext K w w' → Sim K CT w' s → it.nx i s = some (some d) → J.go i w'.H ∧ ∀ x H', J.yld i w'.H x H' → ∃ w2, w2.H = H' ∧ Ext K w' w2 ∧ Sim K CT w2 s ∧ RD K w2 d x
theorem ITok.ext {K : PySem.W.Frag} {CT : Nat → Addr} {w w' : Wd} {J : It} {it : IT} (h : ITok K CT w J it) (x : Ext K w w') : ITok K CT w' J it :=
  ⟨fun w2 s i e m q => h.stop w2 s i (x.trans e) m q, fun w2 s i d e m q => h.go w2 s i d (x.trans e) m q⟩
abbrev IV := En → Sto → R IT
def tDI (K : PySem.W.Frag) (CT : Nat → Addr) (W : XW) (f : IV) : TI := fun σ H Q => ∃ w s e, w.H = H ∧ Sim K CT w s ∧ RE K w e σ ∧ Ok K CT (fun c x s' w' => W c x σ s' w') w (f e s) fun it s' w' => ∀ J, ITok K CT w' J it → Q J w'.H
abbrev PDI (X : Cx) (CT : Nat → Addr) (W : XW) (tg e : Expr) (f : IV) : Prop := PI X tg e (tDI X.K CT W f)
theorem pi_imp {X : Cx} {tg e : Expr} {t t' : TI} (h : PI X tg e t) (i : ∀ σ H Q, t' σ H Q → t σ H Q) : PI X tg e t' := ⟨fun pins s σ H Q I h' => h.run pins s σ H Q I (i _ _ _ h')⟩
theorem pi_or {X : Cx} {tg e : Expr} {t t' : TI} (h : PI X tg e t) (h' : PI X tg e t') : PI X tg e (fun σ H Q => t σ H Q ∨ t' σ H Q) := ⟨fun pins s σ H Q I q => q.elim (h.run pins s σ H Q I) (h'.run pins s σ H Q I)⟩

def iSeq (f : EV) : IV := fun e s => (f e s).bind fun d s => match d with
  | .p (.str z) => .ok (itS (z.cps.toList.map fun c => D.p (.str ⟨#[c]⟩))) s
  | d => match asT d with
    | some xs => .ok (itS xs) s
    | none => match asL s d with
      | some xs => .ok (itL d xs.length) s
      | none => .bad
def rngD (lo : Int) (n : Nat) : List D := (List.range n).map fun (i : Nat) => D.p (.int (lo + i))
def iRange1 (f : EV) : IV := fun e s => (f e s).bind fun d s => match d with
  | .p (.int j) => if -(2 ^ 62) ≤ j ∧ j < 2 ^ 62 then .ok (itS (rngD 0 j.toNat)) s else .bad
  | _ => .bad
def iRange2 (f g : EV) : IV := fun e s => (f e s).bind fun a s => (g e s).bind fun b s => match a, b with
  | .p (.int i), .p (.int j) => if -(2 ^ 62) ≤ i ∧ i < 2 ^ 62 ∧ -(2 ^ 62) ≤ j ∧ j < 2 ^ 62 then .ok (itS (rngD i (j - i).toNat)) s else .bad
  | _, _ => .bad
/-- range(i, j, -1) -/
def dnD (hi : Int) (n : Nat) : List D := (List.range n).map fun (i : Nat) => D.p (.int (hi + (i : Nat) * (-1)))
def iRange3 (f g h : EV) : IV := fun e s => (f e s).bind fun a s => (g e s).bind fun b s => (h e s).bind fun c s => match a, b, c with
  | .p (.int i), .p (.int j), .p (.int (-1)) => if -(2 ^ 62) ≤ i ∧ i < 2 ^ 62 ∧ -(2 ^ 62) ≤ j ∧ j < 2 ^ 62 then .ok (itS (dnD i (i - j).toNat)) s else .bad
  | _, _, _ => .bad
def iZipD (f g : EV) : IV := fun e s => (f e s).bind fun x s => (g e s).bind fun y s => match asT x, asT y with
  | some xs, some ys => .ok (itZ x y xs.length) s
  | _, _ => match asL s x, asL s y with
    | some xs, some ys => .ok (itZ x y xs.length) s
    | _, _ => .bad
section
variable {K : PySem.W.Frag} {CT : Nat → Addr} {w : Wd} {s : Sto}
theorem itok_static {J : It} {xs : List D} (fv : Nat → V) (hr : ∀ w i d, xs[i]? = some d → RD K w d (fv i)) (hs : ∀ i H, xs[i]? = none → J.stop i H) (hg : ∀ i H, xs[i]?.isSome → J.go i H) (hy : ∀ i H x H', J.yld i H x H' → i < xs.length → H' = H ∧ x = fv i) : ITok K CT w J (itS xs) where
  stop := fun w' s i _ _ q => hs i _ (by simpa [itS] using q)
  go := fun w' s i d x m q => by
    have q : xs[i]? = some d := by simpa [itS] using q
    refine ⟨hg i _ (by rw [q]; rfl), fun v H' y => ?_⟩
    obtain ⟨hl, _⟩ := List.getElem?_eq_some_iff.mp q
    obtain ⟨rfl, rfl⟩ := hy i _ v H' y hl
    exact ⟨w', rfl, Ext.refl, m, hr w' i d q⟩
theorem rngD_get {lo : Int} {n i : Nat} {d : D} (h : (rngD lo n)[i]? = some d) : i < n ∧ d = .p (.int (lo + i)) := by
  unfold rngD at h
  rw [List.getElem?_map] at h
  by_cases hi : i < n
  · rw [List.getElem?_range hi] at h
    exact ⟨hi, by simpa using h.symm⟩
  · rw [List.getElem?_eq_none (by simpa using hi)] at h
    cases h
theorem rngD_none {lo : Int} {n i : Nat} (h : (rngD lo n)[i]? = none) : n ≤ i := by
  have := List.getElem?_eq_none_iff.mp h
  simpa [rngD] using this
theorem itok_range {lo : Int} {n : Nat} : ITok K CT w (Itr lo n) (itS (rngD lo n)) :=
  itok_static (fun i => .int (lo + i)) (fun w i d h => by rw [(rngD_get h).2]; rfl) (fun i H h => rngD_none h) (fun i H h => by
    cases q : (rngD lo n)[i]? with
    | none => rw [q] at h; cases h
    | some d => exact (rngD_get q).1) (fun i H x H' y _ => y)
theorem dnD_get {lo : Int} {n i : Nat} {d : D} (h : (dnD lo n)[i]? = some d) : i < n ∧ d = .p (.int (lo + (i : Nat) * (-1))) := by
  unfold dnD at h
  rw [List.getElem?_map] at h
  by_cases hi : i < n
  · rw [List.getElem?_range hi] at h
    exact ⟨hi, by simpa using h.symm⟩
  · rw [List.getElem?_eq_none (by simpa using hi)] at h
    cases h
theorem dnD_none {lo : Int} {n i : Nat} (h : (dnD lo n)[i]? = none) : n ≤ i := by
  have := List.getElem?_eq_none_iff.mp h
  simpa [dnD] using this
theorem itok_rangeN {lo : Int} {n : Nat} : ITok K CT w (Itc lo (-1) n) (itS (dnD lo n)) :=
  itok_static (fun i => .int (lo + (i : Nat) * (-1))) (fun w i d h => by rw [(dnD_get h).2]; rfl) (fun i H h => dnD_none h) (fun i H h => by
    cases q : (dnD lo n)[i]? with
    | none => rw [q] at h; cases h
    | some d => exact (dnD_get q).1) (fun i H x H' y _ => y)
theorem itok_str {z : Str} : ITok K CT w (Its z) (itS (z.cps.toList.map fun c => D.p (.str ⟨#[c]⟩))) where
  stop := fun w' s i _ _ q => by
    have q : (z.cps.toList.map fun c => D.p (.str ⟨#[c]⟩))[i]? = none := by simpa only [itS, Option.some.injEq] using q
    have := List.getElem?_eq_none_iff.mp q
    show z.cps.size ≤ i
    simpa using this
  go := fun w' s i d x m q => by
    have q : (z.cps.toList.map fun c => D.p (.str ⟨#[c]⟩))[i]? = some d := by simpa only [itS, Option.some.injEq] using q
    obtain ⟨hl, hd⟩ := List.getElem?_eq_some_iff.mp q
    refine ⟨by show i < z.cps.size; simpa using hl, fun v H' y => ?_⟩
    obtain ⟨rfl, c, hc, rfl⟩ := y
    refine ⟨w', rfl, Ext.refl, m, ?_⟩
    rw [List.getElem?_map] at q
    have : z.cps.toList[i]? = some c := by simpa using hc
    rw [this] at q
    cases q
    rfl
theorem itok_tup {a : Addr} {vs : List V} {ds : List D} (h : SqT K w.H a vs) (r : RDs K w ds vs) : ITok K CT w (Itt K a) (itS ds) where
  stop := fun w' s i x _ q => by
    have q : ds[i]? = none := by simpa [itS] using q
    exact ⟨vs, x.sq _ _ h, by rw [r.length]; exact List.getElem?_eq_none_iff.mp q⟩
  go := fun w' s i d x m q => by
    have q : ds[i]? = some d := by simpa [itS] using q
    obtain ⟨v, h1, h2⟩ := (RDs.ext x _ _ r).get q
    refine ⟨⟨vs, v, x.sq _ _ h, h1⟩, fun u H' y => ?_⟩
    obtain ⟨rfl, y⟩ := y
    have := y vs (x.sq _ _ h)
    rw [h1] at this
    cases this
    exact ⟨w', rfl, Ext.refl, m, h2⟩
theorem itok_list {a : Addr} {d0 : D} {n : Nat} (r : RD K w d0 (.ref a)) : ITok K CT w (Itl K a) (itL d0 n) where
  stop := fun w' s i x m q => by
    have q : (asL s d0).map (fun xs => xs[i]?) = some none := q
    cases e : asL s d0 with
    | none => rw [e] at q; cases q
    | some ds =>
      rw [e] at q
      have q : ds[i]? = none := by simpa using q
      obtain ⟨b, vs, eb, h1, h2⟩ := asL_rep m (RD.ext x _ _ r) e
      cases eb
      exact ⟨vs, h1, by rw [h2.length]; exact List.getElem?_eq_none_iff.mp q⟩
  go := fun w' s i d x m q => by
    have q : (asL s d0).map (fun xs => xs[i]?) = some (some d) := q
    cases e : asL s d0 with
    | none => rw [e] at q; cases q
    | some ds =>
      rw [e] at q
      have q : ds[i]? = some d := by simpa using q
      obtain ⟨b, vs, eb, h1, h2⟩ := asL_rep m (RD.ext x _ _ r) e
      cases eb
      obtain ⟨v, h3, h4⟩ := h2.get q
      refine ⟨⟨vs, v, h1, h3⟩, fun u H' y => ?_⟩
      obtain ⟨rfl, y⟩ := y
      have := y vs h1
      rw [h3] at this
      cases this
      exact ⟨w', rfl, Ext.refl, m, h4⟩
theorem pair_yld {w' : Wd} {s : Sto} {a b : D} {va vb u : V} {H' : Hp} (m : Sim K CT w' s) (ra : RD K w' a va) (rb : RD K w' b vb) (y : ∃ T x z, u = .ref T ∧ w'.H T = none ∧ H' = upd w'.H T (.tup [x, z]) ∧ x = va ∧ z = vb) : ∃ w2, w2.H = H' ∧ Ext K w' w2 ∧ Sim K CT w2 s ∧ RD K w2 (mkT [a, b]) u := by
  obtain ⟨T, x, z, rfl, hT, rfl, rfl, rfl⟩ := y
  have x := m.extT (o := .tup [x, z]) hT
  exact ⟨_, rfl, x, m.newT hT, RD.mkT (.of upd_same) ⟨_, _, rfl, RD.ext x _ _ ra, _, _, rfl, RD.ext x _ _ rb, rfl⟩⟩
theorem itok_zipT {x y : D} {a b : Addr} {xs ys : List D} {n : Nat} {vs us : List V} (ex : asT x = some xs) (ey : asT y = some ys) (h : SqT K w.H a vs) (r : RDs K w xs vs) (h' : SqT K w.H b us) (r' : RDs K w ys us) : ITok K CT w (RZ.ItzT K a b) (itZ x y n) where
  stop := fun w' s i xt m q => by
    have q : some (match xs[i]?, ys[i]? with | some a, some b => some (mkT [a, b]) | _, _ => none) = some none := by simpa only [itZ, ex, ey] using q
    refine ⟨vs, us, xt.sq _ _ h, xt.sq _ _ h', ?_⟩
    rw [r.length, r'.length]
    cases e1 : xs[i]? with
    | none => exact .inl (List.getElem?_eq_none_iff.mp e1)
    | some c =>
      cases e2 : ys[i]? with
      | none => exact .inr (List.getElem?_eq_none_iff.mp e2)
      | some c' => rw [e1, e2] at q; simp at q
  go := fun w' s i d xt m q => by
    have q : some (match xs[i]?, ys[i]? with | some a, some b => some (mkT [a, b]) | _, _ => none) = some (some d) := by simpa only [itZ, ex, ey] using q
    cases e1 : xs[i]? with
    | none => rw [e1] at q; simp at q
    | some c =>
      cases e2 : ys[i]? with
      | none => rw [e1, e2] at q; simp at q
      | some c' =>
        rw [e1, e2] at q
        simp at q
        subst q
        obtain ⟨va, h1, h2⟩ := (RDs.ext xt _ _ r).get e1
        obtain ⟨vb, h3, h4⟩ := (RDs.ext xt _ _ r').get e2
        refine ⟨⟨vs, us, va, vb, xt.sq _ _ h, xt.sq _ _ h', h1, h3⟩, fun u H' yy => pair_yld m h2 h4 ?_⟩
        obtain ⟨T, p, z, rfl, hT, rfl, k1, k2⟩ := yy
        have k1 := k1 vs (xt.sq _ _ h)
        have k2 := k2 us (xt.sq _ _ h')
        rw [h1] at k1
        rw [h3] at k2
        cases k1
        cases k2
        exact ⟨T, _, _, rfl, hT, rfl, rfl, rfl⟩
theorem itok_zipL {x y : D} {a b : Addr} {n : Nat} (nt : asT x = none ∨ asT y = none) (r : RD K w x (.ref a)) (r' : RD K w y (.ref b)) : ITok K CT w (Itz K a b) (itZ x y n) where
  stop := fun w' s i xt m q => by
    have q : (match asL s x, asL s y with
      | some xs, some ys => some (match xs[i]?, ys[i]? with
        | some a, some b => some (mkT [a, b])
        | _, _ => none)
      | _, _ => none) = some none := by
      rcases nt with nt | nt
      · simpa only [itZ, nt] using q
      · cases e : asT x <;> simpa only [itZ, nt, e] using q
    cases ex : asL s x with
    | none => rw [ex] at q; simp at q
    | some xs =>
      cases ey : asL s y with
      | none => rw [ex, ey] at q; simp at q
      | some ys =>
        rw [ex, ey] at q
        obtain ⟨a', vs, eb, h1, h2⟩ := asL_rep m (RD.ext xt _ _ r) ex
        cases eb
        obtain ⟨b', us, eb, h3, h4⟩ := asL_rep m (RD.ext xt _ _ r') ey
        cases eb
        refine ⟨vs, us, h1, h3, ?_⟩
        rw [h2.length, h4.length]
        cases e1 : xs[i]? with
        | none => exact .inl (List.getElem?_eq_none_iff.mp e1)
        | some c =>
          cases e2 : ys[i]? with
          | none => exact .inr (List.getElem?_eq_none_iff.mp e2)
          | some c' => simp [e1, e2] at q
  go := fun w' s i d xt m q => by
    have q : (match asL s x, asL s y with
      | some xs, some ys => some (match xs[i]?, ys[i]? with
        | some a, some b => some (mkT [a, b])
        | _, _ => none)
      | _, _ => none) = some (some d) := by
      rcases nt with nt | nt
      · simpa only [itZ, nt] using q
      · cases e : asT x <;> simpa only [itZ, nt, e] using q
    cases ex : asL s x with
    | none => rw [ex] at q; simp at q
    | some xs =>
      cases ey : asL s y with
      | none => rw [ex, ey] at q; simp at q
      | some ys =>
        rw [ex, ey] at q
        obtain ⟨a', vs, eb, h1, h2⟩ := asL_rep m (RD.ext xt _ _ r) ex
        cases eb
        obtain ⟨b', us, eb, h3, h4⟩ := asL_rep m (RD.ext xt _ _ r') ey
        cases eb
        cases e1 : xs[i]? with
        | none => simp [e1] at q
        | some c =>
          cases e2 : ys[i]? with
          | none => simp [e1, e2] at q
          | some c' =>
            simp [e1, e2] at q
            subst q
            obtain ⟨va, k1, k2⟩ := h2.get e1
            obtain ⟨vb, k3, k4⟩ := h4.get e2
            refine ⟨⟨vs, us, va, vb, h1, h3, k1, k3⟩, fun u H' yy => pair_yld m k2 k4 ?_⟩
            obtain ⟨T, p, z, rfl, hT, rfl, l1, l2⟩ := yy
            have l1 := l1 vs h1
            have l2 := l2 us h3
            rw [k1] at l1
            rw [k3] at l2
            cases l1
            cases l2
            exact ⟨T, _, _, rfl, hT, rfl, rfl, rfl⟩
end
section
variable {X : Cx} {CT : Nat → Addr} {T : ExT} {W : XW} {k : Nat} {pos p p2 tpos : Pos} {a b c tg : Expr} {f g h : EV}
theorem pi_seq (ha : PD X CT W a f) : PDI X CT W tg a (iSeq f) := by
  refine pi_imp (pi_or (pi_or (pi_list ha) (pi_tup ha)) (pi_str ha)) fun σ H Q q => ?_
  obtain ⟨w, s, e, rfl, m, re, ok⟩ := q
  unfold iSeq at ok
  -- which of the three
  cases hf : f e s with
  | bad => rw [hf] at ok; exact ok.elim
  | ex c x s' =>
    rw [hf] at ok
    exact .inl (.inl ⟨w, s, e, rfl, m, re, by rw [hf]; exact ok⟩)
  | ok d s' =>
    rw [hf] at ok
    replace ok : Ok X.K CT _ w (match d with
      | .p (.str z) => .ok (itS (z.cps.toList.map fun c => D.p (.str ⟨#[c]⟩))) s'
      | d => match asT d with
        | some xs => .ok (itS xs) s'
        | none => match asL s' d with
          | some xs => .ok (itL d xs.length) s'
          | none => .bad) _ := ok
    split at ok
    · rename_i z
      refine .inr ⟨w, s, e, rfl, m, re, ?_⟩
      rw [hf]
      intro w' x' m' v rv
      exact ⟨z, rv, ok.get x' m' _ itok_str⟩
    · split at ok
      · rename_i xs hx
        refine .inl (.inr ⟨w, s, e, rfl, m, re, ?_⟩)
        rw [hf]
        intro w' x' m' v rv
        obtain ⟨a, vs, rfl, h1, h2⟩ := asT_rep rv hx
        exact ⟨a, rfl, ⟨vs, h1⟩, ok.get x' m' _ (itok_tup h1 h2)⟩
      · split at ok
        · rename_i xs hx
          refine .inl (.inl ⟨w, s, e, rfl, m, re, ?_⟩)
          rw [hf]
          intro w' x' m' v rv
          obtain ⟨a, vs, rfl, h1, h2⟩ := asL_rep m' rv hx
          exact ⟨a, rfl, ⟨vs, h1⟩, ok.get x' m' _ (itok_list rv)⟩
        · exact ok.elim
theorem pi_range1D (hg : Gl X "range") (hm : X.mg "range" = none) (ha : PD X CT W a f) (hs : starEach [a] X.env = [(false, eval a X.env)] := by rfl) : PDI X CT W tg (.Call (.Name "range" p) [a] [] pos) (iRange1 f) := by
  refine pi_imp (pi_range1 hg hm (pa_cons ha pa_nil (by rw [hs]; rfl)) hs) fun σ H Q q => ?_
  obtain ⟨w, s, e, rfl, m, re, ok⟩ := q
  refine ⟨w, s, e, rfl, m, re, (Ok.bind ok).imp fun d s1 w1 e1 m1 ⟨_, _, ok1⟩ v rv => ?_⟩
  split at ok1
  · split at ok1
    · rename_i hb
      cases (show v = .int _ from rv)
      exact ⟨_, rfl, hb.1, hb.2, ok1.get Ext.refl m1 _ itok_range⟩
    · exact ok1.elim
  · exact ok1.elim
theorem pi_range2D (hg : Gl X "range") (hm : X.mg "range" = none) (ha : PD X CT W a f) (hb : PD X CT W b g) (hs : starEach [a, b] X.env = [(false, eval a X.env), (false, eval b X.env)] := by rfl) (hs2 : starEach [b] X.env = [(false, eval b X.env)] := by rfl) : PDI X CT W tg (.Call (.Name "range" p) [a, b] [] pos) (iRange2 f g) := by
  refine pi_imp (pi_range2 hg hm (pa_cons ha (pa_cons hb pa_nil (by rw [hs2]; rfl)) (by rw [hs, hs2])) hs hs2) fun σ H Q q => ?_
  obtain ⟨w, s, e, rfl, m, re, ok⟩ := q
  refine ⟨w, s, e, rfl, m, re, (Ok.bind ok).imp fun d s1 w1 e1 m1 ⟨_, _, ok1⟩ v rv => ?_⟩
  refine ⟨w1, s1, e, rfl, m1, re.ext e1, (Ok.bind ok1).imp fun d2 s2 w2 e2 m2 ⟨_, _, ok2⟩ u ru => ?_⟩
  have rv := RD.ext e2 _ _ rv
  split at ok2
  · split at ok2
    · rename_i hb
      cases (show v = .int _ from rv)
      cases (show u = .int _ from ru)
      exact ⟨_, _, rfl, hb, ok2.get Ext.refl m2 _ itok_range⟩
    · exact ok2.elim
  · exact ok2.elim
theorem pi_range3D (hg : Gl X "range") (hm : X.mg "range" = none) (ha : PD X CT W a f) (hb : PD X CT W b g) (hc : PD X CT W c h) (hi : ∀ t, PA X [a, b, c] t → PI X tg (.Call (.Name "range" p) [a, b, c] [] pos) (iRng3 t)) (hs : starEach [a, b, c] X.env = (false, eval a X.env) :: starEach [b, c] X.env := by rfl) (hs2 : starEach [b, c] X.env = (false, eval b X.env) :: starEach [c] X.env := by rfl) (hs3 : starEach [c] X.env = (false, eval c X.env) :: starEach [] X.env := by rfl) : PDI X CT W tg (.Call (.Name "range" p) [a, b, c] [] pos) (iRange3 f g h) := by
  refine pi_imp (hi _ (pa_cons ha (pa_cons hb (pa_cons hc pa_nil hs3) hs2) hs)) fun σ H Q q => ?_
  obtain ⟨w, s, e, rfl, m, re, ok⟩ := q
  refine ⟨w, s, e, rfl, m, re, (Ok.bind ok).imp fun d s1 w1 e1 m1 ⟨_, _, ok1⟩ v rv => ?_⟩
  refine ⟨w1, s1, e, rfl, m1, re.ext e1, (Ok.bind ok1).imp fun d2 s2 w2 e2 m2 ⟨_, _, ok2⟩ u ru => ?_⟩
  refine ⟨w2, s2, e, rfl, m2, (re.ext e1).ext e2, (Ok.bind ok2).imp fun d3 s3 w3 e3 m3 ⟨_, _, ok3⟩ t rt => ?_⟩
  have rv := RD.ext e3 _ _ (RD.ext e2 _ _ rv)
  have ru := RD.ext e3 _ _ ru
  split at ok3
  · split at ok3
    · rename_i hb
      cases (show v = .int _ from rv)
      cases (show u = .int _ from ru)
      cases (show t = .int (-1) from rt)
      exact ⟨_, _, -1, _, rfl, RgC.neg hb.1 hb.2.1 hb.2.2.1 hb.2.2.2, ok3.get Ext.refl m3 _ itok_rangeN⟩
    · exact ok3.elim
  · exact ok3.elim
theorem pi_zipD {elts : List Expr} {kk : Nat} (hg : Gl X "zip") (hm : X.mg "zip" = none) (ha : PD X CT W a f) (hb : PD X CT W b g) (hs : starEach [a, b] X.env = (false, eval a X.env) :: starEach [b] X.env := by rfl) (hpl : (backTo pos (starEach [b] X.env)).any (·.1) = false := by rfl) (hs2 : starEach [b] X.env = (false, eval b X.env) :: starEach [] X.env := by rfl) :
    PDI X CT W (.Tuple elts kk tpos) (.Call (.Name "zip" p) [a, b] [] pos) (iZipD f g) := by
  refine pi_imp (RZ.pi_zipA hg hm (pa_cons ha (pa_cons hb pa_nil hs2) hs) hs hpl) fun σ H Q q => ?_
  obtain ⟨w, s, e, rfl, m, re, ok⟩ := q
  refine ⟨w, s, e, rfl, m, re, (Ok.bind ok).imp fun d s1 w1 e1 m1 ⟨_, _, ok1⟩ v rv => ?_⟩
  refine ⟨w1, s1, e, rfl, m1, re.ext e1, (Ok.bind ok1).imp fun d2 s2 w2 e2 m2 ⟨_, _, ok2⟩ u ru => ?_⟩
  have rv := RD.ext e2 _ _ rv
  split at ok2
  · rename_i xs ys hx hy
    obtain ⟨a, vs, rfl, h1, h2⟩ := asT_rep rv hx
    obtain ⟨b, us, rfl, h3, h4⟩ := asT_rep ru hy
    exact ⟨a, b, vs, us, rfl, .inr ⟨h1, h3, ok2.get Ext.refl m2 _ (itok_zipT hx hy h1 h2 h3 h4)⟩⟩
  · rename_i nt
    split at ok2
    · rename_i xs ys hx hy
      obtain ⟨a, vs, rfl, h1, h2⟩ := asL_rep m2 rv hx
      obtain ⟨b, us, rfl, h3, h4⟩ := asL_rep m2 ru hy
      refine ⟨a, b, vs, us, rfl, .inl ⟨h1, h3, ok2.get Ext.refl m2 _ (itok_zipL ?_ rv ru)⟩⟩
      cases ea : asT d with
      | none => exact .inl rfl
      | some xs' =>
        cases eb : asT d2 with
        | none => exact .inr rfl
        | some ys' => exact (nt xs' ys' ea eb).elim
    · exact ok2.elim
end
end Dl
/-! The data layer: for, comprehensions, calls. -/
namespace Dl
open PySem PySem.Spec PyProof.Rows L2

/-! ### for -/
def foGo (g : GV) (b : SV) (it : IT) : Nat → Nat → En → Sto → RS
  | 0, i, e, s => match it.nx i s with
    | some none => .nx e s
    | _ => .bad
  | m + 1, i, e, s => match it.nx i s with
    | some none => .nx e s
    | some (some d) => (g d e s).toS e fun e' s => (b e' s).loop (foGo g b it m (i + 1))
    | none => .bad
def sFor (fi : IV) (g : GV) (b : SV) : SV := fun e s => (fi e s).toS e fun it s => foGo g b it it.n 0 e s
section
variable {X : Cx} {CT : Nat → Addr} {T : ExT} {W : XW} {k : Nat} {pos : Pos} {tg iter : Expr} {body : List Stmt} {fi : IV} {g : GV} {u : SV} {sl : List Nat}
theorem ps_forD (B : Bd X CT T W k) (hi : PDI X CT W tg iter fi) (hg : PDG X CT W sl tg g) (hb : PDB X CT W body u) (hs : ∀ x, foldedSetIterable iter X.env x = pure x := by intro _; rfl) : PDS X CT W (.For tg iter body [] pos) (sFor fi g u) := by
  refine (ps_for B.own B.calm hi hg hb hs).imp fun D σ H q => ?_
  obtain ⟨w, s, e, rfl, m, re, ok⟩ := q
  refine ⟨w, s, e, rfl, m, re, (OkS.toS re ok).imp fun it s1 w1 e1 m1 ⟨_, _, ok1⟩ J hJ => ?_⟩
  refine ⟨fun i m σ H => ∃ w s e, w.H = H ∧ Sim X.K CT w s ∧ RE X.K w e σ ∧ ITok X.K CT w J it ∧ OkS X.K CT W w (foGo g u it m i e s) D, ⟨it.n, w1, s1, e, rfl, m1, re.ext e1, hJ, ok1⟩, ?_⟩
  rintro i m σ H ⟨w, s, e, rfl, m, re, hJ, ok⟩
  rename_i n
  cases n with
  | zero =>
    unfold foGo at ok
    split at ok
    · rename_i hn
      exact .inl ⟨hJ.stop w s i Ext.refl m hn, ok w σ Ext.refl m re⟩
    · exact ok.elim
  | succ n =>
    unfold foGo at ok
    split at ok
    · rename_i hn
      exact .inl ⟨hJ.stop w s i Ext.refl m hn, ok w σ Ext.refl m re⟩
    · rename_i d hn
      obtain ⟨hgo, hy⟩ := hJ.go w s i d Ext.refl m hn
      refine .inr ⟨hgo, fun σ' H' => ∃ w s e, w.H = H' ∧ Sim X.K CT w s ∧ RE X.K w e σ' ∧ ITok X.K CT w J it ∧ OkS X.K CT W w (foGo g u it n (i + 1) e s) D, fun σ' H' h => ⟨n, Nat.lt_succ_self n, h⟩, fun x H' y => ?_⟩
      obtain ⟨w2, rfl, x2, m2, rd⟩ := hy x H' y
      have re2 := re.ext x2
      refine ⟨w2, s, e, d, rfl, m2, re2, rd, (OkS.toS re2 (OkS.ext x2 ok)).imp fun e' s3 w3 x3 m3 ⟨_, _, ok3⟩ σ' re3 _ => ?_⟩
      refine ⟨w3, s3, e', rfl, m3, re3, OkS.loop ok3 fun w4 s4 e4 σ4 x4 m4 re4 ok4 => ?_⟩
      exact ⟨w4, s4, e4, rfl, m4, re4, hJ.ext (x2.trans (x3.trans x4)), ok4⟩
    · exact ok.elim
end

/-! ### list comprehensions -/
def lcGo (g : GV) (p : TV) (f : EV) (e0 : En) (it : IT) : Nat → Nat → List D → Sto → R (List D)
  | 0, i, acc, s => match it.nx i s with
    | some none => .ok acc s
    | _ => .bad
  | m + 1, i, acc, s => match it.nx i s with
    | some none => .ok acc s
    | some (some d) => (g d e0 s).bind fun e1 s => (p e1 s).bind fun b s => if b then (f e1 s).bind fun y s => if acc.length < sizeLine then lcGo g p f e0 it m (i + 1) (acc ++ [y]) s else .bad
      else lcGo g p f e0 it m (i + 1) acc s
    | none => .bad
def eLc (h : Bool) (vs : List Nat) (fi : IV) (g : GV) (p : TV) (f : EV) : EV := fun e s => (fi e s).bind fun it s => (lcGo g p f (wipeE e vs) it it.n 0 [] s).noX.bind fun ds s => newL h ds s
def tYes : TV := fun _ s => .ok true s
theorem noX_bind {K : PySem.W.Frag} {CT : Nat → Addr} {W : Nat → PyData → Sto → Wd → Prop} {w : Wd} {α β : Type} {r : R α} {f : α → Sto → R β} {k : β → Sto → Wd → Prop} (h : Ok K CT W w (r.noX.bind f) k) : Ok K CT (fun _ _ _ _ => False) w r fun a s' w' => Ext K w w' ∧ Sim K CT w' s' ∧ Ok K CT W w' (f a s') k := by
  cases r with
  | ok a s => exact fun w2 x2 m2 => ⟨x2, m2, Ok.ext x2 h⟩
  | ex c x s => exact h.elim
  | bad => exact h.elim
theorem Ok.bindB {K : PySem.W.Frag} {CT : Nat → Addr} {W : Nat → PyData → Sto → Wd → Prop} {w : Wd} {α β : Type} {r : R α} {f : α → Sto → R β} {k : β → Sto → Wd → Prop} (h : Ok K CT W w (r.bind f) k) : Ok K CT W w r fun a s' w' => Ok K CT W w (f a s') k := by
  cases r with
  | ok a s' => exact fun w2 e2 m2 => h
  | ex c y s' => exact h
  | bad => exact h
section
variable {X : Cx} {CT : Nat → Addr} {T : ExT} {W : XW} {k : Nat} {pos : Pos} {elt tg iter : Expr} {ifs : List Expr} {scope : Scope} {own : List (Str × Nat)} {fi : IV} {g : GV} {p : TV} {f : EV} {sl : List Nat}
/-- the list in the making comes to rest -/
theorem rest_ok {K : PySem.W.Frag} {W : Nat → PyData → Sto → Wd → Prop} {w0 w : Wd} {s : Sto} {D : Addr} {h : Bool} {ds : List Dl.D} {vs : List V} {Q : VK} (x0 : Ext K w0 w) (hD : ∀ a, w0.pr a → a ≠ D) (m : Sim K CT w s) (hpr : w.pr D) (hH : w.H D = some (.lst vs)) (r : RDs K w ds vs)
    (q : Ok K CT W w0 (newL h ds s) fun d s' w' => ∀ v, RD K w' d v → Q v w'.H) : Q (.ref D) w.H := by
  have nfz : ¬ w.fz D := fun z => m.fp D z hpr
  have nmu : D ∉ w.mu := fun z => (m.dj D z).2 hpr
  have asO : Ok K CT W w0 (.ok (.ref s.length) (s ++ [.lst ds])) (fun d s' w' => ∀ v, RD K w' d v → Q v w'.H) → Q (.ref D) w.H := fun q => by
    have x1 : Ext0 K w ⟨w.mu ++ [D], w.fz, fun a => w.pr a ∧ a ≠ D, w.H⟩ := ⟨⟨[D], rfl⟩, fun _ _ h => h, fun _ _ h => h, fun _ h => ⟨h, rfl⟩⟩
    refine q.get (w' := ⟨w.mu ++ [D], w.fz, fun a => w.pr a ∧ a ≠ D, w.H⟩) ⟨x0.toExt0.trans x1, fun a ha => ⟨⟨(x0.pr a ha).1, hD a ha⟩, (x0.pr a ha).2⟩⟩ ⟨by simp [m.len], ?_, fun a ha => ?_, m.fz, fun a h z => m.fp a h z.1, fun a h => m.pr a h.1, fun k o hk => ?_⟩ (.ref D) ⟨D, ?_, rfl⟩
    · show (w.mu ++ [D]).Nodup
      rw [List.nodup_append]
      refine ⟨m.nd, by simp, fun a ha b hb => ?_⟩
      have : b = D := by simpa using hb
      subst this
      rintro rfl
      exact nmu ha
    · rcases List.mem_append.mp ha with ha | ha
      · exact ⟨(m.dj a ha).1, fun z => (m.dj a ha).2 z.1⟩
      · have : a = D := by simpa using ha
        subst this
        exact ⟨nfz, fun z => z.2 rfl⟩
    · by_cases hl : k < s.length
      · rw [List.getElem?_append_left hl] at hk
        obtain ⟨a, h1, h2⟩ := m.ob k o hk
        exact ⟨a, by show (w.mu ++ [D])[k]? = _; rw [List.getElem?_append_left (by rw [m.len]; exact hl)]; exact h1, h2.ext x1 rfl⟩
      · have hk2 : k = s.length := by
          obtain ⟨hl, _⟩ := List.getElem?_eq_some_iff.mp hk
          rw [List.length_append, List.length_singleton] at hl
          omega
        subst hk2
        rw [List.getElem?_append_right (Nat.le_refl _)] at hk
        simp at hk
        subst hk
        exact ⟨D, by show (w.mu ++ [D])[s.length]? = _; rw [← m.len]; simp, vs, hH, RDs.ext0 x1 _ _ r⟩
    · show (w.mu ++ [D])[s.length]? = _
      rw [← m.len]
      simp
  unfold newL at q
  cases h with
  | true => exact asO q
  | false =>
    cases e : allP ds with
    | none =>
      rw [e] at q
      exact asO q
    | some xs =>
      rw [e] at q
      have x1 : Ext0 K w ⟨w.mu, fun a => w.fz a ∨ a = D, fun a => w.pr a ∧ a ≠ D, w.H⟩ := ⟨⟨[], by simp⟩, fun _ _ h => h, fun _ _ h => h, fun _ h => ⟨.inl h, rfl⟩⟩
      have r2 : RDs K w (xs.map Dl.D.p) vs := by rw [← allP_some e]; exact r
      refine q.get (w' := ⟨w.mu, fun a => w.fz a ∨ a = D, fun a => w.pr a ∧ a ≠ D, w.H⟩) ⟨x0.toExt0.trans x1, fun a ha => ⟨⟨(x0.pr a ha).1, hD a ha⟩, (x0.pr a ha).2⟩⟩ ⟨m.len, m.nd, fun a ha => ⟨fun z => ?_, fun z => (m.dj a ha).2 z.1⟩, fun a h => ?_, fun a h z => ?_, fun a h => m.pr a h.1, fun k o hk => ?_⟩ (.ref D) ⟨D, vs, rfl, ⟨hH, .inr rfl⟩, RPs.ext0 x1 _ _ r2.toP⟩
      · rcases z with z | z
        · exact (m.dj a ha).1 z
        · subst z
          exact nmu ha
      · rcases h with h | h
        · exact m.fz a h
        · subst h
          exact ⟨_, hH⟩
      · rcases h with h | h
        · exact m.fp a h z.1
        · exact z.2 h
      · obtain ⟨a, h1, h2⟩ := m.ob k o hk
        exact ⟨a, h1, h2.ext x1 rfl⟩
theorem lc_reads (h : Bool) {σ : L2.St} {H : Hp} {Q : VK} (hsl : ∀ i ∈ sl, i ∈ own.map (·.2)) (q : tD X.K CT W (eLc h (own.map (·.2)) fi g p f) σ H Q) :
    tLc (tDI X.K CT W fi) (tDG X.K CT W0 sl g) (tDT X.K CT W0 p) (tD X.K CT W0 f) (own.map (·.2)) σ H Q := by
  obtain ⟨w, s, e, rfl, m, re, ok⟩ := q
  refine ⟨w, s, e, rfl, m, re, (Ok.bind ok).imp fun it s1 w1 e1 m1 ⟨_, _, ok1⟩ J hJ D hD => ?_⟩
  have re1 := (re.ext e1).wipe (own.map (·.2))
  -- the world with the list in the making
  obtain ⟨w2, hw2⟩ : ∃ w2 : Wd, w2 = ⟨w1.mu, w1.fz, fun a => w1.pr a ∨ a = D, upd w1.H D (.lst [])⟩ := ⟨_, rfl⟩
  have x2 : Ext X.K w1 w2 := by
    rw [hw2]
    exact Ext.fresh hD ⟨[], by simp⟩ (fun _ h => h) (fun _ h => .inl h) m1.fz m1.pr
  have m2 : Sim X.K CT w2 s1 := by
    have b := m1.newT (o := .lst []) hD
    rw [hw2]
    refine ⟨b.len, b.nd, fun a ha => ⟨(m1.dj a ha).1, fun z => ?_⟩, b.fz, fun a h z => ?_, fun a h => ?_, fun k o hk => ?_⟩
    · rcases z with z | z
      · exact (m1.dj a ha).2 z
      · subst z
        exact m1.free hD ha
    · rcases z with z | z
      · exact m1.fp a h z
      · subst z
        exact m1.freeF hD h
    · rcases h with h | h
      · exact b.pr a h
      · subst h
        exact ⟨_, upd_same⟩
    · obtain ⟨a, h1, h2⟩ := b.ob k o hk
      exact ⟨a, h1, h2.ext (show Ext0 X.K ⟨w1.mu, w1.fz, w1.pr, upd w1.H D (.lst [])⟩ ⟨w1.mu, w1.fz, fun a => w1.pr a ∨ a = D, upd w1.H D (.lst [])⟩ from ⟨⟨[], by simp⟩, fun _ _ h => h, fun _ _ h => h, fun _ h => ⟨h, rfl⟩⟩) rfl⟩
  have p2 : w2.pr D := by rw [hw2]; exact .inr rfl
  have h2 : w2.H D = some (.lst []) := by rw [hw2]; exact upd_same
  have nD : ∀ a, w1.pr a → a ≠ D := fun a ha z => by
    subst z
    exact m1.freeP hD ha
  have e2 : w2.H = upd w1.H D (.lst []) := by rw [hw2]
  let fin : List Dl.D → Sto → Wd → Prop := fun ds s' w' => Ext X.K w1 w' → Sim X.K CT w' s' → ∀ vs, w'.pr D → w'.H D = some (.lst vs) → RDs X.K w' ds vs → Q (.ref D) w'.H
  -- the end, for every list made so far
  have endOk : Ok X.K CT (fun _ _ _ _ => False) w1 (lcGo g p f (wipeE e (own.map (·.2))) it it.n 0 [] s1) (fun ds s' w' => ∀ vs, w'.pr D → w'.H D = some (.lst vs) → RDs X.K w' ds vs → Q (.ref D) w'.H) := by
    have q := noX_bind ok1
    cases hr : lcGo g p f (wipeE e (own.map (·.2))) it it.n 0 [] s1 with
    | bad => rw [hr] at q; exact q
    | ex c x s' => rw [hr] at q; exact q
    | ok ds s' =>
      intro w' x' m' vs hp hH r
      rw [hr] at ok1
      exact rest_ok x' nD m' hp hH r ok1
  refine ⟨fun i n H => ∃ w s acc vacc, w.H = H ∧ Sim X.K CT w s ∧ Ext X.K w1 w ∧ w.pr D ∧ w.H D = some (.lst vacc) ∧ RDs X.K w acc vacc ∧ RE X.K w (wipeE e (own.map (·.2))) (wipe σ (own.map (·.2))) ∧
    Ok X.K CT (fun _ _ _ _ => False) w1 (lcGo g p f (wipeE e (own.map (·.2))) it n i acc s) (fun ds s' w' => ∀ vs, w'.pr D → w'.H D = some (.lst vs) → RDs X.K w' ds vs → Q (.ref D) w'.H),
    ⟨it.n, w2, s1, [], [], e2, m2, x2, p2, h2, rfl, re1.ext x2, endOk⟩, ?_⟩
  rintro i n H ⟨w, s, acc, vacc, rfl, m, x, hp, hH, racc, re, ok⟩
  have hJ := hJ.ext x
  cases n with
  | zero =>
    unfold lcGo at ok
    split at ok
    · rename_i hn
      exact .inl ⟨hJ.stop w s i Ext.refl m hn, ok.get x m _ hp hH racc⟩
    · exact ok.elim
  | succ n =>
    unfold lcGo at ok
    split at ok
    · rename_i hn
      exact .inl ⟨hJ.stop w s i Ext.refl m hn, ok.get x m _ hp hH racc⟩
    · rename_i d hn
      obtain ⟨hgo, hy⟩ := hJ.go w s i d Ext.refl m hn
      refine .inr ⟨hgo, fun H => ∃ w s acc vacc, w.H = H ∧ Sim X.K CT w s ∧ Ext X.K w1 w ∧ w.pr D ∧ w.H D = some (.lst vacc) ∧ RDs X.K w acc vacc ∧ RE X.K w (wipeE e (own.map (·.2))) (wipe σ (own.map (·.2))) ∧
        Ok X.K CT (fun _ _ _ _ => False) w1 (lcGo g p f (wipeE e (own.map (·.2))) it n (i + 1) acc s) (fun ds s' w' => ∀ vs, w'.pr D → w'.H D = some (.lst vs) → RDs X.K w' ds vs → Q (.ref D) w'.H), fun H' h => ⟨n, Nat.lt_succ_self n, h⟩, fun v H' y => ?_⟩
      obtain ⟨w3, rfl, x3, m3, rd⟩ := hy v H' y
      have re3 := re.ext x3
      refine ⟨w3, s, _, d, rfl, m3, re3, rd, (Ok.ext (x.trans x3) (Ok.bindB ok)).imp fun e' s4 w4 x4 m4 ok4 σ' re4 hw => ?_⟩
      refine ⟨?_, w4, s4, e', rfl, m4, re4, (Ok.ext (x.trans (x3.trans x4)) (Ok.bindB ok4)).imp fun b s5 w5 x5 m5 ok5 => ?_⟩
      · rw [hw _ hsl]
        apply List.ext_getElem?
        intro j
        rw [wipe_get, wipe_get, wipe_length]
        by_cases hj : j ∈ own.map (·.2) ∧ j < σ.length
        · rw [if_pos hj, if_pos hj]
        · rw [if_neg hj, if_neg hj]
      · have x35 := x3.trans (x4.trans x5)
        have go : w5.pr D ∧ w5.H D = w.H D := x35.pr D hp
        cases b with
        | false =>
          exact ⟨w5, s5, acc, vacc, rfl, m5, x.trans x35, go.1, go.2.trans hH, RDs.ext x35 _ _ racc, re3.ext (x4.trans x5), ok5⟩
        | true =>
          refine ⟨w5, s5, e', rfl, m5, re4.ext x5, (Ok.ext (x.trans x35) (Ok.bindB ok5)).imp fun y s6 w6 x6 m6 ok6 vy ry => ?_⟩
          have x36 := x35.trans x6
          have go6 : w6.pr D ∧ w6.H D = w.H D := x36.pr D hp
          have racc6 := RDs.ext x36 _ _ racc
          split at ok6
          · rename_i hz
            refine ⟨vacc, go6.2.trans hH, by rw [racc6.length]; exact hz, ?_⟩
            -- the list in the making grows
            obtain ⟨w7, hw7⟩ : ∃ w7 : Wd, w7 = { w6 with H := upd w6.H D (.lst (vacc ++ [vy])) } := ⟨_, rfl⟩
            have nfz : ¬ w6.fz D := fun z => m6.fp D z go6.1
            have x7 : Ext0 X.K w6 w7 := by
              rw [hw7]
              refine ⟨⟨[], by simp⟩, fun b xs q => ?_, fun b xs q => ?_, fun b q => ⟨q, ?_⟩⟩
              · rcases q with (q | ⟨ob, q⟩) | q
                · exact .inl (.inl (by show upd w6.H D _ b = _; rw [upd_ne (ne_of q (go6.2.trans hH) (by intro z; cases z))]; exact q))
                · exact .inl (.inr ⟨ob, by show upd w6.H D _ b = _; rw [upd_ne (ne_of q (go6.2.trans hH) (by intro z; cases z))]; exact q⟩)
                · exact .inr q
              · rcases q with ⟨ob, q⟩ | q
                · exact .inl ⟨ob, by show upd w6.H D _ b = _; rw [upd_ne (ne_of q (go6.2.trans hH) (by intro z; cases z))]; exact q⟩
                · exact .inr q
              · show upd w6.H D _ b = _
                rw [upd_ne]
                rintro rfl
                exact nfz q
            have m7 : Sim X.K CT w7 s6 := by
              have ne : ∀ b, b ∈ w6.mu → b ≠ D := fun b hb z => by
                subst z
                exact (m6.dj _ hb).2 go6.1
              refine ⟨by rw [hw7]; exact m6.len, by rw [hw7]; exact m6.nd, by rw [hw7]; exact m6.dj, fun b hb => ?_, by rw [hw7]; exact m6.fp, fun b hb => ?_, fun k o hk => ?_⟩
              · rw [hw7] at hb ⊢
                obtain ⟨u, hu⟩ := m6.fz b hb
                refine ⟨u, ?_⟩
                show upd w6.H D _ b = _
                rw [upd_ne]
                · exact hu
                · rintro rfl
                  exact nfz hb
              · rw [hw7] at hb ⊢
                obtain ⟨u, hu⟩ := m6.pr b hb
                by_cases hbD : b = D
                · subst hbD
                  exact ⟨_, upd_same⟩
                · exact ⟨u, by show upd w6.H D _ b = _; rw [upd_ne hbD]; exact hu⟩
              · obtain ⟨a, h1, h2⟩ := m6.ob k o hk
                refine ⟨a, by rw [hw7]; exact h1, h2.ext x7 ?_⟩
                rw [hw7]
                show upd w6.H D _ a = _
                rw [upd_ne (ne a (List.mem_of_getElem? h1))]
            have e7 : w7.H = upd w6.H D (.lst (vacc ++ [vy])) := by rw [hw7]
            -- still an extension of the world ahead of the list
            have x17 : Ext X.K w1 w7 := by
              have x16 := x.trans x36
              refine ⟨x16.toExt0.trans x7, fun a ha => ?_⟩
              obtain ⟨k1, k2⟩ := x16.pr a ha
              refine ⟨by rw [hw7]; exact k1, ?_⟩
              rw [e7, upd_ne (nD a ha)]
              exact k2
            refine ⟨w7, s6, acc ++ [y], vacc ++ [vy], e7, m7, x17, by rw [hw7]; exact go6.1, by rw [e7]; exact upd_same, (RDs.ext0 x7 _ _ racc6).append ⟨vy, [], rfl, RD.ext0 x7 _ _ ry, rfl⟩, ((re3.ext (x4.trans x5)).ext x6).ext0 x7, ?_⟩
            exact ok6
          · exact ok6.elim
    · exact ok.elim
end
end Dl
/-! The data layer: comprehensions in a body, what a def is worth, calls. -/
namespace Dl
open PySem PySem.Spec PyProof.Rows L2

section
variable {X : Cx} {CT : Nat → Addr} {T : ExT} {W : XW} {k : Nat} {pos : Pos} {c elt tg iter : Expr} {ifs : List Expr} {scope : Scope} {own : List (Str × Nat)} {fi : IV} {g : GV} {p : TV} {f : EV} {sl : List Nat}
abbrev PDTs (X : Cx) (CT : Nat → Addr) (W : XW) (es : List Expr) (f : TV) : Prop := PTs X es (tDT X.K CT W f)
theorem pts_nilD : PDTs X CT W [] tYes := ⟨fun pins s σ H Q I q => pts_nil.run pins s σ H Q I (by
  obtain ⟨w, st, e, rfl, m, re, ok⟩ := q
  exact ok.get Ext.refl m)⟩
theorem pts_oneD (h : PDT X CT W c p) : PDTs X CT W [c] p := pts_one h
/-- [elt for tg in iter if ..]; the block's own names with their slots: own; h: the new list is an object of the store -/
theorem pd_lc (h : Bool) (B : Bd X CT T W k) (own : List (Str × Nat)) (hi : PDI X CT W tg iter fi) (ok : BlkOk X.N X.env.scope scope own) (hsl : ∀ i ∈ sl, i ∈ own.map (·.2))
    (hg : ∀ (s : Shared) (H : Hp) (C : Addr) (cl : List (Str × Addr)) (fp : List Addr), PDG (X.blk s H scope (compEnvC scope cl C X.env) fp) CT W0 sl tg g)
    (ht : ∀ (s : Shared) (H : Hp) (C : Addr) (cl : List (Str × Addr)) (fp : List Addr), Bd (X.blk s H scope (compEnvC scope cl C X.env) fp) CT T W0 k → PDTs (X.blk s H scope (compEnvC scope cl C X.env) fp) CT W0 ifs p)
    (he : ∀ (s : Shared) (H : Hp) (C : Addr) (cl : List (Str × Addr)) (fp : List Addr), Bd (X.blk s H scope (compEnvC scope cl C X.env) fp) CT T W0 k → PD (X.blk s H scope (compEnvC scope cl C X.env) fp) CT W0 elt f)
    (hs : ∀ x, foldedSetIterable iter X.env x = pure x := by intro _; rfl) : PD X CT W (.ListComp elt [⟨tg, iter, ifs, 0⟩] scope pos) (eLc h (own.map (·.2)) fi g p f) :=
  (pe_lc (g := tDG X.K CT W0 sl g) (tt := tDT X.K CT W0 p) (te := tD X.K CT W0 f) B.calm B.nd hi ok hg (fun s H C cl fp => ht s H C cl fp (B.blk s H scope _ fp)) (fun s H C cl fp => he s H C cl fp (B.blk s H scope _ fp)) hs).imp fun σ H Q q => lc_reads h hsl q
/-- .. stored on the same line to a local name -/
theorem ps_setLcD (h : Bool) (i : Nat) {y : Str} {py spos : Pos} (B : Bd X CT T W k) (own : List (Str × Nat)) (hi : PDI X CT W tg iter fi) (ok : BlkOk X.N X.env.scope scope own) (hsl : ∀ i ∈ sl, i ∈ own.map (·.2))
    (hg : ∀ (s : Shared) (H : Hp) (C : Addr) (cl : List (Str × Addr)) (fp : List Addr), PDG (X.blk s H scope (compEnvC scope cl C X.env) fp) CT W0 sl tg g)
    (ht : ∀ (s : Shared) (H : Hp) (C : Addr) (cl : List (Str × Addr)) (fp : List Addr), Bd (X.blk s H scope (compEnvC scope cl C X.env) fp) CT T W0 k → PDTs (X.blk s H scope (compEnvC scope cl C X.env) fp) CT W0 ifs p)
    (he : ∀ (s : Shared) (H : Hp) (C : Addr) (cl : List (Str × Addr)) (fp : List Addr), Bd (X.blk s H scope (compEnvC scope cl C X.env) fp) CT T W0 k → PD (X.blk s H scope (compEnvC scope cl C X.env) fp) CT W0 elt f)
    (hy : X.N[i]? = some y := by rfl) (hyl : X.env.scope.names.lookup y = some .local := by rfl)
    (hsw : swapsWith (.ListComp elt [⟨tg, iter, ifs, 0⟩] scope pos) (some (.Name y py)) spos.line X.env = pure true := by exact sw_true rfl rfl rfl (by decide +kernel))
    (hs : ∀ x, foldedSetIterable iter X.env x = pure x := by intro _; rfl) : PDS X CT W (.Assign [.Name y py] (.ListComp elt [⟨tg, iter, ifs, 0⟩] scope pos) spos) (sSet i (eLc h (own.map (·.2)) fi g p f)) := by
  refine (ps_setLc (g := tDG X.K CT W0 sl g) (tt := tDT X.K CT W0 p) (te := tD X.K CT W0 f) B.calm B.nd hy hyl hsw hi ok hg (fun s H C cl fp => ht s H C cl fp (B.blk s H scope _ fp)) (fun s H C cl fp => he s H C cl fp (B.blk s H scope _ fp)) hs).imp fun D σ H q => ?_
  obtain ⟨w, s, e, rfl, m, re, ok⟩ := q
  refine lc_reads (W := W) (CT := CT) h hsl (Q := fun v H' => gName i v σ H' D.nx) ⟨w, s, e, rfl, m, re, (OkS.toS re ok).imp fun d s1 w1 e1 m1 ⟨_, _, ok1⟩ v rv => ?_⟩
  exact ok1 w1 _ Ext.refl m1 ((re.ext e1).set i rv)
end

/-! ### what a def is worth -/
structure FnG (P : Program) (w : World) (K : PySem.W.Frag) (mg : Str → Option Value) (base : Heap) (k : Nat) (f : Addr) (fd : FuncData) (ps : List Str) (sp : Sp) : Prop where
  len : ∀ vs H Q E, sp vs H Q E → vs.length = ps.length
  run : ∀ (A : Around) (fr : List Env) (s : Shared) (H : Hp) (ar : Args) (us : List Value) (vs : List V) (Q : VK) (E : XK), RoomG k A → Env0 P w K mg base A fr s H → BindsTo s fd ar (ps.zip us) → Vals vs us → sp vs H Q E →
    codeAny (model P w) A (.call (.ref f) ar) (CR (L2.CX P w) fr P w H s Q E) s
/-- a def's promise by its function on data; n parameters -/
def spG (K : PySem.W.Frag) (CT : Nat → Addr) (T : ExT) (n : Nat) (f : List D → Sto → R D) : Sp := fun vs H Q E =>
  ∃ w s ds, w.H = H ∧ Sim K CT w s ∧ RDs K w ds vs ∧ ds.length = n ∧ Ok K CT (fun c x s' w' => Sim K CT w' s' → ∀ cls d, ExR K T w' c x cls d → E cls d w'.H) w (f ds s) fun d s' w' => ∀ v, RD K w' d v → Q v w'.H
theorem RDs.start {K : PySem.W.Frag} {w : Wd} : ∀ {ds : List D} {vs : List V} (n : Nat), RDs K w ds vs → RE K w (ds.map some ++ List.replicate n none) (vs.map some ++ List.replicate n none)
  | [], _, n, h => by
    have h : _ = [] := h
    subst h
    refine ⟨by simp, fun i d hd => ?_⟩
    have hd : (List.replicate n (none : Option D))[i]? = some (some d) := by simpa using hd
    rw [List.getElem?_replicate] at hd
    split at hd <;> cases hd
  | x :: xs, _, n, h => by
    obtain ⟨v, r, rfl, h1, h2⟩ := h
    have ih := RDs.start n h2
    refine ⟨by simpa using ih.len, fun i d hd => ?_⟩
    cases i with
    | zero =>
      have : x = d := by simpa using hd
      subst this
      exact ⟨v, rfl, h1⟩
    | succ i => exact ih.at' i d (by simpa using hd)

/-- a body's value: n slots -/
def runB (n : Nat) (b : SV) (ds : List D) (s : Sto) : R D := match b (ds.map some ++ List.replicate (n - ds.length) none) s with
  | .rt d s' => .ok d s'
  | .nx _ s' => .ok (.p .none) s'
  | .ex c x _ s' => .ex c x s'
  | _ => .bad

/-! ### leaving a def whose own objects are of no use behind it -/
mutual
def below (n : Nat) : D → Bool
  | .ref k => decide (k < n)
  | .bag xs => belowL n xs
  | _ => true
def belowL (n : Nat) : List D → Bool
  | [] => true
  | x :: xs => below n x && belowL n xs
end
def belowF (n : Nat) : List (Str × D) → Bool
  | [] => true
  | (_, x) :: xs => below n x && belowF n xs
def belowO (n : Nat) : O → Bool
  | .lst xs => belowL n xs
  | .ins _ fs => belowF n fs
/-- a value on its way out: a list of the def's own comes to rest -/
def calm1 (n : Nat) (s : Sto) : D → Option D
  | .ref k => if k < n then some (.ref k) else match s[k]? with
    | some (.lst ds) => (allP ds).map fun xs => .p (.list xs)
    | _ => none
  | .bag xs => if belowL n xs then some (.bag xs) else none
  | d => some d
def calmL (n : Nat) (s : Sto) : List D → Option (List D)
  | [] => some []
  | x :: xs => match calm1 n s x, calmL n s xs with
    | some y, some ys => some (y :: ys)
    | _, _ => none
def calm (n : Nat) (s : Sto) : D → Option D
  | .bag xs => (calmL n s xs).map mkT
  | d => calm1 n s d
open Classical in
/-- behind the def the store is as it was at its start, but for what stood there already -/
noncomputable def leave (s0 : Sto) (r : R D) : R D := match r with
  | .ok d s => if s.take s0.length = s0 ∨ (∀ o ∈ s.take s0.length, belowO s0.length o = true) then (match calm s0.length s d with
    | some d' => .ok d' (s.take s0.length)
    | none => .bad) else .bad
  | .ex c x s => if s.take s0.length = s0 ∨ (∀ o ∈ s.take s0.length, belowO s0.length o = true) then .ex c x (s.take s0.length) else .bad
  | .bad => .bad
def Keeps (s0 s : Sto) : Prop := s.take s0.length = s0 ∨ (∀ o ∈ s.take s0.length, belowO s0.length o = true)
theorem leave_yes {s0 s : Sto} {d d' : D} (c : Keeps s0 s) (e : calm s0.length s d = some d') : leave s0 (.ok d s) = .ok d' (s.take s0.length) := by
  unfold Keeps at c
  unfold leave
  simp only [if_pos c, e]
theorem leave_none {s0 s : Sto} {d : D} (c : Keeps s0 s) (e : calm s0.length s d = none) : leave s0 (.ok d s) = .bad := by
  unfold Keeps at c
  unfold leave
  simp only [if_pos c, e]
theorem leave_no {s0 s : Sto} {d : D} (c : ¬ Keeps s0 s) : leave s0 (.ok d s) = .bad := by
  unfold Keeps at c
  unfold leave
  simp only [if_neg c]
theorem leave_exY {s0 s : Sto} {n : Nat} {x : PyData} (c : Keeps s0 s) : leave s0 (.ex n x s) = .ex n x (s.take s0.length) := by
  unfold Keeps at c
  unfold leave
  simp only [if_pos c]
theorem leave_exN {s0 s : Sto} {n : Nat} {x : PyData} (c : ¬ Keeps s0 s) : leave s0 (.ex n x s) = .bad := by
  unfold Keeps at c
  unfold leave
  simp only [if_neg c]
section
variable {K : PySem.W.Frag} {CT : Nat → Addr} {w w' : Wd} {s s' : Sto}
mutual
theorem RD.below : ∀ (d : D) (v : V), RD K w d v → below w.mu.length d = true
  | .p _, _, _ => by simp [Dl.below]
  | .ro _, _, _ => by simp [Dl.below]
  | .ref k, _, h => by
    obtain ⟨a, h1, _⟩ := h
    obtain ⟨hk, _⟩ := List.getElem?_eq_some_iff.mp h1
    simp [Dl.below, hk]
  | .bag xs, _, h => by
    obtain ⟨a, vs, _, _, h2⟩ := h
    simpa [Dl.below] using RDs.below xs vs h2
theorem RDs.below : ∀ (ds : List D) (vs : List V), RDs K w ds vs → belowL w.mu.length ds = true
  | [], _, _ => rfl
  | x :: xs, _, h => by
    obtain ⟨v, r, _, h1, h2⟩ := h
    simp [belowL, RD.below x v h1, RDs.below xs r h2]
end
theorem RF.below : ∀ (ds : List (Str × D)) (vs : List (Str × V)), RF K w ds vs → belowF w.mu.length ds = true
  | [], _, _ => rfl
  | (f, x) :: xs, _, h => by
    obtain ⟨v, r, _, h1, h2⟩ := h
    simp [belowF, RD.below x v h1, RF.below xs r h2]
theorem RO.below {a : Addr} {o : O} (h : RO K CT w a o) : belowO w.mu.length o = true := by
  cases o with
  | lst ds =>
    obtain ⟨vs, _, h2⟩ := h
    exact RDs.below ds vs h2
  | ins c fs =>
    obtain ⟨dx, vs, _, h2⟩ := h
    exact RF.below fs vs h2
/-- fewer objects, more lists at rest -/
structure Less (w w' : Wd) (n : Nat) : Prop where
  mu : w'.mu = w.mu.take n
  H : w'.H = w.H
  fz : ∀ a, w.fz a → w'.fz a
mutual
theorem RP.less {n : Nat} (l : Less w w' n) : ∀ (x : PyData) (v : V), RP K w x v → RP K w' x v
  | .none, _, h => h
  | .bool _, _, h => h
  | .int _, _, h => h
  | .str _, _, h => h
  | .tuple xs, _, h => by
    obtain ⟨a, vs, rfl, h1, h2⟩ := h
    exact ⟨a, vs, rfl, by rw [l.H]; exact h1, RPs.less l xs vs h2⟩
  | .list xs, _, h => by
    obtain ⟨a, vs, rfl, h1, h2⟩ := h
    exact ⟨a, vs, rfl, ⟨by rw [l.H]; exact h1.1, l.fz _ h1.2⟩, RPs.less l xs vs h2⟩
  | .dict _, _, h => by
    obtain ⟨rfl, a, rfl, h1, h2⟩ := h
    exact ⟨rfl, a, rfl, by rw [l.H]; exact h1, l.fz _ h2⟩
theorem RPs.less {n : Nat} (l : Less w w' n) : ∀ (xs : List PyData) (vs : List V), RPs K w xs vs → RPs K w' xs vs
  | [], _, h => h
  | x :: xs, _, h => by
    obtain ⟨v, r, rfl, h1, h2⟩ := h
    exact ⟨v, r, rfl, RP.less l x v h1, RPs.less l xs r h2⟩
end
mutual
theorem RD.less {n : Nat} (l : Less w w' n) : ∀ (d : D) (v : V), Dl.below n d = true → RD K w d v → RD K w' d v
  | .p x, v, _, h => RP.less l x v h
  | .ro xs, _, _, h => by
    obtain ⟨a, vs, rfl, h1, h2⟩ := h
    exact ⟨a, vs, rfl, by rw [l.H]; exact h1, RPs.less l xs vs h2⟩
  | .ref k, _, b, h => by
    obtain ⟨a, h1, rfl⟩ := h
    have hk : k < n := by simpa [Dl.below] using b
    exact ⟨a, by rw [l.mu, List.getElem?_take_of_lt hk]; exact h1, rfl⟩
  | .bag xs, _, b, h => by
    obtain ⟨a, vs, rfl, h1, h2⟩ := h
    exact ⟨a, vs, rfl, by rw [l.H]; exact h1, RDs.less l xs vs (by simpa [Dl.below] using b) h2⟩
theorem RDs.less {n : Nat} (l : Less w w' n) : ∀ (ds : List D) (vs : List V), belowL n ds = true → RDs K w ds vs → RDs K w' ds vs
  | [], _, _, h => h
  | x :: xs, _, b, h => by
    obtain ⟨v, r, rfl, h1, h2⟩ := h
    simp only [belowL, Bool.and_eq_true] at b
    exact ⟨v, r, rfl, RD.less l x v b.1 h1, RDs.less l xs r b.2 h2⟩
end
theorem RF.less {n : Nat} (l : Less w w' n) : ∀ (ds : List (Str × D)) (vs : List (Str × V)), belowF n ds = true → RF K w ds vs → RF K w' ds vs
  | [], _, _, h => h
  | (f, x) :: xs, _, b, h => by
    obtain ⟨v, r, rfl, h1, h2⟩ := h
    simp only [belowF, Bool.and_eq_true] at b
    exact ⟨v, r, rfl, RD.less l x v b.1 h1, RF.less l xs r b.2 h2⟩
theorem RO.less {n : Nat} (l : Less w w' n) {a : Addr} {o : O} (b : belowO n o = true) (h : RO K CT w a o) : RO K CT w' a o := by
  cases o with
  | lst ds =>
    obtain ⟨vs, h1, h2⟩ := h
    exact ⟨vs, by rw [l.H]; exact h1, RDs.less l ds vs b h2⟩
  | ins c fs =>
    obtain ⟨dx, vs, h1, h2⟩ := h
    exact ⟨dx, vs, by rw [l.H]; exact h1, RF.less l fs vs b h2⟩
theorem Sim.leave {w0 : Wd} {s0 : Sto} (m0 : Sim K CT w0 s0) (x : Ext K w0 w) (m : Sim K CT w s) (hb : s.take s0.length = s0 ∨ (∀ o ∈ s.take s0.length, belowO s0.length o = true)) :
    ∃ w', Less w w' s0.length ∧ Ext K w0 w' ∧ Sim K CT w' (s.take s0.length) ∧ ∀ k a, w.mu[k]? = some a → s0.length ≤ k → (∃ vs, w.H a = some (.lst vs)) → w'.fz a := by
  obtain ⟨ν, hν⟩ := x.mu
  have lm := m.len
  have hle : s0.length ≤ s.length := by
    have h1 := congrArg List.length hν
    rw [List.length_append, m0.len] at h1
    omega
  refine ⟨⟨w.mu.take s0.length, fun a => w.fz a ∨ ∃ k, w.mu[k]? = some a ∧ s0.length ≤ k ∧ ∃ vs, w.H a = some (.lst vs), w.pr, w.H⟩, ⟨rfl, rfl, fun a h => .inl h⟩, ⟨⟨⟨[], ?_⟩, x.sq, x.sr, fun a h => ⟨.inl (x.fz a h).1, (x.fz a h).2⟩⟩, x.pr⟩, ⟨?_, ?_, fun a ha => ?_, fun a ha => ?_, fun a ha => ?_, m.pr, fun k o hk => ?_⟩, fun k a h1 h2 h3 => .inr ⟨k, h1, h2, h3⟩⟩
  · show w.mu.take s0.length = _
    rw [List.append_nil, hν, ← m0.len, List.take_left']
    rfl
  · show (w.mu.take s0.length).length = _
    rw [List.length_take, List.length_take, lm]
  · exact m.nd.sublist (List.take_sublist _ _)
  · have ha' : a ∈ w.mu := List.mem_of_mem_take ha
    refine ⟨fun z => ?_, (m.dj a ha').2⟩
    rcases z with z | ⟨k, h1, h2, _⟩
    · exact (m.dj a ha').1 z
    · obtain ⟨j, hj⟩ := List.getElem?_of_mem ha
      have hjl : j < s0.length := by
        obtain ⟨hl, _⟩ := List.getElem?_eq_some_iff.mp hj
        rw [List.length_take] at hl
        omega
      have hj : (w.mu.take s0.length)[j]? = some a := hj
      rw [List.getElem?_take_of_lt hjl] at hj
      obtain ⟨l1, e1⟩ := List.getElem?_eq_some_iff.mp hj
      obtain ⟨l2, e2⟩ := List.getElem?_eq_some_iff.mp h1
      have := (List.getElem_inj m.nd).mp (e1.trans e2.symm)
      omega
  · rcases ha with ha | ⟨k, _, _, vs, h⟩
    · exact m.fz a ha
    · exact ⟨_, h⟩
  · rcases ha with ha | ⟨k, h1, _, _⟩
    · exact m.fp a ha
    · exact (m.dj a (List.mem_of_getElem? h1)).2
  · have hkl : k < s0.length := by
      obtain ⟨hl, _⟩ := List.getElem?_eq_some_iff.mp hk
      rw [List.length_take] at hl
      omega
    have hk' := hk
    rw [List.getElem?_take_of_lt hkl] at hk
    obtain ⟨a, h1, h2⟩ := m.ob k o hk
    refine ⟨a, by show (w.mu.take s0.length)[k]? = _; rw [List.getElem?_take_of_lt hkl]; exact h1, RO.less (w := w) (w' := ⟨w.mu.take s0.length, fun a => w.fz a ∨ ∃ k, w.mu[k]? = some a ∧ s0.length ≤ k ∧ ∃ vs, w.H a = some (.lst vs), w.pr, w.H⟩) (n := s0.length) ⟨rfl, rfl, fun a h => Or.inl h⟩ ?_ h2⟩
    rcases hb with hb | hb
    · rw [hb] at hk'
      obtain ⟨b, h3, h4⟩ := m0.ob k o hk'
      rw [← m0.len]
      exact h4.below
    · exact hb o (List.mem_of_getElem? hk')
theorem calm1_rep {w0 : Wd} {s0 : Sto} (m : Sim K CT w s) (l : Less w w' s0.length) (hz : ∀ k a, w.mu[k]? = some a → s0.length ≤ k → (∃ vs, w.H a = some (.lst vs)) → w'.fz a) {d d' : D} {v : V} (h : calm1 s0.length s d = some d') (r : RD K w d v) : RD K w' d' v := by
  cases d with
  | p x => cases h; exact RP.less l _ _ r
  | ro xs => cases h; exact RD.less l _ _ (by simp [Dl.below]) r
  | bag xs =>
    have h : (if belowL s0.length xs then some (D.bag xs) else none) = some d' := h
    split at h
    · rename_i b
      cases h
      exact RD.less l _ _ (by simpa [Dl.below] using b) r
    · cases h
  | ref k =>
    have h : (if k < s0.length then some (D.ref k) else match s[k]? with
      | some (.lst ds) => (allP ds).map fun xs => .p (.list xs)
      | _ => none) = some d' := h
    split at h
    · rename_i b
      cases h
      exact RD.less l _ _ (by simp [Dl.below, b]) r
    · rename_i b
      split at h
      · rename_i ds e
        cases q : allP ds with
        | none => rw [q] at h; cases h
        | some xs =>
          rw [q] at h
          cases h
          obtain ⟨a, h1, rfl⟩ := r
          obtain ⟨b', h2, vs, h3, h4⟩ := m.ob k _ e
          rw [h1] at h2
          cases h2
          rw [allP_some q] at h4
          exact ⟨a, vs, rfl, ⟨by rw [l.H]; exact h3, hz k a h1 (by omega) ⟨vs, h3⟩⟩, RPs.less l _ _ h4.toP⟩
      · cases h
theorem calmL_rep {w0 : Wd} {s0 : Sto} (m : Sim K CT w s) (l : Less w w' s0.length) (hz : ∀ k a, w.mu[k]? = some a → s0.length ≤ k → (∃ vs, w.H a = some (.lst vs)) → w'.fz a) : ∀ {ds ds' : List D} {vs : List V}, calmL s0.length s ds = some ds' → RDs K w ds vs → RDs K w' ds' vs
  | [], _, _, h, r => by cases h; exact r
  | x :: xs, ds', _, h, r => by
    obtain ⟨v, u, rfl, h1, h2⟩ := r
    unfold calmL at h
    split at h
    · rename_i y ys e1 e2
      cases h
      exact ⟨v, u, rfl, calm1_rep (w0 := w0) m l hz e1 h1, calmL_rep (w0 := w0) m l hz e2 h2⟩
    · cases h
theorem calm_rep {w0 : Wd} {s0 : Sto} (m : Sim K CT w s) (l : Less w w' s0.length) (hz : ∀ k a, w.mu[k]? = some a → s0.length ≤ k → (∃ vs, w.H a = some (.lst vs)) → w'.fz a) {d d' : D} {v : V} (h : calm s0.length s d = some d') (r : RD K w d v) : RD K w' d' v := by
  cases d with
  | bag xs =>
    have h : (calmL s0.length s xs).map mkT = some d' := h
    cases q : calmL s0.length s xs with
    | none => rw [q] at h; cases h
    | some ys =>
      rw [q] at h
      cases h
      obtain ⟨a, vs, rfl, h1, h2⟩ := r
      exact RD.mkT (by rw [l.H]; exact h1) (calmL_rep (w0 := w0) m l hz q h2)
  | p x => exact calm1_rep (w0 := w0) m l hz (show calm1 s0.length s (.p x) = some d' from h) r
  | ro x => exact calm1_rep (w0 := w0) m l hz (show calm1 s0.length s (.ro x) = some d' from h) r
  | ref x => exact calm1_rep (w0 := w0) m l hz (show calm1 s0.length s (.ref x) = some d' from h) r
theorem leave_ok {W : Nat → PyData → Sto → Wd → Prop} {r : R D} {Q : VK} (m0 : Sim K CT w s) (hW : ∀ c x s1 w1 s2 w2, Less w1 w2 s.length → (∀ v, RP K w1 x v → RP K w2 x v) → Sim K CT w2 s2 → W c x s2 w2 → W c x s1 w1)
    (q : Ok K CT W w (leave s r) fun d s' w' => ∀ v, RD K w' d v → Q v w'.H) : Ok K CT W w r fun d s' w' => ∀ v, RD K w' d v → Q v w'.H := by
  cases r with
  | bad => exact q
  | ok d s1 =>
    intro w1 x1 m1 v rv
    by_cases c : Keeps s s1
    · cases e : calm s.length s1 d with
      | none =>
        rw [leave_none c e] at q
        exact q.elim
      | some d' =>
        rw [leave_yes c e] at q
        obtain ⟨w2, l, x2, m2, hz⟩ := m0.leave x1 m1 c
        have q2 := q.get x2 m2 v (calm_rep (w0 := w) m1 l hz e rv)
        rw [l.H] at q2
        exact q2
    · rw [leave_no c] at q
      exact q.elim
  | ex cc x s1 =>
    intro w1 x1 m1
    by_cases c : Keeps s s1
    · rw [leave_exY c] at q
      obtain ⟨w2, l, x2, m2, hz⟩ := m0.leave x1 m1 c
      exact hW cc x s1 w1 _ w2 l (fun v => RP.less l x v) m2 (q w2 x2 m2)
    · rw [leave_exN c] at q
      exact q.elim
end

/-- THE RULE: a def by its body on data -/
theorem fnG_of {P : Program} {w : World} {K : PySem.W.Frag} {mg : Str → Option Value} {base : Heap} {CT : Nat → Addr} {T : ExT} {k : Nat} {f : Addr} {nm ql : Str} {pr : Arguments} {bd : List Stmt} {sc : Scope} {dV kV doc pm cdv ct oc : Value} {an od : Option Addr}
    {osl : Array (Option Value)} {N ps : List Str} {b : SV} {fn : List D → Sto → R D}
    (lk : K.lookup f = some ⟨oc, od, .func (PySem.W.fnOf nm ql pr bd sc dV kV doc pm an cdv ct), osl⟩) (hcd : PySem.W.codeIn K cdv ql = true) (S : FnScope N ps sc)
    (hfn : ∀ (w : Wd) (s : Sto) (ds : List D) (Q : VK) (E : XK), Sim K CT w s → Ok K CT (fun c x s' w' => Sim K CT w' s' → ∀ cls d, ExR K T w' c x cls d → E cls d w'.H) w (fn ds s) (fun d s' w' => ∀ v, RD K w' d v → Q v w'.H) → Ok K CT (fun c x s' w' => Sim K CT w' s' → ∀ cls d, ExR K T w' c x cls d → E cls d w'.H) w (runB N.length b ds s) (fun d s' w' => ∀ v, RD K w' d v → Q v w'.H))
    (body : ∀ (A : Around) (fr : List Env) (s : Shared) (H : Hp) (E : XK) (W : XW), Bd (cxOf (L2.CX P w) P w K mg base N ql sc f cdv A fr s H E) CT T W k → PDB (cxOf (L2.CX P w) P w K mg base N ql sc f cdv A fr s H E) CT W bd b) :
    FnG P w K mg base (k + 1) f (PySem.W.fnOf nm ql pr bd sc dV kV doc pm an cdv ct) ps (spG K CT T ps.length fn) := by
  refine ⟨fun vs H Q E ⟨w, s, ds, _, _, r, hl, _⟩ => r.length.trans hl, fun A fr s H ar us vs Q E room e0 hb rv hsp => ?_⟩
  obtain ⟨wd, st, ds, eH, m, rds, hl, okf⟩ := hsp
  have hlv : vs.length = ps.length := rds.length.trans hl
  have inK : K.In s.heap := e0.mod.kin.keeps fun b o e => (e0.bs b o e).1
  have noL : s.heap.NoLimit := e0.mod.nolimit.keeps fun b o e => (e0.bs b o e).1
  have kinds : ∀ y ∈ ps.zip us, sc.names.lookup y.1 = some .local ∨ (sc.names.lookup y.1 = some .cell ∧ ((cellsFrom (s.heap.objs.size + 1) sc.names []).lookup y.1).isSome = true) := by
    rintro ⟨n, v⟩ hy
    have := S.par n (List.of_mem_zip hy).1
    rcases this with q | q
    · exact .inl q
    · exact .inr ⟨q, PySem.W.cellsFrom_some _ _ _ (.inl q)⟩
  have dep : A.depth < recursionLimit := by
    have := room.dp
    omega
  refine codeAny_call_function dep (inK _ _ lk) rfl S.co S.gen rfl (PySem.W.codeRec_of inK hcd) (hb _ _ _ _ ?_)
  refine wpAny_newFunctionEnv_cells S.kind kinds fun env he s1 ic => ?_
  subst he
  refine ⟨noL.keeps ic.toInCall.keep, codeAny_func ?_⟩
  have inv : Inv (cxOf (L2.CX P w) P w K mg base N ql sc f cdv A fr s H E) [] (L2.start N vs) H s1 := inv_start S room.hd e0 hlv rv ic
  let W : XW := fun c x _ s' w' => Sim K CT w' s' → ∀ cls d, ExR K T w' c x cls d → E cls d w'.H
  have tk0 : Takes (cxOf (L2.CX P w) P w K mg base N ql sc f cdv A fr s H E) (fun cls d _ H => E cls d H) := takes_of rfl rfl rfl rfl
  have B : Bd (cxOf (L2.CX P w) P w K mg base N ql sc f cdv A fr s H E) CT T W k := ⟨rfl, S.nd, passes_of rfl, room.down _, ⟨(by
    have := room.dp
    show A.depth + 1 + 2 * k + 6 < _
    omega), (by
    have := room.un
    show A.units + 3 + 8 * k + 204 < _
    omega)⟩, tk0.imp fun cls d σ H' ⟨c, x, s', w', e', mm, hx, q⟩ => e' ▸ q mm cls d hx⟩
  have pb := body A fr s H E W B
  have okb := hfn wd st ds Q E m okf
  have reads : tDS K CT W b { nx := fun _ H' => Q .non H', rt := Q } (L2.start N vs) H := by
    refine ⟨wd, st, ds.map some ++ List.replicate (N.length - ds.length) none, eH, m, ?_, ?_⟩
    · have := RDs.start (N.length - ds.length) rds
      unfold L2.start
      rw [rds.length]
      exact this
    · unfold runB at okb
      cases hr : b (ds.map some ++ List.replicate (N.length - ds.length) none) st with
      | rt d s' => rw [hr] at okb; exact fun w' v x' m' r' => okb w' x' m' v r'
      | nx e s' => rw [hr] at okb; exact fun w' σ x' m' _ => okb w' x' m' .non rfl
      | ex c x e s' => rw [hr] at okb; exact fun w' σ x' m' _ => okb w' x' m'
      | bk e s' => rw [hr] at okb; exact okb.elim
      | ct e s' => rw [hr] at okb; exact okb.elim
      | bad => rw [hr] at okb; exact okb
  refine wpAny_mono (pb.run [] s1 (L2.start N vs) H _ inv reads) (fun fl s' hs => ?_) fun _ _ hs => hs
  cases fl with
  | ret u =>
    obtain ⟨v, σ', H', J, r', q⟩ := hs
    exact ⟨v, H', J.os, J.bare, J.base, J.hok, r', q⟩
  | next =>
    obtain ⟨σ', H', J, q⟩ := hs
    exact ⟨.non, H', J.os, J.bare, J.base, J.hok, rfl, q⟩
  | brk =>
    obtain ⟨_, _, _, q⟩ := hs
    exact q.elim
  | cont =>
    obtain ⟨_, _, _, q⟩ := hs
    exact q.elim

/-! ### calls -/
def eCall (g : List D → Sto → R D) (dd : List D) (l : AV) : EV := fun e s => (l e s).bind fun ds s => g (ds ++ dd) s
section
variable {X : Cx} {CT : Nat → Addr} {T : ExT} {W : XW} {k n : Nat} {x : Str} {p pos : Pos} {a : Expr} {es : List Expr} {l : AV} {f : Addr} {fd : FuncData} {ps : List Str} {dvs : List V} {dvu : List Value} {dd : List D} {g : List D → Sto → R D}
theorem run_G {sp : Sp} {E : XK} {pins : List (Addr × Obj)} {σ : L2.St} {H : Hp} {s : Shared} {Q : VK} {us : List Value} {vs : List V} (F : FnG X.prog X.w X.K X.mg X.base k f fd ps sp) (room : RoomG k X.A) (hb : Binds X.K fd ps dvu) (hd : Vals dvs dvu)
    (hx : PassesAt (L2.CX X.prog X.w) X σ E) (I : Inv X pins σ H s) (r : Vals vs us) (q : sp (vs ++ dvs) H Q E) : wpAny (model X.prog X.w) X.A (call (.ref f) us) (EP X pins σ Q) X.xe s := by
  have both := r.append hd
  have hlen : (us ++ dvu).length = ps.length := both.length.symm.trans (F.len _ _ _ _ q)
  refine wpAny_call (codeAny_mono (F.run X.A X.stack s H ⟨us, []⟩ _ _ Q E room I.env0 (hb s us I.kIn hlen) both q) fun res s' hq => ?_)
  rcases res with e | (_ | _ | _ | u)
  case error => exact hx pins H s e s' I hq
  all_goals first | exact False.elim hq | exact I.after hq
theorem call_reads {σ : L2.St} {H : Hp} {Q : VK} (hn : n = ps.length) (hdd : ∀ w, RDs X.K w dd dvs) (hz : ∀ ds s e r, l e s = .ok ds r → (ds ++ dd).length = n) (q : tD X.K CT W (eCall g dd l) σ H Q) :
    tDA X.K CT W l σ H fun vs H1 => spG X.K CT T n g (vs ++ dvs) H1 Q (WE (WL X.K CT T W) σ) := by
  obtain ⟨w, s, e, rfl, m, re, ok⟩ := q
  refine ⟨w, s, e, rfl, m, re, ?_⟩
  have ok' := Ok.bind ok
  cases hr : l e s with
  | bad => rw [hr] at ok'; exact ok'
  | ex c y s' => rw [hr] at ok'; exact ok'
  | ok ds s1 =>
    rw [hr] at ok'
    intro w1 x1 m1 vs rvs
    obtain ⟨_, _, ok1⟩ := ok' w1 x1 m1
    refine ⟨w1, s1, ds ++ dd, rfl, m1, rvs.append (hdd w1), hz ds s e s1 hr, ?_⟩
    cases hg : g (ds ++ dd) s1 with
    | bad => rw [hg] at ok1; exact ok1
    | ok d s2 => rw [hg] at ok1; exact ok1
    | ex c y s2 =>
      rw [hg] at ok1
      exact fun w2 x2 m2 _ cls d hx => ⟨c, y, s2, w2, rfl, m2, hx, ok1 w2 x2 m2⟩
def AV.len (l : AV) (n : Nat) : Prop := ∀ ds s e r, l e s = .ok ds r → ds.length = n
theorem len_nil : AV.len aNil 0 := fun ds s e r h => by cases h; rfl
theorem len_cons {f : EV} {n : Nat} (h : AV.len l n) : AV.len (aCons f l) (n + 1) := fun ds s e r q => by
  unfold aCons at q
  cases hf : f e s with
  | bad => rw [hf] at q; cases q
  | ex c x s' => rw [hf] at q; cases q
  | ok d s1 =>
    rw [hf] at q
    have q : (l e s1).bind (fun r s => R.ok (d :: r) s) = .ok ds r := q
    cases hl : l e s1 with
    | bad => rw [hl] at q; cases q
    | ex c x s' => rw [hl] at q; cases q
    | ok ds1 s2 =>
      rw [hl] at q
      cases q
      simp [h _ _ _ _ hl]
/-- f(a, ..): the written arguments, then the defaults dd -/
theorem pd_call {m : Nat} (B : Bd X CT T W k) (F : FnG X.prog X.w X.K X.mg X.base k f fd ps (spG X.K CT T n g)) (hn : n = ps.length) (hg : Gl X x) (hm : X.mg x = some (.ref f)) (hk : PySem.W.keepIn X.K (.ref f) = true) (hb : Binds X.K fd ps dvu) (hd : Vals dvs dvu) (hdd : ∀ w, RDs X.K w dd dvs)
    (ha : PDA X CT W (a :: es) l) (hl : AV.len l m) (hmn : m + dd.length = n) (hdb : (x == ("__debug__" : Str)) = false := by decide) (he : starEach (a :: es) X.env = (false, eval a X.env) :: starEach es X.env := by rfl) (hpl : (backTo pos (starEach es X.env)).any (·.1) = false := by rfl) :
    PD X CT W (.Call (.Name x p) (a :: es) [] pos) (eCall g dd l) := by
  refine ⟨fun pins s σ H Q I q => ?_⟩
  have q' := call_reads (T := T) hn hdd (fun ds s e r h => by rw [List.length_append, hl _ _ _ _ h]; exact hmn) q
  refine wpAny_Call_Name_kw (ld_glob I hg hm ?_ hdb)
  refine PySem.W.callWith_K (h₀ := X.base) I.ok.mod.kin hk (thn (ha.run pos pins s σ H _ I q') fun us s1 ⟨vs, H1, I1, r, q1⟩ => ⟨I1.kIn, ?_⟩) he hpl
  exact run_G F B.room hb hd (passAt B.tk σ) I1 r q1
theorem pd_call0 (B : Bd X CT T W k) (F : FnG X.prog X.w X.K X.mg X.base k f fd ps (spG X.K CT T n g)) (hn : n = ps.length) (hg : Gl X x) (hm : X.mg x = some (.ref f)) (hk : PySem.W.keepIn X.K (.ref f) = true) (hb : Binds X.K fd ps dvu) (hd : Vals dvs dvu) (hdd : ∀ w, RDs X.K w dd dvs)
    (hmn : dd.length = n) (hdb : (x == ("__debug__" : Str)) = false := by decide) : PD X CT W (.Call (.Name x p) [] [] pos) (eCall g dd aNil) := by
  refine ⟨fun pins s σ H Q I q => ?_⟩
  have q' := call_reads (T := T) hn hdd (fun ds s e r h => by rw [List.length_append, len_nil _ _ _ _ h]; omega) q
  refine wpAny_Call_Name_kw (ld_glob I hg hm ?_ hdb)
  refine PySem.W.callWith_K0 I.kIn hk ?_
  obtain ⟨w, s0, e, rfl, m, re, ok⟩ := q'
  exact run_G (us := []) F B.room hb hd (passAt B.tk σ) I .nil (ok.get Ext.refl m [] rfl)
end
end Dl
/-! The data layer: built-in functions and methods. -/
namespace Dl
open PySem PySem.Spec PyProof.Rows L2

def CaD (K : PySem.W.Frag) (CT : Nat → Addr) (r : List V → Hp → VK → Prop) (h : List D → Sto → R D) : Prop :=
  ∀ (W : Nat → PyData → Sto → Wd → Prop) (w : Wd) (s : Sto) (xs : List D) (vs : List V) (Q : VK), Sim K CT w s → RDs K w xs vs → Ok K CT W w (h xs s) (fun d s' w' => ∀ v, RD K w' d v → Q v w'.H) → r vs w.H Q
def eBlt (h : List D → Sto → R D) (l : AV) : EV := fun e s => (l e s).bind fun ds s => h ds s
section
variable {X : Cx} {CT : Nat → Addr} {W : XW} {x : Str} {p pos : Pos} {a : Expr} {es : List Expr} {l : AV} {id T : String} {r : List V → Hp → VK → Prop} {h : List D → Sto → R D}
theorem blt_reads {K : PySem.W.Frag} {σ : L2.St} {H : Hp} {Q : VK} (hr : CaD K CT r h) (q : tD K CT W (eBlt h l) σ H Q) : tCB r (tDA K CT W l) σ H Q := by
  obtain ⟨w, s, e, rfl, m, re, ok⟩ := q
  exact ⟨w, s, e, rfl, m, re, (Ok.bind ok).imp fun ds s1 w1 e1 m1 ⟨_, _, ok1⟩ vs rvs => hr _ w1 s1 ds vs Q m1 rvs ok1⟩
theorem pd_blt (hc : CallR X (.builtin id) r) (hr : CaD X.K CT r h) (hg : Gl X x) (hm : X.mg x = none) (hv : bootBuiltins x = some (.builtin id)) (ha : PDA X CT W (a :: es) l) (hn : x ≠ "__name__" := by decide) (hdb : (x == ("__debug__" : Str)) = false := by decide)
    (he : starEach (a :: es) X.env = (false, eval a X.env) :: starEach es X.env := by rfl) (hpl : (backTo pos (starEach es X.env)).any (·.1) = false := by rfl) : PD X CT W (.Call (.Name x p) (a :: es) [] pos) (eBlt h l) :=
  (pe_callB hc hg hm hv ha hn hdb he hpl).imp fun σ H Q q => blt_reads hr q
theorem pd_ty (hc : CallR X (.type T) r) (hr : CaD X.K CT r h) (hg : Gl X x) (hm : X.mg x = none) (hv : bootBuiltins x = some (.type T)) (ha : PDA X CT W (a :: es) l) (hn : x ≠ "__name__" := by decide) (hdb : (x == ("__debug__" : Str)) = false := by decide)
    (he : starEach (a :: es) X.env = (false, eval a X.env) :: starEach es X.env := by rfl) (hpl : (backTo pos (starEach es X.env)).any (·.1) = false := by rfl) : PD X CT W (.Call (.Name x p) (a :: es) [] pos) (eBlt h l) :=
  (pe_callTy hc hg hm hv ha hn hdb he hpl).imp fun σ H Q q => blt_reads hr q
theorem pd_bltG (hc : CallR X (.builtin id) r) (hr : CaD X.K CT r h) (hg : Gl X x) (hm : X.mg x = some (.builtin id)) (ha : PDA X CT W (a :: es) l) (hdb : (x == ("__debug__" : Str)) = false := by decide)
    (he : starEach (a :: es) X.env = (false, eval a X.env) :: starEach es X.env := by rfl) (hpl : (backTo pos (starEach es X.env)).any (·.1) = false := by rfl) : PD X CT W (.Call (.Name x p) (a :: es) [] pos) (eBlt h l) :=
  (pe_callBfun hc hg hm ha hdb he hpl).imp fun σ H Q q => blt_reads hr q
theorem RDs.sing {K : PySem.W.Frag} {w : Wd} {d : D} {v : V} (r : RD K w d v) : RDs K w [d] [v] := ⟨v, [], rfl, r, rfl⟩
theorem RDs.one {K : PySem.W.Frag} {w : Wd} {d : D} {vs : List V} (r : RDs K w [d] vs) : ∃ v, vs = [v] ∧ RD K w d v := by
  obtain ⟨v, u, rfl, h, h2⟩ := r
  cases (show u = [] from h2)
  exact ⟨v, rfl, h⟩
theorem RDs.two {K : PySem.W.Frag} {w : Wd} {d e : D} {vs : List V} (r : RDs K w [d, e] vs) : ∃ v u, vs = [v, u] ∧ RD K w d v ∧ RD K w e u := by
  obtain ⟨v, u, rfl, h, h2⟩ := r
  obtain ⟨z, rfl, h3⟩ := RDs.one h2
  exact ⟨v, z, rfl, h, h3⟩

/-! ### len -/
def hLen : List D → Sto → R D
  | [.p (.str z)], s => if z.length ≤ sizeLine then .ok (.p (.int z.length)) s else .bad
  | [d], s => match seqOf s d with
    | some ds => .ok (.p (.int ds.length)) s
    | none => .bad
  | _, _ => .bad
theorem ca_len {K : PySem.W.Frag} : CaD K CT (fun xs H Q => ∃ x n, xs = [x] ∧ LenV K x H n ∧ Q (.int n) H) hLen := by
  intro W w s xs vs Q m r ok
  unfold hLen at ok
  split at ok
  · split at ok
    · rename_i hz
      obtain ⟨v, rfl, h⟩ := r.one
      cases (show v = .str _ from h)
      exact ⟨_, _, rfl, ⟨hz, rfl⟩, now m ok rfl⟩
    · exact ok.elim
  · split at ok
    · rename_i ds hd
      obtain ⟨v, rfl, h⟩ := r.one
      obtain ⟨a, us, rfl, h1, h2⟩ := seqOf_rep m h hd
      refine ⟨_, us.length, rfl, ?_, now m ok (by rw [h2.length]; rfl)⟩
      rcases h1 with h1 | h1
      · exact .inl ⟨us, h1, rfl⟩
      · exact .inr ⟨us, h1, rfl⟩
    · exact ok.elim
  · exact ok.elim
theorem pd_len (hg : Gl X "len") (hm : X.mg "len" = none) (ha : PDA X CT W [a] l) (he : starEach [a] X.env = (false, eval a X.env) :: starEach [] X.env := by rfl) : PD X CT W (.Call (.Name "len" p) [a] [] pos) (eBlt hLen l) :=
  pd_blt call_len ca_len hg hm PySem.boot_len ha (by decide) (by decide) he rfl

/-! ### int, abs -/
def hAbs : List D → Sto → R D
  | [.p (.int i)], s => .ok (.p (.int (if i < 0 then -i else i))) s
  | _, _ => .bad
theorem ca_abs {K : PySem.W.Frag} : CaD K CT (fun xs H Q => ∃ i, xs = [.int i] ∧ Q (.int (if i < 0 then -i else i)) H) hAbs := by
  intro W w s xs vs Q m r ok
  unfold hAbs at ok
  split at ok
  · obtain ⟨v, rfl, h⟩ := r.one
    cases (show v = .int _ from h)
    exact ⟨_, rfl, now m ok rfl⟩
  · exact ok.elim
theorem pd_abs (hg : Gl X "abs") (hm : X.mg "abs" = none) (ha : PDA X CT W [a] l) (hv : bootBuiltins "abs" = some (.builtin "abs") := by decide +kernel) (he : starEach [a] X.env = (false, eval a X.env) :: starEach [] X.env := by rfl) : PD X CT W (.Call (.Name "abs" p) [a] [] pos) (eBlt hAbs l) :=
  pd_blt call_abs ca_abs hg hm hv ha (by decide) (by decide) he rfl
def hInt : List D → Sto → R D
  | [.p (.int i)], s => .ok (.p (.int i)) s
  | [.p (.bool b)], s => .ok (.p (.int (if b then 1 else 0))) s
  | _, _ => .bad
theorem ca_int {K : PySem.W.Frag} : CaD K CT (fun xs H Q => (∃ i, xs = [.int i] ∧ Q (.int i) H) ∨ ∃ k, xs = [.bl k] ∧ Q (.int (if k then 1 else 0)) H) hInt := by
  intro W w s xs vs Q m r ok
  unfold hInt at ok
  split at ok
  · obtain ⟨v, rfl, h⟩ := r.one
    cases (show v = .int _ from h)
    exact .inl ⟨_, rfl, now m ok rfl⟩
  · obtain ⟨v, rfl, h⟩ := r.one
    cases (show v = .bl _ from h)
    exact .inr ⟨_, rfl, now m ok rfl⟩
  · exact ok.elim
theorem pd_intc (hg : Gl X "int") (hm : X.mg "int" = none) (ha : PDA X CT W [a] l) (hv : bootBuiltins "int" = some (.type "int") := by decide +kernel) (he : starEach [a] X.env = (false, eval a X.env) :: starEach [] X.env := by rfl) : PD X CT W (.Call (.Name "int" p) [a] [] pos) (eBlt hInt l) :=
  pd_ty call_int1 ca_int hg hm hv ha (by decide) (by decide) he rfl

/-! ### sum, max, min, any, all -/
def intsOf : List D → Option (List Int)
  | [] => some []
  | .p (.int i) :: r => (intsOf r).map fun l => i :: l
  | _ :: _ => none
theorem intsOf_some : ∀ {ds : List D} {ns : List Int}, intsOf ds = some ns → ds = ns.map fun i => D.p (.int i)
  | [], ns, h => by cases h; rfl
  | .p (.int i) :: r, ns, h => by
    have h : (intsOf r).map (fun l => i :: l) = some ns := h
    cases q : intsOf r with
    | none => rw [q] at h; cases h
    | some l =>
      rw [q] at h
      cases h
      rw [intsOf_some q]
      rfl
  | .p .none :: _, _, h => by cases h
  | .p (.bool _) :: _, _, h => by cases h
  | .p (.str _) :: _, _, h => by cases h
  | .p (.list _) :: _, _, h => by cases h
  | .p (.tuple _) :: _, _, h => by cases h
  | .p (.dict _) :: _, _, h => by cases h
  | .ref _ :: _, _, h => by cases h
  | .bag _ :: _, _, h => by cases h
  | .ro _ :: _, _, h => by cases h
theorem ints_rep {K : PySem.W.Frag} {w : Wd} : ∀ {ns : List Int} {vs : List V}, RDs K w (ns.map fun i => D.p (.int i)) vs → vs = ns.map V.int
  | [], _, h => h
  | n :: ns, _, h => by
    obtain ⟨v, r, rfl, h1, h2⟩ := h
    cases (show v = .int n from h1)
    rw [ints_rep h2]
    rfl
def boolsOf : List D → Option (List Bool)
  | [] => some []
  | .p (.bool i) :: r => (boolsOf r).map fun l => i :: l
  | _ :: _ => none
theorem boolsOf_some : ∀ {ds : List D} {ns : List Bool}, boolsOf ds = some ns → ds = ns.map fun i => D.p (.bool i)
  | [], ns, h => by cases h; rfl
  | .p (.bool i) :: r, ns, h => by
    have h : (boolsOf r).map (fun l => i :: l) = some ns := h
    cases q : boolsOf r with
    | none => rw [q] at h; cases h
    | some l =>
      rw [q] at h
      cases h
      rw [boolsOf_some q]
      rfl
  | .p .none :: _, _, h => by cases h
  | .p (.int _) :: _, _, h => by cases h
  | .p (.str _) :: _, _, h => by cases h
  | .p (.list _) :: _, _, h => by cases h
  | .p (.tuple _) :: _, _, h => by cases h
  | .p (.dict _) :: _, _, h => by cases h
  | .ref _ :: _, _, h => by cases h
  | .bag _ :: _, _, h => by cases h
  | .ro _ :: _, _, h => by cases h
theorem bools_rep {K : PySem.W.Frag} {w : Wd} : ∀ {ns : List Bool} {vs : List V}, RDs K w (ns.map fun i => D.p (.bool i)) vs → vs = ns.map V.bl
  | [], _, h => h
  | n :: ns, _, h => by
    obtain ⟨v, r, rfl, h1, h2⟩ := h
    cases (show v = .bl n from h1)
    rw [bools_rep h2]
    rfl
@[simp] theorem intsOf_map (ns : List Int) : intsOf (ns.map fun i => D.p (.int i)) = some ns := by
  induction ns with
  | nil => rfl
  | cons x r ih => simp [intsOf, ih]
@[simp] theorem boolsOf_map (ns : List Bool) : boolsOf (ns.map fun i => D.p (.bool i)) = some ns := by
  induction ns with
  | nil => rfl
  | cons x r ih => simp [boolsOf, ih]
def hL1 (s : Sto) : List D → Option (List D)
  | [d] => asL s d
  | _ => none
def hSum (ds : List D) (s : Sto) : R D := match (hL1 s ds).bind intsOf with
  | some ns => .ok (.p (.int ns.sum)) s
  | none => .bad
theorem hL1_rep {K : PySem.W.Frag} {w : Wd} {s : Sto} {ds xs : List D} {vs : List V} (m : Sim K CT w s) (r : RDs K w ds vs) (h : hL1 s ds = some xs) : ∃ a us, vs = [.ref a] ∧ SqL K w.H a us ∧ RDs K w xs us := by
  unfold hL1 at h
  split at h
  · obtain ⟨v, rfl, h1⟩ := r.one
    obtain ⟨a, us, rfl, h2, h3⟩ := asL_rep m h1 h
    exact ⟨a, us, rfl, h2, h3⟩
  · cases h
theorem hL1_ints {K : PySem.W.Frag} {w : Wd} {s : Sto} {ds : List D} {ns : List Int} {vs : List V} (m : Sim K CT w s) (r : RDs K w ds vs) (h : (hL1 s ds).bind intsOf = some ns) : ∃ a, vs = [.ref a] ∧ SqL K w.H a (ns.map V.int) := by
  cases q : hL1 s ds with
  | none => rw [q] at h; cases h
  | some xs =>
    rw [q] at h
    obtain ⟨a, us, rfl, h2, h3⟩ := hL1_rep m r q
    rw [intsOf_some h] at h3
    rw [ints_rep h3] at h2
    exact ⟨a, rfl, h2⟩
theorem hL1_bools {K : PySem.W.Frag} {w : Wd} {s : Sto} {ds : List D} {ns : List Bool} {vs : List V} (m : Sim K CT w s) (r : RDs K w ds vs) (h : (hL1 s ds).bind boolsOf = some ns) : ∃ a, vs = [.ref a] ∧ SqL K w.H a (ns.map V.bl) := by
  cases q : hL1 s ds with
  | none => rw [q] at h; cases h
  | some xs =>
    rw [q] at h
    obtain ⟨a, us, rfl, h2, h3⟩ := hL1_rep m r q
    rw [boolsOf_some h] at h3
    rw [bools_rep h3] at h2
    exact ⟨a, rfl, h2⟩
theorem ca_sum {K : PySem.W.Frag} : CaD K CT (rSum K) hSum := by
  intro W w s xs vs Q m r ok
  unfold hSum at ok
  split at ok
  · rename_i ns e
    obtain ⟨a, rfl, h⟩ := hL1_ints m r e
    exact ⟨a, ns, rfl, h, now m ok rfl⟩
  · exact ok.elim
def hAny (ds : List D) (s : Sto) : R D := match (hL1 s ds).bind boolsOf with
  | some bs => .ok (.p (.bool (bs.any _root_.id))) s
  | none => .bad
def hAll (ds : List D) (s : Sto) : R D := match (hL1 s ds).bind boolsOf with
  | some bs => .ok (.p (.bool (bs.all _root_.id))) s
  | none => .bad
theorem ca_any {K : PySem.W.Frag} : CaD K CT (rAny K) hAny := by
  intro W w s xs vs Q m r ok
  unfold hAny at ok
  split at ok
  · rename_i ns e
    obtain ⟨a, rfl, h⟩ := hL1_bools m r e
    exact ⟨a, ns, rfl, h, now m ok rfl⟩
  · exact ok.elim
theorem ca_all {K : PySem.W.Frag} : CaD K CT (rAll K) hAll := by
  intro W w s xs vs Q m r ok
  unfold hAll at ok
  split at ok
  · rename_i ns e
    obtain ⟨a, rfl, h⟩ := hL1_bools m r e
    exact ⟨a, ns, rfl, h, now m ok rfl⟩
  · exact ok.elim
def listMax : List Int → Option Int
  | [] => none
  | x :: r => some (r.foldl max x)
def listMin : List Int → Option Int
  | [] => none
  | x :: r => some (r.foldl min x)
theorem foldl_max_ge : ∀ (r : List Int) (x : Int), x ≤ r.foldl max x ∧ ∀ y ∈ r, y ≤ r.foldl max x
  | [], x => ⟨Int.le_refl x, fun y h => by cases h⟩
  | z :: r, x => by
    obtain ⟨h1, h2⟩ := foldl_max_ge r (max x z)
    refine ⟨by simp only [List.foldl_cons]; omega, fun y h => ?_⟩
    rcases List.mem_cons.mp h with rfl | h
    · simp only [List.foldl_cons]; omega
    · exact h2 y h
theorem foldl_min_le : ∀ (r : List Int) (x : Int), r.foldl min x ≤ x ∧ ∀ y ∈ r, r.foldl min x ≤ y
  | [], x => ⟨Int.le_refl x, fun y h => by cases h⟩
  | z :: r, x => by
    obtain ⟨h1, h2⟩ := foldl_min_le r (min x z)
    refine ⟨by simp only [List.foldl_cons]; omega, fun y h => ?_⟩
    rcases List.mem_cons.mp h with rfl | h
    · simp only [List.foldl_cons]; omega
    · exact h2 y h
theorem foldl_max_mem : ∀ (r : List Int) (x : Int), r.foldl max x = x ∨ r.foldl max x ∈ r
  | [], x => .inl rfl
  | z :: r, x => by
    simp only [List.foldl_cons]
    rcases foldl_max_mem r (max x z) with h | h
    · rw [h]
      by_cases hz : z ≤ x
      · exact .inl (by omega)
      · exact .inr (List.mem_cons.mpr (.inl (by omega)))
    · exact .inr (List.mem_cons_of_mem _ h)
theorem foldl_min_mem : ∀ (r : List Int) (x : Int), r.foldl min x = x ∨ r.foldl min x ∈ r
  | [], x => .inl rfl
  | z :: r, x => by
    simp only [List.foldl_cons]
    rcases foldl_min_mem r (min x z) with h | h
    · rw [h]
      by_cases hz : x ≤ z
      · exact .inl (by omega)
      · exact .inr (List.mem_cons.mpr (.inl (by omega)))
    · exact .inr (List.mem_cons_of_mem _ h)
def hMax (ds : List D) (s : Sto) : R D := match ds with
  | [.p (.int i), .p (.int j)] => .ok (.p (.int (if j > i then j else i))) s
  | _ => match ((hL1 s ds).bind intsOf).bind listMax with
    | some m => .ok (.p (.int m)) s
    | none => .bad
def hMin (ds : List D) (s : Sto) : R D := match ds with
  | [.p (.int i), .p (.int j)] => .ok (.p (.int (if j < i then j else i))) s
  | _ => match ((hL1 s ds).bind intsOf).bind listMin with
    | some m => .ok (.p (.int m)) s
    | none => .bad
theorem ca_max {K : PySem.W.Frag} : CaD K CT (fun xs H Q => (∃ i j, xs = [.int i, .int j] ∧ Q (.int (if j > i then j else i)) H) ∨ rMax K xs H Q) hMax := by
  intro W w s xs vs Q m r ok
  unfold hMax at ok
  split at ok
  · obtain ⟨v, u, rfl, h1, h2⟩ := r.two
    cases (show v = .int _ from h1)
    cases (show u = .int _ from h2)
    exact .inl ⟨_, _, rfl, now m ok rfl⟩
  · split at ok
    · rename_i z e
      cases q : (hL1 s xs).bind intsOf with
      | none => rw [q] at e; cases e
      | some ns =>
        rw [q] at e
        obtain ⟨a, rfl, h⟩ := hL1_ints m r q
        cases ns with
        | nil => cases e
        | cons x ns =>
          have e : some (ns.foldl max x) = some z := e
          cases e
          refine .inr ⟨a, x :: ns, rfl, h, by simp, fun M hM hle => ?_⟩
          have h1 := foldl_max_ge ns x
          have : M = ns.foldl max x := by
            apply Int.le_antisymm
            · rcases List.mem_cons.mp hM with rfl | hM
              · exact h1.1
              · exact h1.2 M hM
            · rcases foldl_max_mem ns x with q | q
              · rw [q]
                exact hle x List.mem_cons_self
              · exact hle _ (List.mem_cons_of_mem _ q)
          rw [this]
          exact now m ok rfl
    · exact ok.elim
theorem ca_min {K : PySem.W.Frag} : CaD K CT (fun xs H Q => (∃ i j, xs = [.int i, .int j] ∧ Q (.int (if j < i then j else i)) H) ∨ rMin K xs H Q) hMin := by
  intro W w s xs vs Q m r ok
  unfold hMin at ok
  split at ok
  · obtain ⟨v, u, rfl, h1, h2⟩ := r.two
    cases (show v = .int _ from h1)
    cases (show u = .int _ from h2)
    exact .inl ⟨_, _, rfl, now m ok rfl⟩
  · split at ok
    · rename_i z e
      cases q : (hL1 s xs).bind intsOf with
      | none => rw [q] at e; cases e
      | some ns =>
        rw [q] at e
        obtain ⟨a, rfl, h⟩ := hL1_ints m r q
        cases ns with
        | nil => cases e
        | cons x ns =>
          have e : some (ns.foldl min x) = some z := e
          cases e
          refine .inr ⟨a, x :: ns, rfl, h, by simp, fun M hM hle => ?_⟩
          have h1 := foldl_min_le ns x
          have : M = ns.foldl min x := by
            apply Int.le_antisymm
            · rcases foldl_min_mem ns x with q | q
              · rw [q]
                exact hle x List.mem_cons_self
              · exact hle _ (List.mem_cons_of_mem _ q)
            · rcases List.mem_cons.mp hM with rfl | hM
              · exact h1.1
              · exact h1.2 M hM
          rw [this]
          exact now m ok rfl
    · exact ok.elim
theorem pd_sum (hc : X.calm = true) (hg : Gl X "sum") (hm : X.mg "sum" = none) (ha : PDA X CT W [a] l) (hv : bootBuiltins "sum" = some (.builtin "sum") := by decide +kernel) (he : starEach [a] X.env = (false, eval a X.env) :: starEach [] X.env := by rfl) : PD X CT W (.Call (.Name "sum" p) [a] [] pos) (eBlt hSum l) :=
  pd_blt (cr_sum hc) ca_sum hg hm hv ha (by decide) (by decide) he rfl
theorem pd_any (hc : X.calm = true) (hg : Gl X "any") (hm : X.mg "any" = none) (ha : PDA X CT W [a] l) (hv : bootBuiltins "any" = some (.builtin "any") := by decide +kernel) (he : starEach [a] X.env = (false, eval a X.env) :: starEach [] X.env := by rfl) : PD X CT W (.Call (.Name "any" p) [a] [] pos) (eBlt hAny l) :=
  pd_blt (cr_any hc) ca_any hg hm hv ha (by decide) (by decide) he rfl
theorem pd_all (hc : X.calm = true) (hg : Gl X "all") (hm : X.mg "all" = none) (ha : PDA X CT W [a] l) (hv : bootBuiltins "all" = some (.builtin "all") := by decide +kernel) (he : starEach [a] X.env = (false, eval a X.env) :: starEach [] X.env := by rfl) : PD X CT W (.Call (.Name "all" p) [a] [] pos) (eBlt hAll l) :=
  pd_blt (cr_all hc) ca_all hg hm hv ha (by decide) (by decide) he rfl
theorem pd_max (hc : X.calm = true) (hg : Gl X "max") (hm : X.mg "max" = none) (ha : PDA X CT W (a :: es) l) (hv : bootBuiltins "max" = some (.builtin "max") := by decide +kernel) (he : starEach (a :: es) X.env = (false, eval a X.env) :: starEach es X.env := by rfl) (hpl : (backTo pos (starEach es X.env)).any (·.1) = false := by rfl) : PD X CT W (.Call (.Name "max" p) (a :: es) [] pos) (eBlt hMax l) :=
  pd_blt (L2.CallR.or (call_max2 hc) (cr_max hc)) ca_max hg hm hv ha (by decide) (by decide) he hpl
theorem pd_min (hc : X.calm = true) (hg : Gl X "min") (hm : X.mg "min" = none) (ha : PDA X CT W (a :: es) l) (hv : bootBuiltins "min" = some (.builtin "min") := by decide +kernel) (he : starEach (a :: es) X.env = (false, eval a X.env) :: starEach es X.env := by rfl) (hpl : (backTo pos (starEach es X.env)).any (·.1) = false := by rfl) : PD X CT W (.Call (.Name "min" p) (a :: es) [] pos) (eBlt hMin l) :=
  pd_blt (L2.CallR.or (call_min2 hc) (cr_min hc)) ca_min hg hm hv ha (by decide) (by decide) he hpl

/-! ### gcd -/
def hGcd : List D → Sto → R D
  | [.p (.int i), .p (.int j)], s => .ok (.p (.int ((Nat.gcd i.natAbs j.natAbs : Nat) : Int))) s
  | _, _ => .bad
theorem ca_gcd : ∀ {K : PySem.W.Frag}, CaD K CT rGcd hGcd := by
  intro K W w s xs vs Q m r ok
  unfold hGcd at ok
  split at ok
  · obtain ⟨v, u, rfl, h1, h2⟩ := r.two
    cases (show v = .int _ from h1)
    cases (show u = .int _ from h2)
    exact ⟨_, _, rfl, now m ok rfl⟩
  · exact ok.elim
theorem pd_gcd (hg : Gl X "gcd") (hm : X.mg "gcd" = some (.builtin "math.gcd")) (ha : PDA X CT W (a :: es) l) (he : starEach (a :: es) X.env = (false, eval a X.env) :: starEach es X.env := by rfl) (hpl : (backTo pos (starEach es X.env)).any (·.1) = false := by rfl) : PD X CT W (.Call (.Name "gcd" p) (a :: es) [] pos) (eBlt hGcd l) :=
  pd_bltG cr_gcd ca_gcd hg hm ha (by decide) he hpl

/-! ### list, tuple -/
def hList (h : Bool) (ds : List D) (s : Sto) : R D := match ds with
  | [d] => match seqOf s d with
    | some xs => newL h xs s
    | none => .bad
  | _ => .bad
def hTuple (ds : List D) (s : Sto) : R D := match ds with
  | [d] => match seqOf s d with
    | some xs => .ok (mkT xs) s
    | none => .bad
  | _ => .bad
theorem ca_list {K : PySem.W.Frag} (h : Bool) : CaD K CT (fun xs H Q => ∃ p ys, xs = [.ref p] ∧ (SqL K H p ys ∨ SqT K H p ys) ∧ ∀ l, H l = none → Q (.ref l) (upd H l (.lst ys))) (hList h) := by
  intro W w s xs vs Q m r ok
  unfold hList at ok
  split at ok
  · split at ok
    · rename_i ds hd
      obtain ⟨v, rfl, h1⟩ := r.one
      obtain ⟨a, us, rfl, h2, h3⟩ := seqOf_rep m h1 hd
      exact ⟨a, us, rfl, h2, fun p hp => newL_ok m hp h3 ok⟩
    · exact ok.elim
  · exact ok.elim
theorem ca_tuple {K : PySem.W.Frag} : CaD K CT (fun xs H Q => ∃ p ys, xs = [.ref p] ∧ ((SqL K H p ys ∧ ∀ l, H l = none → Q (.ref l) (upd H l (.tup ys))) ∨ (SqT K H p ys ∧ Q (.ref p) H))) hTuple := by
  intro W w s xs vs Q m r ok
  unfold hTuple at ok
  split at ok
  · split at ok
    · rename_i ds hd
      obtain ⟨v, rfl, h1⟩ := r.one
      obtain ⟨a, us, rfl, h2, h3⟩ := seqOf_rep m h1 hd
      rcases h2 with h2 | h2
      · exact ⟨a, us, rfl, .inl ⟨h2, fun p hp => newT_ok m hp h3 ok⟩⟩
      · exact ⟨a, us, rfl, .inr ⟨h2, oldT_ok m h2 h3 ok⟩⟩
    · exact ok.elim
  · exact ok.elim
theorem pd_list (h : Bool) (hg : Gl X "list") (hm : X.mg "list" = none) (ha : PDA X CT W [a] l) (hv : bootBuiltins "list" = some (.type "list") := by decide +kernel) (he : starEach [a] X.env = (false, eval a X.env) :: starEach [] X.env := by rfl) : PD X CT W (.Call (.Name "list" p) [a] [] pos) (eBlt (hList h) l) :=
  pd_ty call_list_of (ca_list h) hg hm hv ha (by decide) (by decide) he rfl
theorem pd_tuple (hg : Gl X "tuple") (hm : X.mg "tuple" = none) (ha : PDA X CT W [a] l) (hv : bootBuiltins "tuple" = some (.type "tuple") := by decide +kernel) (he : starEach [a] X.env = (false, eval a X.env) :: starEach [] X.env := by rfl) : PD X CT W (.Call (.Name "tuple" p) [a] [] pos) (eBlt hTuple l) :=
  pd_ty call_tuple_of ca_tuple hg hm hv ha (by decide) (by decide) he rfl
end

/-! ### isinstance of built-in types -/
def kindD (s : Sto) : D → Option String
  | .p .none => some "NoneType"
  | .p (.bool _) => some "bool"
  | .p (.int _) => some "int"
  | .p (.str _) => some "str"
  | .p (.list _) => some "list"
  | .p (.tuple _) => some "tuple"
  | .p (.dict _) => some "dict"
  | .bag _ => some "tuple"
  | .ro _ => some "list"
  | .ref k => match s[k]? with
    | some (.lst _) => some "list"
    | _ => none
theorem kind_rep {K : PySem.W.Frag} {CT : Nat → Addr} {w : Wd} {s : Sto} {d : D} {v : V} {t : String} (m : Sim K CT w s) (r : RD K w d v) (h : kindD s d = some t) : TyX K w.H v (.type t) := by
  have tup : ∀ {a : Addr} {xs : List V}, SqT K w.H a xs → TyX K w.H (.ref a) (.type "tuple") := fun {a xs} q => by
    rcases q with (q | ⟨o, q⟩) | ⟨o, its, n, q, c, _⟩
    · exact .base (.tup q)
    · exact .fTuple q
    · exact .kTuple q c
  have lst : ∀ {a : Addr} {xs : List V}, SqR K w.H a xs → TyX K w.H (.ref a) (.type "list") := fun {a xs} q => by
    rcases q with ⟨o, q⟩ | ⟨o, its, n, q, c, _⟩
    · exact .base (.frz q)
    · exact .kList q c
  cases d with
  | p x =>
    cases x with
    | none => cases h; cases (show v = .non from r); exact .base .non
    | bool b => cases h; cases (show v = .bl b from r); exact .base (.bl b)
    | int b => cases h; cases (show v = .int b from r); exact .base (.int b)
    | str b => cases h; cases (show v = .str b from r); exact .base (.str b)
    | list xs =>
      cases h
      obtain ⟨a, vs, rfl, h1, _⟩ := r
      exact .base (.lst h1.1)
    | tuple xs =>
      cases h
      obtain ⟨a, vs, rfl, h1, _⟩ := r
      exact tup h1
    | dict xs =>
      cases h
      obtain ⟨_, a, rfl, h1, _⟩ := r
      exact .base (.dK h1)
  | bag xs =>
    cases h
    obtain ⟨a, vs, rfl, h1, _⟩ := r
    exact tup h1
  | ro xs =>
    cases h
    obtain ⟨a, vs, rfl, h1, _⟩ := r
    exact lst h1
  | ref k =>
    have h : (match s[k]? with | some (.lst _) => some "list" | _ => none) = some t := h
    obtain ⟨a, h1, rfl⟩ := r
    cases q : s[k]? with
    | none => rw [q] at h; cases h
    | some o =>
      rw [q] at h
      cases o with
      | ins _ _ => cases h
      | lst ds =>
        cases h
        obtain ⟨b, h2, vs, h3, _⟩ := m.ob k _ q
        rw [h1] at h2
        cases h2
        exact .base (.lst h3)
/-- bool is an int -/
def isTy (t : String) (k : String) : Bool := k == t || (t == "int" && k == "bool")
def eIsi (t : String) (f : EV) : EV := fun e s => (f e s).bind fun d s => match kindD s d with
  | some k => .ok (.p (.bool (isTy t k))) s
  | none => .bad
def tyOk (t : String) : Bool := ["NoneType", "bool", "int", "str", "list", "tuple", "dict"].all fun k => kitB k t == some (isTy t k)
theorem kindD_mem {s : Sto} {d : D} {k : String} (h : kindD s d = some k) : k ∈ ["NoneType", "bool", "int", "str", "list", "tuple", "dict"] := by
  cases d with
  | p x => cases x <;> (cases h; simp)
  | bag xs => cases h; simp
  | ro xs => cases h; simp
  | ref j =>
    have h : (match s[j]? with | some (.lst _) => some "list" | _ => none) = some k := h
    cases q : s[j]? with
    | none => rw [q] at h; cases h
    | some o =>
      rw [q] at h
      cases o with
      | ins _ _ => cases h
      | lst ds => cases h; simp
section
variable {X : Cx} {CT : Nat → Addr} {W : XW} {x : Str} {p p2 pos : Pos} {a : Expr} {f : EV} {t : String}
theorem pd_isi (hok : tyOk t = true) (hg : Gl X "isinstance") (hm : X.mg "isinstance" = none) (hg2 : Gl X x) (hm2 : X.mg x = none) (hv2 : bootBuiltins x = some (.type t)) (ha : PD X CT W a f) (hn : x ≠ "__name__" := by decide) (hdb : (x == ("__debug__" : Str)) = false := by decide)
    (hv : bootBuiltins "isinstance" = some (.builtin "isinstance") := by decide +kernel) (he : starEach [a, .Name x p2] X.env = (false, eval a X.env) :: starEach [.Name x p2] X.env := by rfl) (he2 : starEach [.Name x p2] X.env = (false, eval (.Name x p2) X.env) :: starEach [] X.env := by rfl) (hpl : (backTo pos (starEach [.Name x p2] X.env)).any (·.1) = false := by rfl) :
    PD X CT W (.Call (.Name "isinstance" p) [a, .Name x p2] [] pos) (eIsi t f) := by
  refine (pe_callB call_isi hg hm hv (pa_cons ha (pa_cons (pe_bltn (v := .ty t) hg2 hm2 hv2 rfl hn hdb) pa_nil he2) he) (by decide) (by decide) he hpl).imp fun σ H Q q => ?_
  obtain ⟨w, s, e, rfl, m, re, ok⟩ := q
  refine ⟨w, s, e, rfl, m, re, (Ok.bind ok).imp fun d s1 w1 e1 m1 ⟨_, _, ok1⟩ v rv => ?_⟩
  split at ok1
  · rename_i k hk
    have hb : kitB k t = some (isTy t k) := by
      unfold tyOk at hok
      have := List.all_eq_true.mp hok k (kindD_mem hk)
      exact eq_of_beq this
    exact ⟨v, .ty t, .type k, .type t, isTy t k, rfl, .ty t, kind_rep m1 rv hk, kit_ty hb, now m1 ok1 rfl⟩
  · exact ok1.elim
end

/-! ### methods of lists -/
def MeD (K : PySem.W.Frag) (CT : Nat → Addr) (r : V → List V → Hp → VK → Prop) (h : D → List D → Sto → R D) : Prop :=
  ∀ (W : Nat → PyData → Sto → Wd → Prop) (w : Wd) (s : Sto) (x : D) (xs : List D) (v : V) (vs : List V) (Q : VK), Sim K CT w s → RD K w x v → RDs K w xs vs → Ok K CT W w (h x xs s) (fun d s' w' => ∀ v, RD K w' d v → Q v w'.H) → r v vs w.H Q
/-- o.m(..), o a list -/
def eMeL (h : D → List D → Sto → R D) (f : EV) (l : AV) : EV := fun e s => (f e s).bind fun x s => match asL s x with
  | some _ => (l e s).bind fun xs s => h x xs s
  | none => .bad
def hAppend (x : D) (ys : List D) (s : Sto) : R D := match x, ys with
  | .ref k, [y] => match lstAt s k with
    | some xs => if xs.length < sizeLine then .ok (.p .none) (s.set k (.lst (xs ++ [y]))) else .bad
    | none => .bad
  | _, _ => .bad
def hPop (x : D) (ys : List D) (s : Sto) : R D := match x, ys with
  | .ref k, [] => match lstAt s k with
    | some xs => match xs[xs.length - 1]? with
      | some y => .ok y (s.set k (.lst xs.dropLast))
      | none => .bad
    | none => .bad
  | _, _ => .bad
def hInsert (x : D) (ys : List D) (s : Sto) : R D := match x, ys with
  | .ref k, [.p (.int i), y] => match lstAt s k with
    | some xs => if xs.length < sizeLine ∧ 0 ≤ i ∧ i < 2 ^ 63 then .ok (.p .none) (s.set k (.lst (xs.take i.toNat ++ [y] ++ xs.drop i.toNat))) else .bad
    | none => .bad
  | _, _ => .bad
def hExtend (x : D) (ys : List D) (s : Sto) : R D := match x, ys with
  | .ref k, [y] => match lstAt s k with
    | some xs => match asM s y with
      | some zs => if xs.length + zs.length ≤ sizeLine then .ok (.p .none) (s.set k (.lst (xs ++ zs))) else .bad
      | none => match asT y with
        | some zs => if xs.length + zs.length ≤ sizeLine then .ok (.p .none) (s.set k (.lst (xs ++ zs))) else .bad
        | none => .bad
    | none => .bad
  | _, _ => .bad
theorem ext_tup (l : Addr) (us : Array Value) (n : Nat) (b : Addr) (vs : Array Value) (n2 : Nat) (od : Option Addr) (sl : Array (Option Value)) (hs0 : ¬(!us.isEmpty && Builtin.List.listTooLong (us.size + vs.size)) = true) (hs1 : us.size ≤ sizeLine) (hs2 : us.size + vs.size ≤ sizeLine + 1) :
    Meets (Builtin.«list.extend» ⟨[.ref l, .ref b], []⟩) (fun _ R s => s.heap.get? l = some { cls := .type "list", dict := none, data := .seq us n, slots := #[] } ∧ s.heap.get? b = some { cls := .type "tuple", dict := od, data := .seq vs n2, slots := sl } ∧
      R (.ok (.ret Value.none)) { s with heap := s.heap.update l (Obj.mapSeq fun x => x ++ vs), toks := s.toks }) :=
  .of_wp fun prog w A R s h => by
    obtain ⟨hp, g, d, tk, os⟩ := s
    obtain ⟨hl, hb, h⟩ := h
    have f1 := AutoSeq1.idx_int
    have f2 := AutoSeq1.sub_tuple_tuple
    have f3 := AutoSeq1.sub_list_list
    have f4 := AutoSeq1.sub_tuple_list
    have f5 := AutoSeq1.sub_list_tuple
    have hz' : (us ++ vs).size ≤ sizeLine + 1 := by
      rw [Array.size_append]
      exact hs2
    wp_walk using (wpAny_updateSeq hl rfl (hz := hs1) (_hz' := hz')), wpAny_loadPart' hl, wpAny_loadPart' hb
    exact ⟨_, rfl, h⟩
def rExtT (K : PySem.W.Frag) : V → List V → Hp → VK → Prop := fun x vs H Q => ∃ l b xs zs, x = .ref l ∧ vs = [.ref b] ∧ H l = some (.lst xs) ∧ SqT K H b zs ∧ xs.length + zs.length ≤ sizeLine ∧ Q .non (upd H l (.lst (xs ++ zs)))
section
variable {X : Cx} {CT : Nat → Addr} {W : XW} {pos apos cpos : Pos} {o a : Expr} {es : List Expr} {f : EV} {l : AV} {name : Str} {id : String} {r : V → List V → Hp → VK → Prop} {h : D → List D → Sto → R D}
theorem mt_extT : MtM X "list.extend" (rExtT X.K) := by
  intro pins s σ H x vs v us Q I rx rv h
  obtain ⟨l, b, xs, zs, rfl, rfl, hH, hB, hz, q⟩ := h
  cases rx
  obtain ⟨u, rfl, ru⟩ := rv.one
  cases ru
  obtain ⟨z, its, n, r, hl, e⟩ := I.lstM hH
  obtain ⟨its2, r2, ⟨o2, e2, c2, n2, d2⟩, hz2⟩ := I.tuple hB
  have l2 := r2.length
  have hsz : its.toArray.size + its2.toArray.size ≤ sizeLine := by
    rw [List.size_toArray, List.size_toArray]
    omega
  have hlong : ¬ (!its.toArray.isEmpty && Builtin.List.listTooLong (its.toArray.size + its2.toArray.size)) = true := by
    rw [notLongL hsz, Bool.and_false]
    exact Bool.false_ne_true
  obtain ⟨oc, od, dt, osl⟩ := o2
  simp only at c2 d2
  subst c2 d2
  refine call_meets F.slot_list_extend ⟨_, e, rfl⟩ F.entry_list_extend (F.args_list_extend_2 _ _)
    (ext_tup l its.toArray n b its2.toArray n2 od osl hlong (by rw [List.size_toArray]; omega) (by omega)) ⟨e, e2, ?_⟩
  refine ⟨.non, _, I.lset (its' := its ++ its2) hH e (by simp) (r.append r2) ?_, rfl, q⟩
  rw [List.length_append]
  exact hz
theorem me_append {K : PySem.W.Frag} : MeD K CT rAppend hAppend := by
  intro W w s x xs v vs Q m rx rxs ok
  unfold hAppend at ok
  split at ok
  · split at ok
    · rename_i ds hd
      split at ok
      · rename_i hz
        obtain ⟨y, rfl, ry⟩ := rxs.one
        obtain ⟨a, us, rfl, h1, h2, h3⟩ := lstAt_rep m rx hd
        obtain ⟨x, m'⟩ := wr_ok m h1 h2 (h3.append (RDs.sing ry))
        exact ⟨a, us, y, rfl, rfl, h2, by rw [h3.length]; exact hz, ok.get x m' .non rfl⟩
      · exact ok.elim
    · exact ok.elim
  · exact ok.elim
theorem RDs.dropLast {K : PySem.W.Frag} {w : Wd} {xs : List D} {vs : List V} (r : RDs K w xs vs) : RDs K w xs.dropLast vs.dropLast := by
  rw [List.dropLast_eq_take, List.dropLast_eq_take, r.length]
  exact r.take _
theorem me_pop {K : PySem.W.Frag} : MeD K CT rPop hPop := by
  intro W w s x xs v vs Q m rx rxs ok
  unfold hPop at ok
  split at ok
  · split at ok
    · rename_i ds hd
      split at ok
      · rename_i y hy
        obtain ⟨a, us, rfl, h1, h2, h3⟩ := lstAt_rep m rx hd
        obtain ⟨u, h4, h5⟩ := h3.get hy
        obtain ⟨x, m'⟩ := wr_ok m h1 h2 h3.dropLast
        exact ⟨a, us, u, rfl, rxs, h2, by rw [h3.length]; exact h4, ok.get x m' u (RD.ext x _ _ h5)⟩
      · exact ok.elim
    · exact ok.elim
  · exact ok.elim
theorem me_insert {K : PySem.W.Frag} : MeD K CT (fun x vs H Q => ∃ (l : Addr) (xs : List V) (i : Int) (y : V), x = .ref l ∧ vs = [.int i, y] ∧ H l = some (.lst xs) ∧ xs.length < sizeLine ∧ 0 ≤ i ∧ i < 2 ^ 63 ∧ Q .non (upd H l (.lst (xs.take i.toNat ++ [y] ++ xs.drop i.toNat)))) hInsert := by
  intro W w s x xs v vs Q m rx rxs ok
  unfold hInsert at ok
  split at ok
  · split at ok
    · rename_i ds hd
      split at ok
      · rename_i hz
        obtain ⟨vi, y, rfl, ri, ry⟩ := rxs.two
        cases (show vi = .int _ from ri)
        obtain ⟨a, us, rfl, h1, h2, h3⟩ := lstAt_rep m rx hd
        obtain ⟨x, m'⟩ := wr_ok m h1 h2 (((h3.take _).append (RDs.sing ry)).append (h3.drop _))
        exact ⟨a, us, _, y, rfl, rfl, h2, by rw [h3.length]; exact hz.1, hz.2.1, hz.2.2, ok.get x m' .non rfl⟩
      · exact ok.elim
    · exact ok.elim
  · exact ok.elim
theorem me_extend {K : PySem.W.Frag} : MeD K CT (fun x vs H Q => rExtend x vs H Q ∨ rExtT K x vs H Q) hExtend := by
  intro W w s x xs v vs Q m rx rxs ok
  unfold hExtend at ok
  split at ok
  · split at ok
    · rename_i ds hd
      obtain ⟨y, rfl, ry⟩ := rxs.one
      obtain ⟨a, us, rfl, h1, h2, h3⟩ := lstAt_rep m rx hd
      have l3 := h3.length
      split at ok
      · rename_i zs hzs
        split at ok
        · rename_i hz
          obtain ⟨b, ws, rfl, h4, h5⟩ := asM_rep m ry hzs
          have l5 := h5.length
          obtain ⟨x, m'⟩ := wr_ok m h1 h2 (h3.append h5)
          exact .inl ⟨a, b, us, ws, rfl, rfl, h2, h4, by omega, ok.get x m' .non rfl⟩
        · exact ok.elim
      · split at ok
        · rename_i zs hzs
          split at ok
          · rename_i hz
            obtain ⟨b, ws, rfl, h4, h5⟩ := asT_rep ry hzs
            have l5 := h5.length
            obtain ⟨x, m'⟩ := wr_ok m h1 h2 (h3.append h5)
            exact .inr ⟨a, b, us, ws, rfl, rfl, h2, h4, by omega, ok.get x m' .non rfl⟩
          · exact ok.elim
        · exact ok.elim
    · exact ok.elim
  · exact ok.elim
theorem pd_meL (slot : Slot "list" name id) (hty : typeOf (.builtin id) = pure (.type "method_descriptor")) (hm : MtR X id r) (hr : MeD X.K CT r h) (ho : PD X CT W o f) (ha : PDA X CT W (a :: es) l)
    (hbase : attributeBase o name X.env (eval o X.env) = eval o X.env := by rfl)
    (hfew : ((backTo cpos (starEach (a :: es) X.env)).all (fun x => !x.1) && (backToKw cpos (keywordEach [] X.env)).all (fun x => x.1.isSome)
      && decide ((a :: es).length + ([] : List Keyword).length + (if ([] : List Keyword).isEmpty then 0 else 1) < 30)) = true := by rfl)
    (hline : (apos.endLine == cpos.line) = true := by rfl) (hs : starEach (a :: es) X.env = (false, eval a X.env) :: starEach es X.env := by rfl) (hplain : (backTo cpos (starEach es X.env)).any (·.1) = false := by rfl) :
    PD X CT W (.Call (.Attribute o name apos) (a :: es) [] cpos) (eMeL h f l) := by
  refine (pe_bm PySem.F.plainAttrs_list slot hty hm ho ha hbase hfew hline hs hplain).imp fun σ H Q q => ?_
  obtain ⟨w, s, e, rfl, m, re, ok⟩ := q
  refine ⟨w, s, e, rfl, m, re, (Ok.bind ok).imp fun d s1 w1 e1 m1 ⟨_, _, ok1⟩ v rv => ?_⟩
  split at ok1
  · rename_i ds hd
    obtain ⟨p, vs, rfl, h1, h2⟩ := asL_rep m1 rv hd
    refine ⟨.inl ⟨rfl, vs, h1⟩, w1, s1, e, rfl, m1, re.ext e1, (Ok.bind ok1).imp fun xs s2 w2 e2 m2 ⟨_, _, ok2⟩ us rus => ?_⟩
    exact hr _ w2 s2 d xs _ us Q m2 (RD.ext e2 _ _ rv) rus ok2
  · exact ok1.elim
theorem pd_meL0 (slot : Slot "list" name id) (hty : typeOf (.builtin id) = pure (.type "method_descriptor")) (hm : MtR X id r) (hr : MeD X.K CT r h) (ho : PD X CT W o f)
    (hbase : attributeBase o name X.env (eval o X.env) = eval o X.env := by rfl) (hline : (apos.endLine == cpos.line) = true := by rfl) : PD X CT W (.Call (.Attribute o name apos) [] [] cpos) (eMeL h f aNil) := by
  refine (pe_bm0 PySem.F.plainAttrs_list slot hty hm ho hbase hline).imp fun σ H Q q => ?_
  obtain ⟨w, s, e, rfl, m, re, ok⟩ := q
  refine ⟨w, s, e, rfl, m, re, (Ok.bind ok).imp fun d s1 w1 e1 m1 ⟨_, _, ok1⟩ v rv => ?_⟩
  split at ok1
  · rename_i ds hd
    obtain ⟨p, vs, rfl, h1, h2⟩ := asL_rep m1 rv hd
    exact ⟨.inl ⟨rfl, vs, h1⟩, hr _ w1 s1 d [] _ [] Q m1 rv rfl ok1⟩
  · exact ok1.elim
theorem pd_append (ho : PD X CT W o f) (ha : PDA X CT W [a] l)
    (hbase : attributeBase o "append" X.env (eval o X.env) = eval o X.env := by rfl)
    (hfew : ((backTo cpos (starEach [a] X.env)).all (fun x => !x.1) && (backToKw cpos (keywordEach [] X.env)).all (fun x => x.1.isSome)
      && decide ([a].length + ([] : List Keyword).length + (if ([] : List Keyword).isEmpty then 0 else 1) < 30)) = true := by rfl)
    (hline : (apos.endLine == cpos.line) = true := by rfl) (hs : starEach [a] X.env = (false, eval a X.env) :: starEach [] X.env := by rfl) : PD X CT W (.Call (.Attribute o "append" apos) [a] [] cpos) (eMeL hAppend f l) :=
  pd_meL PySem.F.slot_list_append PySem.F.type_list_append mt_append me_append ho ha hbase hfew hline hs rfl
theorem pd_pop (ho : PD X CT W o f) (hbase : attributeBase o "pop" X.env (eval o X.env) = eval o X.env := by rfl) (hline : (apos.endLine == cpos.line) = true := by rfl) : PD X CT W (.Call (.Attribute o "pop" apos) [] [] cpos) (eMeL hPop f aNil) :=
  pd_meL0 PySem.F.slot_list_pop PySem.F.type_list_pop mt_pop me_pop ho hbase hline
theorem pd_extend (ho : PD X CT W o f) (ha : PDA X CT W [a] l)
    (hbase : attributeBase o "extend" X.env (eval o X.env) = eval o X.env := by rfl)
    (hfew : ((backTo cpos (starEach [a] X.env)).all (fun x => !x.1) && (backToKw cpos (keywordEach [] X.env)).all (fun x => x.1.isSome)
      && decide ([a].length + ([] : List Keyword).length + (if ([] : List Keyword).isEmpty then 0 else 1) < 30)) = true := by rfl)
    (hline : (apos.endLine == cpos.line) = true := by rfl) (hs : starEach [a] X.env = (false, eval a X.env) :: starEach [] X.env := by rfl) : PD X CT W (.Call (.Attribute o "extend" apos) [a] [] cpos) (eMeL hExtend f l) :=
  pd_meL PySem.F.slot_list_extend PySem.F.type_list_extend (MtR.or mt_extend mt_extT) me_extend ho ha hbase hfew hline hs rfl
theorem pd_insert (ho : PD X CT W o f) (ha : PDA X CT W (a :: es) l)
    (hbase : attributeBase o "insert" X.env (eval o X.env) = eval o X.env := by rfl)
    (hfew : ((backTo cpos (starEach (a :: es) X.env)).all (fun x => !x.1) && (backToKw cpos (keywordEach [] X.env)).all (fun x => x.1.isSome)
      && decide ((a :: es).length + ([] : List Keyword).length + (if ([] : List Keyword).isEmpty then 0 else 1) < 30)) = true := by rfl)
    (hline : (apos.endLine == cpos.line) = true := by rfl) (hs : starEach (a :: es) X.env = (false, eval a X.env) :: starEach es X.env := by rfl) (hplain : (backTo cpos (starEach es X.env)).any (·.1) = false := by rfl) : PD X CT W (.Call (.Attribute o "insert" apos) (a :: es) [] cpos) (eMeL hInsert f l) :=
  pd_meL PySem.F.slot_list_insert PySem.F.type_list_insert mt_insert me_insert ho ha hbase hfew hline hs hplain
end
end Dl
/-! The data layer: defs of the text, the end of a law. -/
namespace Dl
open PySem PySem.Spec PyProof.Rows L2

/-- a def of the text as it stands behind the top -/
structure Df (K : PySem.W.Frag) (mg : Str → Option Value) (x : Str) (st : Stmt) (hd : Bool) (f : Addr) (fd : FuncData) : Prop where
  ex : ∃ (oc : Value) (od : Option Addr) (dV kV doc pm : Value) (an : Option Addr) (cdv ct : Value) (osl : Array (Option Value)),
    fd = PySem.W.fnOf x x (defArgs st) (defBody st) (defScope st) dV kV doc pm an cdv ct ∧ K.lookup f = some ⟨oc, od, .func fd, osl⟩ ∧ PySem.W.codeIn K cdv x = true ∧ (hd = false → dV = .none)
  kp : PySem.W.keepIn K (.ref f) = true
  gl : mg x = some (.ref f)
theorem Df.ok {P : Program} {w : World} {K : PySem.W.Frag} {mg : Str → Option Value} {base : Heap} {CT : Nat → Addr} {T : ExT} {k : Nat} {x : Str} {st : Stmt} {hd : Bool} {f : Addr} {fd : FuncData} {N ps : List Str} {b : SV}
    (F : Df K mg x st hd f fd) (S : FnScope N ps (defScope st))
    (body : ∀ (cdv : Value) (A : Around) (fr : List Env) (s : Shared) (H : Hp) (E : XK) (W : XW), Bd (cxOf (L2.CX P w) P w K mg base N x (defScope st) f cdv A fr s H E) CT T W k → PDB (cxOf (L2.CX P w) P w K mg base N x (defScope st) f cdv A fr s H E) CT W (defBody st) b) :
    FnG P w K mg base (k + 1) f fd ps (spG K CT T ps.length (runB N.length b)) := by
  obtain ⟨oc, od, dV, kV, doc, pm, an, cdv, ct, osl, rfl, lk, hcd, hz⟩ := F.ex
  exact fnG_of lk hcd S (fun w s ds Q E _ h => h) fun A fr s H E W B => body cdv A fr s H E W B
/-- the same for a def that leaves nothing behind -/
theorem Df.okL {P : Program} {w : World} {K : PySem.W.Frag} {mg : Str → Option Value} {base : Heap} {CT : Nat → Addr} {T : ExT} {k : Nat} {x : Str} {st : Stmt} {hd : Bool} {f : Addr} {fd : FuncData} {N ps : List Str} {b : SV}
    (F : Df K mg x st hd f fd) (S : FnScope N ps (defScope st))
    (body : ∀ (cdv : Value) (A : Around) (fr : List Env) (s : Shared) (H : Hp) (E : XK) (W : XW), Bd (cxOf (L2.CX P w) P w K mg base N x (defScope st) f cdv A fr s H E) CT T W k → PDB (cxOf (L2.CX P w) P w K mg base N x (defScope st) f cdv A fr s H E) CT W (defBody st) b) :
    FnG P w K mg base (k + 1) f fd ps (spG K CT T ps.length fun ds s => leave s (runB N.length b ds s)) := by
  obtain ⟨oc, od, dV, kV, doc, pm, an, cdv, ct, osl, rfl, lk, hcd, hz⟩ := F.ex
  refine fnG_of lk hcd S (fun w s ds Q E m h => leave_ok m (fun c x s1 w1 s2 w2 l hx m2 q _ cls d hE => ?_) h) fun A fr s H E W B => body cdv A fr s H E W B
  obtain ⟨e1, dd, v, e2, e3, e4⟩ := hE
  have := q m2 cls d ⟨e1, dd, v, e2, by rw [l.H]; exact e3, hx v e4⟩
  rw [l.H] at this
  exact this
/-- how its arguments bind, none left out -/
theorem Df.binds {K : PySem.W.Frag} {mg : Str → Option Value} {x : Str} {st : Stmt} {f : Addr} {fd : FuncData} {ps : List Str} (F : Df K mg x st false f fd)
    (h : ∀ (kV doc pm : Value) (an : Option Addr) (cdv ct : Value) (us : List Value), us.length = ps.length → bindArgs (PySem.W.fnOf x x (defArgs st) (defBody st) (defScope st) .none kV doc pm an cdv ct) ⟨us, []⟩ = pure (ps.zip us)) : Binds K fd ps [] := by
  obtain ⟨oc, od, dV, kV, doc, pm, an, cdv, ct, osl, rfl, lk, hcd, hz⟩ := F.ex
  cases hz rfl
  exact .all (h kV doc pm an cdv ct)

/-! ### the end -/
theorem lawG {P : Program} {w : World} {K : PySem.W.Frag} {mg mb : Str → Option Value} {k : Nat} {fa a : Addr} {fd : FuncData} {x : Str} {sp : Sp} {s1 : Shared} {vs : List Value} {ns : List Int}
    (inK : K.In s1.heap) (gm : s1.heap.Ns mainGlobals mg) (bm : s1.heap.Ns builtinsNs mb) (bb : ∀ x : Str, x ≠ "__name__" → mb x = bootBuiltins x) (lim : s1.heap.NoLimit) (gens : s1.gens = #[])
    (oa : s1.heap.get? a = some { cls := .type "list", data := .seq vs.toArray }) (ia : IntsAre vs ns) (la : ns.length ≤ sizeLine) (room : RoomG k callerA)
    (F : ∀ base : Heap, K.In base → base.Ns mainGlobals mg → FnG P w K mg base k fa fd [x] sp) (bind : ∀ (s : Shared) (u : Value), BindsTo s fd ⟨[u], []⟩ [(x, u)])
    (want : ∀ H : Hp, SqR K H a (ns.map V.int) → sp [.ref a] H (fun v _ => v = .bl true) fun _ _ _ => False) :
    codeAny (model P w) callerA (.call (.ref fa) ⟨[.ref a], []⟩) (fun r s' => r = .ok (.ret (.bool true)) ∧ OldK s1.heap s'.heap ∧ s'.os = s1.os ∧ AllBare s'.gens) s1 := by
  have rv : Vals (ns.map V.int) vs := vals_ints ia
  have lv : ns.length = vs.length := ia.length.symm
  -- the abstract heap: the script alone, where the written part does not hold it
  have key : ∀ H : Hp, SqR K H a (ns.map V.int) → (∀ b, H b = none ∨ ∃ o ys, H b = some (.frz o (.lst ys))) → (∀ b, H b ≠ none → b = a ∧ K.lookup a = none) → HOk P w H s1.heap →
      codeAny (model P w) callerA (.call (.ref fa) ⟨[.ref a], []⟩) (fun r s' => r = .ok (.ret (.bool true)) ∧ OldK s1.heap s'.heap ∧ s'.os = s1.os ∧ AllBare s'.gens) s1 := by
    intro H hS only mine hok
    have free : ∀ {b : Addr} {o : Obj}, K.lookup b = some o → H b = none := fun {b o} e => by
      cases q : H b with
      | none => rfl
      | some u =>
        obtain ⟨rfl, z⟩ := mine b (by rw [q]; exact fun z => nomatch z)
        rw [z] at e
        cases e
    have dicts : ∀ {b : Addr} {m : Str → Option Value}, s1.heap.Ns b m → (hidT s1.heap H).Ns b m := fun {b m} ⟨o, es, ep, e, d, r⟩ => by
      have hb : H b = none := by
        cases q : H b with
        | none => rfl
        | some u =>
          obtain ⟨rfl, _⟩ := mine b (by rw [q]; exact fun z => nomatch z)
          rw [oa] at e
          cases e
          cases d
      exact ⟨o, es, ep, hidT_get e hb, d, r⟩
    have hidden : K.In (hidT s1.heap H) := fun b o e => hidT_get (inK b o e) (free e)
    have md : Mod K mg (hidT s1.heap H) := ⟨hidden, dicts gm, ⟨mb, dicts bm, bb⟩, by
      obtain ⟨mc, h1, h2⟩ := lim
      exact ⟨mc, dicts h1, h2⟩⟩
    have env : Env0 P w K mg (hidT s1.heap H) callerA [] s1 H := ⟨rfl, md, fun b o e => of_hidT e, Nat.le_of_eq (hidT_size _ _), trivial, fun b hb => (List.not_mem_nil hb).elim, hok, .of_eq gens⟩
    have go := (F _ hidden (dicts gm)).run callerA [] s1 H ⟨[.ref a], []⟩ [.ref a] [.ref a] _ _ room env (bind s1 (.ref a)) (.cons rfl .nil) (want H hS)
    refine codeAny_mono go fun r s' h => ?_
    rcases r with e | (_ | _ | _ | u)
    · obtain ⟨_, _, _, _, _, _, _, _, _, _, _, _, z⟩ := h
      exact z.elim
    all_goals first | exact False.elim h | skip
    obtain ⟨v, H', os, bare, un, hok', r', q⟩ := h
    have q : v = .bl true := q
    subst q
    cases (show u = Value.bool true from r')
    refine ⟨rfl, OldK.of_keep fun b o e => ?_, os, bare⟩
    rcases only b with z | ⟨ob, ys, z⟩
    · exact un.keep b o e z (fun hm => (List.not_mem_nil hm).elim) (fun hm => (List.not_mem_nil hm).elim)
    · have z2 := un.frzs b ob _ z
      obtain ⟨e1, _⟩ := hok b _ z
      obtain ⟨e2, _⟩ := hok' b _ z2
      rw [e] at e1
      cases e1
      exact e2
  cases hk : K.lookup a with
  | some o =>
    have e := inK a o hk
    rw [oa] at e
    cases e
    exact key (fun _ => none) (.inr ⟨_, vs.toArray, _, hk, rfl, rfl, rfl, by rw [List.size_toArray, ← lv]; exact la, by simpa using rv⟩) (fun _ => .inl rfl) (fun b h => absurd rfl h) (fun b u z => by
      have z' : (none : Option HO) = some u := z
      cases z')
  | none =>
    refine key (upd (fun _ => none) a (.frz { cls := .type "list", data := .seq vs.toArray } (.lst (ns.map V.int)))) (.inl ⟨_, upd_same⟩) (fun b => ?_) (fun b h => ?_) (fun b u z => ?_)
    · by_cases hb : b = a
      · subst hb
        exact .inr ⟨_, _, upd_same⟩
      · exact .inl (by rw [upd_ne hb])
    · by_cases hb : b = a
      · exact ⟨hb, hk⟩
      · rw [upd_ne hb] at h
        exact absurd rfl h
    · by_cases hb : b = a
      · subst hb
        rw [upd_same] at z
        cases z
        exact ⟨oa, by rw [List.length_map]; exact la, vs, _, rv, oa⟩
      · rw [upd_ne hb] at z
        cases z
theorem walkG {l : PySem.W.OpenLaw} {n k : Nat} {q : Program} {loose : List Str} {XP : (Str → Option Value) → Heap → Prop} {YP : World → Heap → Prop} {d : DefRec} {K : Params → PySem.W.Frag} {sp : World → Sp} {x : Str}
    (hn : l.most = some n) (hn2 : n ≤ sizeLine) (hdf : d.params.defaults = []) (room : RoomG k callerA) (hY : ∀ (w : World) (h : Heap), YP w h → (K w.params).In h)
    (F : ∀ (w : World) (mg : Str → Option Value) (fa : Addr) (h : Heap), (K w.params).In h → h.Ns mainGlobals mg → mg d.name = some (.ref fa) →
      ∃ fd : FuncData, (∀ (s : Shared) (u : Value), BindsTo s fd ⟨[u], []⟩ [(x, u)]) ∧ ∀ base : Heap, (K w.params).In base → base.Ns mainGlobals mg → FnG l.prog w (K w.params) mg base k fa fd [x] (sp w))
    (want : ∀ (w : World) (H : Hp) (a : Addr) (ns : List Int), ns.length ≤ n → SqR (K w.params) H a (ns.map V.int) → sp w [.ref a] H (fun v _ => v = .bl true) fun _ _ _ => False) :
    PySem.W.WalkO q loose XP YP l.row.toRowW d [] (fun f vs => PySem.call f vs) := by
  refine Att.attach_call hn hdf fun w s0 s1 mg mb fa o pm cd doc a vs ns G Y ho hd hcd gl oa ia la gens => ?_
  have inK := hY w _ Y
  obtain ⟨fd, hb, hF⟩ := F w mg fa _ inK G.T.g gl
  exact lawG inK G.T.g G.T.b G.T.builtins G.T.nolimit gens oa ia (Nat.le_trans la hn2) room hF hb fun H hS => want w H a ns la hS
/-- the law's promise, by its function on data -/
theorem law_want {K : PySem.W.Frag} {CT : Nat → Addr} {T : ExT} {f : List D → Sto → R D} {H : Hp} {a : Addr} {ns : List Int} (hS : SqR K H a (ns.map V.int)) (h : ∃ s, f [.ro (ns.map PyData.int)] [] = .ok (.p (.bool true)) s) :
    spG K CT T 1 f [.ref a] H (fun v _ => v = .bl true) fun _ _ _ => False := by
  obtain ⟨s, h⟩ := h
  refine ⟨⟨[], fun _ => False, fun _ => False, H⟩, [], [.ro (ns.map PyData.int)], rfl, ⟨rfl, List.nodup_nil, fun a ha => (List.not_mem_nil ha).elim, fun _ h => h.elim, fun _ h => h.elim, fun _ h => h.elim, fun k o hk => by simp at hk⟩, ⟨_, [], rfl, ⟨a, _, rfl, hS, ?_⟩, rfl⟩, rfl, ?_⟩
  · clear h hS
    induction ns with
    | nil => rfl
    | cons n ns ih => exact ⟨.int n, _, rfl, rfl, ih⟩
  · rw [h]
    exact fun w' _ _ v rv => rv
end Dl
/-! The data layer: short words for the printer. -/
namespace Dl
open PySem PySem.Spec PyProof.Rows L2
section
variable {X : Cx} {CT : Nat → Addr} {T : ExT} {W : XW} {k : Nat} {pos : Pos} {a b c : Expr} {f g h : EV}
theorem pt_eq (B : Bd X CT T W k) (ha : PD X CT W a f) (hb : PD X CT W b g) : PDT X CT W (.Compare a [.Eq] [b] pos) (tB (eOp hEq f g)) := pt_b (op_eq.or (op_eqD (by have := B.hu; omega))) opd_eq ha hb
theorem pt_ne (B : Bd X CT T W k) (ha : PD X CT W a f) (hb : PD X CT W b g) : PDT X CT W (.Compare a [.NotEq] [b] pos) (tB (eOp hNe f g)) := pt_b (op_ne.or (op_neD (by have := B.hu; omega))) opd_ne ha hb
theorem pt_lt (ha : PD X CT W a f) (hb : PD X CT W b g) : PDT X CT W (.Compare a [.Lt] [b] pos) (tB (eOp hLt f g)) := pt_b op_lt (opd_intB _) ha hb
theorem pt_le (ha : PD X CT W a f) (hb : PD X CT W b g) : PDT X CT W (.Compare a [.LtE] [b] pos) (tB (eOp hLe f g)) := pt_b op_le (opd_intB _) ha hb
theorem pt_gt (ha : PD X CT W a f) (hb : PD X CT W b g) : PDT X CT W (.Compare a [.Gt] [b] pos) (tB (eOp hGt f g)) := pt_b op_gt (opd_intB _) ha hb
theorem pt_ge (ha : PD X CT W a f) (hb : PD X CT W b g) : PDT X CT W (.Compare a [.GtE] [b] pos) (tB (eOp hGe f g)) := pt_b op_ge (opd_intB _) ha hb
theorem pt_in (B : Bd X CT T W k) (ha : PD X CT W a f) (hb : PD X CT W b g) (hm : behindInMarks .In b = false := by rfl) : PDT X CT W (.Compare a [.In] [b] pos) (tB (eOp hIn f g)) := pt_b (op_in_str.or (op_in_seq.or (op_inD B.hu))) opd_in ha hb hm
theorem pt_notIn (B : Bd X CT T W k) (ha : PD X CT W a f) (hb : PD X CT W b g) (hm : behindInMarks .NotIn b = false := by rfl) : PDT X CT W (.Compare a [.NotIn] [b] pos) (tB (eOp hNotIn f g)) := pt_b (op_notin_str.or (op_notIn_seq.or (op_notInD B.hu))) opd_notIn ha hb hm
theorem pt_is (ha : PD X CT W a f) (hb : PD X CT W b g) : PDT X CT W (.Compare a [.Is] [b] pos) (tB (eOp hIs f g)) := pt_b (op_isN.or op_isBl) opd_is ha hb
theorem pt_isNot (ha : PD X CT W a f) (hb : PD X CT W b g) : PDT X CT W (.Compare a [.IsNot] [b] pos) (tB (eOp hIsNot f g)) := pt_b (op_notN.or op_notBl) opd_isNot ha hb
theorem pt_leLt (ha : PD X CT W a f) (hb : PD X CT W b g) (hc : PD X CT W c h) (hm : lastMarks [.LtE, .Lt] [b, c] = false := by with_unfolding_all rfl) : PDT X CT W (.Compare a [.LtE, .Lt] [b, c] pos) (tB (eChain hLe hLt f g h)) := pt_chainD op_le op_lt (opd_intB _) (opd_intB _) ha hb hc hm
theorem pt_leLe (ha : PD X CT W a f) (hb : PD X CT W b g) (hc : PD X CT W c h) (hm : lastMarks [.LtE, .LtE] [b, c] = false := by with_unfolding_all rfl) : PDT X CT W (.Compare a [.LtE, .LtE] [b, c] pos) (tB (eChain hLe hLe f g h)) := pt_chainD op_le op_le (opd_intB _) (opd_intB _) ha hb hc hm
theorem pt_w {e : Expr} {p : TV} (h : PDW X CT W e p) : PDT X CT W e p := h.pt

/-- a, b = x, y (plain local names, stored from the right) -/
def sPar (i j : Nat) (l : AV) : SV := fun e s => (l e s).toS e fun ds s => match ds with
  | [x, y] => .nx ((e.set i (some x)).set j (some y)) s
  | _ => .bad
theorem ps_parD (i j : Nat) {x y : Str} {l : AV} {px py pt : Pos} {kt k2 pt2} (B : Bd X CT T W k) (ha : PDA X CT W [a, b] l) (hij : i ≠ j := by decide) (hi : X.N[i]? = some x := by rfl) (hj : X.N[j]? = some y := by rfl)
    (hx : X.env.scope.names.lookup x = some .local := by rfl) (hy : X.env.scope.names.lookup y = some .local := by rfl)
    (hw : swappedStores [.Tuple [.Name x px, .Name y py] kt pt] (.Tuple [a, b] k2 pt2) X.env = pure (some [x, y]) := by rfl)
    (hs : swapsWithSole [.Tuple [.Name x px, .Name y py] kt pt] (.Tuple [a, b] k2 pt2) pos.line X.env = pure false := by rfl) :
    PDS X CT W (.Assign [.Tuple [.Name x px, .Name y py] kt pt] (.Tuple [a, b] k2 pt2) pos) (sPar i j l) := by
  refine (ps_par B.calm B.nd hi hj hij hx hy ha hw hs).imp fun D σ H q => ?_
  obtain ⟨w, s, e, rfl, m, re, ok⟩ := q
  refine ⟨w, s, e, rfl, m, re, (OkS.toS re ok).imp fun ds s1 w1 e1 m1 ⟨_, _, ok1⟩ vs rvs => ?_⟩
  split at ok1
  · obtain ⟨v, u, rfl, h1, h2⟩ := rvs.two
    exact ⟨v, u, rfl, ok1 w1 _ Ext.refl m1 (((re.ext e1).set i h1).set j h2)⟩
  · exact ok1.elim
/-- op= of ints, of texts -/
def hIAdd : D → D → Sto → R D
  | .p (.int i), .p (.int j), s => .ok (.p (.int (i + j))) s
  | .p (.str x), .p (.str y), s => if x.length + y.length ≤ sizeLine then .ok (.p (.str (x ++ y))) s else .bad
  | _, _, _ => .bad
theorem opd_iadd {K : PySem.W.Frag} : OpD K CT (fun x y H Q => rI0 (fun i j => .int (i + j)) x y H Q ∨ rStrAdd x y H Q) hIAdd := by
  intro W w s x y vx vy Q m rx ry ok
  unfold hIAdd at ok
  split at ok
  · exact .inl ⟨_, _, rx, ry, now m ok rfl⟩
  · split at ok
    · rename_i hz
      exact .inr ⟨_, _, rx, ry, hz, now m ok rfl⟩
    · exact ok.elim
  · exact ok.elim
theorem op_iaddD : OpR X (inplaceOp .Add) (fun x y H Q => rI0 (fun i j => .int (i + j)) x y H Q ∨ rStrAdd x y H Q) := iop_add.or iop_add_str
theorem op_isubD : OpR X (inplaceOp .Sub) (rI0 fun i j => .int (i - j)) := iop_sub
theorem opd_isub {K : PySem.W.Frag} : OpD K CT (rI0 fun i j => .int (i - j)) hSub := opd_int0 _
theorem pi_range3' {tg : Expr} {p : Pos} {f g h : EV} (hg : Gl X "range") (hm : X.mg "range" = none) (ha : PD X CT W a f) (hb : PD X CT W b g) (hc : PD X CT W c h) (hs : starEach [a, b, c] X.env = (false, eval a X.env) :: starEach [b, c] X.env := by rfl) (hs2 : starEach [b, c] X.env = (false, eval b X.env) :: starEach [c] X.env := by rfl) (hs3 : starEach [c] X.env = (false, eval c X.env) :: starEach [] X.env := by rfl) (hpl : (backTo pos (starEach [b, c] X.env)).any (·.1) = false := by rfl) :
    PDI X CT W tg (.Call (.Name "range" p) [a, b, c] [] pos) (iRange3 f g h) := pi_range3D hg hm ha hb hc (fun t ht => pi_range3 hg hm ht hs hpl) hs hs2 hs3
end
end Dl
/-! The data layer: repr. -/
namespace Dl
open PySem PySem.Spec PyProof.Rows L2
def isSq : PyData → Bool
  | .list _ => true
  | .tuple _ => true
  | _ => false
def reprOk (x : PyData) : Bool := isSq x && (x.canLay0 && (x.showable && (decide (x.depth ≤ 60) && decide (x.shown.length ≤ sizeLine))))
def hRepr : List D → Sto → R D
  | [d], s => match toP s d with
    | some x => if reprOk x then .ok (.p (.str x.shown)) s else .bad
    | none => .bad
  | _, _ => .bad
def rReprD (K : PySem.W.Frag) : List V → Hp → VK → Prop := fun xs H Q => ∃ v x, xs = [v] ∧ Dp K H v x ∧ reprOk x = true ∧ Q (.str x.shown) H
section
variable {X : Cx} {CT : Nat → Addr} {T : ExT} {W : XW} {k : Nat} {p pos : Pos} {a : Expr} {l : AV}
theorem call_reprD (hg : X.A.guards = some []) (hu : X.A.units + 65 < cLine) : CallR X (.builtin "repr") (rReprD X.K) := by
  intro pins s σ H xs us Q I r h
  obtain ⟨v, x, rfl, dp, ok, q⟩ := h
  obtain ⟨u, rfl, rel⟩ := vals1 r
  unfold reprOk at ok
  simp only [Bool.and_eq_true, decide_eq_true_eq] at ok
  obtain ⟨o1, o2, o3, o4, o5⟩ := ok
  obtain ⟨as, rd⟩ := Dp.reads I x v u dp rel
  have hu2 : ∃ b, u = .ref b := by
    cases rd <;> first | exact ⟨_, rfl⟩ | cases o1
  obtain ⟨b, rfl⟩ := hu2
  exact repr_of_reads' rd o3 (PyData.noDict_hsm (PyData.hasDict_of_canLay x o2)) hg (by omega) (fun _ _ h => h) (fun h' u tk hk => ⟨.str _, H, I.kept hk, ⟨_, rfl⟩, q⟩) o5
theorem ca_repr {K : PySem.W.Frag} : CaD K CT (rReprD K) hRepr := by
  intro W w s xs vs Q m r ok
  unfold hRepr at ok
  split at ok
  · split at ok
    · rename_i d x hx
      split at ok
      · rename_i hk
        obtain ⟨v, rfl, h⟩ := r.one
        have hc : x.canLay0 = true := by
          unfold reprOk at hk
          simp only [Bool.and_eq_true] at hk
          exact hk.2.1
        exact ⟨v, x, rfl, toP_dp m h hx hc, hk, now m ok rfl⟩
      · exact ok.elim
    · exact ok.elim
  · exact ok.elim
theorem pd_repr (B : Bd X CT T W k) (hg : Gl X "repr") (hm : X.mg "repr" = none) (ha : PDA X CT W [a] l) (hv : bootBuiltins "repr" = some (.builtin "repr") := by decide +kernel) (he : starEach [a] X.env = (false, eval a X.env) :: starEach [] X.env := by rfl) : PD X CT W (.Call (.Name "repr" p) [a] [] pos) (eBlt hRepr l) :=
  pd_blt (call_reprD B.room.gd B.hu) ca_repr hg hm hv ha (by decide) (by decide) he rfl
end
end Dl
/-! The data layer: t[::-1], the empty dict. -/
namespace Dl
open PySem PySem.Spec PyProof.Rows L2
theorem adjust_rev (n : Nat) : Builtin.Slice.sliceAdjust none none (-1) (n : Int) = ((n : Int) - 1, -1) := by
  unfold Builtin.Slice.sliceAdjust
  have h1 : ((-1 : Int) < 0) := by omega
  simp only [h1, if_true]
theorem places_rev (n : Nat) : Builtin.Slice.slicePlaces ((n : Int) - 1) (-1) (-1) = n := by
  unfold Builtin.Slice.slicePlaces
  have h1 : ¬ ((-1 : Int) > 0) := by omega
  simp only [h1, if_false]
  by_cases h : n = 0
  · subst h
    rfl
  · rw [if_pos (by omega)]
    have : (((n : Int) - 1 - -1 - 1) / (- -1) + 1) = n := by
      rw [show (- -1 : Int) = 1 by omega, Int.ediv_one]
      omega
    rw [this, Int.toNat_natCast]
theorem fm_congr {α β : Type} {f g : α → Option β} : ∀ {l : List α}, (∀ x ∈ l, f x = g x) → l.filterMap f = l.filterMap g
  | [], _ => rfl
  | x :: l, h => by rw [List.filterMap_cons, List.filterMap_cons, h x List.mem_cons_self, fm_congr fun y hy => h y (List.mem_cons_of_mem _ hy)]
theorem pick_rev (xs : Array Value) : ((List.range xs.size).filterMap fun (m : Nat) => xs[(((xs.size : Nat) : Int) - 1 + (m : Int) * (-1)).toNat]?).toArray = xs.toList.reverse.toArray := by
  congr 1
  have e : (List.range xs.size).filterMap (fun (m : Nat) => xs[(((xs.size : Nat) : Int) - 1 + (m : Int) * (-1)).toNat]?) = (List.range xs.size).filterMap fun m => xs.toList.reverse[m]? := by
    apply fm_congr
    intro m hm
    have hm : m < xs.size := List.mem_range.mp hm
    have e1 : (((xs.size : Nat) : Int) - 1 + (m : Int) * (-1)).toNat = xs.size - 1 - m := by omega
    rw [e1, List.getElem?_reverse (by simpa using hm)]
    simp
  rw [e]
  have : xs.size = xs.toList.reverse.length := by simp
  rw [this]
  generalize xs.toList.reverse = l
  clear e this
  induction l with
  | nil => rfl
  | cons a l ih =>
    rw [List.length_cons, List.range_succ_eq_map, List.filterMap_cons, List.filterMap_map]
    simp only [List.getElem?_cons_zero]
    congr 1
section
variable {prog : Program} {w : World} {A : Around} {E : Value → Shared → Prop} {s : Shared}
theorem sliceApplied_rev {sl : Addr} {u : Tok} {n : Nat} {Q : Int × Int × Nat → Shared → Prop} (hs : s.heap.IsSliceOf sl .none .none (.int (-1) u))
    (h : Q ((n : Int) - 1, -1, n) s) : wpAny (model prog w) A (Builtin.Slice.sliceApplied (.ref sl) (pure (n : Int))) Q E s := by
  obtain ⟨os, hos, hcs, hds⟩ := id hs
  unfold Builtin.Slice.sliceApplied Builtin.Slice.sliceFields
  refine wpAny_bind (wpAny_bind (wpAny_field hos hds (x := .none) rfl (wpAny_bind (wpAny_field hos hds (x := .none) rfl (wpAny_bind (wpAny_field hos hds (x := .int (-1) u) rfl (wpAny_pure ?_)))))))
  refine wpAny_bind (HT.slicePart_ (.int (-1) u) ?_)
  show wpAny _ _ (if ((-1 : Int) == 0) = true then _ else _) _ _ s
  rw [if_neg (by decide)]
  refine wpAny_bind (HT.slicePart_ .none (wpAny_bind (HT.slicePart_ .none (wpAny_bind (wpAny_pure ?_)))))
  show wpAny _ _ (match Builtin.Slice.sliceAdjust none none (-1) (n : Int) with | (lo, hi) => pure (lo, (-1 : Int), Builtin.Slice.slicePlaces lo hi (-1))) _ _ s
  rw [adjust_rev n]
  show wpAny _ _ (pure ((n : Int) - 1, (-1 : Int), Builtin.Slice.slicePlaces ((n : Int) - 1) (-1) (-1))) _ _ s
  rw [places_rev]
  exact wpAny_pure h
theorem getItem_tuple_rev {t sl : Addr} {items : Array Value} {u : Tok} {Q : Value → Shared → Prop} (ht : IsTup s.heap t items) (hs : s.heap.IsSliceOf sl .none .none (.int (-1) u))
    (h : Q (.ref s.heap.objs.size) { s with heap := s.heap.push { cls := .type "tuple", data := .seq items.toList.reverse.toArray } })
    (hsz : items.size ≤ sizeLine) : wpAny (model prog w) A (getItem (.ref t) (.ref sl)) Q E s := by
  have htake : sizeOk (.seq items.toList.reverse.toArray) := by
    show items.toList.reverse.toArray.size ≤ sizeLine
    rw [List.size_toArray, List.length_reverse, Array.length_toList]
    exact hsz
  obtain ⟨os, hos, hcs, hds⟩ := id hs
  have hTs : s.TypeIs (.ref sl) "slice" := ⟨os, hos, hcs⟩
  unfold getItem
  try with_reducible refine wpAny_holding ?_
  first | refine wpAny_bind (wpAny_pure ?_) | skip
  refine wpAny_bind (wpAny_sequenceKey ht.typeIs (by decide) ?_)
  refine wpAny_bind (wpAny_callSpecial?_slot (name := Str.ofString "__getitem__") ht.typeIs PyProof.Rows.slot_tuple_getitem
    (wpAny_call_entry PyProof.Rows.slot_tuple_getitem ht.typeIs entry_tuple_getitem ?_ (args_tuple_getitem _ _)))
  show wpAny _ _ (Builtin.Tuple.tupleItemsOf (.ref t) >>= _) _ _ s
  refine wpAny_bind (tupleItemsOf_ ht ?_)
  refine wpAny_bind (wpAny_typeOf hTs ?_)
  rw [if_pos (by decide)]
  refine wpAny_bind (sliceApplied_rev hs ?_)
  have hno : ¬ ((((items.size : Int) - 1) == 0 && (-1 : Int) == 1 && items.size == items.size) = true) := by
    intro q
    rw [Bool.and_eq_true, Bool.and_eq_true] at q
    exact absurd q.1.2 (by decide)
  show wpAny _ _ (if (((items.size : Int) - 1) == 0 && (-1 : Int) == 1 && items.size == items.size) = true then _ else _) _ _ s
  rw [if_neg hno, pick_rev]
  first
    | exact wpAny_bind (m := Builtin.Tuple.tupleExact _) (wpAny_newObj_type (wpAny_pure ⟨_, rfl, wpAny_pure h⟩) htake)
    | exact wpAny_bind (m := Builtin.Tuple.tupleExact _) (wpAny_newObj_type (wpAny_bind (wpAny_pure (wpAny_pure ⟨_, rfl, wpAny_pure h⟩))) htake)
    | exact wpAny_bind (wpAny_bind (m := Builtin.Tuple.tupleExact _) (wpAny_newObj_type (wpAny_pure (wpAny_pure ⟨_, rfl, wpAny_pure h⟩)) htake))
    | exact wpAny_bind (wpAny_bind (m := Builtin.Tuple.tupleExact _) (wpAny_newObj_type (wpAny_pure ⟨_, rfl, wpAny_pure h⟩) htake))
end
section
variable {X : Cx}
def tRevT (K : PySem.W.Frag) (te : TE) : TE := fun σ H Q => te σ H fun x H1 => ∃ a xs, x = .ref a ∧ SqT K H1 a xs ∧ ∀ p, H1 p = none → Q (.ref p) (upd H1 p (.tup xs.reverse))
theorem pe_revT {e : Expr} {te : TE} {k : Nat} {p1 p2 p3 pos : Pos} (he : PE X e te) : PE X (.Subscript e (.Slice none none (some (.UnaryOp .USub (.Constant (.int 1) k p1) p2)) p3) pos) (tRevT X.K te) := by
  refine ⟨fun pins s σ H Q I h => ?_⟩
  refine Subscript_ (thn (he.run pins s σ H _ I h) fun v s1 ⟨x, H1, I1, r1, q1⟩ => ?_)
  obtain ⟨a, xs, ex, hx, q⟩ := q1
  subst ex
  cases r1
  have hst : PO X (some (.UnaryOp .USub (.Constant (.int 1) k p1) p2)) (tPart (tUn (rU fun i => .int (-i)) (tC (.int 1)))) := po_some (pe_un un_neg pe_int)
  refine wpAny_Slice (thn (po_none.run pins s1 σ H1 (fun o H2 => o = none ∧ H2 = H1) I1 ⟨rfl, rfl⟩) fun vl s2 ⟨l, H2, I2, pl, el, e2⟩ => ?_)
  subst el e2
  refine thn (po_none.run pins s2 σ H2 (fun o H3 => o = none ∧ H3 = H2) I2 ⟨rfl, rfl⟩) fun vu s3 ⟨u, H3, I3, pu, eu, e3⟩ => ?_
  subst eu e3
  refine thn (hst.run pins s3 σ H3 (fun o H4 => o = some (-1) ∧ H4 = H3) I3 ⟨1, rfl, -1, rfl, rfl, rfl⟩) fun vs s4 ⟨o, H4, I4, ps, eo, e4⟩ => ?_
  subst eo e4
  cases pl
  cases pu
  obtain ⟨tk, rfl⟩ : ∃ tk, vs = .int (-1) tk := by
    cases ps
    exact ⟨_, rfl⟩
  have I5 : L2.Inv X pins σ H4 { s4 with heap := s4.heap.push { cls := .type "slice", data := .fields #[.none, .none, .int (-1) tk] } } := I4.kept (t' := s4.toks) fun b ob q => Heap.get?_push_of_some _ q
  obtain ⟨its, r, ht, hz⟩ := I5.tuple hx
  have hlen := r.length
  show wpAny (model X.prog X.w) X.A (subscriptTail e (.Slice none none (some (.UnaryOp .USub (.Constant (.int 1) k p1) p2)) p3) (.ref a) (.ref s4.heap.objs.size)) (EP X pins σ Q) X.xe { s4 with heap := s4.heap.push { cls := .type "slice", data := .fields #[.none, .none, .int (-1) tk] } }
  refine tail_any (ops := [.ref a, .ref s4.heap.objs.size]) ht.typeIs (PyProof.Rows.slot_tuple_getitem.lookup) ?_ (by with_unfolding_all rfl)
  refine getItem_tuple_rev ht (Heap.IsSliceOf.new _ _ _ _) ?_ (by rw [List.size_toArray]; omega)
  refine ⟨.ref _, _, I5.laid (t' := s4.toks) (o := .tup xs.reverse) (fun b ob q => Heap.get?_push_of_some _ q) (Nat.le_refl _) ?_, rfl, q _ (I5.hok.fresh (Nat.le_refl _))⟩
  exact ⟨by rw [List.length_reverse]; exact hz, _, r.reverse, IsTup.new _ _⟩
end
def hRev (x : D) (s : Sto) : R D := match asT x with
  | some xs => .ok (mkT xs.reverse) s
  | none => .bad
def eRev (f : EV) : EV := fun e s => (f e s).bind fun x s => hRev x s
theorem RDs.reverse {K : PySem.W.Frag} {w : Wd} : ∀ {xs : List D} {vs : List V}, RDs K w xs vs → RDs K w xs.reverse vs.reverse
  | [], _, h => by
    have h : _ = [] := h
    rw [h]
    rfl
  | x :: xs, _, h => by
    obtain ⟨v, r, rfl, h1, h2⟩ := h
    rw [List.reverse_cons, List.reverse_cons]
    exact (RDs.reverse h2).append ⟨v, [], rfl, h1, rfl⟩
/-- an object that stays is made -/
abbrev Wd.addG (w : Wd) (p : Addr) (o : HO) : Wd := { w with H := upd w.H p o, fz := fun a => w.fz a ∨ a = p }
section
variable {K : PySem.W.Frag} {CT : Nat → Addr} {w : Wd} {s : Sto}
theorem Sim.extG (m : Sim K CT w s) {p : Addr} {o : HO} (hp : w.H p = none) : Ext K w (w.addG p o) := Ext.fresh hp ⟨[], by simp⟩ (fun _ h => .inl h) (fun _ h => h) m.fz m.pr
theorem Sim.newG (m : Sim K CT w s) {p : Addr} {o : HO} (hp : w.H p = none) : Sim K CT (w.addG p o) s where
  len := m.len
  nd := m.nd
  dj := fun a ha => ⟨fun h => by
    rcases h with h | h
    · exact (m.dj a ha).1 h
    · subst h
      exact m.free hp ha, (m.dj a ha).2⟩
  fz := fun a h => by
    rcases h with h | h
    · obtain ⟨us, hv⟩ := m.fz a h
      exact ⟨us, by show upd w.H p _ a = _; rw [upd_ne (ne_of_none hv hp)]; exact hv⟩
    · subst h
      exact ⟨_, upd_same⟩
  fp := fun a h => by
    rcases h with h | h
    · exact m.fp a h
    · subst h
      exact m.freeP hp
  pr := fun a h => by
    obtain ⟨us, hv⟩ := m.pr a h
    exact ⟨us, by show upd w.H p _ a = _; rw [upd_ne (ne_of_none hv hp)]; exact hv⟩
  ob := fun k ob h => by
    obtain ⟨a, h1, h2⟩ := m.ob k ob h
    obtain ⟨u, hu⟩ := h2.some
    exact ⟨a, h1, h2.ext (m.extG hp).toExt0 (by show upd w.H p _ a = _; rw [upd_ne (ne_of_none hu hp)])⟩
end
section
variable {X : Cx} {CT : Nat → Addr} {W : XW} {pos : Pos} {a : Expr} {f : EV}
theorem pd_rev {k : Nat} {p1 p2 p3 : Pos} (ha : PD X CT W a f) : PD X CT W (.Subscript a (.Slice none none (some (.UnaryOp .USub (.Constant (.int 1) k p1) p2)) p3) pos) (eRev f) := by
  refine (pe_revT ha).imp fun σ H Q q => ?_
  obtain ⟨w, s, e, rfl, m, re, ok⟩ := q
  refine ⟨w, s, e, rfl, m, re, (Ok.bind ok).imp fun x s1 w1 e1 m1 ⟨_, _, ok1⟩ vx rx => ?_⟩
  unfold hRev at ok1
  split at ok1
  · rename_i xs hx
    obtain ⟨a, vs, rfl, h1, h2⟩ := asT_rep rx hx
    exact ⟨a, vs, rfl, h1, fun p hp => newT_ok m1 hp h2.reverse ok1⟩
  · exact ok1.elim
theorem pd_dict0 : PD X CT W (.Dict [] [] pos) (eC (.dict [])) := by
  refine pe_dnewK.imp fun σ H Q q => ?_
  obtain ⟨w, s, e, rfl, m, re, ok⟩ := q
  intro p hp
  exact ok.get (m.extG (o := .dK []) hp) (m.newG hp) (.ref p) ⟨rfl, p, rfl, upd_same, .inr rfl⟩
/-! tuple(range(n)), list(range(n)) -/
theorem RDs.map_int {K : PySem.W.Frag} {w : Wd} (g : Nat → Int) : ∀ l : List Nat, RDs K w (l.map fun i => D.p (.int (g i))) (l.map fun i => V.int (g i))
  | [] => rfl
  | i :: l => ⟨_, _, rfl, rfl, RDs.map_int g l⟩
theorem rds_rg {K : PySem.W.Frag} {w : Wd} (n : Int) : RDs K w (rngD 0 n.toNat) (rgV 0 n) := by
  unfold rgV rngD
  rw [Int.sub_zero]
  exact RDs.map_int (fun i => 0 + (i : Int)) _
def hRgT (d : D) (s : Sto) : R D := match d with
  | .p (.int n) => if 0 ≤ n ∧ n ≤ 100000 then .ok (mkT (rngD 0 n.toNat)) s else .bad
  | _ => .bad
def hRgL (h : Bool) (d : D) (s : Sto) : R D := match d with
  | .p (.int n) => if 0 ≤ n ∧ n ≤ 100000 then newL h (rngD 0 n.toNat) s else .bad
  | _ => .bad
def eRgT (f : EV) : EV := fun e s => (f e s).bind fun d s => hRgT d s
def eRgL (h : Bool) (f : EV) : EV := fun e s => (f e s).bind fun d s => hRgL h d s
theorem pd_tupRg {p1 p2 : Pos} (hc : X.calm = true) (hg : Gl X "tuple") (hm : X.mg "tuple" = none) (hg2 : Gl X "range") (hm2 : X.mg "range" = none) (ha : PD X CT W a f) (na : starEach [a] X.env = (false, eval a X.env) :: starEach [] X.env := by rfl)
    (nb : starEach [.Call (.Name "range" p2) [a] [] pos] X.env = (false, eval (.Call (.Name "range" p2) [a] [] pos) X.env) :: starEach [] X.env := by rfl) {p3 : Pos} : PD X CT W (.Call (.Name "tuple" p1) [.Call (.Name "range" p2) [a] [] pos] [] p3) (eRgT f) := by
  refine (pe_tupRg hc hg hm (prg_1 hg2 hm2 ha na) nb).imp fun σ H Q q => ?_
  obtain ⟨w, s, e, rfl, m, re, ok⟩ := q
  refine ⟨w, s, e, rfl, m, re, (Ok.bind ok).imp fun x s1 w1 e1 m1 ⟨_, _, ok1⟩ vx rx => ?_⟩
  unfold hRgT at ok1
  split at ok1
  · skip
    cases (show vx = .int _ from rx)
    split at ok1
    · rename_i hn
      exact ⟨_, rfl, RgOk.of_le (by omega) (by omega) (by omega) (by omega), fun p hp => newT_ok m1 hp (rds_rg _) ok1⟩
    · exact ok1.elim
  · exact ok1.elim
theorem pd_lstRg (h : Bool) {p1 p2 : Pos} (hc : X.calm = true) (hg : Gl X "list") (hm : X.mg "list" = none) (hg2 : Gl X "range") (hm2 : X.mg "range" = none) (ha : PD X CT W a f) (na : starEach [a] X.env = (false, eval a X.env) :: starEach [] X.env := by rfl)
    (nb : starEach [.Call (.Name "range" p2) [a] [] pos] X.env = (false, eval (.Call (.Name "range" p2) [a] [] pos) X.env) :: starEach [] X.env := by rfl) {p3 : Pos} : PD X CT W (.Call (.Name "list" p1) [.Call (.Name "range" p2) [a] [] pos] [] p3) (eRgL h f) := by
  refine (pe_listRg hc hg hm (prg_1 hg2 hm2 ha na) nb).imp fun σ H Q q => ?_
  obtain ⟨w, s, e, rfl, m, re, ok⟩ := q
  refine ⟨w, s, e, rfl, m, re, (Ok.bind ok).imp fun x s1 w1 e1 m1 ⟨_, _, ok1⟩ vx rx => ?_⟩
  unfold hRgL at ok1
  split at ok1
  · skip
    cases (show vx = .int _ from rx)
    split at ok1
    · rename_i hn
      exact ⟨_, rfl, RgOk.of_le (by omega) (by omega) (by omega) (by omega), fun p hp => newL_ok m1 hp (rds_rg _) ok1⟩
    · exact ok1.elim
  · exact ok1.elim
end
end Dl
/-! The data layer: an own exception whose __init__ says super().__init__(text) and keeps one field. -/
namespace Dl
open PySem PySem.Spec PyProof.Rows L2
/-- what the written part says of such a class -/
structure SupC (P : Program) (K : PySem.W.Frag) (C fI : Addr) (f pn : Str) : Prop where
  oex : OexC K C
  init : PySem.W.findIn K (.ref C) "__init__" = some (some (.ref fI))
  tyI : PySem.W.typeIn K (.ref fI) = some (.type "function")
  fn : ∃ (m : Str) (j : Nat) (p0 p1 p2 p3 p4 p5 p6 p7 p8 p9 : Pos) (params : Arguments) (scope : Scope) (dV kV doc pm ct oc : Value) (an od : Option Addr) (osl : Array (Option Value)) (cda cc : Addr) (ar : Arg) (vs : Array Value) (file : Str) (tf : Tok) (ccl cl : Value) (cdd cld : Option Addr) (ccs csl : Array (Option Value)) (nm qual : Str),
    K.lookup fI = some ⟨oc, od, .func (PySem.W.ksFn nm qual params [.Expr (.Call (.Attribute (.Call (.Name "super" p0) [] [] p1) "__init__" p2) [.Constant (.str m) j p3] [] p4) p5, .Assign [.Attribute (.Name "self" p6) f p7] (.Name pn p8) p9] scope dV kV doc pm an (.ref cda) ct cc), osl⟩ ∧
    PySem.W.codeIn K (.ref cda) qual = true ∧
    (∀ (s : Shared) (e v : Value), BindsTo s (PySem.W.ksFn nm qual params [.Expr (.Call (.Attribute (.Call (.Name "super" p0) [] [] p1) "__init__" p2) [.Constant (.str m) j p3] [] p4) p5, .Assign [.Attribute (.Name "self" p6) f p7] (.Name pn p8) p9] scope dV kV doc pm an (.ref cda) ct cc) ⟨[e, v], []⟩ [("self", e), (pn, v)]) ∧
    (params.posonlyargs ++ params.args).head? = some ar ∧ ar.arg = "self" ∧
    K.lookup cda = some ⟨ccl, cdd, .fields vs, ccs⟩ ∧ vs[2]? = some (.str file tf) ∧ ((P.main.file : Str) == file) = true ∧
    K.lookup cc = some ⟨cl, cld, .cell (some (.ref C)), csl⟩ ∧
    scope.names.lookup ("super" : Str) = some .globalImplicit ∧ scope.names.lookup ("__class__" : Str) = some .free ∧ scope.names.lookup ("self" : Str) = some .local ∧ scope.names.lookup pn = some .local ∧
    (∀ x ∈ scope.names, x.2 ≠ .cell) ∧ scope.isCoroutine = false ∧ scope.isGenerator = false ∧ scope.kind = .function ∧
    (P.main.scope.names.lookup ("super" : Str)).isSome = false ∧ (pn == ("__debug__" : Str)) = false ∧ ("self" == pn) = false ∧
    (∀ env : Env, ∃ pl : Sem Bool, eval (.Call (.Attribute (.Call (.Name "super" p0) [] [] p1) "__init__" p2) [.Constant (.str m) j p3] [] p4) env = (do
      let ov ← attributeBase (.Call (.Name "super" p0) [] [] p1) "__init__" env (eval (.Call (.Name "super" p0) [] [] p1) env)
      standAt p2.atName
      let (f, first) ← holding [ov] (getMethod ov "__init__" pl)
      callWith p4 f first (backTo p4 (starEach [.Constant (.str m) j p3] env)) [])) ∧
    (∀ env : Env, swapsWith (.Call (.Attribute (.Call (.Name "super" p0) [] [] p1) "__init__" p2) [.Constant (.str m) j p3] [] p4) none p5.line env = pure false) ∧
    (∀ env : Env, swapsWith (.Name pn p8) (some (.Attribute (.Name "self" p6) f p7)) p9.line env = pure false)
  any : PySem.W.nsIn K cStatics "thirdparty.any" = some none
  along : PySem.W.ks_superIn K C C "__init__" = some (some (.builtin "ValueError.__init__"))
  sub : PySem.W.subIn K (.ref C) (.type "ValueError") = some true
  mro : PySem.W.mroIn K C (.ref C) = some true
  exi : PySem.W.excInitIn K C [.type "ValueError", .type "Exception", .type "BaseException", .type "object"] "ValueError.__new__" = true
  fld : PySem.W.findIn K (.ref C) f = some none
theorem run_sup {P : Program} {w : World} {A : Around} {K : PySem.W.Frag} {mg : Str → Option Value} {base h : Heap} {g : Array GenState} {d : Drawn} {t : Nat} {os : OsState} {R : Result → Shared → Prop} {C fI e t0 : Addr} {f pn : Str} {v : Value}
    (S : SupC P K C fI f pn) (M : Mod K mg base) (kb : ∀ b o, base.get? b = some o → h.get? b = some o) (he : h.get? e = some (PySem.HandSPX.excO C t0)) (be : base.get? e = none) (hroom : A.depth < recursionLimit) (hms : mg "super" = none)
    (hR : ∀ h' tk' dx t1, (∀ b o, b ≠ e → h.get? b = some o → h'.get? b = some o) → h.objs.size ≤ dx → dx ≠ e → h'.get? e = some ({ cls := .ref C, dict := some dx, data := .fields #[.ref t1, .none, .none, .none, .bool false, .none] } : Obj) →
      h'.Ns1 dx (fun y => if y = f then some v else none) → R (.ok (.ret .none)) ⟨h', g, d, tk', os⟩) :
    codeAny (model P w) A (.call (.ref fI) ⟨[.ref e, v], []⟩) R ⟨h, g, d, t, os⟩ := by
  obtain ⟨m, j, p0, p1, p2, p3, p4, p5, p6, p7, p8, p9, params, scope, dV, kV, doc, pm, ct, oc, an, od, osl, cda, cc, ar, vs, file, tf, ccl, cl, cdd, cld, ccs, csl, nm, qual, lk, hcd, hbind, hp, har, hcode, hvs, hfile, hcell, nS, nC, nSelf, nP, noc, hco, hgen, hk, htop, hdp, hsp, hev, hsw1, hsw2⟩ := S.fn
  have kin : K.In h := M.kin.keeps kb
  have neB : ∀ {b : Addr} {o : Obj}, base.get? b = some o → b ≠ e := fun {b o} hb z => by
    rw [z, be] at hb
    cases hb
  obtain ⟨nmC, q, N, bs, bm, sn, sub, ab, col, dd, k0, k1, k2, k3, k5, hC, hbm⟩ := S.oex.cls
  have hcl : PySem.W.clsIn K C = some { name := nmC, bases := bs, mro := .ref C :: bm, ns := N, qualname := q, hasDict := true, slotNames := sn, subclasses := sub, abstract := ab, collection := col, hasDel := false } := by unfold PySem.W.clsIn; rw [hC] <;> rfl
  refine PySem.ks_codeAny_call_defAt (body := [.Expr (.Call (.Attribute (.Call (.Name "super" p0) [] [] p1) "__init__" p2) [.Constant (.str m) j p3] [] p4) p5, .Assign [.Attribute (.Name "self" p6) f p7] (.Name pn p8) p9]) (binds := [("self", .ref e), (pn, v)]) hroom (kin _ _ lk) rfl (M.nolimit.keeps kb) (PySem.W.codeRec_of kin hcd) rfl (hbind _ _ _) noc (fun y hy => ?_) (fun h1 hns hk1 => ?_) hco hgen hk
  · simp only [List.mem_cons, List.not_mem_nil, or_false] at hy
    rcases hy with rfl | rfl
    · exact nSelf
    · exact nP
  have hx1 := hk1 _ _ he
  have kin1 : K.In h1 := kin.keeps hk1
  have cls1 : ∃ oD, h1.get? C = some oD ∧ oD.data = .cls { name := nmC, bases := bs, mro := .ref C :: bm, ns := N, qualname := q, hasDict := true, slotNames := sn, subclasses := sub, abstract := ab, collection := col, hasDel := false } := ⟨_, kin1 _ _ hC, rfl⟩
  obtain ⟨oD, hD1, hD2⟩ := cls1
  obtain ⟨mb, hb1, hb2⟩ := M.blt
  have L0 : ∀ {b : Addr} {o : Obj}, h.get? b = some o → b ≠ h.objs.size := fun {b o} z => Nat.ne_of_lt (Heap.lt_size z)
  -- the ground: all but the exception
  have F1 : PyProof.Rows.Fr (PySem.W.hideAll h [e]) h.objs.size h1 (fun x => ([("self", .ref e), (pn, v)] : List (Str × Value)).reverse.lookup x) := ⟨hns, fun b o z => hk1 b o (PySem.W.of_hideAll _ z), Nat.le_of_eq (PySem.W.hideAll_size _ _)⟩
  have N1 : PyProof.Rows.News (PySem.W.hideAll h [e]) h.objs.size h1 [(e, PySem.HandSPX.excO C t0)] := fun p hp => by
    rw [List.mem_singleton.mp hp]
    exact ⟨hx1, L0 he, PySem.W.hideAll_none _ (by simp)⟩
  have kinG : K.In (PySem.W.hideAll h [e]) := M.kin.keeps fun b o z => PySem.W.hideAll_get _ (kb b o z) (by
    rw [List.mem_singleton]
    exact neB z)
  have ls : ([("self", .ref e), (pn, v)] : List (Str × Value)).reverse.lookup ("self" : Str) = some (.ref e) := by
    simp [List.lookup, hsp]
  have lp : ([("self", .ref e), (pn, v)] : List (Str × Value)).reverse.lookup pn = some v := by
    simp [List.lookup]
  obtain ⟨pl, hev⟩ := hev (callEnv (PySem.W.ksFn nm qual params [.Expr (.Call (.Attribute (.Call (.Name "super" p0) [] [] p1) "__init__" p2) [.Constant (.str m) j p3] [] p4) p5, .Assign [.Attribute (.Name "self" p6) f p7] (.Name pn p8) p9] scope dV kV doc pm an (.ref cda) ct cc) h.objs.size fI)
  refine PySem.ks_wpAt_execs_cons (PySem.ks_wpAt_Expr_any (PySem.ks_wpAt_MethodCall (pl := pl) ?_ hev) (by
    unfold interactive
    simp [callEnv, newEnv, hk]) (hsw1 _))
  refine PySem.ks_wpAt_super_base nS nC (by decide) rfl (kin1 _ _ lk) rfl hp rfl (kin1 _ _ hcode) rfl hvs hfile htop ?_
  refine PySem.W.ks_loadName_global hk nS (PySem.Calls.loadGlobal_builtin (M.glob.keeps fun b o z => hk1 b o (kb b o z)) hms (hb1.keeps fun b o z => hk1 b o (kb b o z)) ((hb2 _ (by decide)).trans (show bootBuiltins "super" = some (.type "super") by decide +kernel)) ⟨rfl, ?_⟩)
  refine wpAny_loadName_free hk nC rfl ⟨_, kin1 _ _ hcell, rfl⟩ ?_
  rw [har]
  refine wpAny_loadName_local hk nSelf hns ls ?_
  refine PySem.ks_wpAny_isType_cls hD1 hD2 ⟨rfl, ?_⟩
  refine PySem.ks_wpAny_call_super hD1 hD2 hx1 rfl (fun c z => by cases z) (PySem.W.looks_mroIn kin1 S.mro) (fun h2 eq2 k2 => ?_)
  obtain ⟨F2, N2, lt2⟩ := PySem.W.ks_newsPush (s := ⟨h1, g, d, t + 2, os⟩) F1 N1 rfl eq2 k2
  have I2 : PySem.W.InstAt h2 e (PySem.HandSPX.excO C t0) C none := ⟨k2 _ _ hx1, rfl, rfl, trivial⟩
  refine PySem.W.kxs_method (s := ⟨h2, g, d, _, os⟩) PySem.W.kxs_ValueError F2 kinG N2 (List.mem_cons_self ..) I2 S.any S.along S.sub (by decide) (fun u h3 F3 N3 lt3 => ?_)
  have se : h1.objs.size ≠ e := Nat.ne_of_gt (Heap.lt_size hx1)
  have ue : u ≠ e := Nat.ne_of_gt (lt3 (e, PySem.HandSPX.excO C t0) (by simp))
  refine PySem.W.kxs_callWith1 (i := "ValueError.__init__") (x := e) (u := u) N3 (List.mem_cons_self ..) (args_cons (PySem.Calls.Constant_str (args_nil ⟨PySem.W.kxs_at N3 (List.mem_cons_self ..), ?_⟩)))
  refine PySem.W.kxs_call (s := ⟨h3, g, d, _, os⟩) F3 kinG N3 F.excBase_ValueError S.exi (List.mem_cons_self ..) (.tail ue (.tail se (.head (by simp)))) (by simp [sizeLine_eq]) (fun t1 h4 F4 N4 lt4 => ?_)
  have kin4 : K.In h4 := kinG.keeps F4.keep
  have hx4 : h4.get? e = some ({ cls := .ref C, data := .fields #[.ref t1, .none, .none, .none, .bool false, .none] } : Obj) := (N4 (e, PySem.HandSPX.excO C t1) (by simp)).1
  have keep4 : ∀ b o, b ≠ e → h.get? b = some o → h4.get? b = some o := fun b o hb z => F4.keep b o (PySem.W.hideAll_get _ z (by
    rw [List.mem_singleton]
    exact hb))
  refine PySem.ks_wpAt_execs_cons (PySem.ks_wpAt_Assign_Attr (wpAt_of_wpAny (PySem.ESX.ldL F4.ns lp (PySem.ESX.ldL F4.ns ls ?_ hk nSelf) hk nP hdp)) (hsw2 _))
  refine PySem.W.set_plain kin4 (ox := { cls := .ref C, data := .fields #[.ref t1, .none, .none, .none, .bool false, .none] }) (od := none) ⟨hx4, rfl, rfl, trivial⟩ S.oex.sa ?_
  refine PySem.HandSPX.exc_osa kin4 hx4 hcl (show PySem.HandSPX.refsVE (.ref C :: bm) = true from hbm) rfl S.fld (fun h' tk' dx k dn dne hx hn => ?_)
  refine wpAt_of_wpAny (wpAny_execs_nil ?_)
  refine hR h' tk' dx t1 (fun b o hb z => k b o hb (keep4 b o hb z)) ?_ dne hx hn
  obtain ⟨oL, esL, epL, hL, _⟩ := F4.ns
  exact Nat.le_trans (Nat.le_of_lt (Heap.lt_size hL)) dn
theorem pmk_sup {X : Cx} {x : Str} {C fI : Addr} {f pn : Str} {a : Expr} {ta : TA} {p pos : Pos} (S : SupC X.prog X.K C fI f pn) (hr : X.A.depth + 5 < recursionLimit) (hg : Gl X x) (hm : X.mg x = some (.ref C)) (hms : X.mg "super" = none) (ha : PA X [a] ta)
    (hdb : (x == ("__debug__" : Str)) = false := by decide) (he : starEach [a] X.env = (false, eval a X.env) :: starEach [] X.env := by rfl) :
    PMk X (.Call (.Name x p) [a] [] pos) (fun σ H Q => ta σ H fun vs H1 => ∃ v, vs = [v] ∧ ∀ dx, H1 dx = none → Q (.ref C) (some dx) (upd H1 dx (.xd [(f, v)]))) := by
  intro pins s σ H Q I h
  obtain ⟨nm, q, N, bs, bm, sn, sub, ab, col, dd, k0, k1, k2, k3, k5, hC, hbm⟩ := S.oex.cls
  refine wpAny_Call_Name_kw (ld_glob I hg hm ?_ hdb)
  refine PySem.W.callWith_K (h₀ := X.base) I.ok.mod.kin S.oex.kC (thn (ha.run pos pins s σ H _ I h) fun us s1 ⟨vs, H1, I1, r1, q1⟩ => ⟨I1.kIn, ?_⟩) he rfl
  obtain ⟨v, rfl, q1⟩ := q1
  obtain ⟨u, rfl, rv⟩ := vals1 r1
  show wpAny _ _ (call (.ref C) [u]) _ _ _
  obtain ⟨hp, g, dr, tk, os⟩ := s1
  have hsz : hp.objs.size ≤ hp.objs.size + 1 := Nat.le_succ _
  have hn : H1 (hp.objs.size + 1) = none := I1.hok.fresh hsz
  have kk : ∀ b o, hp.get? b = some o → ((hp.push (PySem.W.kdv_tup [u])).push (PySem.HandSPX.excO C hp.objs.size)).get? b = some o := fun b o e => Heap.get?_push_of_some _ (Heap.get?_push_of_some _ e)
  have hget : ((hp.push (PySem.W.kdv_tup [u])).push (PySem.HandSPX.excO C hp.objs.size)).get? (hp.objs.size + 1) = some (PySem.HandSPX.excO C hp.objs.size) := by heap_get
  have lt : ∀ {b : Addr} {o : Obj}, hp.get? b = some o → b ≠ hp.objs.size + 1 := fun {b o} z => Nat.ne_of_lt (Nat.lt_succ_of_lt (Heap.lt_size z))
  have be : X.base.get? (hp.objs.size + 1) = none := by
    cases z : X.base.get? (hp.objs.size + 1) with
    | none => rfl
    | some o => exact absurd rfl (lt (I1.bk _ _ z))
  refine wpAny_call (PySem.HandSPX.call_own F.excBase_ValueError (fun Y => PySem.HandSPX.refsVE_contains Y bm hbm) (I1.kIn _ _ hC) (PySem.W.looks_findIn I1.kIn S.init) (fun self => PySem.W.bind_fn I1.kIn self S.tyI) (by simp [sizeLine_eq])
    (run_sup S I1.ok.mod (fun b o z => kk b o (I1.bk b o z)) hget be (by rw [make_depth]; omega) hms (fun h' tk' dx t1 k dn dne hx hns => ?_)))
  have sz2 : hp.objs.size ≤ dx := Nat.le_trans (by simp [Heap.push] <;> omega) dn
  have keep : ∀ b o, hp.get? b = some o → (PySem.W.hideAll h' [hp.objs.size + 1]).get? b = some o := fun b o z => PySem.W.hideAll_get _ (k b o (lt z) (kk b o z)) (by
    rw [List.mem_singleton]
    exact lt z)
  have hd1 : H1 dx = none := I1.hok.fresh sz2
  have J : L2.Inv X pins σ (upd H1 dx (.xd [(f, v)])) ⟨PySem.W.hideAll h' [hp.objs.size + 1], g, dr, tk', os⟩ := I1.laid (t' := tk') (a := dx) (o := .xd [(f, v)]) (h' := PySem.W.hideAll h' [hp.objs.size + 1]) keep sz2
    ⟨_, hns.at fun o y => PySem.W.hideAll_get _ y (by rw [List.mem_singleton]; exact dne), relO_put (fs := []) rv fun g => True.intro⟩
  exact ⟨rfl, hp.objs.size + 1, _, _, _, _, .ref C, some dx, rfl, J, fun b o z => PySem.W.of_hideAll _ z, PySem.W.hideAll_none _ (by simp), hx, ⟨rfl, rfl⟩, rfl, rfl, by rw [upd_ne dne.symm]; exact hn, rfl, I1.bare, raises_own S.oex.exC S.oex.tyC, q1 dx hd1⟩
end Dl
/-! The data layer: raise, try. -/
namespace Dl
open PySem PySem.Spec PyProof.Rows L2
/-! ### raise C(x) -/
def sRaise (c : Nat) (f : EV) : SV := fun e s => (f e s).toS e fun d s => match d with
  | .p x => .ex c x e s
  | _ => .bad
section
variable {X : Cx} {CT : Nat → Addr} {T : ExT} {W : XW} {k : Nat} {pos p p2 : Pos} {a : Expr} {f : EV} {x : Str} {C fI : Addr} {pn fl : Str}
theorem ps_raiseD (c : Nat) (B : Bd X CT T W k) (S : SupC X.prog X.K (T.cls c) fI fl pn) (hfl : T.fld c = fl) (hg : Gl X x) (hm : X.mg x = some (.ref (T.cls c))) (hms : X.mg "super" = none) (ha : PD X CT W a f)
    (hdb : (x == ("__debug__" : Str)) = false := by decide) (he : starEach [a] X.env = [(false, eval a X.env)] := by rfl) : PDS X CT W (.Raise (some (.Call (.Name x p) [a] [] pos)) none p2) (sRaise c f) := by
  subst hfl
  have hr : X.A.depth + 5 < recursionLimit := by
    have := B.room.dp
    omega
  refine (ps_raise B.calm B.tk (pmk_sup S hr hg hm hms (pa_cons ha pa_nil (by rw [he]; rfl)) hdb he)).imp fun D σ H q => ?_
  obtain ⟨w, s, e, rfl, m, re, ok⟩ := q
  refine ⟨w, s, e, rfl, m, re, (OkS.toS re ok).imp fun d s1 w1 e1 m1 ⟨_, _, ok1⟩ v rv => ?_⟩
  refine ⟨v, rfl, fun dx hd => ?_⟩
  cases d with
  | p y => exact ⟨c, y, s1, { w1 with H := upd w1.H dx (.xd [(T.fld c, v)]) }, rfl, m1.newT hd, ⟨rfl, dx, v, rfl, upd_same, RP.ext (m1.extT hd) _ _ rv⟩, ok1 _ σ (m1.extT hd) (m1.newT hd) (re.ext (e1.trans (m1.extT hd)))⟩
  | ref _ => exact ok1.elim
  | bag _ => exact ok1.elim
  | ro _ => exact ok1.elim
end
/-! ### try: body, except C as e: return e.f == text -/
def sTryEq (m : Nat → Bool) (i : Nat) (z : Str) (b : SV) : SV := fun e s => match b e s with
  | .ex c x e' s' => if m c then (match x with
    | .str y => if i < e'.length then .rt (.p (.bool (decide (y = z)))) s' else .bad
    | _ => .bad) else .ex c x e' s'
  | r => r
/-- what the data layer wishes of an exception, from what the hand layer wishes -/
def WofX (K : PySem.W.Frag) (T : ExT) (W : WX) : XW := fun c x σ s w => ∀ cls d, ExR K T w c x cls d → W cls d σ w.H
section
variable {X : Cx} {CT : Nat → Addr} {T : ExT} {W : XW} {k i : Nat} {pos pos' np p1 p2 p4 p5 p6 : Pos} {p3 : Nat} {body : List Stmt} {u : SV} {x n : Str} {C : Addr} {f z' z : Str} {m : Nat → Bool}
theorem Bd.tr (B : Bd X CT T W k) {W' : WX} {pn : List (Addr × Obj)} {xe : Value → Shared → Prop} (tk : Takes (X.tr pn xe) W') (po : PassesOwn (model X.prog X.w) X.A X.env xe) : Bd (X.tr pn xe) CT T (WofX X.K T W') k :=
  ⟨B.calm, B.nd, po, B.room, B.dp1, tk.imp fun cls d σ H q => by
    obtain ⟨c, x, s, w, rfl, m, r, h⟩ := q
    exact h cls d r⟩
theorem ps_tryEq (B : Bd X CT T W k) (hs : X.stack = X.env :: X.outer) (hf : X.env.frame = some X.env.locals) (i : Nat) (hc : Names X x (.ref C)) (hT : ∀ c, PySem.W.exmOne X.K (.ref (T.cls c)) (.ref C) = some (m c)) (hC : ∀ c, m c = true → T.cls c = C ∧ T.fld c = f)
    (XC : XfC X.K C) (hno : PySem.W.findIn X.K (.ref C) f = some none) (hz : z' = z)
    (hb : ∀ (W' : XW) (pn : List (Addr × Obj)) (xe : Value → Shared → Prop), Bd (X.tr pn xe) CT T W' k → PDB (X.tr pn xe) CT W' body u)
    (hi : X.N[i]? = some n := by rfl) (hln : X.env.kindOf n = some .local := by rfl) (hd : (n == ("__debug__" : Str)) = false := by decide) (hcd : (n == ("__classdict__" : Str)) = false := by decide)
    (hab : attributeBase (.Name n p1) f X.env (eval (.Name n p1) X.env) = eval (.Name n p1) X.env := by rfl)
    (hcm : behindInMarks .Eq (.Constant (.str z') p3 p4) = false := by first | exact nobehind _ (by decide) (by decide) | rfl) :
    PDS X CT W (.Try body [.ExceptHandler (some (.Name x np)) (some n) [.Return (some (.Compare (.Attribute (.Name n p1) f p2) [.Eq] [.Constant (.str z') p3 p4] p5)) p6] pos'] [] [] pos) (sTryEq m i z u) := by
  subst hz
  refine (ps_try_as (ts := fun a cls d D σ H => tOp rEq (tXf a cls d C f (tVar i)) (tC (.str z')) σ H (fun v H1 => D.rt v H1)) (tb := fun W' => tDS X.K CT (WofX X.K T W') u) hs hf B.nd hi hln hc B.tk
    (fun W' pn xe tk po => hb _ pn xe (B.tr tk po)) (fun a oe cls d pn hz hfl => pss_one (ps_ret (pe_cmpR op_eq (pe_xf XC hno hz hfl (pe_var hi (.inl hln) hd hcd) hab) pe_str hcm)))).imp fun D σ H q => ?_
  obtain ⟨w, s, e, rfl, sm, re, ok⟩ := q
  refine ⟨w, s, e, rfl, sm, re, ?_⟩
  unfold sTryEq at ok
  cases hu : u e s with
  | nx e' s' => rw [hu] at ok; exact ok
  | rt d s' => rw [hu] at ok; exact ok
  | bk e' s' => rw [hu] at ok; exact ok
  | ct e' s' => rw [hu] at ok; exact ok
  | bad => rw [hu] at ok; exact ok
  | ex c y e' s' =>
    rw [hu] at ok
    intro w' σ' x1 m1 r1 cls d xr
    refine ⟨m c, by rw [xr.1]; exact hT c, fun hm a na => ?_, fun hm => ?_⟩
    · simp only [hm, if_true] at ok
      cases y with
      | str zz =>
        obtain ⟨xc, dd, v, xd, xh, xv⟩ := xr
        have xv : v = .str zz := xv
        subst xv
        simp only [] at ok
        split at ok
        case isFalse => exact ok.elim
        rename_i il
        rw [r1.len] at il
        refine ⟨.ref a, ?_, rfl, ?_⟩
        · rw [List.getElem?_set_self il]
        · refine ⟨by rw [xc, (hC c hm).1], dd, [(T.fld c, .str zz)], .str zz, xd, xh, ?_, ?_⟩
          · rw [(hC c hm).2]
            simp [List.lookup]
          · refine ⟨rfl, ok w' _ x1 m1 ?_⟩
            show V.bl _ = V.bl _
            congr 1
            rw [Bool.eq_iff_iff]
            simp
      | _ => exact ok.elim
    · simp only [hm] at ok
      exact ⟨c, y, s', w', rfl, m1, xr, ok w' σ' x1 m1 r1⟩
end
end Dl
namespace Dl
open PySem PySem.Spec PyProof.Rows L2
/-- where the written part has a class -/
def clsAd (K : PySem.W.Frag) (x : Str) : Addr := match PySem.W.nsIn K mainGlobals x with
  | some (some (.ref a)) => a
  | _ => 0
theorem clsAd_of {K : PySem.W.Frag} {x : Str} {a : Addr} (h : PySem.W.nsIn K mainGlobals x = some (some (.ref a))) : clsAd K x = a := by
  unfold clsAd
  rw [h]
theorem supC_mk {P : Program} {K : PySem.W.Frag} {C fI N cda cc : Addr} {f pn nmC q m nm qual file : Str} {bs bm : List Value} {sn : List Str} {sub : List Value} {ab : Bool} {col : Option Bool} {dd an od cdd cld : Option Addr} {k0 k1 k2 k3 k5 : Option Value} {j : Nat} {p0 p1 p2 p3 p4 p5 p6 p7 p8 p9 : Pos} {params : Arguments} {scope : Scope} {dV kV doc pm ct oc ccl cl : Value} {osl ccs csl : Array (Option Value)} {ar : Arg} {vs : Array Value} {tf : Tok}
    (h1 : K.lookup C = some (excClassObj nmC q C N bs bm true sn sub ab col dd k0 k1 k2 k3 k5 "ValueError.__new__")) (h2 : PySem.HandSPX.refsVE bm = true)
    (h3 : PySem.W.findIn K (.ref C) "__setattr__" = some (some (.builtin "object.__setattr__"))) (h4 : PySem.W.subIn K (.ref C) (.type "BaseException") = some true) (h5 : PySem.W.typeIn K (.ref C) = some (.type "type")) (h6 : PySem.W.keepIn K (.ref C) = true)
    (h7 : PySem.W.findIn K (.ref C) "__init__" = some (some (.ref fI))) (h8 : PySem.W.typeIn K (.ref fI) = some (.type "function"))
    (h9 : K.lookup fI = some ⟨oc, od, .func (PySem.W.ksFn nm qual params [.Expr (.Call (.Attribute (.Call (.Name "super" p0) [] [] p1) "__init__" p2) [.Constant (.str m) j p3] [] p4) p5, .Assign [.Attribute (.Name "self" p6) f p7] (.Name pn p8) p9] scope dV kV doc pm an (.ref cda) ct cc), osl⟩)
    (h10 : PySem.W.codeIn K (.ref cda) qual = true)
    (h11 : ∀ (s : Shared) (e v : Value), BindsTo s (PySem.W.ksFn nm qual params [.Expr (.Call (.Attribute (.Call (.Name "super" p0) [] [] p1) "__init__" p2) [.Constant (.str m) j p3] [] p4) p5, .Assign [.Attribute (.Name "self" p6) f p7] (.Name pn p8) p9] scope dV kV doc pm an (.ref cda) ct cc) ⟨[e, v], []⟩ [("self", e), (pn, v)])
    (h12 : (params.posonlyargs ++ params.args).head? = some ar) (h13 : ar.arg = "self")
    (h14 : K.lookup cda = some ⟨ccl, cdd, .fields vs, ccs⟩) (h15 : vs[2]? = some (.str file tf)) (h16 : ((P.main.file : Str) == file) = true)
    (h17 : K.lookup cc = some ⟨cl, cld, .cell (some (.ref C)), csl⟩)
    (h18 : scope.names.lookup ("super" : Str) = some .globalImplicit) (h19 : scope.names.lookup ("__class__" : Str) = some .free) (h20 : scope.names.lookup ("self" : Str) = some .local) (h21 : scope.names.lookup pn = some .local)
    (h22 : ∀ x ∈ scope.names, x.2 ≠ .cell) (h23 : scope.isCoroutine = false) (h24 : scope.isGenerator = false) (h25 : scope.kind = .function)
    (h26 : (P.main.scope.names.lookup ("super" : Str)).isSome = false) (h27 : (pn == ("__debug__" : Str)) = false) (h28 : ("self" == pn) = false)
    (h29 : ∀ env : Env, ∃ pl : Sem Bool, eval (.Call (.Attribute (.Call (.Name "super" p0) [] [] p1) "__init__" p2) [.Constant (.str m) j p3] [] p4) env = (do
      let ov ← attributeBase (.Call (.Name "super" p0) [] [] p1) "__init__" env (eval (.Call (.Name "super" p0) [] [] p1) env)
      standAt p2.atName
      let (f, first) ← holding [ov] (getMethod ov "__init__" pl)
      callWith p4 f first (backTo p4 (starEach [.Constant (.str m) j p3] env)) []))
    (h30 : ∀ env : Env, swapsWith (.Call (.Attribute (.Call (.Name "super" p0) [] [] p1) "__init__" p2) [.Constant (.str m) j p3] [] p4) none p5.line env = pure false)
    (h31 : ∀ env : Env, swapsWith (.Name pn p8) (some (.Attribute (.Name "self" p6) f p7)) p9.line env = pure false)
    (h32 : PySem.W.nsIn K cStatics "thirdparty.any" = some none) (h33 : PySem.W.ks_superIn K C C "__init__" = some (some (.builtin "ValueError.__init__"))) (h34 : PySem.W.subIn K (.ref C) (.type "ValueError") = some true) (h35 : PySem.W.mroIn K C (.ref C) = some true)
    (h36 : PySem.W.excInitIn K C [.type "ValueError", .type "Exception", .type "BaseException", .type "object"] "ValueError.__new__" = true) (h37 : PySem.W.findIn K (.ref C) f = some none) : SupC P K C fI f pn :=
  ⟨⟨⟨_, _, _, _, _, _, _, _, _, _, _, _, _, _, _, h1, h2⟩, h3, h4, h5, h6⟩, h7, h8, ⟨_, _, _, _, _, _, _, _, _, _, _, _, _, _, _, _, _, _, _, _, _, _, _, _, _, _, _, _, _, _, _, _, _, _, _, _, _, h9, h10, h11, h12, h13, h14, h15, h16, h17, h18, h19, h20, h21, h22, h23, h24, h25, h26, h27, h28, h29, h30, h31⟩, h32, h33, h34, h35, h36, h37⟩
end Dl
/-! The data layer: instances of the text's own classes: fields, methods, making; the order of lists of ints. -/
namespace Dl
open PySem PySem.Spec PyProof.Rows L2

/-! ### fields as data -/
def putD (f : Str) (d : D) : List (Str × D) → List (Str × D)
  | [] => [(f, d)]
  | (g, x) :: r => if g = f then (g, d) :: r else (g, x) :: putD f d r
/-- the instance at a place of the store -/
def insAt (s : Sto) : D → Option (Nat × Nat × List (Str × D))
  | .ref k => match s[k]? with
    | some (.ins c fs) => some (k, c, fs)
    | _ => none
  | _ => none
section
variable {K : PySem.W.Frag} {CT : Nat → Addr} {w : Wd} {s : Sto}
theorem RF.lookup {f : Str} {d : D} : ∀ {fs : List (Str × D)} {vs : List (Str × V)}, RF K w fs vs → fs.lookup f = some d → ∃ v, vs.lookup f = some v ∧ RD K w d v
  | [], _, _, h => by simp [List.lookup] at h
  | (g, x) :: fs, _, r, h => by
    obtain ⟨v, vs, rfl, h1, h2⟩ := r
    by_cases e : f = g
    · subst e
      simp only [List.lookup_cons_self, Option.some.injEq] at h
      subst h
      exact ⟨v, by simp, h1⟩
    · have e' : (f == g) = false := by simpa using e
      simp only [List.lookup_cons, e'] at h
      obtain ⟨u, h3, h4⟩ := RF.lookup h2 h
      exact ⟨u, by simp only [List.lookup_cons, e']; exact h3, h4⟩
theorem RF.lookupN {f : Str} : ∀ {fs : List (Str × D)} {vs : List (Str × V)}, RF K w fs vs → fs.lookup f = none → vs.lookup f = none
  | [], _, r, _ => by
    have r : _ = [] := r
    subst r
    rfl
  | (g, x) :: fs, _, r, h => by
    obtain ⟨v, vs, rfl, h1, h2⟩ := r
    by_cases e : f = g
    · subst e
      simp at h
    · have e' : (f == g) = false := by simpa using e
      simp only [List.lookup_cons, e'] at h ⊢
      exact RF.lookupN h2 h
theorem RF.put {f : Str} {d : D} {v : V} (hd : RD K w d v) : ∀ {fs : List (Str × D)} {vs : List (Str × V)}, RF K w fs vs → RF K w (putD f d fs) (putF f v vs)
  | [], _, r => by
    have r : _ = [] := r
    subst r
    exact ⟨v, [], rfl, hd, rfl⟩
  | (g, x) :: fs, _, r => by
    obtain ⟨u, vs, rfl, h1, h2⟩ := r
    by_cases e : g = f
    · rw [show putD f d ((g, x) :: fs) = (g, d) :: fs by simp [putD, e], show putF f v ((g, u) :: vs) = (g, v) :: vs by simp [putF, e]]
      exact ⟨v, vs, rfl, hd, h2⟩
    · rw [show putD f d ((g, x) :: fs) = (g, x) :: putD f d fs by simp [putD, e], show putF f v ((g, u) :: vs) = (g, u) :: putF f v vs by simp [putF, e]]
      exact ⟨u, _, rfl, h1, RF.put hd h2⟩
theorem RF.length : ∀ {fs : List (Str × D)} {vs : List (Str × V)}, RF K w fs vs → vs.length = fs.length
  | [], _, r => by
    have r : _ = [] := r
    subst r
    rfl
  | (g, x) :: fs, _, r => by
    obtain ⟨u, vs, rfl, h1, h2⟩ := r
    simp [RF.length h2]
theorem insAt_rep {d : D} {v : V} {k c : Nat} {fs : List (Str × D)} (m : Sim K CT w s) (r : RD K w d v) (h : insAt s d = some (k, c, fs)) :
    d = .ref k ∧ ∃ a dx vs, v = .ref a ∧ w.mu[k]? = some a ∧ w.H a = some (.ins (CT c) dx vs) ∧ RF K w fs vs := by
  cases d with
  | ref j =>
    unfold insAt at h
    simp only at h
    split at h
    · rename_i c' fs' e
      cases h
      obtain ⟨a, h1, rfl⟩ := r
      obtain ⟨b, h2, dx, vs, h3, h4⟩ := m.ob _ _ e
      rw [h1] at h2
      cases h2
      exact ⟨rfl, a, dx, vs, rfl, h1, h3, h4⟩
    · cases h
  | p _ => cases h
  | ro _ => cases h
  | bag _ => cases h
/-- an instance gets a new value at a field -/
theorem ins_ok {k c : Nat} {a dx : Addr} {fs : List (Str × D)} {vs : List (Str × V)} {f : Str} {d : D} {v : V} (m : Sim K CT w s) (hk : w.mu[k]? = some a) (hH : w.H a = some (.ins (CT c) dx vs)) (r : RF K w fs vs) (rd : RD K w d v) :
    Ext K w { w with H := upd w.H a (.ins (CT c) dx (putF f v vs)) } ∧ Sim K CT { w with H := upd w.H a (.ins (CT c) dx (putF f v vs)) } (s.set k (.ins c (putD f d fs))) := by
  have x := m.extW (u' := .ins (CT c) dx (putF f v vs)) hk hH (fun _ z => nomatch z) (fun _ _ z => nomatch z)
  exact ⟨x, m.write hk hH (fun _ z => nomatch z) (fun _ _ z => nomatch z) ⟨dx, _, upd_same, RF.ext x _ _ (r.put rd)⟩⟩
end

/-! ### o.f, o.f = e, o.f op= e -/
def eFld (f : Str) (fo : EV) : EV := fun e s => (fo e s).bind fun o s => match insAt s o with
  | some (_, _, fs) => match fs.lookup f with
    | some d => .ok d s
    | none => .bad
  | none => .bad
def sFldD (f : Str) (fo fv : EV) : SV := fun e s => (fv e s).toS e fun y s => (fo e s).toS e fun o s => match insAt s o with
  | some (k, c, fs) => if fs.length < 1000 then .nx e (s.set k (.ins c (putD f y fs))) else .bad
  | none => .bad
def sFldAugD (f : Str) (h : D → D → Sto → R D) (fo fv : EV) : SV := fun e s => (fo e s).toS e fun o s => match insAt s o with
  | some (_, c, fs) => match fs.lookup f with
    | some x => (fv e s).toS e fun y s => (h x y s).toS e fun z s => match insAt s o with
      | some (k', c', fs') => if c' = c ∧ fs'.length < 1000 then .nx e (s.set k' (.ins c (putD f z fs'))) else .bad
      | none => .bad
    | none => .bad
  | none => .bad
section
variable {X : Cx} {CT : Nat → Addr} {T : ExT} {W : XW} {pos pos' tpos : Pos} {o a : Expr} {f : Str} {fo fv : EV}
theorem pd_fld {f' : Str} (hq : f' = f) (hc : ∀ c, Cls X.K (CT c)) (hn : ∀ c, NoAttr X.K (CT c) f') (he : PD X CT W o fo) (hb : attributeBase o f' X.env (eval o X.env) = eval o X.env := by rfl) : PD X CT W (.Attribute o f' pos) (eFld f fo) := by
  subst hq
  refine (pe_fld he hb).imp fun σ H Q q => ?_
  obtain ⟨w, s, e, rfl, m, re, ok⟩ := q
  refine ⟨w, s, e, rfl, m, re, (Ok.bind ok).imp fun d s1 w1 e1 m1 ⟨_, _, ok1⟩ v rv => ?_⟩
  split at ok1
  · rename_i k c fs hi
    obtain ⟨rfl, b, dx, vs, rfl, h1, h2, h3⟩ := insAt_rep m1 rv hi
    split at ok1
    · rename_i d hd
      obtain ⟨u, h4, h5⟩ := h3.lookup hd
      exact ⟨b, CT c, dx, vs, u, rfl, h2, hc c, hn c, h4, nowD m1 ok1 h5⟩
    · exact ok1.elim
  · exact ok1.elim
theorem ps_fldD {f' : Str} (hq : f' = f) (hc : ∀ c, Cls X.K (CT c)) (hn : ∀ c, NoAttr X.K (CT c) f') (ho : PD X CT W o fo) (hv : PD X CT W a fv) (hs : swapsWith a (some (.Attribute o f' pos')) pos.line X.env = pure false := by rfl) : PDS X CT W (.Assign [.Attribute o f' pos'] a pos) (sFldD f fo fv) := by
  subst hq
  refine (ps_fld ho hv hs).imp fun D σ H q => ?_
  obtain ⟨w, s, e, rfl, m, re, ok⟩ := q
  refine ⟨w, s, e, rfl, m, re, (OkS.toS re ok).imp fun y s1 w1 e1 m1 ⟨_, _, ok1⟩ vy ry => ?_⟩
  refine ⟨w1, s1, e, rfl, m1, re.ext e1, (OkS.toS (re.ext e1) ok1).imp fun d s2 w2 e2 m2 ⟨_, _, ok2⟩ v rv => ?_⟩
  split at ok2
  · rename_i k c fs hi
    obtain ⟨rfl, b, dx, vs, rfl, h1, h2, h3⟩ := insAt_rep m2 rv hi
    split at ok2
    · rename_i hl
      obtain ⟨x3, m3⟩ := ins_ok (f := f') m2 h1 h2 h3 (RD.ext e2 _ _ ry)
      exact ⟨b, CT c, dx, vs, rfl, h2, hc c, hn c, by rw [h3.length]; exact hl, ok2 _ σ x3 m3 (((re.ext e1).ext e2).ext x3)⟩
    · exact ok2.elim
  · exact ok2.elim
theorem ps_fldAugD {op : Operator} {r : R2} {hh : D → D → Sto → R D} {f' : Str} (hop : OpR X (inplaceOp op) r) (hr : OpD X.K CT r hh) (hq : f' = f) (hc : ∀ c, Cls X.K (CT c)) (hn : ∀ c, NoAttr X.K (CT c) f') (ho : PD X CT W o fo) (hv : PD X CT W a fv) :
    PDS X CT W (.AugAssign (.Attribute o f' tpos) op a pos) (sFldAugD f hh fo fv) := by
  subst hq
  refine (ps_fldaug (rd := r) ho hv fun pins s σ H x y u v Q I rx ry h => hop pins s σ H x y u v Q I rx ry h).imp fun D σ H q => ?_
  obtain ⟨w, s, e, rfl, m, re, ok⟩ := q
  refine ⟨w, s, e, rfl, m, re, (OkS.toS re ok).imp fun d s1 w1 e1 m1 ⟨_, _, ok1⟩ v rv => ?_⟩
  split at ok1
  · rename_i k c fs hi
    obtain ⟨rfl, b, dx, vs, rfl, h1, h2, h3⟩ := insAt_rep m1 rv hi
    split at ok1
    · rename_i x hx
      obtain ⟨u, h4, h5⟩ := h3.lookup hx
      refine ⟨b, CT c, dx, vs, u, rfl, h2, hc c, hn c, h4, w1, s1, e, rfl, m1, re.ext e1, (OkS.toS (re.ext e1) ok1).imp fun y s2 w2 e2 m2 ⟨_, _, ok2⟩ vy ry => ?_⟩
      refine hr (fun c x s' w' => W c x σ s' w') w2 s2 x y u vy _ m2 (RD.ext e2 _ _ h5) ry ((OkS.toS ((re.ext e1).ext e2) ok2).imp fun z s3 w3 e3 m3 ⟨_, _, ok3⟩ vz rz => ?_)
      split at ok3
      · rename_i k' c' fs' hi'
        split at ok3
        · rename_i hl
          obtain ⟨rfl, hl⟩ := hl
          obtain ⟨e4, b', dx', vs', e5, h6, h7, h8⟩ := insAt_rep m3 (RD.ext e3 _ _ (RD.ext e2 _ _ rv)) hi'
          cases e4
          cases e5
          obtain ⟨x4, m4⟩ := ins_ok (f := f') m3 h6 h7 h8 rz
          exact ⟨dx', vs', h7, by rw [h8.length]; exact hl, ok3 _ σ x4 m4 ((((re.ext e1).ext e2).ext e3).ext x4)⟩
        · exact ok3.elim
      · exact ok3.elim
    · exact ok1.elim
  · exact ok1.elim
end

/-! ### methods, making -/
def eMeth (m : Str) (c : Nat) (g : List D → Sto → R D) (dd : List D) (fo : EV) (l : AV) : EV := fun e s => (fo e s).bind fun o s => match insAt s o with
  | some (_, c', fs) => if c' = c ∧ fs.lookup m = none then (l e s).bind fun ds s => g (o :: (ds ++ dd)) s else .bad
  | none => .bad
def eMake (c : Nat) (g : List D → Sto → R D) (dd : List D) (l : AV) : EV := fun e s => (l e s).bind fun ds s1 => (g (.ref s1.length :: (ds ++ dd)) (s1 ++ [.ins c []])).bind fun v s2 => match v with
  | .p .none => .ok (.ref s1.length) s2
  | _ => .bad
section
variable {X : Cx} {CT : Nat → Addr} {T : ExT} {W : XW} {k n : Nat} {x m : Str} {p pos apos : Pos} {a o : Expr} {es : List Expr} {l : AV} {f : Addr} {fd : FuncData} {ps : List Str} {dvs : List V} {dvu : List Value} {dd : List D} {g : List D → Sto → R D} {fo : EV}
theorem meth_reads {σ : L2.St} {H : Hp} {Q : VK} (c : Nat) {j : Nat} (hn : n = ps.length) (hdd : ∀ w, RDs X.K w dd dvs) (hl : AV.len l j) (hmn : j + dd.length + 1 = n) (q : tD X.K CT W (eMeth m c g dd fo l) σ H Q) :
    tD X.K CT W fo σ H fun x H1 => ∃ a dx fs, x = .ref a ∧ H1 a = some (.ins (CT c) dx fs) ∧ fs.lookup m = none ∧ tDA X.K CT W l σ H1 fun vs H2 => spG X.K CT T n g (x :: (vs ++ dvs)) H2 Q (WE (WL X.K CT T W) σ) := by
  obtain ⟨w, s, e, rfl, m0, re, ok⟩ := q
  refine ⟨w, s, e, rfl, m0, re, (Ok.bind ok).imp fun d s1 w1 e1 m1 ⟨_, _, ok1⟩ v rv => ?_⟩
  split at ok1
  · rename_i k c' fs hi
    split at ok1
    · rename_i hh
      obtain ⟨rfl, hh⟩ := hh
      obtain ⟨rfl, b, dx, vs, rfl, h1, h2, h3⟩ := insAt_rep m1 rv hi
      refine ⟨b, dx, vs, rfl, h2, h3.lookupN hh, w1, s1, e, rfl, m1, re.ext e1, ?_⟩
      have ok' := Ok.bind ok1
      cases hr : l e s1 with
      | bad => rw [hr] at ok'; exact ok'
      | ex c y s' => rw [hr] at ok'; exact ok'
      | ok ds s2 =>
        rw [hr] at ok'
        intro w2 x2 m2 us rus
        obtain ⟨_, _, ok2⟩ := ok' w2 x2 m2
        refine ⟨w2, s2, .ref k :: (ds ++ dd), rfl, m2, ⟨_, _, rfl, RD.ext x2 _ _ rv, rus.append (hdd w2)⟩, by simp [hl _ _ _ _ hr]; omega, ?_⟩
        cases hg : g (.ref k :: (ds ++ dd)) s2 with
        | bad => rw [hg] at ok2; exact ok2
        | ok d s3 => rw [hg] at ok2; exact ok2
        | ex c y s3 =>
          rw [hg] at ok2
          exact fun w3 x3 m3 _ cls d hx => ⟨c, y, s3, w3, rfl, m3, hx, ok2 w3 x3 m3⟩
    · exact ok1.elim
  · exact ok1.elim
theorem pd_meth {pl : Sem Bool} {j : Nat} {m' : Str} (c : Nat) (hq : m' = m) (B : Bd X CT T W k) (F : FnG X.prog X.w X.K X.mg X.base k f fd ps (spG X.K CT T n g)) (hn : n = ps.length) (hc : Cls X.K (CT c)) (hm : Meth X.K (CT c) m' f) (hb : Binds X.K fd ps dvu) (hd : Vals dvs dvu) (hdd : ∀ w, RDs X.K w dd dvs)
    (ho : PD X CT W o fo) (ha : PDA X CT W (a :: es) l) (hl : AV.len l j) (hmn : j + dd.length + 1 = n)
    (hst : starEach (a :: es) X.env = (false, eval a X.env) :: starEach es X.env := by rfl) (hpl : (backTo pos (starEach es X.env)).any (·.1) = false := by rfl)
    (ht : eval (.Call (.Attribute o m' apos) (a :: es) [] pos) X.env = (do
      let ov ← eval o X.env
      standAt apos.atName
      let (f, first) ← holding [ov] (getMethod ov m' pl)
      callWith pos f first (backTo pos (starEach (a :: es) X.env)) (backToKw pos (keywordEach [] X.env))) := by rfl) :
    PD X CT W (.Call (.Attribute o m' apos) (a :: es) [] pos) (eMeth m c g dd fo l) := by
  subst hq
  refine ⟨fun pins s σ H Q I q => ?_⟩
  have q' := meth_reads (T := T) c hn hdd hl hmn q
  refine PySem.W.methodCall_KW (pl := pl) (thn (ho.run pins s σ H _ I q') fun u s1 ⟨x, H1, I1, rx, a, dx, fs, ex, ea, lk, q⟩ => ?_) ht
  subst ex
  obtain rfl : u = Value.ref a := rx
  refine getmeth_ok I1 ea hc hm lk ?_
  refine PySem.W.callWith_K (first := [.ref a]) (h₀ := X.base) I.ok.mod.kin hm.kp (thn (ha.run pos pins s1 σ H1 _ I1 q) fun us s2 ⟨vs, H2, I2, r, q2⟩ => ⟨I2.kIn, ?_⟩) hst hpl
  exact run_G (us := .ref a :: us) (vs := .ref a :: vs) F B.room hb hd (passAt B.tk σ) I2 (.cons rfl r) q2
theorem pd_meth0 {pl : Sem Bool} {m' : Str} (c : Nat) (hq : m' = m) (B : Bd X CT T W k) (F : FnG X.prog X.w X.K X.mg X.base k f fd ps (spG X.K CT T n g)) (hn : n = ps.length) (hc : Cls X.K (CT c)) (hm : Meth X.K (CT c) m' f) (hb : Binds X.K fd ps dvu) (hd : Vals dvs dvu) (hdd : ∀ w, RDs X.K w dd dvs)
    (ho : PD X CT W o fo) (hmn : dd.length + 1 = n)
    (ht : eval (.Call (.Attribute o m' apos) [] [] pos) X.env = (do
      let ov ← eval o X.env
      standAt apos.atName
      let (f, first) ← holding [ov] (getMethod ov m' pl)
      callWith pos f first (backTo pos (starEach [] X.env)) (backToKw pos (keywordEach [] X.env))) := by rfl) :
    PD X CT W (.Call (.Attribute o m' apos) [] [] pos) (eMeth m c g dd fo aNil) := by
  subst hq
  refine ⟨fun pins s σ H Q I q => ?_⟩
  have q' := meth_reads (T := T) (j := 0) c hn hdd len_nil (by omega) q
  refine PySem.W.methodCall_KW (pl := pl) (thn (ho.run pins s σ H _ I q') fun u s1 ⟨x, H1, I1, rx, a, dx, fs, ex, ea, lk, q⟩ => ?_) ht
  subst ex
  obtain rfl : u = Value.ref a := rx
  refine getmeth_ok I1 ea hc hm lk ?_
  obtain ⟨w, s0, e, hw, m0, re, ok⟩ := q
  have q2 := ok.get Ext.refl m0 [] rfl
  rw [hw] at q2
  exact PySem.W.callWith_K0 (first := [.ref a]) I1.kIn hm.kp (run_G (us := [.ref a]) (vs := [.ref a]) F B.room hb hd (passAt B.tk σ) I1 (.cons rfl .nil) q2)

theorem guards_make {A : Around} {C : Addr} {us : List Value} {kw : List (Str × Value)} : (A.under (.builtin "type.__call__" ⟨.ref C :: us, kw⟩)).guards = A.guards := by
  first | rfl | simp [Around.under, Code.isGuard, guardIds]
theorem make_reads {σ : L2.St} {H : Hp} {Q : VK} (c : Nat) {j : Nat} (hdd : ∀ w, RDs X.K w dd dvs) (hl : AV.len l j) (hmn : j + dd.length + 1 = n) (q : tD X.K CT W (eMake c g dd l) σ H Q) :
    tDA X.K CT W l σ H fun vs H1 => ∀ x dx, H1 x = none → H1 dx = none → dx ≠ x → spG X.K CT T n g (.ref x :: (vs ++ dvs)) (upd (upd H1 dx (.own x)) x (.ins (CT c) dx [])) (fun v H2 => v = .non ∧ Q (.ref x) H2) (WE (WL X.K CT T W) σ) := by
  obtain ⟨w, s, e, rfl, m0, re, ok⟩ := q
  refine ⟨w, s, e, rfl, m0, re, ?_⟩
  have ok' := Ok.bind ok
  cases hr : l e s with
  | bad => rw [hr] at ok'; exact ok'
  | ex c y s' => rw [hr] at ok'; exact ok'
  | ok ds s1 =>
    rw [hr] at ok'
    intro w1 x1 m1 vs rvs x dx hx hdx hne
    obtain ⟨_, _, ok1⟩ := ok' w1 x1 m1
    have e2 := m1.extT (o := .own x) hdx
    have m2 := m1.newT (o := .own x) hdx
    have hx2 : upd w1.H dx (.own x) x = none := by
      rw [upd_ne hne.symm]
      exact hx
    have e3 := m2.extO (o := .ins (CT c) dx []) hx2
    have m3 := m2.newO (u := .ins (CT c) dx []) (o := .ins c []) hx2 ⟨dx, [], upd_same, rfl⟩
    have e13 := e2.trans e3
    have rx : RD X.K (Wd.addO { w1 with H := upd w1.H dx (.own x) } x (.ins (CT c) dx [])) (.ref s1.length) (.ref x) := ⟨x, by
      show (w1.mu ++ [x])[s1.length]? = _
      rw [← m1.len]
      simp, rfl⟩
    refine ⟨_, s1 ++ [.ins c []], .ref s1.length :: (ds ++ dd), rfl, m3, ⟨_, _, rfl, rx, (RDs.ext e13 _ _ rvs).append (hdd _)⟩, by simp [hl _ _ _ _ hr]; omega, ?_⟩
    have ok2 := Ok.bind (Ok.ext e13 ok1)
    cases hg : g (.ref s1.length :: (ds ++ dd)) (s1 ++ [.ins c []]) with
    | bad => rw [hg] at ok2; exact ok2
    | ok d s3 =>
      rw [hg] at ok2
      intro w3 x3 m3' v rv
      obtain ⟨_, _, ok3⟩ := ok2 w3 x3 m3'
      cases d with
      | p y =>
        cases y with
        | none => exact ⟨rv, nowD m3' ok3 (RD.ext x3 _ _ rx)⟩
        | _ => exact ok3.elim
      | _ => exact ok3.elim
    | ex c y s3 =>
      rw [hg] at ok2
      exact fun w3 x3 m3' _ cls d hx => ⟨c, y, s3, w3, rfl, m3', hx, ok2 w3 x3 m3'⟩
theorem run_makeG {sp : Sp} {E : XK} {pins : List (Addr × Obj)} {σ : L2.St} {H : Hp} {s : Shared} {Q : VK} {us : List Value} {vs : List V} {C : Addr} (M : Mk X.K C f) (F : FnG X.prog X.w X.K X.mg X.base k f fd ps sp) (B : Bd X CT T W k) (hb : Binds X.K fd ps dvu) (hd : Vals dvs dvu)
    (hx : PassesAt (L2.CX X.prog X.w) X σ E) (I : Inv X pins σ H s) (r : Vals vs us)
    (h : ∀ x dx, H x = none → H dx = none → dx ≠ x → sp (.ref x :: (vs ++ dvs)) (upd (upd H dx (.own x)) x (.ins C dx [])) (fun v H2 => v = .non ∧ Q (.ref x) H2) E) :
    wpAny (model X.prog X.w) X.A (call (.ref C) us) (EP X pins σ Q) X.xe s := by
  have hq := h (s.heap.objs.size + 1) s.heap.objs.size (I.hok.fresh (Nat.le_succ _)) (I.hok.fresh (Nat.le_refl _)) (Nat.ne_of_lt (Nat.lt_succ_self _))
  have I2 := Inv.made (C := C) I
  have r2 : Vals (V.ref (s.heap.objs.size + 1) :: (vs ++ dvs)) (Value.ref (s.heap.objs.size + 1) :: (us ++ dvu)) := .cons rfl (r.append hd)
  have hl : (Value.ref (s.heap.objs.size + 1) :: us ++ dvu).length = ps.length := by
    have e := r2.length
    rw [F.len _ _ _ _ hq] at e
    exact e.symm
  have room : RoomG k (X.A.under (.builtin "type.__call__" ⟨.ref C :: us, []⟩)) := ⟨B.room.hd, guards_make.trans B.room.gd, by
    have := B.dp1
    rw [make_depth]
    omega, by
    have := B.dp1
    rw [make_units]
    omega⟩
  refine wpAny_call (make_map (f := f) I.kIn M.makes M.init (beq_iff_eq.mp M.fn) (codeAny_mono (F.run _ X.stack _ _ ⟨Value.ref (s.heap.objs.size + 1) :: us, []⟩ (Value.ref (s.heap.objs.size + 1) :: (us ++ dvu)) _ _ E room
    (I2.env0.make C us []) (hb _ (Value.ref (s.heap.objs.size + 1) :: us) I2.kIn hl) r2 hq) fun r s' hq' => ?_))
  rcases r with e | (_ | _ | _ | u)
  case error => exact hx pins _ _ e s' I2 hq'
  all_goals first | exact False.elim hq' | skip
  obtain ⟨v, H', I3, rv, ev, q3⟩ := I2.after hq'
  subst ev
  exact ⟨rv, ⟨V.ref (s.heap.objs.size + 1), H', I3, rfl, q3⟩⟩
theorem pd_make {j : Nat} (c : Nat) (B : Bd X CT T W k) (M : Mk X.K (CT c) f) (F : FnG X.prog X.w X.K X.mg X.base k f fd ps (spG X.K CT T n g)) (hg : Gl X x) (hm : X.mg x = some (.ref (CT c))) (hb : Binds X.K fd ps dvu) (hd : Vals dvs dvu) (hdd : ∀ w, RDs X.K w dd dvs)
    (ha : PDA X CT W (a :: es) l) (hl : AV.len l j) (hmn : j + dd.length + 1 = n)
    (hdb : (x == ("__debug__" : Str)) = false := by decide) (he : starEach (a :: es) X.env = (false, eval a X.env) :: starEach es X.env := by rfl) (hpl : (backTo pos (starEach es X.env)).any (·.1) = false := by rfl) :
    PD X CT W (.Call (.Name x p) (a :: es) [] pos) (eMake c g dd l) := by
  refine ⟨fun pins s σ H Q I q => ?_⟩
  have q' := make_reads (T := T) c hdd hl hmn q
  refine wpAny_Call_Name_kw (ld_glob I hg hm ?_ hdb)
  refine PySem.W.callWith_K (h₀ := X.base) I.ok.mod.kin M.kp (thn (ha.run pos pins s σ H _ I q') fun us s1 ⟨vs, H1, I1, r, q1⟩ => ⟨I1.kIn, ?_⟩) he hpl
  exact run_makeG M F B hb hd (passAt B.tk σ) I1 r q1
theorem pd_make0 (c : Nat) (B : Bd X CT T W k) (M : Mk X.K (CT c) f) (F : FnG X.prog X.w X.K X.mg X.base k f fd ps (spG X.K CT T n g)) (hg : Gl X x) (hm : X.mg x = some (.ref (CT c))) (hb : Binds X.K fd ps dvu) (hd : Vals dvs dvu) (hdd : ∀ w, RDs X.K w dd dvs)
    (hmn : dd.length + 1 = n) (hdb : (x == ("__debug__" : Str)) = false := by decide) : PD X CT W (.Call (.Name x p) [] [] pos) (eMake c g dd aNil) := by
  refine ⟨fun pins s σ H Q I q => ?_⟩
  have q' := make_reads (T := T) (dd := dd) (n := n) (j := 0) c hdd len_nil (by omega) q
  refine wpAny_Call_Name_kw (ld_glob I hg hm ?_ hdb)
  refine PySem.W.callWith_K0 I.kIn M.kp ?_
  obtain ⟨w, s0, e, hw, m0, re, ok⟩ := q'
  have q2 := ok.get Ext.refl m0 [] rfl
  rw [hw] at q2
  exact run_makeG (us := []) (vs := []) M F B hb hd (passAt B.tk σ) I .nil q2
end

/-! ### one list of ints before another -/
def ltI : List Int → List Int → Bool
  | [], [] => false
  | [], _ :: _ => true
  | _ :: _, [] => false
  | x :: xs, y :: ys => if x = y then ltI xs ys else decide (x < y)
theorem firstLt_map {e r : Nat → Bool} {fin : Bool} (g : Nat → Nat) : ∀ l : List Nat, SeqAt.firstLt e r fin (l.map g) = SeqAt.firstLt (fun i => e (g i)) (fun i => r (g i)) fin l
  | [] => rfl
  | j :: t => by
    simp only [List.map_cons]
    unfold SeqAt.firstLt
    rw [firstLt_map g t]
theorem firstLt_ltI : ∀ ns ms : List Int, SeqAt.firstLt (fun j => ns.getD j 0 == ms.getD j 0) (fun j => decide (ns.getD j 0 < ms.getD j 0)) (decide (ns.length < ms.length)) (List.range (min ns.length ms.length)) = ltI ns ms
  | [], [] => rfl
  | [], y :: ys => by simp [SeqAt.firstLt, ltI]
  | x :: xs, [] => by simp [SeqAt.firstLt, ltI]
  | x :: xs, y :: ys => by
    have ih := firstLt_ltI xs ys
    rw [show min (x :: xs).length (y :: ys).length = min xs.length ys.length + 1 by simp only [List.length_cons]; omega, List.range_succ_eq_map]
    unfold SeqAt.firstLt ltI
    rw [firstLt_map]
    simp only [List.getD_cons_zero, List.getD_cons_succ, beq_iff_eq, List.length_cons, Nat.add_lt_add_iff_right]
    rw [ih]
def rLtL (K : PySem.W.Frag) : R2 := fun x y H Q => ∃ a b ns ms, x = .ref a ∧ y = .ref b ∧ SqL K H a (ns.map V.int) ∧ SqL K H b (ms.map V.int) ∧ Q (.bl (ltI ns ms)) H
theorem IntsAre.at' {us : List Value} {ns : List Int} (h : IntsAre us ns) : ∀ (j : Nat) (hj : j < us.length), ∃ t, us[j] = .int (ns.getD j 0) t := by
  induction h with
  | nil => exact fun j hj => absurd hj (by simp)
  | cons a t r ih =>
    intro j hj
    cases j with
    | zero => exact ⟨t, rfl⟩
    | succ j =>
      obtain ⟨t', ht⟩ := ih j (by simpa using hj)
      exact ⟨t', by simpa using ht⟩
theorem op_ltL {X : Cx} (hu : X.A.units < cLine) : OpR X (compareOp .Lt) (rLtL X.K) := by
  intro pins s σ H x y v u Q I rx ry h
  obtain ⟨a, b, ns, ms, rfl, rfl, ha, hb, q⟩ := h
  cases rx
  cases ry
  obtain ⟨its, r1, p1, _⟩ := I.list ha
  obtain ⟨its2, r2, p2, _⟩ := I.list hb
  have i1 : IntsAre its ns := intsAre_of r1
  have i2 : IntsAre its2 ms := intsAre_of r2
  have l1 : ns.length = its.length := by simpa using r1.length
  have l2 : ms.length = its2.length := by simpa using r2.length
  refine SeqAt.RcLt.lists (e := fun j => ns.getD j 0 == ms.getD j 0) (r := fun j => decide (ns.getD j 0 < ms.getD j 0)) p1.isList p2.isList hu (fun j h1 h2 => ?_) (fun j h1 h2 _ => ?_) _ _ _ _ ⟨.bl (ltI ns ms), H, I, ?_, q⟩
  · obtain ⟨t1, e1⟩ := IntsAre.at' i1 j (by simpa using h1)
    obtain ⟨t2, e2⟩ := IntsAre.at' i2 j (by simpa using h2)
    have e1 : its.toArray[j] = .int (ns.getD j 0) t1 := by simpa using e1
    have e2 : its2.toArray[j] = .int (ms.getD j 0) t2 := by simpa using e2
    rw [e1, e2]
    exact SeqAt.EqAt.int_int _ _ _ _
  · obtain ⟨t1, e1⟩ := IntsAre.at' i1 j (by simpa using h1)
    obtain ⟨t2, e2⟩ := IntsAre.at' i2 j (by simpa using h2)
    have e1 : its.toArray[j] = .int (ns.getD j 0) t1 := by simpa using e1
    have e2 : its2.toArray[j] = .int (ms.getD j 0) t2 := by simpa using e2
    rw [e1, e2]
    exact fun prog w E Q h => PyProof.Rows.lt_int h
  · have := firstLt_ltI ns ms
    rw [l1, l2] at this
    simp only [List.size_toArray]
    exact congrArg Value.bool this
def intsD : List D → Option (List Int)
  | [] => some []
  | .p (.int i) :: r => (intsD r).map fun l => i :: l
  | _ => none
theorem intsD_some : ∀ {ds : List D} {ns : List Int}, intsD ds = some ns → ds = ns.map fun i => .p (.int i)
  | [], ns, h => by cases h; rfl
  | .p (.int i) :: r, ns, h => by
    unfold intsD at h
    cases e : intsD r with
    | none => rw [e] at h; cases h
    | some l =>
      rw [e] at h
      cases h
      rw [intsD_some e]
      rfl
  | .p .none :: _, _, h => nomatch h
  | .p (.bool _) :: _, _, h => nomatch h
  | .p (.str _) :: _, _, h => nomatch h
  | .p (.tuple _) :: _, _, h => nomatch h
  | .p (.list _) :: _, _, h => nomatch h
  | .p (.dict _) :: _, _, h => nomatch h
  | .ref _ :: _, _, h => nomatch h
  | .bag _ :: _, _, h => nomatch h
  | .ro _ :: _, _, h => nomatch h
theorem intsD_map (ns : List Int) : intsD (ns.map fun i => .p (.int i)) = some ns := by
  induction ns with
  | nil => rfl
  | cons n ns ih => simp [intsD, ih]
theorem RDs.ints {K : PySem.W.Frag} {w : Wd} : ∀ {ns : List Int} {vs : List V}, RDs K w (ns.map fun i => .p (.int i)) vs → vs = ns.map V.int
  | [], _, h => h
  | n :: ns, _, h => by
    obtain ⟨v, r, rfl, h1, h2⟩ := h
    rw [RDs.ints h2, show v = V.int n from h1]
    rfl
def hLtL : D → D → Sto → R D := fun x y s => match asL s x, asL s y with
  | some xs, some ys => match intsD xs, intsD ys with
    | some ns, some ms => .ok (.p (.bool (ltI ns ms))) s
    | _, _ => .bad
  | _, _ => .bad
theorem opd_ltL {K : PySem.W.Frag} {CT : Nat → Addr} : OpD K CT (rLtL K) hLtL := by
  intro W w s x y vx vy Q m rx ry ok
  unfold hLtL at ok
  split at ok
  · rename_i xs ys e1 e2
    split at ok
    · rename_i ns ms e3 e4
      obtain ⟨a, vs, rfl, h1, h2⟩ := asL_rep m rx e1
      obtain ⟨b, us, rfl, h3, h4⟩ := asL_rep m ry e2
      rw [intsD_some e3] at h2
      rw [intsD_some e4] at h4
      rw [RDs.ints h2] at h1
      rw [RDs.ints h4] at h3
      exact ⟨a, b, ns, ms, rfl, rfl, h1, h3, now m ok rfl⟩
    · exact ok.elim
  · exact ok.elim
section
variable {X : Cx} {CT : Nat → Addr} {T : ExT} {W : XW} {k : Nat} {pos : Pos} {a b : Expr} {f g : EV}
theorem pd_ltL (hu : X.A.units + 65 < cLine) (ha : PD X CT W a f) (hb : PD X CT W b g) : PD X CT W (.Compare a [.Lt] [b] pos) (eOp hLtL f g) := pd_cmp (op_ltL (by omega)) opd_ltL ha hb
end

/-! ### try: body, except C as e: return g if e.f == text else h -/
def sTryIf (m : Nat → Bool) (i : Nat) (z : Str) (b : SV) (g h : EV) : SV := fun e s => match b e s with
  | .ex c x e' s' => if m c then (match x with
    | .str y => if i < e'.length then (match (if y = z then g (e'.set i none) s' else h (e'.set i none) s') with
      | .ok d s2 => .rt d s2
      | _ => .bad) else .bad
    | _ => .bad) else .ex c x e' s'
  | r => r
theorem RE.hide {K : PySem.W.Frag} {w : Wd} {e : En} {σ : L2.St} (r : RE K w e σ) (i : Nat) (o : Option V) : RE K w (e.set i none) (σ.set i o) := ⟨by simp [r.len], fun j d hj => by
  by_cases hij : i = j
  · subst hij
    obtain ⟨hl, hv⟩ := List.getElem?_eq_some_iff.mp hj
    rw [List.getElem_set_self] at hv
    cases hv
  · rw [List.getElem?_set_ne hij] at hj
    obtain ⟨u, h1, h2⟩ := r.at' j d hj
    exact ⟨u, by rw [List.getElem?_set_ne hij]; exact h1, h2⟩⟩
section
variable {X : Cx} {CT : Nat → Addr} {T : ExT} {W : XW} {k i : Nat} {pos pos' np p1 p2 p4 p5 p6 p7 p8 : Pos} {p3 : Nat} {body : List Stmt} {u : SV} {x n : Str} {C : Addr} {f z' z : Str} {m : Nat → Bool} {ga ha : Expr} {g h : EV}
theorem ps_tryIf (B : Bd X CT T W k) (hs : X.stack = X.env :: X.outer) (hf : X.env.frame = some X.env.locals) (i : Nat) (hc : Names X x (.ref C)) (hT : ∀ c, PySem.W.exmOne X.K (.ref (T.cls c)) (.ref C) = some (m c)) (hC : ∀ c, m c = true → T.cls c = C ∧ T.fld c = f)
    (XC : XfC X.K C) (hno : PySem.W.findIn X.K (.ref C) f = some none) (hz : z' = z)
    (hb : ∀ (W' : XW) (pn : List (Addr × Obj)) (xe : Value → Shared → Prop), Bd (X.tr pn xe) CT T W' k → PDB (X.tr pn xe) CT W' body u)
    (hg : ∀ (a : Addr) (pn : List (Addr × Obj)), PD (X.suite a pn) CT W0 ga g) (hh : ∀ (a : Addr) (pn : List (Addr × Obj)), PD (X.suite a pn) CT W0 ha h)
    (hi : X.N[i]? = some n := by rfl) (hln : X.env.kindOf n = some .local := by rfl) (hd : (n == ("__debug__" : Str)) = false := by decide) (hcd : (n == ("__classdict__" : Str)) = false := by decide)
    (hab : attributeBase (.Name n p1) f X.env (eval (.Name n p1) X.env) = eval (.Name n p1) X.env := by rfl)
    (hcm : behindInMarks .Eq (.Constant (.str z') p3 p4) = false := by first | exact nobehind _ (by decide) (by decide) | rfl) :
    PDS X CT W (.Try body [.ExceptHandler (some (.Name x np)) (some n) [.Return (some (.IfExp (.Compare (.Attribute (.Name n p1) f p2) [.Eq] [.Constant (.str z') p3 p4] p5) ga ha p7)) p6] pos'] [] [] pos) (sTryIf m i z u g h) := by
  subst hz
  refine (ps_try_as (ts := fun a cls d D σ H => tIf (tTest (tOp rEq (tXf a cls d C f (tVar i)) (tC (.str z')))) (tD X.K CT W0 g) (tD X.K CT W0 h) σ H (fun v H1 => D.rt v H1)) (tb := fun W' => tDS X.K CT (WofX X.K T W') u) hs hf B.nd hi hln hc B.tk
    (fun W' pn xe tk po => hb _ pn xe (B.tr tk po)) (fun a oe cls d pn hz hfl => pss_one (ps_ret (pe_ifExp (pt_cmpR op_eq (pe_xf XC hno hz hfl (pe_var hi (.inl hln) hd hcd) hab) pe_str hcm) (hg a ((a, oe) :: pn)) (hh a ((a, oe) :: pn)))))).imp fun D σ H q => ?_
  obtain ⟨w, s, e, rfl, sm, re, ok⟩ := q
  refine ⟨w, s, e, rfl, sm, re, ?_⟩
  unfold sTryIf at ok
  cases hu : u e s with
  | nx e' s' => rw [hu] at ok; exact ok
  | rt d s' => rw [hu] at ok; exact ok
  | bk e' s' => rw [hu] at ok; exact ok
  | ct e' s' => rw [hu] at ok; exact ok
  | bad => rw [hu] at ok; exact ok
  | ex c y e' s' =>
    rw [hu] at ok
    intro w' σ' x1 m1 r1 cls d xr
    refine ⟨m c, by rw [xr.1]; exact hT c, fun hm a na => ?_, fun hm => ?_⟩
    · simp only [hm, if_true] at ok
      cases y with
      | str zz =>
        obtain ⟨xc, dd, v, xd, xh, xv⟩ := xr
        have xv : v = .str zz := xv
        subst xv
        simp only [] at ok
        split at ok
        case isFalse => exact ok.elim
        rename_i il
        rw [r1.len] at il
        refine ⟨.ref a, ?_, rfl, ?_⟩
        · rw [List.getElem?_set_self il]
        · refine ⟨by rw [xc, (hC c hm).1], dd, [(T.fld c, .str zz)], .str zz, xd, xh, ?_, ?_⟩
          · rw [(hC c hm).2]
            simp [List.lookup]
          · refine ⟨rfl, decide (V.str zz = V.str z'), rfl, ?_⟩
            have r2 : RE X.K w' (e'.set i none) (σ'.set i (some (.ref a))) := r1.hide i _
            by_cases ez : zz = z'
            · simp only [ez, if_true] at ok
              show (if decide (V.str zz = V.str z') = true then _ else _)
              rw [if_pos (by simp [ez])]
              refine ⟨w', s', _, rfl, m1, r2, ?_⟩
              cases hg2 : g (e'.set i none) s' with
              | ok d2 s2 =>
                rw [hg2] at ok
                exact fun w2 x2 m2 v rv => ok w2 v (x1.trans x2) m2 rv
              | ex _ _ _ => rw [hg2] at ok; exact ok.elim
              | bad => rw [hg2] at ok; exact ok.elim
            · simp only [ez, if_false] at ok
              show (if decide (V.str zz = V.str z') = true then _ else _)
              rw [if_neg (by simp [ez])]
              refine ⟨w', s', _, rfl, m1, r2, ?_⟩
              cases hg2 : h (e'.set i none) s' with
              | ok d2 s2 =>
                rw [hg2] at ok
                exact fun w2 x2 m2 v rv => ok w2 v (x1.trans x2) m2 rv
              | ex _ _ _ => rw [hg2] at ok; exact ok.elim
              | bad => rw [hg2] at ok; exact ok.elim
      | _ => exact ok.elim
    · simp only [hm] at ok
      exact ⟨c, y, s', w', rfl, m1, xr, ok w' σ' x1 m1 r1⟩
end

/-! ### defs of the text: of the module, of a class -/
def clsS (st : Stmt) (j : Nat) : Stmt := match st with
  | .ClassDef _ _ _ body _ _ _ _ _ _ _ => body.getD j (.Pass ⟨0, 0, 0, 0⟩)
  | s => s
structure DfQ (K : PySem.W.Frag) (mg : Str → Option Value) (nm ql : Str) (gn : Bool) (st : Stmt) (hd : Bool) (f : Addr) (fd : FuncData) : Prop where
  ex : ∃ (oc : Value) (od : Option Addr) (dV kV doc pm : Value) (an : Option Addr) (cdv ct : Value) (osl : Array (Option Value)),
    fd = PySem.W.fnOf nm ql (defArgs st) (defBody st) (defScope st) dV kV doc pm an cdv ct ∧ K.lookup f = some ⟨oc, od, .func fd, osl⟩ ∧ PySem.W.codeIn K cdv ql = true ∧ (hd = false → dV = .none)
  kp : PySem.W.keepIn K (.ref f) = true
  gl : gn = true → mg nm = some (.ref f)
theorem DfQ.ok {P : Program} {w : World} {K : PySem.W.Frag} {mg : Str → Option Value} {base : Heap} {CT : Nat → Addr} {T : ExT} {k : Nat} {nm ql : Str} {gn : Bool} {st : Stmt} {hd : Bool} {f : Addr} {fd : FuncData} {N ps : List Str} {b : SV}
    (F : DfQ K mg nm ql gn st hd f fd) (S : FnScope N ps (defScope st))
    (body : ∀ (cdv : Value) (A : Around) (fr : List Env) (s : Shared) (H : Hp) (E : XK) (W : XW), Bd (cxOf (L2.CX P w) P w K mg base N ql (defScope st) f cdv A fr s H E) CT T W k → PDB (cxOf (L2.CX P w) P w K mg base N ql (defScope st) f cdv A fr s H E) CT W (defBody st) b) :
    FnG P w K mg base (k + 1) f fd ps (spG K CT T ps.length (runB N.length b)) := by
  obtain ⟨oc, od, dV, kV, doc, pm, an, cdv, ct, osl, rfl, lk, hcd, hz⟩ := F.ex
  exact fnG_of lk hcd S (fun w s ds Q E _ h => h) fun A fr s H E W B => body cdv A fr s H E W B
theorem DfQ.okL {P : Program} {w : World} {K : PySem.W.Frag} {mg : Str → Option Value} {base : Heap} {CT : Nat → Addr} {T : ExT} {k : Nat} {nm ql : Str} {gn : Bool} {st : Stmt} {hd : Bool} {f : Addr} {fd : FuncData} {N ps : List Str} {b : SV}
    (F : DfQ K mg nm ql gn st hd f fd) (S : FnScope N ps (defScope st))
    (body : ∀ (cdv : Value) (A : Around) (fr : List Env) (s : Shared) (H : Hp) (E : XK) (W : XW), Bd (cxOf (L2.CX P w) P w K mg base N ql (defScope st) f cdv A fr s H E) CT T W k → PDB (cxOf (L2.CX P w) P w K mg base N ql (defScope st) f cdv A fr s H E) CT W (defBody st) b) :
    FnG P w K mg base (k + 1) f fd ps (spG K CT T ps.length fun ds s => leave s (runB N.length b ds s)) := by
  obtain ⟨oc, od, dV, kV, doc, pm, an, cdv, ct, osl, rfl, lk, hcd, hz⟩ := F.ex
  refine fnG_of lk hcd S (fun w s ds Q E m h => leave_ok m (fun c x s1 w1 s2 w2 l hx m2 q _ cls d hE => ?_) h) fun A fr s H E W B => body cdv A fr s H E W B
  obtain ⟨e1, dd, v, e2, e3, e4⟩ := hE
  have := q m2 cls d ⟨e1, dd, v, e2, by rw [l.H]; exact e3, hx v e4⟩
  rw [l.H] at this
  exact this
theorem DfQ.binds {K : PySem.W.Frag} {mg : Str → Option Value} {nm ql : Str} {gn : Bool} {st : Stmt} {f : Addr} {fd : FuncData} {ps : List Str} (F : DfQ K mg nm ql gn st false f fd)
    (h : ∀ (kV doc pm : Value) (an : Option Addr) (cdv ct : Value) (us : List Value), us.length = ps.length → bindArgs (PySem.W.fnOf nm ql (defArgs st) (defBody st) (defScope st) .none kV doc pm an cdv ct) ⟨us, []⟩ = pure (ps.zip us)) : Binds K fd ps [] := by
  obtain ⟨oc, od, dV, kV, doc, pm, an, cdv, ct, osl, rfl, lk, hcd, hz⟩ := F.ex
  cases hz rfl
  exact .all (h kV doc pm an cdv ct)
end Dl
/-! law_k09_draws_of_a_tape: the defs as functions on data (printed by gen.py). -/
namespace Lk09
open PySem Dl
inductive Fn where
  | Tape_init
  | Tape_draw
  | Tape_step
  | c_trimmed
  | c_shorter
  | law_stream
  | law_take
  | law_steps
  | c_law
abbrev Cs := Fn → List D → Sto → R D
def wN : Nat := 100000000
def q_numbers : Str := ⟨#[110, 117, 109, 98, 101, 114, 115]⟩
theorem e_numbers : Str.ofString "numbers" = q_numbers := by rfl
def q_sizes : Str := ⟨#[115, 105, 122, 101, 115]⟩
theorem e_sizes : Str.ofString "sizes" = q_sizes := by rfl
def q_told : Str := ⟨#[116, 111, 108, 100]⟩
theorem e_told : Str.ofString "told" = q_told := by rfl
def q_steps : Str := ⟨#[115, 116, 101, 112, 115]⟩
theorem e_steps : Str.ofString "steps" = q_steps := by rfl
def q_deep : Str := ⟨#[100, 101, 101, 112]⟩
theorem e_deep : Str.ofString "deep" = q_deep := by rfl
def q_step : Str := ⟨#[115, 116, 101, 112]⟩
theorem e_step : Str.ofString "step" = q_step := by rfl
def q_draw : Str := ⟨#[100, 114, 97, 119]⟩
theorem e_draw : Str.ofString "draw" = q_draw := by rfl
def k_MAX_STEPS : PyData := (.int 4000)
def m_TooLarge (c : Nat) : Bool := c == 0
def b_Tape_init (C : Cs) : SV :=
  (sSeq (sFldD q_numbers (eVar 0) (eBlt (hList false) (aCons (eVar 1) aNil)))
  (sSeq (sFldD q_sizes (eVar 0) (eLst true aNil))
  (sSeq (sFldD q_told (eVar 0) (eLst true aNil))
  (sSeq (sFldD q_steps (eVar 0) (eC (.int 0)))
  (sFldD q_deep (eVar 0) (eC (.int 0)))))))
def b_Tape_draw (C : Cs) : SV :=
  (sSeq (sIf (tB (eOp hEq (eVar 1) (eC (.int 1))))
  (sRet (eC (.int 0)))
  sNil)
  (sSeq (sSet 2 (eC (.int 0)))
  (sSeq (sIf (tB (eOp hLt (eBlt hLen (aCons (eFld q_told (eVar 0)) aNil)) (eBlt hLen (aCons (eFld q_numbers (eVar 0)) aNil))))
  (sSet 2 (eOp hMod (eOp hIx (eFld q_numbers (eVar 0)) (eBlt hLen (aCons (eFld q_told (eVar 0)) aNil))) (eVar 1)))
  sNil)
  (sSeq (sExpr (eMeL hAppend (eFld q_sizes (eVar 0)) (aCons (eVar 1) aNil)))
  (sSeq (sExpr (eMeL hAppend (eFld q_told (eVar 0)) (aCons (eVar 2) aNil)))
  (sRet (eVar 2)))))))
def b_Tape_step (C : Cs) : SV :=
  (sSeq (sIf (tB (eOp hEq (eFld q_steps (eVar 0)) (eC k_MAX_STEPS)))
  (sRaise 0 (eC (.str q_steps)))
  sNil)
  (sFldAugD q_steps hIAdd (eVar 0) (eC (.int 1))))
def b_c_trimmed (C : Cs) : SV :=
  (sSeq (sSet 1 (eBlt hLen (aCons (eVar 0) aNil)))
  (sSeq (sWhile wN (tAnd (tB (eOp hGt (eVar 1) (eC (.int 0)))) (tB (eOp hEq (eOp hIx (eVar 0) (eOp hSub (eVar 1) (eC (.int 1)))) (eC (.int 0)))))
  (sAug 1 hSub (eC (.int 1))))
  (sRet (eBlt (hList false) (aCons (eCut false (eVar 0) oNone (oSome (eVar 1))) aNil)))))
def b_c_shorter (C : Cs) : SV :=
  (sSeq (sIf (tB (eOp hNe (eBlt hLen (aCons (eVar 0) aNil)) (eBlt hLen (aCons (eVar 1) aNil))))
  (sRet (eOp hLt (eBlt hLen (aCons (eVar 0) aNil)) (eBlt hLen (aCons (eVar 1) aNil))))
  sNil)
  (sRet (eOp hLtL (eVar 0) (eVar 1))))
def b_law_stream (C : Cs) : SV :=
  (sSeq (sSet 1 (eLst true (aCons (eC (.int 1)) aNil)))
  (sSeq (sFor (iSeq (eCut false (eVar 0) oNone (oSome (eC (.int 63))))) (gSet 2)
  (sSeq (sSet 3 (eBlt hAbs (aCons (eBlt hInt (aCons (eVar 2) aNil)) aNil)))
  (sFor (iRange1 (eC (.int 60))) (gSet 4)
  (sSeq (sExpr (eMeL hAppend (eVar 1) (aCons (eOp hMod (eVar 3) (eC (.int 59))) aNil)))
  (sSeq (sSet 3 (eOp hDiv (eVar 3) (eC (.int 59))))
  (sIf (tB (eOp hEq (eVar 3) (eC (.int 0))))
  sBreak
  sNil))))))
  (sSeq (sSet 5 (eC (.int 7)))
  (sSeq (sFor (iSeq (eCut false (eVar 0) oNone (oSome (eC (.int 63))))) (gSet 2)
  (sSet 5 (eOp hMod (eBlt hInt (aCons (eOp hAdd (eOp hAdd (eOp hMul (eVar 5) (eC (.int 131))) (eVar 2)) (eC (.int 17))) aNil)) (eC (.int 1000003)))))
  (sSeq (sFor (iRange1 (eC (.int 150))) (gSet 4)
  (sSeq (sSet 5 (eOp hMod (eBlt hInt (aCons (eOp hAdd (eOp hAdd (eOp hMul (eVar 5) (eC (.int 48271))) (eOp hMul (eVar 4) (eC (.int 69621)))) (eC (.int 11))) aNil)) (eC (.int 2147483647))))
  (sExpr (eMeL hAppend (eVar 1) (aCons (eOp hMod (eOp hDiv (eVar 5) (eC (.int 1009))) (eC (.int 59))) aNil)))))
  (sRet (eVar 1)))))))
def b_law_take (C : Cs) : SV :=
  (sSeq (sIf (tB (eOp hLt (eOp hIx (eVar 0) (eC (.int 0))) (eBlt hLen (aCons (eVar 0) aNil))))
  (sSeq (sAsg (eOp hAdd (eOp hIx (eVar 0) (eC (.int 0))) (eC (.int 1))) (gIx (eVar 0) (eC (.int 0))))
  (sRet (eOp hMod (eBlt hInt (aCons (eOp hIx (eVar 0) (eOp hSub (eOp hIx (eVar 0) (eC (.int 0))) (eC (.int 1)))) aNil)) (eVar 1))))
  sNil)
  (sRet (eC (.int 0))))
def b_law_steps (C : Cs) : SV :=
  (sSeq (sSet 1 (eMake 0 (C .Tape_init) [] (aCons (eLst false aNil) aNil)))
  (sSeq (sFor (iRange1 (eVar 0)) (gSet 2)
  (sTryIf m_TooLarge 3 q_steps (sExpr (eMeth q_step 0 (C .Tape_step) [] (eVar 1) aNil)) (eVar 2) (eNeg (eC (.int 1)))))
  (sRet (eVar 0))))
def b_c_law (C : Cs) : SV :=
  (sSeq (sSet 1 (eCall (C .law_stream) [] (aCons (eVar 0) aNil)))
  (sSeq (sSet 2 (eLc false [16] (iSeq (eCut false (eVar 0) oNone (oSome (eC (.int 10))))) (gSet 16) tYes (eIf (tB (eOp hEq (eCall (C .law_take) [] (aCons (eVar 1) (aCons (eC (.int 2)) aNil))) (eC (.int 0)))) (eOp hMod (eBlt hAbs (aCons (eBlt hInt (aCons (eVar 16) aNil)) aNil)) (eOp hPow (eC (.int 10)) (eC (.int 30)))) (eCall (C .law_take) [] (aCons (eVar 1) (aCons (eC (.int 59)) aNil))))))
  (sSeq (sSet 3 (eOp hEq (eCall (C .law_take) [] (aCons (eVar 1) (aCons (eC (.int 4)) aNil))) (eC (.int 0))))
  (sSeq (sIf (tTru (eVar 3))
  (sSet 2 (eOp hAdd (eVar 2) (eLc false [8] (iRange1 (eOp hAdd (eC (.int 100)) (eCall (C .law_take) [] (aCons (eVar 1) (aCons (eC (.int 59)) aNil))))) (gSet 8) tYes (eOp hAdd (eC (.int 1)) (eCall (C .law_take) [] (aCons (eVar 1) (aCons (eC (.int 59)) aNil)))))))
  sNil)
  (sSeq (sSet 4 (eBlt (hList false) (aCons (eVar 2) aNil)))
  (sSeq (sSet 5 (eMake 0 (C .Tape_init) [] (aCons (eVar 2) aNil)))
  (sSeq (sSet 6 (eLst true aNil))
  (sSeq (sSet 7 (eLst true aNil))
  (sSeq (sFor (iRange1 (eIf (tTru (eVar 3)) (eOp hAdd (eC (.int 90)) (eCall (C .law_take) [] (aCons (eVar 1) (aCons (eC (.int 59)) aNil)))) (eCall (C .law_take) [] (aCons (eVar 1) (aCons (eC (.int 16)) aNil))))) (gSet 8)
  (sSeq (sSet 9 (eOp hAdd (eC (.int 1)) (eCall (C .law_take) [] (aCons (eVar 1) (aCons (eC (.int 59)) aNil)))))
  (sSeq (sIf (tB (eOp hEq (eCall (C .law_take) [] (aCons (eVar 1) (aCons (eC (.int 6)) aNil))) (eC (.int 0))))
  (sSet 9 (eOp hAdd (eC (.int 1)) (eOp hMul (eCall (C .law_take) [] (aCons (eVar 1) (aCons (eC (.int 2)) aNil))) (eOp hSub (eOp hPow (eC (.int 10)) (eC (.int 15))) (eC (.int 1))))))
  sNil)
  (sSeq (sSet 10 (eC (.int 0)))
  (sSeq (sIf (tB (eOp hGt (eVar 9) (eC (.int 1))))
  (sSeq (sSet 10 (eIf (tB (eOp hLt (eBlt hLen (aCons (eVar 6) aNil)) (eBlt hLen (aCons (eVar 2) aNil)))) (eOp hMod (eBlt hInt (aCons (eOp hIx (eVar 2) (eBlt hLen (aCons (eVar 6) aNil))) aNil)) (eVar 9)) (eC (.int 0))))
  (sSeq (sExpr (eMeL hAppend (eVar 6) (aCons (eVar 10) aNil)))
  (sExpr (eMeL hAppend (eVar 7) (aCons (eVar 9) aNil)))))
  sNil)
  (sSeq (sSet 11 (eMeth q_draw 0 (C .Tape_draw) [] (eVar 5) (aCons (eVar 9) aNil)))
  (sIf (tOr (tTru (eIsi "bool" (eVar 11))) (tOr (tNot (tTru (eIsi "int" (eVar 11)))) (tB (eOp hNe (eVar 11) (eVar 10)))))
  (sRet (eC (.bool false)))
  sNil)))))))
  (sSeq (sIf (tOr (tB (eOp hNe (eFld q_told (eVar 5)) (eVar 6))) (tOr (tB (eOp hNe (eFld q_sizes (eVar 5)) (eVar 7))) (tB (eOp hNe (eVar 2) (eVar 4)))))
  (sRet (eC (.bool false)))
  sNil)
  (sSeq (sSet 12 (eCall (C .law_take) [] (aCons (eVar 1) (aCons (eC (.int 4)) aNil))))
  (sSeq (sSet 13 (eLc false [8] (iRange1 (eCall (C .law_take) [] (aCons (eVar 1) (aCons (eC (.int 6)) aNil)))) (gSet 8) tYes (eCall (C .law_take) [] (aCons (eVar 1) (aCons (eC (.int 3)) aNil)))))
  (sSeq (sSet 10 (eBlt (hList false) (aCons (eVar 13) aNil)))
  (sSeq (sFor (iRange1 (eBlt hLen (aCons (eVar 13) aNil))) (gSet 8)
  (sIf (tAnd (tTru (eVar 10)) (tB (eOp hEq (eOp hIx (eVar 10) (eNeg (eC (.int 1)))) (eC (.int 0)))))
  (sSet 10 (eCut false (eVar 10) oNone (oSome (eNeg (eC (.int 1))))))
  sNil))
  (sSeq (sIf (tB (eOp hNe (eCall (C .c_trimmed) [] (aCons (eOp hAdd (eVar 13) (eOp hMul (eLst false (aCons (eC (.int 0)) aNil)) (eVar 12))) aNil)) (eVar 10)))
  (sRet (eC (.bool false)))
  sNil)
  (sSeq (sSet 14 (eLc false [8] (iRange1 (eCall (C .law_take) [] (aCons (eVar 1) (aCons (eC (.int 6)) aNil)))) (gSet 8) tYes (eCall (C .law_take) [] (aCons (eVar 1) (aCons (eC (.int 3)) aNil)))))
  (sSeq (sSet 15 (eOr (eOp hLt (eBlt hLen (aCons (eVar 13) aNil)) (eBlt hLen (aCons (eVar 14) aNil))) (eAnd (eOp hEq (eBlt hLen (aCons (eVar 13) aNil)) (eBlt hLen (aCons (eVar 14) aNil))) (eOp hLtL (eVar 13) (eVar 14)))))
  (sSeq (sIf (tOr (tB (eOp hNe (eCall (C .c_shorter) [] (aCons (eVar 13) (aCons (eVar 14) aNil))) (eVar 15))) (tB (eOp hIsNot (eCall (C .c_shorter) [] (aCons (eVar 13) (aCons (eVar 13) aNil))) (eC (.bool false)))))
  (sRet (eC (.bool false)))
  sNil)
  (sRet (eOr (eOp hGt (eCall (C .law_take) [] (aCons (eVar 1) (aCons (eC (.int 8)) aNil))) (eC (.int 0))) (eOp hEq (eCall (C .law_steps) [] (aCons (eC (.int 4001)) aNil)) (eC (.int 4000)))))))))))))))))))))))
noncomputable def fnk : Nat → Cs
  | 0 => fun _ _ _ => .bad
  | k + 1 => fun i => match i with
    | .Tape_init => runB 2 (b_Tape_init (fnk k))
    | .Tape_draw => runB 3 (b_Tape_draw (fnk k))
    | .Tape_step => runB 1 (b_Tape_step (fnk k))
    | .c_trimmed => runB 2 (b_c_trimmed (fnk k))
    | .c_shorter => runB 2 (b_c_shorter (fnk k))
    | .law_stream => runB 6 (b_law_stream (fnk k))
    | .law_take => runB 2 (b_law_take (fnk k))
    | .law_steps => runB 4 (b_law_steps (fnk k))
    | .c_law => runB 17 (b_c_law (fnk k))
theorem fnk_Tape_init (k : Nat) (ds : List D) (s : Sto) : fnk (k + 1) .Tape_init ds s = runB 2 (b_Tape_init (fnk k)) ds s := rfl
theorem fnk_Tape_draw (k : Nat) (ds : List D) (s : Sto) : fnk (k + 1) .Tape_draw ds s = runB 3 (b_Tape_draw (fnk k)) ds s := rfl
theorem fnk_Tape_step (k : Nat) (ds : List D) (s : Sto) : fnk (k + 1) .Tape_step ds s = runB 1 (b_Tape_step (fnk k)) ds s := rfl
theorem fnk_c_trimmed (k : Nat) (ds : List D) (s : Sto) : fnk (k + 1) .c_trimmed ds s = runB 2 (b_c_trimmed (fnk k)) ds s := rfl
theorem fnk_c_shorter (k : Nat) (ds : List D) (s : Sto) : fnk (k + 1) .c_shorter ds s = runB 2 (b_c_shorter (fnk k)) ds s := rfl
theorem fnk_law_stream (k : Nat) (ds : List D) (s : Sto) : fnk (k + 1) .law_stream ds s = runB 6 (b_law_stream (fnk k)) ds s := rfl
theorem fnk_law_take (k : Nat) (ds : List D) (s : Sto) : fnk (k + 1) .law_take ds s = runB 2 (b_law_take (fnk k)) ds s := rfl
theorem fnk_law_steps (k : Nat) (ds : List D) (s : Sto) : fnk (k + 1) .law_steps ds s = runB 4 (b_law_steps (fnk k)) ds s := rfl
theorem fnk_c_law (k : Nat) (ds : List D) (s : Sto) : fnk (k + 1) .c_law ds s = runB 17 (b_c_law (fnk k)) ds s := rfl
end Lk09
/-! law_k09_draws_of_a_tape: each def keeps its function (printed by gen.py). -/
namespace Lk09
open PySem PySem.Spec PyProof.Rows L2 Dl
def topS (i : Nat) : Stmt := PySem.Challenge.pw_chance_k09_draws_of_a_tape.main.body.getD i (.Pass ⟨0, 0, 0, 0⟩)
abbrev s_Tape_init : Stmt := clsS (topS 5) 0
abbrev s_Tape_draw : Stmt := clsS (topS 5) 1
abbrev s_Tape_step : Stmt := clsS (topS 5) 2
abbrev s_c_trimmed : Stmt := topS 6
abbrev s_c_shorter : Stmt := topS 7
abbrev s_law_stream : Stmt := topS 9
abbrev s_law_take : Stmt := topS 10
abbrev s_law_steps : Stmt := topS 11
abbrev s_c_law : Stmt := topS 12
abbrev N_Tape_init : List Str := ["self", "numbers"]
abbrev p_Tape_init : List Str := ["self", "numbers"]
theorem sc_Tape_init : FnScope N_Tape_init p_Tape_init (defScope s_Tape_init) := ⟨rfl, rfl, rfl, by decide +kernel, rfl, by decide +kernel, by decide +kernel⟩
abbrev N_Tape_draw : List Str := ["self", "size", "number"]
abbrev p_Tape_draw : List Str := ["self", "size"]
theorem sc_Tape_draw : FnScope N_Tape_draw p_Tape_draw (defScope s_Tape_draw) := ⟨rfl, rfl, rfl, by decide +kernel, rfl, by decide +kernel, by decide +kernel⟩
abbrev N_Tape_step : List Str := ["self"]
abbrev p_Tape_step : List Str := ["self"]
theorem sc_Tape_step : FnScope N_Tape_step p_Tape_step (defScope s_Tape_step) := ⟨rfl, rfl, rfl, by decide +kernel, rfl, by decide +kernel, by decide +kernel⟩
abbrev N_c_trimmed : List Str := ["numbers", "end"]
abbrev p_c_trimmed : List Str := ["numbers"]
theorem sc_c_trimmed : FnScope N_c_trimmed p_c_trimmed (defScope s_c_trimmed) := ⟨rfl, rfl, rfl, by decide +kernel, rfl, by decide +kernel, by decide +kernel⟩
abbrev N_c_shorter : List Str := ["one", "two"]
abbrev p_c_shorter : List Str := ["one", "two"]
theorem sc_c_shorter : FnScope N_c_shorter p_c_shorter (defScope s_c_shorter) := ⟨rfl, rfl, rfl, by decide +kernel, rfl, by decide +kernel, by decide +kernel⟩
abbrev N_law_stream : List Str := ["script", "row", "cell", "left", "k", "seed"]
abbrev p_law_stream : List Str := ["script"]
theorem sc_law_stream : FnScope N_law_stream p_law_stream (defScope s_law_stream) := ⟨rfl, rfl, rfl, by decide +kernel, rfl, by decide +kernel, by decide +kernel⟩
abbrev N_law_take : List Str := ["row", "many"]
abbrev p_law_take : List Str := ["row", "many"]
theorem sc_law_take : FnScope N_law_take p_law_take (defScope s_law_take) := ⟨rfl, rfl, rfl, by decide +kernel, rfl, by decide +kernel, by decide +kernel⟩
abbrev N_law_steps : List Str := ["many", "tape", "k", "e"]
abbrev p_law_steps : List Str := ["many"]
theorem sc_law_steps : FnScope N_law_steps p_law_steps (defScope s_law_steps) := ⟨rfl, rfl, rfl, by decide +kernel, rfl, by decide +kernel, by decide +kernel⟩
abbrev N_c_law : List Str := ["script", "row", "numbers", "long", "kept", "tape", "told", "sizes", "k", "size", "due", "drawn", "zeros", "plain", "other", "before", "cell"]
abbrev p_c_law : List Str := ["script"]
theorem sc_c_law : FnScope N_c_law p_c_law (defScope s_c_law) := ⟨rfl, rfl, rfl, by decide +kernel, rfl, by decide +kernel, by decide +kernel⟩
def nameOf : Fn → Str
  | .Tape_init => "__init__"
  | .Tape_draw => "draw"
  | .Tape_step => "step"
  | .c_trimmed => "trimmed"
  | .c_shorter => "shorter"
  | .law_stream => "_law_stream"
  | .law_take => "_law_take"
  | .law_steps => "_law_steps"
  | .c_law => "law"
def qualOf : Fn → Str
  | .Tape_init => "Tape.__init__"
  | .Tape_draw => "Tape.draw"
  | .Tape_step => "Tape.step"
  | .c_trimmed => "trimmed"
  | .c_shorter => "shorter"
  | .law_stream => "_law_stream"
  | .law_take => "_law_take"
  | .law_steps => "_law_steps"
  | .c_law => "law"
def gloOf : Fn → Bool
  | .Tape_init => false
  | .Tape_draw => false
  | .Tape_step => false
  | .c_trimmed => true
  | .c_shorter => true
  | .law_stream => true
  | .law_take => true
  | .law_steps => true
  | .c_law => true
def stOf : Fn → Stmt
  | .Tape_init => s_Tape_init
  | .Tape_draw => s_Tape_draw
  | .Tape_step => s_Tape_step
  | .c_trimmed => s_c_trimmed
  | .c_shorter => s_c_shorter
  | .law_stream => s_law_stream
  | .law_take => s_law_take
  | .law_steps => s_law_steps
  | .c_law => s_c_law
def psOf : Fn → List Str
  | .Tape_init => p_Tape_init
  | .Tape_draw => p_Tape_draw
  | .Tape_step => p_Tape_step
  | .c_trimmed => p_c_trimmed
  | .c_shorter => p_c_shorter
  | .law_stream => p_law_stream
  | .law_take => p_law_take
  | .law_steps => p_law_steps
  | .c_law => p_c_law
def hasD : Fn → Bool
  | .Tape_init => false
  | .Tape_draw => false
  | .Tape_step => false
  | .c_trimmed => false
  | .c_shorter => false
  | .law_stream => false
  | .law_take => false
  | .law_steps => false
  | .c_law => false
structure Fx (P : Program) (K : PySem.W.Frag) (mg : Str → Option Value) (T : ExT) (CT : Nat → Addr) (ad : Fn → Addr) (fd : Fn → FuncData) (fI_TooLarge : Addr) : Prop where
  df : ∀ i, DfQ K mg (nameOf i) (qualOf i) (gloOf i) (stOf i) (hasD i) (ad i) (fd i)
  n_abs : mg "abs" = none
  n_bool : mg "bool" = none
  n_int : mg "int" = none
  n_isinstance : mg "isinstance" = none
  n_len : mg "len" = none
  n_list : mg "list" = none
  n_range : mg "range" = none
  n_super : mg "super" = none
  kk_MAX_STEPS : ∃ u v, mg "MAX_STEPS" = some u ∧ RelV v u ∧ ∀ w, RP K w k_MAX_STEPS v
  x_TooLarge : SupC P K (T.cls 0) fI_TooLarge "name" "name"
  tf_TooLarge : T.fld 0 = "name"
  gx_TooLarge : mg "TooLarge" = some (.ref (T.cls 0))
  xm_TooLarge : ∀ c, PySem.W.exmOne K (.ref (T.cls c)) (.ref (T.cls 0)) = some (m_TooLarge c)
  xf_TooLarge : XfC K (T.cls 0)
  cl : ∀ c, Cls K (CT c)
  na_deep : ∀ c, NoAttr K (CT c) "deep"
  na_numbers : ∀ c, NoAttr K (CT c) "numbers"
  na_sizes : ∀ c, NoAttr K (CT c) "sizes"
  na_steps : ∀ c, NoAttr K (CT c) "steps"
  na_told : ∀ c, NoAttr K (CT c) "told"
  me_Tape_draw : Meth K (CT 0) "draw" (ad .Tape_draw)
  me_Tape_step : Meth K (CT 0) "step" (ad .Tape_step)
  mk_Tape : Mk K (CT 0) (ad .Tape_init)
  gc_Tape : mg "Tape" = some (.ref (CT 0))
section
variable {P : Program} {w : World} {K : PySem.W.Frag} {mg : Str → Option Value} {base : Heap} {ad : Fn → Addr} {fd : Fn → FuncData} {CT : Nat → Addr} {T : ExT} {k : Nat} {fI_TooLarge : Addr}
theorem mof_TooLarge (hf : T.fld 0 = "name") : ∀ c, m_TooLarge c = true → T.cls c = T.cls 0 ∧ T.fld c = "name" := fun c h => by
  have h : c = 0 := eq_of_beq h
  subst h
  exact ⟨rfl, hf⟩
theorem Fx.pk_MAX_STEPS {X : Cx} {W : XW} {pos : Pos} (M : Fx X.prog X.K X.mg T CT ad fd fI_TooLarge) (hg : Gl X "MAX_STEPS") : PD X CT W (.Name "MAX_STEPS" pos) (eC k_MAX_STEPS) := by
  obtain ⟨u, v, h1, h2, h3⟩ := M.kk_MAX_STEPS
  exact pd_glob hg h1 h2 h3
theorem ty_bool : tyOk "bool" = true := by decide +kernel
theorem bt_bool : bootBuiltins "bool" = some (.type "bool") := by decide +kernel
theorem ty_int : tyOk "int" = true := by decide +kernel
theorem bt_int : bootBuiltins "int" = some (.type "int") := by decide +kernel
theorem ty_list : tyOk "list" = true := by decide +kernel
theorem bt_list : bootBuiltins "list" = some (.type "list") := by decide +kernel
theorem bd_Tape_init (M : Fx P K mg T CT ad fd fI_TooLarge) : Binds K (fd .Tape_init) p_Tape_init [] := (M.df .Tape_init).binds fun _ _ _ _ _ _ us hl => match us, hl with | [_, _], _ => rfl
theorem bd_Tape_draw (M : Fx P K mg T CT ad fd fI_TooLarge) : Binds K (fd .Tape_draw) p_Tape_draw [] := (M.df .Tape_draw).binds fun _ _ _ _ _ _ us hl => match us, hl with | [_, _], _ => rfl
theorem bd_Tape_step (M : Fx P K mg T CT ad fd fI_TooLarge) : Binds K (fd .Tape_step) p_Tape_step [] := (M.df .Tape_step).binds fun _ _ _ _ _ _ us hl => match us, hl with | [_], _ => rfl
theorem bd_c_trimmed (M : Fx P K mg T CT ad fd fI_TooLarge) : Binds K (fd .c_trimmed) p_c_trimmed [] := (M.df .c_trimmed).binds fun _ _ _ _ _ _ us hl => match us, hl with | [_], _ => rfl
theorem bd_c_shorter (M : Fx P K mg T CT ad fd fI_TooLarge) : Binds K (fd .c_shorter) p_c_shorter [] := (M.df .c_shorter).binds fun _ _ _ _ _ _ us hl => match us, hl with | [_, _], _ => rfl
theorem bd_law_stream (M : Fx P K mg T CT ad fd fI_TooLarge) : Binds K (fd .law_stream) p_law_stream [] := (M.df .law_stream).binds fun _ _ _ _ _ _ us hl => match us, hl with | [_], _ => rfl
theorem bd_law_take (M : Fx P K mg T CT ad fd fI_TooLarge) : Binds K (fd .law_take) p_law_take [] := (M.df .law_take).binds fun _ _ _ _ _ _ us hl => match us, hl with | [_, _], _ => rfl
theorem bd_law_steps (M : Fx P K mg T CT ad fd fI_TooLarge) : Binds K (fd .law_steps) p_law_steps [] := (M.df .law_steps).binds fun _ _ _ _ _ _ us hl => match us, hl with | [_], _ => rfl
theorem bd_c_law (M : Fx P K mg T CT ad fd fI_TooLarge) : Binds K (fd .c_law) p_c_law [] := (M.df .c_law).binds fun _ _ _ _ _ _ us hl => match us, hl with | [_], _ => rfl
def exT (K : PySem.W.Frag) : ExT := ⟨fun c => match c with
  | 0 => clsAd K "TooLarge"
  | _ => clsAd K "Refused", fun c => match c with
  | 0 => "name"
  | _ => ""⟩
def Ih (P : Program) (w : World) (K : PySem.W.Frag) (mg : Str → Option Value) (base : Heap) (ad : Fn → Addr) (fd : Fn → FuncData) (CT : Nat → Addr) (T : ExT) (k : Nat) : Prop := ∀ i, FnG P w K mg base k (ad i) (fd i) (psOf i) (spG K CT T (psOf i).length (fnk k i))
theorem ok_Tape_init (M : Fx P K mg T CT ad fd fI_TooLarge) (ih : Ih P w K mg base ad fd CT T k) : FnG P w K mg base (k + 1) (ad .Tape_init) (fd .Tape_init) p_Tape_init (spG K CT T 2 (fnk (k + 1) .Tape_init)) := by
  exact (M.df .Tape_init).ok (N := N_Tape_init) (ps := p_Tape_init) sc_Tape_init (b := b_Tape_init (fnk k)) fun cdv A fr s H E W B =>
  (pb_cons (ps_fldD e_numbers M.cl M.na_numbers (pd_var 0) (pd_list false (by rfl) M.n_list (pa_consD (pd_var 1) pa_nilD)))
  (pb_cons (ps_fldD e_sizes M.cl M.na_sizes (pd_var 0) (pd_lst true pa_nilD))
  (pb_cons (ps_fldD e_told M.cl M.na_told (pd_var 0) (pd_lst true pa_nilD))
  (pb_cons (ps_fldD e_steps M.cl M.na_steps (pd_var 0) pd_int)
  (pb_one (ps_fldD e_deep M.cl M.na_deep (pd_var 0) pd_int))))))
theorem ok_Tape_draw (M : Fx P K mg T CT ad fd fI_TooLarge) (ih : Ih P w K mg base ad fd CT T k) : FnG P w K mg base (k + 1) (ad .Tape_draw) (fd .Tape_draw) p_Tape_draw (spG K CT T 2 (fnk (k + 1) .Tape_draw)) := by
  exact (M.df .Tape_draw).ok (N := N_Tape_draw) (ps := p_Tape_draw) sc_Tape_draw (b := b_Tape_draw (fnk k)) fun cdv A fr s H E W B =>
  (pb_cons (ps_ifD (pt_eq B (pd_var 1) pd_int) (pb_one (ps_retD pd_int)) pb_nil)
  (pb_cons (ps_setD 2 B.nd pd_int)
  (pb_cons (ps_ifD (pt_lt (pd_len (by rfl) M.n_len (pa_consD (pd_fld e_told M.cl M.na_told (pd_var 0)) pa_nilD)) (pd_len (by rfl) M.n_len (pa_consD (pd_fld e_numbers M.cl M.na_numbers (pd_var 0)) pa_nilD))) (pb_one (ps_setD 2 B.nd (pd_mod (pd_ix (pd_fld e_numbers M.cl M.na_numbers (pd_var 0)) (pd_len (by rfl) M.n_len (pa_consD (pd_fld e_told M.cl M.na_told (pd_var 0)) pa_nilD))) (pd_var 1)))) pb_nil)
  (pb_cons (ps_exprD (pd_append (pd_fld e_sizes M.cl M.na_sizes (pd_var 0)) (pa_consD (pd_var 1) pa_nilD)))
  (pb_cons (ps_exprD (pd_append (pd_fld e_told M.cl M.na_told (pd_var 0)) (pa_consD (pd_var 2) pa_nilD)))
  (pb_one (ps_retD (pd_var 2))))))))
theorem ok_Tape_step (M : Fx P K mg T CT ad fd fI_TooLarge) (ih : Ih P w K mg base ad fd CT T k) : FnG P w K mg base (k + 1) (ad .Tape_step) (fd .Tape_step) p_Tape_step (spG K CT T 1 (fnk (k + 1) .Tape_step)) := by
  exact (M.df .Tape_step).ok (N := N_Tape_step) (ps := p_Tape_step) sc_Tape_step (b := b_Tape_step (fnk k)) fun cdv A fr s H E W B =>
  (pb_cons (ps_ifD (pt_eq B (pd_fld e_steps M.cl M.na_steps (pd_var 0)) (M.pk_MAX_STEPS (by rfl))) (pb_one (ps_raiseD 0 B M.x_TooLarge M.tf_TooLarge (by rfl) M.gx_TooLarge M.n_super (pd_str e_steps))) pb_nil)
  (pb_one (ps_fldAugD op_iaddD opd_iadd e_steps M.cl M.na_steps (pd_var 0) pd_int)))
theorem ok_c_trimmed (M : Fx P K mg T CT ad fd fI_TooLarge) (ih : Ih P w K mg base ad fd CT T k) : FnG P w K mg base (k + 1) (ad .c_trimmed) (fd .c_trimmed) p_c_trimmed (spG K CT T 1 (fnk (k + 1) .c_trimmed)) := by
  exact (M.df .c_trimmed).ok (N := N_c_trimmed) (ps := p_c_trimmed) sc_c_trimmed (b := b_c_trimmed (fnk k)) fun cdv A fr s H E W B =>
  (pb_cons (ps_setD 1 B.nd (pd_len (by rfl) M.n_len (pa_consD (pd_var 0) pa_nilD)))
  (pb_cons (ps_whileD wN B (pt_w (pw_andD (pt_gt (pd_var 1) pd_int) (pw_and1D (pt_eq B (pd_ix (pd_var 0) (pd_sub (pd_var 1) pd_int)) pd_int)))) (pb_one (ps_augD 1 op_isubD opd_isub B.nd pd_int)))
  (pb_one (ps_retD (pd_list false (by rfl) M.n_list (pa_consD (pd_cut false (pd_var 0) po_noneD (po_someD (pd_var 1))) pa_nilD))))))
theorem ok_c_shorter (M : Fx P K mg T CT ad fd fI_TooLarge) (ih : Ih P w K mg base ad fd CT T k) : FnG P w K mg base (k + 1) (ad .c_shorter) (fd .c_shorter) p_c_shorter (spG K CT T 2 (fnk (k + 1) .c_shorter)) := by
  exact (M.df .c_shorter).ok (N := N_c_shorter) (ps := p_c_shorter) sc_c_shorter (b := b_c_shorter (fnk k)) fun cdv A fr s H E W B =>
  (pb_cons (ps_ifD (pt_ne B (pd_len (by rfl) M.n_len (pa_consD (pd_var 0) pa_nilD)) (pd_len (by rfl) M.n_len (pa_consD (pd_var 1) pa_nilD))) (pb_one (ps_retD (pd_lt (pd_len (by rfl) M.n_len (pa_consD (pd_var 0) pa_nilD)) (pd_len (by rfl) M.n_len (pa_consD (pd_var 1) pa_nilD))))) pb_nil)
  (pb_one (ps_retD (pd_ltL B.hu (pd_var 0) (pd_var 1)))))
theorem ok_law_stream (M : Fx P K mg T CT ad fd fI_TooLarge) (ih : Ih P w K mg base ad fd CT T k) : FnG P w K mg base (k + 1) (ad .law_stream) (fd .law_stream) p_law_stream (spG K CT T 1 (fnk (k + 1) .law_stream)) := by
  exact (M.df .law_stream).ok (N := N_law_stream) (ps := p_law_stream) sc_law_stream (b := b_law_stream (fnk k)) fun cdv A fr s H E W B =>
  (pb_cons (ps_setD 1 B.nd (pd_lst true (pa_consD pd_int pa_nilD)))
  (pb_cons (ps_forD B (pi_seq (pd_cut false (pd_var 0) po_noneD (po_someD pd_int))) (pg_set 2 B.nd) (pb_cons (ps_setD 3 B.nd (pd_abs (by rfl) M.n_abs (pa_consD (pd_intc (by rfl) M.n_int (pa_consD (pd_var 2) pa_nilD)) pa_nilD)))
  (pb_one (ps_forD B (pi_range1D (by rfl) M.n_range pd_int) (pg_set 4 B.nd) (pb_cons (ps_exprD (pd_append (pd_var 1) (pa_consD (pd_mod (pd_var 3) pd_int) pa_nilD)))
  (pb_cons (ps_setD 3 B.nd (pd_div (pd_var 3) pd_int))
  (pb_one (ps_ifD (pt_eq B (pd_var 3) pd_int) (pb_one ps_breakD) pb_nil))))))))
  (pb_cons (ps_setD 5 B.nd pd_int)
  (pb_cons (ps_forD B (pi_seq (pd_cut false (pd_var 0) po_noneD (po_someD pd_int))) (pg_set 2 B.nd) (pb_one (ps_setD 5 B.nd (pd_mod (pd_intc (by rfl) M.n_int (pa_consD (pd_add (pd_add (pd_mul (pd_var 5) pd_int) (pd_var 2)) pd_int) pa_nilD)) pd_int))))
  (pb_cons (ps_forD B (pi_range1D (by rfl) M.n_range pd_int) (pg_set 4 B.nd) (pb_cons (ps_setD 5 B.nd (pd_mod (pd_intc (by rfl) M.n_int (pa_consD (pd_add (pd_add (pd_mul (pd_var 5) pd_int) (pd_mul (pd_var 4) pd_int)) pd_int) pa_nilD)) pd_int))
  (pb_one (ps_exprD (pd_append (pd_var 1) (pa_consD (pd_mod (pd_div (pd_var 5) pd_int) pd_int) pa_nilD))))))
  (pb_one (ps_retD (pd_var 1))))))))
theorem ok_law_take (M : Fx P K mg T CT ad fd fI_TooLarge) (ih : Ih P w K mg base ad fd CT T k) : FnG P w K mg base (k + 1) (ad .law_take) (fd .law_take) p_law_take (spG K CT T 2 (fnk (k + 1) .law_take)) := by
  exact (M.df .law_take).ok (N := N_law_take) (ps := p_law_take) sc_law_take (b := b_law_take (fnk k)) fun cdv A fr s H E W B =>
  (pb_cons (ps_ifD (pt_lt (pd_ix (pd_var 0) pd_int) (pd_len (by rfl) M.n_len (pa_consD (pd_var 0) pa_nilD))) (pb_cons (ps_asgD (pd_add (pd_ix (pd_var 0) pd_int) pd_int) (pg_ix (pd_var 0) pd_int))
  (pb_one (ps_retD (pd_mod (pd_intc (by rfl) M.n_int (pa_consD (pd_ix (pd_var 0) (pd_sub (pd_ix (pd_var 0) pd_int) pd_int)) pa_nilD)) (pd_var 1))))) pb_nil)
  (pb_one (ps_retD pd_int)))
theorem ok_law_steps (M : Fx P K mg T CT ad fd fI_TooLarge) (ih : Ih P w K mg base ad fd CT T k) : FnG P w K mg base (k + 1) (ad .law_steps) (fd .law_steps) p_law_steps (spG K CT T 1 (fnk (k + 1) .law_steps)) := by
  exact (M.df .law_steps).ok (N := N_law_steps) (ps := p_law_steps) sc_law_steps (b := b_law_steps (fnk k)) fun cdv A fr s H E W B =>
  (pb_cons (ps_setD 1 B.nd (pd_make 0 B M.mk_Tape (ih .Tape_init) (by rfl) M.gc_Tape (bd_Tape_init M) .nil (fun _ => rfl) (pa_consD (pd_lst false pa_nilD) pa_nilD) (len_cons len_nil) rfl))
  (pb_cons (ps_forD B (pi_range1D (by rfl) M.n_range (pd_var 0)) (pg_set 2 B.nd) (pb_one (ps_tryIf (u := (sExpr (eMeth q_step 0 (fnk k .Tape_step) [] (eVar 1) aNil))) B rfl rfl 3 ⟨by rfl, by decide, .inl M.gx_TooLarge⟩ M.xm_TooLarge (mof_TooLarge M.tf_TooLarge) M.xf_TooLarge M.x_TooLarge.fld e_steps (fun W pn xe Bt => (pb_one (ps_exprD (pd_meth0 0 e_step Bt (ih .Tape_step) (by rfl) (M.cl 0) M.me_Tape_step (bd_Tape_step M) .nil (fun _ => rfl) (pd_var 1) rfl)))) (fun _ _ => (pd_var 2)) (fun _ _ => (pd_neg pd_int)))))
  (pb_one (ps_retD (pd_var 0)))))
theorem ok_c_law (M : Fx P K mg T CT ad fd fI_TooLarge) (ih : Ih P w K mg base ad fd CT T k) : FnG P w K mg base (k + 1) (ad .c_law) (fd .c_law) p_c_law (spG K CT T 1 (fnk (k + 1) .c_law)) := by
  exact (M.df .c_law).ok (N := N_c_law) (ps := p_c_law) sc_c_law (b := b_c_law (fnk k)) fun cdv A fr s H E W B =>
  (pb_cons (ps_setD 1 B.nd (pd_call B (ih .law_stream) rfl (by rfl) ((M.df .law_stream).gl rfl) (M.df .law_stream).kp (bd_law_stream M) .nil (fun _ => rfl) (pa_consD (pd_var 0) pa_nilD) (len_cons len_nil) rfl))
  (pb_cons (ps_setLcD false 2 B [("cell", 16)] (pi_seq (pd_cut false (pd_var 0) po_noneD (po_someD pd_int))) (blkOk_by (N := N_c_law) (sc := (defScope s_c_law)) (by decide +kernel)) (by decide) (fun _ _ _ _ _ => (pg_set 16 B.nd)) (fun _ _ _ _ _ B1 => pts_nilD) (fun _ _ _ _ _ B1 => (pd_if (pt_eq B1 (pd_call B1 (ih .law_take) rfl (by rfl) ((M.df .law_take).gl rfl) (M.df .law_take).kp (bd_law_take M) .nil (fun _ => rfl) (pa_consD (pd_var 1) (pa_consD pd_int pa_nilD)) (len_cons (len_cons len_nil)) rfl) pd_int) (pd_mod (pd_abs (by rfl) M.n_abs (pa_consD (pd_intc (by rfl) M.n_int (pa_consD (pd_var 16) pa_nilD)) pa_nilD)) (pd_pow pd_int pd_int)) (pd_call B1 (ih .law_take) rfl (by rfl) ((M.df .law_take).gl rfl) (M.df .law_take).kp (bd_law_take M) .nil (fun _ => rfl) (pa_consD (pd_var 1) (pa_consD pd_int pa_nilD)) (len_cons (len_cons len_nil)) rfl))))
  (pb_cons (ps_setD 3 B.nd (pd_eq B.hu (pd_call B (ih .law_take) rfl (by rfl) ((M.df .law_take).gl rfl) (M.df .law_take).kp (bd_law_take M) .nil (fun _ => rfl) (pa_consD (pd_var 1) (pa_consD pd_int pa_nilD)) (len_cons (len_cons len_nil)) rfl) pd_int))
  (pb_cons (ps_ifD (pt_tru (pd_var 3)) (pb_one (ps_setD 2 B.nd (pd_add (pd_var 2) (pd_lc false B [("k", 8)] (pi_range1D (by rfl) M.n_range (pd_add pd_int (pd_call B (ih .law_take) rfl (by rfl) ((M.df .law_take).gl rfl) (M.df .law_take).kp (bd_law_take M) .nil (fun _ => rfl) (pa_consD (pd_var 1) (pa_consD pd_int pa_nilD)) (len_cons (len_cons len_nil)) rfl))) (blkOk_by (N := N_c_law) (sc := (defScope s_c_law)) (by decide +kernel)) (by decide) (fun _ _ _ _ _ => (pg_set 8 B.nd)) (fun _ _ _ _ _ B1 => pts_nilD) (fun _ _ _ _ _ B1 => (pd_add pd_int (pd_call B1 (ih .law_take) rfl (by rfl) ((M.df .law_take).gl rfl) (M.df .law_take).kp (bd_law_take M) .nil (fun _ => rfl) (pa_consD (pd_var 1) (pa_consD pd_int pa_nilD)) (len_cons (len_cons len_nil)) rfl))))))) pb_nil)
  (pb_cons (ps_setD 4 B.nd (pd_list false (by rfl) M.n_list (pa_consD (pd_var 2) pa_nilD)))
  (pb_cons (ps_setD 5 B.nd (pd_make 0 B M.mk_Tape (ih .Tape_init) (by rfl) M.gc_Tape (bd_Tape_init M) .nil (fun _ => rfl) (pa_consD (pd_var 2) pa_nilD) (len_cons len_nil) rfl))
  (pb_cons (ps_setD 6 B.nd (pd_lst true pa_nilD))
  (pb_cons (ps_setD 7 B.nd (pd_lst true pa_nilD))
  (pb_cons (ps_forD B (pi_range1D (by rfl) M.n_range (pd_if (pt_tru (pd_var 3)) (pd_add pd_int (pd_call B (ih .law_take) rfl (by rfl) ((M.df .law_take).gl rfl) (M.df .law_take).kp (bd_law_take M) .nil (fun _ => rfl) (pa_consD (pd_var 1) (pa_consD pd_int pa_nilD)) (len_cons (len_cons len_nil)) rfl)) (pd_call B (ih .law_take) rfl (by rfl) ((M.df .law_take).gl rfl) (M.df .law_take).kp (bd_law_take M) .nil (fun _ => rfl) (pa_consD (pd_var 1) (pa_consD pd_int pa_nilD)) (len_cons (len_cons len_nil)) rfl))) (pg_set 8 B.nd) (pb_cons (ps_setD 9 B.nd (pd_add pd_int (pd_call B (ih .law_take) rfl (by rfl) ((M.df .law_take).gl rfl) (M.df .law_take).kp (bd_law_take M) .nil (fun _ => rfl) (pa_consD (pd_var 1) (pa_consD pd_int pa_nilD)) (len_cons (len_cons len_nil)) rfl)))
  (pb_cons (ps_ifD (pt_eq B (pd_call B (ih .law_take) rfl (by rfl) ((M.df .law_take).gl rfl) (M.df .law_take).kp (bd_law_take M) .nil (fun _ => rfl) (pa_consD (pd_var 1) (pa_consD pd_int pa_nilD)) (len_cons (len_cons len_nil)) rfl) pd_int) (pb_one (ps_setD 9 B.nd (pd_add pd_int (pd_mul (pd_call B (ih .law_take) rfl (by rfl) ((M.df .law_take).gl rfl) (M.df .law_take).kp (bd_law_take M) .nil (fun _ => rfl) (pa_consD (pd_var 1) (pa_consD pd_int pa_nilD)) (len_cons (len_cons len_nil)) rfl) (pd_sub (pd_pow pd_int pd_int) pd_int))))) pb_nil)
  (pb_cons (ps_setD 10 B.nd pd_int)
  (pb_cons (ps_ifD (pt_gt (pd_var 9) pd_int) (pb_cons (ps_setD 10 B.nd (pd_if (pt_lt (pd_len (by rfl) M.n_len (pa_consD (pd_var 6) pa_nilD)) (pd_len (by rfl) M.n_len (pa_consD (pd_var 2) pa_nilD))) (pd_mod (pd_intc (by rfl) M.n_int (pa_consD (pd_ix (pd_var 2) (pd_len (by rfl) M.n_len (pa_consD (pd_var 6) pa_nilD))) pa_nilD)) (pd_var 9)) pd_int))
  (pb_cons (ps_exprD (pd_append (pd_var 6) (pa_consD (pd_var 10) pa_nilD)))
  (pb_one (ps_exprD (pd_append (pd_var 7) (pa_consD (pd_var 9) pa_nilD)))))) pb_nil)
  (pb_cons (ps_setD 11 B.nd (pd_meth 0 e_draw B (ih .Tape_draw) (by rfl) (M.cl 0) M.me_Tape_draw (bd_Tape_draw M) .nil (fun _ => rfl) (pd_var 5) (pa_consD (pd_var 9) pa_nilD) (len_cons len_nil) rfl))
  (pb_one (ps_ifD (pt_w (pw_orD (pt_tru (pd_isi (t := "bool") ty_bool (by rfl) M.n_isinstance (by rfl) M.n_bool bt_bool (pd_var 11))) (pw_orD (pt_notD (pt_tru (pd_isi (t := "int") ty_int (by rfl) M.n_isinstance (by rfl) M.n_int bt_int (pd_var 11)))) (pw_or1D (pt_ne B (pd_var 11) (pd_var 10)))))) (pb_one (ps_retD pd_bl)) pb_nil))))))))
  (pb_cons (ps_ifD (pt_w (pw_orD (pt_ne B (pd_fld e_told M.cl M.na_told (pd_var 5)) (pd_var 6)) (pw_orD (pt_ne B (pd_fld e_sizes M.cl M.na_sizes (pd_var 5)) (pd_var 7)) (pw_or1D (pt_ne B (pd_var 2) (pd_var 4)))))) (pb_one (ps_retD pd_bl)) pb_nil)
  (pb_cons (ps_setD 12 B.nd (pd_call B (ih .law_take) rfl (by rfl) ((M.df .law_take).gl rfl) (M.df .law_take).kp (bd_law_take M) .nil (fun _ => rfl) (pa_consD (pd_var 1) (pa_consD pd_int pa_nilD)) (len_cons (len_cons len_nil)) rfl))
  (pb_cons (ps_setLcD false 13 B [("k", 8)] (pi_range1D (by rfl) M.n_range (pd_call B (ih .law_take) rfl (by rfl) ((M.df .law_take).gl rfl) (M.df .law_take).kp (bd_law_take M) .nil (fun _ => rfl) (pa_consD (pd_var 1) (pa_consD pd_int pa_nilD)) (len_cons (len_cons len_nil)) rfl)) (blkOk_by (N := N_c_law) (sc := (defScope s_c_law)) (by decide +kernel)) (by decide) (fun _ _ _ _ _ => (pg_set 8 B.nd)) (fun _ _ _ _ _ B1 => pts_nilD) (fun _ _ _ _ _ B1 => (pd_call B1 (ih .law_take) rfl (by rfl) ((M.df .law_take).gl rfl) (M.df .law_take).kp (bd_law_take M) .nil (fun _ => rfl) (pa_consD (pd_var 1) (pa_consD pd_int pa_nilD)) (len_cons (len_cons len_nil)) rfl)))
  (pb_cons (ps_setD 10 B.nd (pd_list false (by rfl) M.n_list (pa_consD (pd_var 13) pa_nilD)))
  (pb_cons (ps_forD B (pi_range1D (by rfl) M.n_range (pd_len (by rfl) M.n_len (pa_consD (pd_var 13) pa_nilD))) (pg_set 8 B.nd) (pb_one (ps_ifD (pt_w (pw_andD (pt_tru (pd_var 10)) (pw_and1D (pt_eq B (pd_ix (pd_var 10) (pd_neg pd_int)) pd_int)))) (pb_one (ps_setD 10 B.nd (pd_cut false (pd_var 10) po_noneD (po_someD (pd_neg pd_int))))) pb_nil)))
  (pb_cons (ps_ifD (pt_ne B (pd_call B (ih .c_trimmed) rfl (by rfl) ((M.df .c_trimmed).gl rfl) (M.df .c_trimmed).kp (bd_c_trimmed M) .nil (fun _ => rfl) (pa_consD (pd_add (pd_var 13) (pd_mul (pd_lst false (pa_consD pd_int pa_nilD)) (pd_var 12))) pa_nilD) (len_cons len_nil) rfl) (pd_var 10)) (pb_one (ps_retD pd_bl)) pb_nil)
  (pb_cons (ps_setLcD false 14 B [("k", 8)] (pi_range1D (by rfl) M.n_range (pd_call B (ih .law_take) rfl (by rfl) ((M.df .law_take).gl rfl) (M.df .law_take).kp (bd_law_take M) .nil (fun _ => rfl) (pa_consD (pd_var 1) (pa_consD pd_int pa_nilD)) (len_cons (len_cons len_nil)) rfl)) (blkOk_by (N := N_c_law) (sc := (defScope s_c_law)) (by decide +kernel)) (by decide) (fun _ _ _ _ _ => (pg_set 8 B.nd)) (fun _ _ _ _ _ B1 => pts_nilD) (fun _ _ _ _ _ B1 => (pd_call B1 (ih .law_take) rfl (by rfl) ((M.df .law_take).gl rfl) (M.df .law_take).kp (bd_law_take M) .nil (fun _ => rfl) (pa_consD (pd_var 1) (pa_consD pd_int pa_nilD)) (len_cons (len_cons len_nil)) rfl)))
  (pb_cons (ps_setD 15 B.nd (pd_or (pd_lt (pd_len (by rfl) M.n_len (pa_consD (pd_var 13) pa_nilD)) (pd_len (by rfl) M.n_len (pa_consD (pd_var 14) pa_nilD))) (pd_one (pd_and (pd_eq B.hu (pd_len (by rfl) M.n_len (pa_consD (pd_var 13) pa_nilD)) (pd_len (by rfl) M.n_len (pa_consD (pd_var 14) pa_nilD))) (pd_one (pd_ltL B.hu (pd_var 13) (pd_var 14)))))))
  (pb_cons (ps_ifD (pt_w (pw_orD (pt_ne B (pd_call B (ih .c_shorter) rfl (by rfl) ((M.df .c_shorter).gl rfl) (M.df .c_shorter).kp (bd_c_shorter M) .nil (fun _ => rfl) (pa_consD (pd_var 13) (pa_consD (pd_var 14) pa_nilD)) (len_cons (len_cons len_nil)) rfl) (pd_var 15)) (pw_or1D (pt_isNot (pd_call B (ih .c_shorter) rfl (by rfl) ((M.df .c_shorter).gl rfl) (M.df .c_shorter).kp (bd_c_shorter M) .nil (fun _ => rfl) (pa_consD (pd_var 13) (pa_consD (pd_var 13) pa_nilD)) (len_cons (len_cons len_nil)) rfl) pd_bl)))) (pb_one (ps_retD pd_bl)) pb_nil)
  (pb_one (ps_retD (pd_or (pd_gt (pd_call B (ih .law_take) rfl (by rfl) ((M.df .law_take).gl rfl) (M.df .law_take).kp (bd_law_take M) .nil (fun _ => rfl) (pa_consD (pd_var 1) (pa_consD pd_int pa_nilD)) (len_cons (len_cons len_nil)) rfl) pd_int) (pd_one (pd_eq B.hu (pd_call B (ih .law_steps) rfl (by rfl) ((M.df .law_steps).gl rfl) (M.df .law_steps).kp (bd_law_steps M) .nil (fun _ => rfl) (pa_consD pd_int pa_nilD) (len_cons len_nil) rfl) pd_int)))))))))))))))))))))))
theorem ok_all (M : Fx P K mg T CT ad fd fI_TooLarge) : ∀ k, Ih P w K mg base ad fd CT T k
  | 0, _ => ⟨fun vs H Q E h => by obtain ⟨w, s, ds, _, _, r, hl, _⟩ := h; exact r.length.trans hl, fun A fr s H ar us vs Q E _ _ _ _ h => by obtain ⟨w, s, ds, _, _, _, _, z⟩ := h; exact z.elim⟩
  | k + 1, .Tape_init => ok_Tape_init M (ok_all M k)
  | k + 1, .Tape_draw => ok_Tape_draw M (ok_all M k)
  | k + 1, .Tape_step => ok_Tape_step M (ok_all M k)
  | k + 1, .c_trimmed => ok_c_trimmed M (ok_all M k)
  | k + 1, .c_shorter => ok_c_shorter M (ok_all M k)
  | k + 1, .law_stream => ok_law_stream M (ok_all M k)
  | k + 1, .law_take => ok_law_take M (ok_all M k)
  | k + 1, .law_steps => ok_law_steps M (ok_all M k)
  | k + 1, .c_law => ok_c_law M (ok_all M k)
end
end Lk09
/-! The data layer: how its functions are reckoned (plain Lean, no program). -/
namespace Dl
open PySem

/-! ### one step each -/
section
variable {e : En} {s : Sto} {f g h : EV} {p q : TV} {u v : SV} {l : AV} {i j : Nat}
@[simp] theorem eVar_eq : eVar i e s = match e[i]? with
  | some (some d) => .ok d s
  | _ => .bad := id rfl
@[simp] theorem eC_eq {x : PyData} : eC x e s = .ok (.p x) s := id rfl
@[simp] theorem eOp_eq {o : D → D → Sto → R D} : eOp o f g e s = (f e s).bind fun x s => (g e s).bind fun y s => o x y s := id rfl
@[simp] theorem eChain_eq {o o' : D → D → Sto → R D} : eChain o o' f g h e s = (f e s).bind fun x s => (g e s).bind fun y s => (o x y s).bind fun z s => match z with
  | .p (.bool true) => (h e s).bind fun u s => o' y u s
  | .p (.bool false) => .ok (.p (.bool false)) s
  | _ => .bad := id rfl
@[simp] theorem tTru_eq : tTru f e s = (f e s).bind fun d s => match truB s d with
  | some b => .ok b s
  | none => .bad := id rfl
@[simp] theorem tAnd_eq : tAnd p q e s = (p e s).bind fun b s => if b then q e s else .ok false s := id rfl
@[simp] theorem tOr_eq : tOr p q e s = (p e s).bind fun b s => if b then .ok true s else q e s := id rfl
@[simp] theorem tNot_eq : tNot p e s = (p e s).bind fun b s => .ok (!b) s := id rfl
@[simp] theorem tB_eq : tB f e s = (f e s).bind fun d s => match d with
  | .p (.bool b) => .ok b s
  | _ => .bad := id rfl
@[simp] theorem tYes_eq : tYes e s = .ok true s := id rfl
@[simp] theorem eAnd_eq : eAnd f g e s = (f e s).bind fun x s => match truB s x with
  | some true => g e s
  | some false => .ok x s
  | none => .bad := id rfl
@[simp] theorem eOr_eq : eOr f g e s = (f e s).bind fun x s => match truB s x with
  | some true => .ok x s
  | some false => g e s
  | none => .bad := id rfl
@[simp] theorem eNot_eq : eNot f e s = (f e s).bind fun x s => match truB s x with
  | some b => .ok (.p (.bool !b)) s
  | none => .bad := id rfl
@[simp] theorem eIf_eq : eIf p f g e s = (p e s).bind fun b s => if b then f e s else g e s := id rfl
@[simp] theorem eNeg_eq : eNeg f e s = (f e s).bind fun x s => match x with
  | .p (.int i) => .ok (.p (.int (-i))) s
  | _ => .bad := id rfl
@[simp] theorem aNil_eq : aNil e s = .ok [] s := id rfl
@[simp] theorem aCons_eq : aCons f l e s = (f e s).bind fun x s => (l e s).bind fun r s => .ok (x :: r) s := id rfl
@[simp] theorem eTup_eq : eTup l e s = (l e s).bind fun ds s => if ds.length ≤ sizeLine then .ok (mkT ds) s else .bad := id rfl
@[simp] theorem eLst_eq {b : Bool} : eLst b l e s = (l e s).bind fun ds s => if ds.length ≤ sizeLine then newL b ds s else .bad := id rfl
@[simp] theorem oNone_eq : oNone e s = .ok none s := id rfl
@[simp] theorem oSome_eq : oSome f e s = (f e s).bind fun d s => match d with
  | .p (.int i) => .ok (some i) s
  | _ => .bad := id rfl
@[simp] theorem eCut_eq {b : Bool} {lo hi : OV} : eCut b f lo hi e s = (f e s).bind fun x s => (lo e s).bind fun l s => (hi e s).bind fun u s => hCut b x l u s := id rfl
@[simp] theorem eCall_eq {c : List D → Sto → R D} {dd : List D} : eCall c dd l e s = (l e s).bind fun ds s => c (ds ++ dd) s := id rfl
@[simp] theorem eBlt_eq {c : List D → Sto → R D} : eBlt c l e s = (l e s).bind fun ds s => c ds s := id rfl
@[simp] theorem eIsi_eq {t : String} : eIsi t f e s = (f e s).bind fun d s => match kindD s d with
  | some k => .ok (.p (.bool (isTy t k))) s
  | none => .bad := id rfl
@[simp] theorem eMeL_eq {c : D → List D → Sto → R D} : eMeL c f l e s = (f e s).bind fun x s => match asL s x with
  | some _ => (l e s).bind fun xs s => c x xs s
  | none => .bad := id rfl
@[simp] theorem sNil_eq : sNil e s = .nx e s := id rfl
@[simp] theorem sSeq_eq : sSeq u v e s = (u e s).seq v := id rfl
@[simp] theorem sPass_eq : sPass e s = .nx e s := id rfl
@[simp] theorem sBreak_eq : sBreak e s = .bk e s := id rfl
@[simp] theorem sCont_eq : sCont e s = .ct e s := id rfl
@[simp] theorem sExpr_eq : sExpr f e s = (f e s).toS e fun _ s => .nx e s := id rfl
@[simp] theorem sRet_eq : sRet f e s = (f e s).toS e fun d s => .rt d s := id rfl
@[simp] theorem sRetN_eq : sRetN e s = .rt (.p .none) s := id rfl
@[simp] theorem sSet_eq : sSet i f e s = (f e s).toS e fun d s => .nx (e.set i (some d)) s := id rfl
@[simp] theorem sIf_eq : sIf p u v e s = (p e s).toS e fun b s => if b then u e s else v e s := id rfl
@[simp] theorem gSet_eq {d : D} : gSet i d e s = .ok (e.set i (some d)) s := id rfl
@[simp] theorem gsNil_eq : gsNil [] e s = .ok e s := id rfl
@[simp] theorem gsCons_eq {k : GV} {k' : GsV} {d : D} {r : List D} : gsCons k k' (d :: r) e s = (k d e s).bind fun e s => k' r e s := id rfl
@[simp] theorem noX_ok {α : Type} {a : α} : (R.ok a s).noX = .ok a s := id rfl
@[simp] theorem gTup_eq {n : Nat} {k : GsV} {d : D} : gTup n k d e s = match seqOf s d with
  | some ds => if ds.length = n then (k ds e s).noX else .bad
  | none => .bad := id rfl
@[simp] theorem gIx_eq {d : D} : gIx f g d e s = (f e s).bind fun o s => (g e s).bind fun i s => (setIx o i d s).bind fun _ s => .ok e s := id rfl
@[simp] theorem sAsg_eq {k : GV} : sAsg f k e s = (f e s).toS e fun d s => (k d e s).toS e fun e' s => .nx e' s := id rfl
@[simp] theorem sAug_eq {o : D → D → Sto → R D} : sAug i o f e s = match e[i]? with
  | some (some x) => (f e s).toS e fun y s => (o x y s).toS e fun z s => .nx (e.set i (some z)) s
  | _ => .bad := id rfl
@[simp] theorem sAugIx_eq {o : D → D → Sto → R D} : sAugIx f g o h e s = (f e s).toS e fun x s => (g e s).toS e fun i s => (hIxL x i s).toS e fun d s => (h e s).toS e fun y s => (o d y s).toS e fun z s => (setIx x i z s).toS e fun _ s => .nx e s := id rfl
@[simp] theorem sPar_eq : sPar i j l e s = (l e s).toS e fun ds s => match ds with
  | [x, y] => .nx ((e.set i (some x)).set j (some y)) s
  | _ => .bad := id rfl
@[simp] theorem iRange1_eq : iRange1 f e s = (f e s).bind fun d s => match d with
  | .p (.int j) => if -(2 ^ 62) ≤ j ∧ j < 2 ^ 62 then .ok (itS (rngD 0 j.toNat)) s else .bad
  | _ => .bad := id rfl
@[simp] theorem iRange2_eq : iRange2 f g e s = (f e s).bind fun a s => (g e s).bind fun b s => match a, b with
  | .p (.int i), .p (.int j) => if -(2 ^ 62) ≤ i ∧ i < 2 ^ 62 ∧ -(2 ^ 62) ≤ j ∧ j < 2 ^ 62 then .ok (itS (rngD i (j - i).toNat)) s else .bad
  | _, _ => .bad := id rfl
end

/-! ### operators at ints, texts, tuples -/
section
variable {s : Sto} {a b : Int} {x y : Str} {xs ys : List PyData}
@[simp] theorem hAdd_int : hAdd (.p (.int a)) (.p (.int b)) s = .ok (.p (.int (a + b))) s := id rfl
@[simp] theorem hAdd_str : hAdd (.p (.str x)) (.p (.str y)) s = if x.length + y.length ≤ sizeLine then .ok (.p (.str (x ++ y))) s else .bad := id rfl
theorem mkT_map (xs : List PyData) : mkT (xs.map D.p) = .p (.tuple xs) := by
  unfold mkT
  rw [allP_map]
@[simp] theorem mkT_nil : mkT [] = .p (.tuple []) := id rfl
@[simp] theorem mkT_1 {a : PyData} : mkT [.p a] = .p (.tuple [a]) := id rfl
@[simp] theorem mkT_2 {a b : PyData} : mkT [.p a, .p b] = .p (.tuple [a, b]) := id rfl
@[simp] theorem mkT_3 {a b c : PyData} : mkT [.p a, .p b, .p c] = .p (.tuple [a, b, c]) := id rfl
@[simp] theorem mkT_4 {a b c d : PyData} : mkT [.p a, .p b, .p c, .p d] = .p (.tuple [a, b, c, d]) := id rfl
theorem hAdd_tup (h : xs.length + ys.length ≤ sizeLine) : hAdd (.p (.tuple xs)) (.p (.tuple ys)) s = .ok (.p (.tuple (xs ++ ys))) s := by
  show (if _ then _ else _) = _
  rw [if_pos (by simpa using h), ← List.map_append, mkT_map]
@[simp] theorem hInt2_int {k : Int → Int → Option PyData} : hInt2 k (.p (.int a)) (.p (.int b)) s = match k a b with
  | some x => .ok (.p x) s
  | none => .bad := id rfl
@[simp] theorem hMul_int : hMul (.p (.int a)) (.p (.int b)) s = if mulOk a b then .ok (.p (.int (a * b))) s else .bad := id rfl
theorem mulOk_of {m n : Nat} (ha : a.natAbs < 2 ^ m) (hb : b.natAbs < 2 ^ n) (h : m + n ≤ 1000000 := by decide) : mulOk a b = true := by
  unfold mulOk
  rw [decide_eq_true_eq]
  have l : ∀ (c k : Nat), c < 2 ^ k → c.log2 ≤ k - 1 ∧ (k = 0 → c = 0) := fun c k hk => by
    refine ⟨?_, fun e => by subst e; simpa using hk⟩
    by_cases hc : c = 0
    · subst hc
      simp
    · have := (Nat.log2_lt hc).mpr hk
      omega
  have h1 := l _ _ ha
  have h2 := l _ _ hb
  have z : ∀ c : Nat, c = 0 → c.log2 = 0 := fun c e => by subst e; rfl
  by_cases hm : m = 0
  · have := z _ (h1.2 hm)
    by_cases hn : n = 0
    · have := z _ (h2.2 hn)
      omega
    · omega
  · by_cases hn : n = 0
    · have := z _ (h2.2 hn)
      omega
    · omega
theorem divOk_of {n : Nat} (h0 : 0 < b) (hb : b.natAbs < 2 ^ n) (h : n ≤ 9000 := by decide) : divOk a b = true := by
  unfold divOk
  rw [Bool.and_eq_true, decide_eq_true_eq, Bool.or_eq_true, decide_eq_true_eq]
  refine ⟨h0, .inl ?_⟩
  have hc : b.natAbs ≠ 0 := by omega
  have := (Nat.log2_lt hc).mpr hb
  omega
@[simp] theorem hEq_int : hEq (.p (.int a)) (.p (.int b)) s = .ok (.p (.bool (decide (a = b)))) s := id rfl
@[simp] theorem hNe_int : hNe (.p (.int a)) (.p (.int b)) s = .ok (.p (.bool (!decide (a = b)))) s := id rfl
@[simp] theorem hEq_str : hEq (.p (.str x)) (.p (.str y)) s = .ok (.p (.bool (decide (x = y)))) s := id rfl
@[simp] theorem hNe_str : hNe (.p (.str x)) (.p (.str y)) s = .ok (.p (.bool (!decide (x = y)))) s := id rfl
@[simp] theorem hEq_bool {a b : Bool} : hEq (.p (.bool a)) (.p (.bool b)) s = .ok (.p (.bool (decide (a = b)))) s := id rfl
@[simp] theorem hNe_bool {a b : Bool} : hNe (.p (.bool a)) (.p (.bool b)) s = .ok (.p (.bool (!decide (a = b)))) s := id rfl
theorem hEq_shaped {x y : D} {p q : PyData} (hx : toP s x = some p) (hy : toP s y = some q) (h1 : PySem.SeqAt.shaped p = true) (h2 : PySem.SeqAt.shaped q = true) (n1 : ∀ i j, ¬ (x = .p (.int i) ∧ y = .p (.int j))) (n2 : ∀ i j, ¬ (x = .p (.str i) ∧ y = .p (.str j))) (n3 : ∀ i j, ¬ (x = .p (.bool i) ∧ y = .p (.bool j))) :
    hEq x y s = .ok (.p (.bool (PyData.eqv p q))) s := by
  have e : hEqB s x y = some (PyData.eqv p q) := by
    unfold hEqB
    split
    · exact (n1 _ _ ⟨rfl, rfl⟩).elim
    · exact (n2 _ _ ⟨rfl, rfl⟩).elim
    · exact (n3 _ _ ⟨rfl, rfl⟩).elim
    · rw [hx, hy]
      simp [h1, h2]
  unfold hEq
  rw [e]
@[simp] theorem hIs_none : hIs (.p .none) (.p .none) s = .ok (.p (.bool true)) s := id rfl
@[simp] theorem hIs_bool {a b : Bool} : hIs (.p (.bool a)) (.p (.bool b)) s = .ok (.p (.bool (decide (a = b)))) s := id rfl
@[simp] theorem hIsNot_bool {a b : Bool} : hIsNot (.p (.bool a)) (.p (.bool b)) s = .ok (.p (.bool (!decide (a = b)))) s := id rfl
@[simp] theorem truB_none : truB s (.p .none) = some false := id rfl
@[simp] theorem truB_bool {b : Bool} : truB s (.p (.bool b)) = some b := id rfl
@[simp] theorem truB_int : truB s (.p (.int a)) = some (a != 0) := id rfl
@[simp] theorem truB_list : truB s (.p (.list xs)) = some !xs.isEmpty := by
  show some (!(xs.map D.p).isEmpty) = _
  cases xs <;> rfl
@[simp] theorem truB_tuple : truB s (.p (.tuple xs)) = some !xs.isEmpty := by
  show some (!(xs.map D.p).isEmpty) = _
  cases xs <;> rfl
@[simp] theorem seqOf_tuple : seqOf s (.p (.tuple xs)) = some (xs.map D.p) := id rfl
@[simp] theorem seqOf_list : seqOf s (.p (.list xs)) = some (xs.map D.p) := id rfl
@[simp] theorem asL_list : asL s (.p (.list xs)) = some (xs.map D.p) := id rfl
@[simp] theorem asL_ro : asL s (.ro xs) = some (xs.map D.p) := id rfl
@[simp] theorem asM_list : asM s (.p (.list xs)) = some (xs.map D.p) := id rfl
@[simp] theorem asT_tuple : asT (.p (.tuple xs)) = some (xs.map D.p) := id rfl
theorem asL_ref {k : Nat} : asL s (.ref k) = lstAt s k := rfl
@[simp] theorem asT_ref {k : Nat} : asT (.ref k) = none := id rfl
@[simp] theorem asT_ro : asT (.ro xs) = none := id rfl
@[simp] theorem asT_list : asT (.p (.list xs)) = none := id rfl
@[simp] theorem asT_int : asT (.p (.int a)) = none := id rfl
@[simp] theorem lstAt_zero {ds : List D} {r : Sto} : lstAt (.lst ds :: r) 0 = some ds := id rfl
@[simp] theorem lstAt_succ {o : O} {k : Nat} {r : Sto} : lstAt (o :: r) (k + 1) = lstAt r k := id rfl
theorem hLen_seq {d : D} {ds : List D} (h : seqOf s d = some ds) (n : ∀ z, d ≠ .p (.str z)) : hLen [d] s = .ok (.p (.int ds.length)) s := by
  unfold hLen
  split
  · rename_i e
    cases e
    exact (n _ rfl).elim
  · rename_i e
    cases e
    rw [h]
  · rename_i n1 n2
    exact (n2 d rfl).elim
@[simp] theorem hLen_tuple : hLen [.p (.tuple xs)] s = .ok (.p (.int xs.length)) s := by
  rw [hLen_seq seqOf_tuple (fun _ h => by cases h), List.length_map]
@[simp] theorem hLen_list : hLen [.p (.list xs)] s = .ok (.p (.int xs.length)) s := by
  rw [hLen_seq seqOf_list (fun _ h => by cases h), List.length_map]
@[simp] theorem hLen_ro : hLen [.ro xs] s = .ok (.p (.int xs.length)) s := by
  rw [hLen_seq (ds := xs.map D.p) rfl (fun _ h => by cases h), List.length_map]
theorem hLen_ref {k : Nat} {ds : List D} (h : lstAt s k = some ds) : hLen [.ref k] s = .ok (.p (.int ds.length)) s := hLen_seq (by show asL s (.ref k) = _; rw [asL_ref]; exact h) (fun _ h => by cases h)
@[simp] theorem hAbs_int : hAbs [.p (.int a)] s = .ok (.p (.int (if a < 0 then -a else a))) s := id rfl
@[simp] theorem hInt_int : hInt [.p (.int a)] s = .ok (.p (.int a)) s := id rfl
@[simp] theorem hInt_bool {b : Bool} : hInt [.p (.bool b)] s = .ok (.p (.int (if b then 1 else 0))) s := id rfl
@[simp] theorem hGcd_int : hGcd [.p (.int a), .p (.int b)] s = .ok (.p (.int ((Nat.gcd a.natAbs b.natAbs : Nat) : Int))) s := id rfl
@[simp] theorem hTuple_list : hTuple [.p (.list xs)] s = .ok (.p (.tuple xs)) s := by
  show R.ok (mkT (xs.map D.p)) s = _
  rw [mkT_map]
@[simp] theorem hTuple_tuple : hTuple [.p (.tuple xs)] s = .ok (.p (.tuple xs)) s := by
  show R.ok (mkT (xs.map D.p)) s = _
  rw [mkT_map]
theorem newL_false (xs : List PyData) : newL false (xs.map D.p) s = .ok (.p (.list xs)) s := by
  unfold newL
  rw [allP_map]
  rfl
@[simp] theorem newL_true (ds : List D) : newL true ds s = .ok (.ref s.length) (s ++ [.lst ds]) := id rfl
@[simp] theorem newL_nil : newL false [] s = .ok (.p (.list [])) s := id rfl
@[simp] theorem newL_1 {a : PyData} : newL false [.p a] s = .ok (.p (.list [a])) s := id rfl
@[simp] theorem newL_2 {a b : PyData} : newL false [.p a, .p b] s = .ok (.p (.list [a, b])) s := id rfl
@[simp] theorem hList_list : hList false [.p (.list xs)] s = .ok (.p (.list xs)) s := newL_false xs
@[simp] theorem hList_tuple : hList false [.p (.tuple xs)] s = .ok (.p (.list xs)) s := newL_false xs
theorem asL_ints (ns : List Int) : (hL1 s [.p (.list (ns.map PyData.int))]).bind intsOf = some ns := by
  show intsOf ((ns.map PyData.int).map D.p) = _
  rw [List.map_map]
  exact intsOf_map ns
@[simp] theorem hSum_ints (ns : List Int) : hSum [.p (.list (ns.map PyData.int))] s = .ok (.p (.int ns.sum)) s := by
  unfold hSum
  rw [asL_ints]
theorem asL_bools (ns : List Bool) : (hL1 s [.p (.list (ns.map PyData.bool))]).bind boolsOf = some ns := by
  show boolsOf ((ns.map PyData.bool).map D.p) = _
  rw [List.map_map]
  exact boolsOf_map ns
@[simp] theorem hAll_bools (ns : List Bool) : hAll [.p (.list (ns.map PyData.bool))] s = .ok (.p (.bool (ns.all _root_.id))) s := by
  unfold hAll
  rw [asL_bools]
@[simp] theorem hAny_bools (ns : List Bool) : hAny [.p (.list (ns.map PyData.bool))] s = .ok (.p (.bool (ns.any _root_.id))) s := by
  unfold hAny
  rw [asL_bools]
end

/-! ### items -/
theorem atI_nat {α : Type} (xs : List α) (i : Nat) : L2.atI xs (i : Int) = xs[i]? := by
  unfold L2.atI L2.ixN
  rw [if_pos (by omega)]
  by_cases h : i < xs.length
  · rw [if_pos (by omega)]
    rfl
  · rw [if_neg (by omega), List.getElem?_eq_none (by omega)]
    rfl
theorem ixN_nat {n i : Nat} (h : i < n) : L2.ixN n (i : Int) = some i := by
  unfold L2.ixN
  rw [if_pos (by omega), if_pos (by omega)]
  rfl
section
variable {s : Sto} {xs : List PyData} {d : D} {x : PyData} {i : Nat}
theorem hIx_tuple {a : Int} (h : L2.atI xs a = some x) : hIx (.p (.tuple xs)) (.p (.int a)) s = .ok (.p x) s := by
  have : L2.atI (xs.map D.p) a = some (.p x) := by
    unfold L2.atI at h ⊢
    rw [List.length_map]
    cases q : L2.ixN xs.length a with
    | none => rw [q] at h; cases h
    | some j =>
      rw [q] at h
      have h : xs[j]? = some x := h
      show (xs.map D.p)[j]? = _
      rw [List.getElem?_map, h]
      rfl
  show (match L2.atI (xs.map D.p) a with | some d => R.ok d s | none => R.bad) = _
  rw [this]
theorem hIx_list {a : Int} (h : L2.atI xs a = some x) : hIx (.p (.list xs)) (.p (.int a)) s = .ok (.p x) s := hIx_tuple (s := s) h
@[simp] theorem hIx_t0 {a : PyData} {r : List PyData} : hIx (.p (.tuple (a :: r))) (.p (.int 0)) s = .ok (.p a) s := hIx_tuple (by rw [show (0 : Int) = ((0 : Nat) : Int) from rfl, atI_nat]; rfl)
@[simp] theorem hIx_t1 {a b : PyData} {r : List PyData} : hIx (.p (.tuple (a :: b :: r))) (.p (.int 1)) s = .ok (.p b) s := hIx_tuple (by rw [show (1 : Int) = ((1 : Nat) : Int) from rfl, atI_nat]; rfl)
@[simp] theorem hIx_t2 {a b c : PyData} {r : List PyData} : hIx (.p (.tuple (a :: b :: c :: r))) (.p (.int 2)) s = .ok (.p c) s := hIx_tuple (by rw [show (2 : Int) = ((2 : Nat) : Int) from rfl, atI_nat]; rfl)
@[simp] theorem hIx_t3 {a b c d : PyData} {r : List PyData} : hIx (.p (.tuple (a :: b :: c :: d :: r))) (.p (.int 3)) s = .ok (.p d) s := hIx_tuple (by rw [show (3 : Int) = ((3 : Nat) : Int) from rfl, atI_nat]; rfl)
theorem hIx_ref {k : Nat} {ds : List D} {a : Int} (h : lstAt s k = some ds) (h2 : L2.atI ds a = some d) : hIx (.ref k) (.p (.int a)) s = .ok d s := by
  show (match asL s (.ref k) with | some xs => (match L2.atI xs a with | some d => R.ok d s | none => R.bad) | none => R.bad) = _
  rw [asL_ref, h]
  show (match L2.atI ds a with | some d => R.ok d s | none => R.bad) = _
  rw [h2]
theorem setIx_ref {k j : Nat} {ds : List D} {a : Int} (h : lstAt s k = some ds) (h2 : L2.ixN ds.length a = some j) : setIx (.ref k) (.p (.int a)) d s = .ok () (s.set k (.lst (ds.set j d))) := by
  unfold setIx
  simp only [h, h2]
theorem hAppend_ref {k : Nat} {ds : List D} (h : lstAt s k = some ds) (hz : ds.length < sizeLine) : hAppend (.ref k) [d] s = .ok (.p .none) (s.set k (.lst (ds ++ [d]))) := by
  unfold hAppend
  simp only [h, if_pos hz]
end
theorem lstAt_set {s : Sto} {k : Nat} {o : O} (h : k < s.length) : (s.set k o)[k]? = some o := by rw [List.getElem?_set_self h]
theorem lstAt_lt {s : Sto} {k : Nat} {ds : List D} (h : lstAt s k = some ds) : k < s.length := by
  unfold lstAt at h
  cases q : s[k]? with
  | none => rw [q] at h; cases h
  | some o => exact (List.getElem?_eq_some_iff.mp q).1
theorem lstAt_set_self {s : Sto} {k : Nat} {ds es : List D} (h : lstAt s k = some ds) : lstAt (s.set k (.lst es)) k = some es := by
  unfold lstAt
  rw [lstAt_set (lstAt_lt h)]
theorem lstAt_set_ne {s : Sto} {k j : Nat} {o : O} (h : k ≠ j) : lstAt (s.set k o) j = lstAt s j := by
  unfold lstAt
  rw [List.getElem?_set_ne h]

/-! ### loops -/
def forL (g : GV) (b : SV) : List D → En → Sto → RS
  | [], e, s => .nx e s
  | d :: r, e, s => (g d e s).toS e fun e' s => (b e' s).loop (forL g b r)
theorem foGo_eq (g : GV) (b : SV) (xs : List D) : ∀ (m i : Nat) (e : En) (s : Sto), xs.length - i ≤ m → foGo g b (itS xs) m i e s = forL g b (xs.drop i) e s
  | 0, i, e, s, h => by
    have hd : xs.drop i = [] := List.drop_eq_nil_of_le (by omega)
    have hn : xs[i]? = none := List.getElem?_eq_none (by omega)
    rw [hd]
    unfold foGo
    show (match (some xs[i]? : Option (Option D)) with | some none => RS.nx e s | _ => RS.bad) = _
    rw [hn]
    rfl
  | m + 1, i, e, s, h => by
    unfold foGo
    show (match (some xs[i]? : Option (Option D)) with | some none => RS.nx e s | some (some d) => _ | none => RS.bad) = _
    by_cases hi : i < xs.length
    · rw [List.getElem?_eq_getElem hi, List.drop_eq_getElem_cons hi]
      show (g xs[i] e s).toS e _ = (g xs[i] e s).toS e _
      congr 1
      funext e' s'
      congr 1
      funext e2 s2
      exact foGo_eq g b xs m (i + 1) e2 s2 (by omega)
    · rw [List.getElem?_eq_none (by omega), List.drop_eq_nil_of_le (by omega)]
      rfl
theorem foGo_S (g : GV) (b : SV) (xs : List D) (e : En) (s : Sto) : foGo g b (itS xs) (itS xs).n 0 e s = forL g b xs e s := by
  rw [foGo_eq g b xs _ 0 e s (by show xs.length - 0 ≤ xs.length; omega), List.drop_zero]
@[simp] theorem sFor_eq {fi : IV} {g : GV} {b : SV} {e : En} {s : Sto} : sFor fi g b e s = (fi e s).toS e fun it s => foGo g b it it.n 0 e s := id rfl
theorem itL_p (xs : List PyData) : itL (.p (.list xs)) xs.length = itS (xs.map D.p) := by
  unfold itL itS
  simp
theorem itL_ro (xs : List PyData) : itL (.ro xs) xs.length = itS (xs.map D.p) := by
  unfold itL itS
  simp
def iSeqD (d : D) (s' : Sto) : R IT := match d with
  | .p (.str z) => .ok (itS (z.cps.toList.map fun c => D.p (.str ⟨#[c]⟩))) s'
  | d => match asT d with
    | some xs => .ok (itS xs) s'
    | none => match asL s' d with
      | some xs => .ok (itL d xs.length) s'
      | none => .bad
@[simp] theorem iSeq_eq {f : EV} {e : En} {s : Sto} : iSeq f e s = (f e s).bind fun d s => iSeqD d s := id rfl
@[simp] theorem iSeqD_list {s : Sto} {xs : List PyData} : iSeqD (.p (.list xs)) s = .ok (itS (xs.map D.p)) s := by
  show R.ok (itL (.p (.list xs)) (xs.map D.p).length) s = _
  rw [List.length_map, itL_p]
@[simp] theorem iSeqD_ro {s : Sto} {xs : List PyData} : iSeqD (.ro xs) s = .ok (itS (xs.map D.p)) s := by
  show R.ok (itL (.ro xs) (xs.map D.p).length) s = _
  rw [List.length_map, itL_ro]
@[simp] theorem iSeqD_tuple {s : Sto} {xs : List PyData} : iSeqD (.p (.tuple xs)) s = .ok (itS (xs.map D.p)) s := id rfl
@[simp] theorem iSeqD_str {s : Sto} {z : Str} : iSeqD (.p (.str z)) s = .ok (itS (z.cps.toList.map fun c => D.p (.str ⟨#[c]⟩))) s := id rfl

/-- what is wanted behind a loop's body: I of the next turn; Q of the loop's own end -/
def RS.wp (r : RS) (I : En → Sto → Prop) (Q : RS → Prop) : Prop := match r with
  | .nx e s => I e s
  | .ct e s => I e s
  | .bk e s => Q (.nx e s)
  | r => Q r
@[simp] theorem wp_nx {e : En} {s : Sto} {I : En → Sto → Prop} {Q : RS → Prop} : (RS.nx e s).wp I Q = I e s := id rfl
@[simp] theorem wp_ct {e : En} {s : Sto} {I : En → Sto → Prop} {Q : RS → Prop} : (RS.ct e s).wp I Q = I e s := id rfl
@[simp] theorem wp_bk {e : En} {s : Sto} {I : En → Sto → Prop} {Q : RS → Prop} : (RS.bk e s).wp I Q = Q (.nx e s) := id rfl
@[simp] theorem wp_rt {d : D} {s : Sto} {I : En → Sto → Prop} {Q : RS → Prop} : (RS.rt d s).wp I Q = Q (.rt d s) := id rfl
@[simp] theorem wp_ex {c : Nat} {x : PyData} {e : En} {s : Sto} {I : En → Sto → Prop} {Q : RS → Prop} : (RS.ex c x e s).wp I Q = Q (.ex c x e s) := id rfl
@[simp] theorem wp_bad {I : En → Sto → Prop} {Q : RS → Prop} : RS.bad.wp I Q = Q .bad := id rfl
theorem loop_wp {r : RS} {k : En → Sto → RS} {I : En → Sto → Prop} {Q : RS → Prop} (h : r.wp I Q) (hk : ∀ e s, I e s → Q (k e s)) : Q (r.loop k) := by
  cases r with
  | nx e s => exact hk e s h
  | ct e s => exact hk e s h
  | bk e s => exact h
  | rt d s => exact h
  | ex c x e s => exact h
  | bad => exact h
theorem forL_run {g : GV} {b : SV} {Q : RS → Prop} (I : List D → En → Sto → Prop) (hn : ∀ e s, I [] e s → Q (.nx e s)) (hs : ∀ d r e s, I (d :: r) e s → ((g d e s).toS e b).wp (I r) Q) : ∀ (xs : List D) (e : En) (s : Sto), I xs e s → Q (forL g b xs e s)
  | [], e, s, h => hn e s h
  | d :: r, e, s, h => by
    have q := hs d r e s h
    unfold forL
    cases hg : g d e s with
    | ok e' s' =>
      rw [hg] at q
      exact loop_wp q fun e2 s2 i2 => forL_run I hn hs r e2 s2 i2
    | ex c x s' => rw [hg] at q; exact q
    | bad => rw [hg] at q; exact q
/-- .. over a row whose items are known by their place -/
theorem while_run {c : TV} {b : SV} {Q : RS → Prop} (I : Nat → En → Sto → Prop) (hs : ∀ m e s, I m e s → ((c e s).toS e fun t s => if t then b e s else .bk e s).wp (fun e' s' => ∃ m', m' < m ∧ I m' e' s') Q) : ∀ (n m : Nat) (e : En) (s : Sto), m < n → I m e s → Q (whGo c b n e s)
  | 0, m, e, s, h, _ => absurd h (Nat.not_lt_zero m)
  | n + 1, m, e, s, h, i => by
    have q := hs m e s i
    unfold whGo
    cases hc : c e s with
    | bad => rw [hc] at q; exact q
    | ex k x s' => rw [hc] at q; exact q
    | ok t s' =>
      rw [hc] at q
      cases t with
      | false => exact q
      | true => exact loop_wp q fun e2 s2 ⟨m', hm, i2⟩ => while_run I hs n m' e2 s2 (by omega) i2
@[simp] theorem sWhile_eq {n : Nat} {c : TV} {b : SV} {e : En} {s : Sto} : sWhile n c b e s = whGo c b n e s := id rfl

/-! ### comprehensions -/
def lcL (g : GV) (p : TV) (f : EV) (e0 : En) : List D → List D → Sto → R (List D)
  | [], acc, s => .ok acc s
  | d :: r, acc, s => (g d e0 s).bind fun e1 s => (p e1 s).bind fun b s => if b then (f e1 s).bind fun y s => if acc.length < sizeLine then lcL g p f e0 r (acc ++ [y]) s else .bad
      else lcL g p f e0 r acc s
theorem lcGo_eq (g : GV) (p : TV) (f : EV) (e0 : En) (xs : List D) : ∀ (m i : Nat) (acc : List D) (s : Sto), xs.length - i ≤ m → lcGo g p f e0 (itS xs) m i acc s = lcL g p f e0 (xs.drop i) acc s
  | 0, i, acc, s, h => by
    have hd : xs.drop i = [] := List.drop_eq_nil_of_le (by omega)
    have hn : xs[i]? = none := List.getElem?_eq_none (by omega)
    rw [hd]
    unfold lcGo
    show (match (some xs[i]? : Option (Option D)) with | some none => R.ok acc s | _ => R.bad) = _
    rw [hn]
    rfl
  | m + 1, i, acc, s, h => by
    unfold lcGo
    show (match (some xs[i]? : Option (Option D)) with | some none => R.ok acc s | some (some d) => _ | none => R.bad) = _
    by_cases hi : i < xs.length
    · rw [List.getElem?_eq_getElem hi, List.drop_eq_getElem_cons hi]
      show R.bind (g xs[i] e0 s) _ = R.bind (g xs[i] e0 s) _
      have ih := fun acc s => lcGo_eq g p f e0 xs m (i + 1) acc s (by omega)
      congr 1
      funext e1 s1
      congr 1
      funext b s2
      simp only [ih]
    · rw [List.getElem?_eq_none (by omega), List.drop_eq_nil_of_le (by omega)]
      rfl
theorem lcGo_S (g : GV) (p : TV) (f : EV) (e0 : En) (xs : List D) (s : Sto) : lcGo g p f e0 (itS xs) (itS xs).n 0 [] s = lcL g p f e0 xs [] s := by
  rw [lcGo_eq g p f e0 xs _ 0 [] s (by show xs.length - 0 ≤ xs.length; omega), List.drop_zero]
theorem eLc_of {h : Bool} {vs : List Nat} {fi : IV} {g : GV} {p : TV} {f : EV} {e : En} {s s' : Sto} {xs : List D} (hi : fi e s = .ok (itS xs) s') : eLc h vs fi g p f e s = (lcL g p f (wipeE e vs) xs [] s').noX.bind fun ds s => newL h ds s := by
  unfold eLc
  rw [hi]
  show ((lcGo g p f (wipeE e vs) (itS xs) (itS xs).n 0 [] s').noX).bind _ = _
  rw [lcGo_S]
/-- every item made by h -/
theorem lcL_map {g : GV} {f : EV} {e0 : En} {s : Sto} (h : D → D) : ∀ (xs acc : List D), (∀ d ∈ xs, ((g d e0 s).bind fun e1 s => f e1 s) = .ok (h d) s) → acc.length + xs.length ≤ sizeLine → lcL g tYes f e0 xs acc s = .ok (acc ++ xs.map h) s
  | [], acc, _, _ => by simp [lcL]
  | d :: r, acc, hd, hz => by
    have q := hd d List.mem_cons_self
    rw [List.length_cons] at hz
    unfold lcL
    cases hg : g d e0 s with
    | bad => rw [hg] at q; cases q
    | ex c x s' => rw [hg] at q; cases q
    | ok e1 s1 =>
      rw [hg] at q
      have q : f e1 s1 = .ok (h d) s := q
      simp only [R.bind_ok, tYes_eq, if_true, q]
      rw [if_pos (by omega), lcL_map h r (acc ++ [h d]) (fun x hx => hd x (List.mem_cons_of_mem _ hx)) (by rw [List.length_append, List.length_singleton]; omega)]
      simp
/-- .. where the store changes on the way: I of the items left, those made, the store -/
theorem lcL_run {g : GV} {p : TV} {f : EV} {e0 : En} {Q : R (List D) → Prop} (I : List D → List D → Sto → Prop) (hn : ∀ acc s, I [] acc s → Q (.ok acc s))
    (hs : ∀ d r acc s, I (d :: r) acc s → ∃ e1 s1 b s2, g d e0 s = .ok e1 s1 ∧ p e1 s1 = .ok b s2 ∧ (b = false → I r acc s2) ∧ (b = true → ∃ y s3, f e1 s2 = .ok y s3 ∧ acc.length < sizeLine ∧ I r (acc ++ [y]) s3)) :
    ∀ (xs acc : List D) (s : Sto), I xs acc s → Q (lcL g p f e0 xs acc s)
  | [], acc, s, h => hn acc s h
  | d :: r, acc, s, h => by
    obtain ⟨e1, s1, b, s2, h1, h2, h3, h4⟩ := hs d r acc s h
    unfold lcL
    rw [h1]
    simp only [R.bind_ok, h2]
    cases b with
    | false => exact lcL_run I hn hs r acc s2 (h3 rfl)
    | true =>
      obtain ⟨y, s3, h5, h6, h7⟩ := h4 rfl
      simp only [if_true, h5, R.bind_ok, if_pos h6]
      exact lcL_run I hn hs r (acc ++ [y]) s3 h7

/-! ### a body's value -/
def rsOut : RS → R D
  | .rt d s' => .ok d s'
  | .nx _ s' => .ok (.p .none) s'
  | .ex c x _ s' => .ex c x s'
  | _ => .bad
@[simp] theorem rsOut_rt {d : D} {s : Sto} : rsOut (.rt d s) = .ok d s := id rfl
@[simp] theorem rsOut_nx {e : En} {s : Sto} : rsOut (.nx e s) = .ok (.p .none) s := id rfl
@[simp] theorem rsOut_ex {c : Nat} {x : PyData} {e : En} {s : Sto} : rsOut (.ex c x e s) = .ex c x s := id rfl
theorem runB_eq {n : Nat} {b : SV} {ds : List D} {s : Sto} : runB n b ds s = rsOut (b (ds.map some ++ List.replicate (n - ds.length) none) s) := by
  unfold runB
  generalize b _ s = r
  cases r <;> rfl
end Dl
/-! The data layer: the stream of a law and its drawing (plain Lean). -/
namespace Dl
open PySem

def encN (n : Int) : D := .p (.int n)
def encRow (l : List Int) : List D := l.map encN
@[simp] theorem encRow_length {l : List Int} : (encRow l).length = l.length := List.length_map _
theorem encRow_cons {a : Int} {l : List Int} : encRow (a :: l) = .p (.int a) :: encRow l := rfl
theorem encRow_app {l : List Int} {n : Int} : encRow l ++ [D.p (.int n)] = encRow (l ++ [n]) := by
  simp [encRow, encN]
theorem divOk_s {a b : Int} (h0 : 0 < b) (hb : b < 18446744073709551616) : divOk a b = true := divOk_of (n := 64) h0 (by omega)
theorem mulOk_s {a b : Int} (h0 : a.natAbs < 2 ^ 200) (hb : b.natAbs < 2 ^ 200) : mulOk a b = true := mulOk_of (m := 200) (n := 200) h0 hb
def tmStream : SV :=
  (sSeq (sSet 1 (eLst true (aCons (eC (.int 1)) aNil)))
  (sSeq (sFor (iSeq (eCut false (eVar 0) oNone (oSome (eC (.int 63))))) (gSet 2)
  (sSeq (sSet 3 (eBlt hAbs (aCons (eBlt hInt (aCons (eVar 2) aNil)) aNil)))
  (sFor (iRange1 (eC (.int 60))) (gSet 4)
  (sSeq (sExpr (eMeL hAppend (eVar 1) (aCons (eOp hMod (eVar 3) (eC (.int 59))) aNil)))
  (sSeq (sSet 3 (eOp hDiv (eVar 3) (eC (.int 59))))
  (sIf (tB (eOp hEq (eVar 3) (eC (.int 0))))
  sBreak
  sNil))))))
  (sSeq (sSet 5 (eC (.int 7)))
  (sSeq (sFor (iSeq (eCut false (eVar 0) oNone (oSome (eC (.int 63))))) (gSet 2)
  (sSet 5 (eOp hMod (eBlt hInt (aCons (eOp hAdd (eOp hAdd (eOp hMul (eVar 5) (eC (.int 131))) (eVar 2)) (eC (.int 17))) aNil)) (eC (.int 1000003)))))
  (sSeq (sFor (iRange1 (eC (.int 150))) (gSet 4)
  (sSeq (sSet 5 (eOp hMod (eBlt hInt (aCons (eOp hAdd (eOp hAdd (eOp hMul (eVar 5) (eC (.int 48271))) (eOp hMul (eVar 4) (eC (.int 69621)))) (eC (.int 11))) aNil)) (eC (.int 2147483647))))
  (sExpr (eMeL hAppend (eVar 1) (aCons (eOp hMod (eOp hDiv (eVar 5) (eC (.int 1009))) (eC (.int 59))) aNil)))))
  (sRet (eVar 1)))))))
def tmTake : SV :=
  (sSeq (sIf (tB (eOp hLt (eOp hIx (eVar 0) (eC (.int 0))) (eBlt hLen (aCons (eVar 0) aNil))))
  (sSeq (sAsg (eOp hAdd (eOp hIx (eVar 0) (eC (.int 0))) (eC (.int 1))) (gIx (eVar 0) (eC (.int 0))))
  (sRet (eOp hMod (eBlt hInt (aCons (eOp hIx (eVar 0) (eOp hSub (eOp hIx (eVar 0) (eC (.int 0))) (eC (.int 1)))) aNil)) (eVar 1))))
  sNil)
  (sRet (eC (.int 0))))

section
variable {s : Sto} {k : Nat} {a : Int} {d : D}
@[simp] theorem hIx_rf : hIx (.ref k) (.p (.int a)) s = match lstAt s k with
  | some ds => (match L2.atI ds a with
    | some d => R.ok d s
    | none => R.bad)
  | none => R.bad := id rfl
@[simp] theorem setIx_rf : setIx (.ref k) (.p (.int a)) d s = match lstAt s k with
  | some xs => (match L2.ixN xs.length a with
    | some j => .ok () (s.set k (.lst (xs.set j d)))
    | none => .bad)
  | none => .bad := id rfl
@[simp] theorem hLen_rf : hLen [.ref k] s = match lstAt s k with
  | some xs => .ok (.p (.int xs.length)) s
  | none => .bad := id rfl
@[simp] theorem hAppend_rf : hAppend (.ref k) [d] s = match lstAt s k with
  | some xs => if xs.length < sizeLine then .ok (.p .none) (s.set k (.lst (xs ++ [d]))) else .bad
  | none => .bad := id rfl
@[simp] theorem asL_rf : asL s (.ref k) = lstAt s k := id rfl
@[simp] theorem seqOf_rf : seqOf s (.ref k) = lstAt s k := id rfl
end
@[simp] theorem atI_0 {α : Type} {x : α} {r : List α} : L2.atI (x :: r) 0 = some x := by
  have := atI_nat (x :: r) 0
  simpa using this
@[simp] theorem ixN_0 {n : Nat} : L2.ixN (n + 1) 0 = some 0 := by
  have := ixN_nat (n := n + 1) (i := 0) (by omega)
  simpa using this
theorem atI_succ {α : Type} (xs : List α) (i : Nat) : L2.atI xs ((i : Int) + 1) = xs[i + 1]? := by
  have := atI_nat xs (i + 1)
  simpa using this
section
variable {s : Sto} {xs ys : List PyData} {b : Bool} {i : Int} {z : Str} {k : Nat}
theorem shaped_tup : SeqAt.shaped (.tuple xs) = (PyData.canLayAll0 xs && decide (PyData.depthAll xs ≤ 63)) := by
  unfold SeqAt.shaped PyData.canLay0 PyData.depth
  simp
theorem shaped_lst : SeqAt.shaped (.list xs) = (PyData.canLayAll0 xs && decide (PyData.depthAll xs ≤ 63)) := by
  unfold SeqAt.shaped PyData.canLay0 PyData.depth
  simp
@[simp] theorem hEq_tt : hEq (.p (.tuple xs)) (.p (.tuple ys)) s = if SeqAt.shaped (.tuple xs) && SeqAt.shaped (.tuple ys) then .ok (.p (.bool (PyData.eqvAll xs ys))) s else .bad := by
  unfold hEq hEqB toP
  simp only []
  cases SeqAt.shaped (.tuple xs) && SeqAt.shaped (.tuple ys) <;> simp [PyData.eqv]
@[simp] theorem hEq_ll : hEq (.p (.list xs)) (.p (.list ys)) s = if SeqAt.shaped (.list xs) && SeqAt.shaped (.list ys) then .ok (.p (.bool (PyData.eqvAll xs ys))) s else .bad := by
  unfold hEq hEqB toP
  simp only []
  cases SeqAt.shaped (.list xs) && SeqAt.shaped (.list ys) <;> simp [PyData.eqv]
@[simp] theorem hNe_tt : hNe (.p (.tuple xs)) (.p (.tuple ys)) s = if SeqAt.shaped (.tuple xs) && SeqAt.shaped (.tuple ys) then .ok (.p (.bool (!PyData.eqvAll xs ys))) s else .bad := by
  unfold hNe hEqB toP
  simp only []
  cases SeqAt.shaped (.tuple xs) && SeqAt.shaped (.tuple ys) <;> simp [PyData.eqv]
@[simp] theorem hNe_ll : hNe (.p (.list xs)) (.p (.list ys)) s = if SeqAt.shaped (.list xs) && SeqAt.shaped (.list ys) then .ok (.p (.bool (!PyData.eqvAll xs ys))) s else .bad := by
  unfold hNe hEqB toP
  simp only []
  cases SeqAt.shaped (.list xs) && SeqAt.shaped (.list ys) <;> simp [PyData.eqv]
@[simp] theorem kindD_none : kindD s (.p .none) = some "NoneType" := id rfl
@[simp] theorem kindD_bool : kindD s (.p (.bool b)) = some "bool" := id rfl
@[simp] theorem kindD_int : kindD s (.p (.int i)) = some "int" := id rfl
@[simp] theorem kindD_str : kindD s (.p (.str z)) = some "str" := id rfl
@[simp] theorem kindD_list : kindD s (.p (.list xs)) = some "list" := id rfl
@[simp] theorem kindD_tuple : kindD s (.p (.tuple xs)) = some "tuple" := id rfl
@[simp] theorem kindD_ro : kindD s (.ro xs) = some "list" := id rfl
end
/-- a row to draw from: its place, its numbers -/
def Row (o : O) : Prop := ∃ (c : Nat) (vs : List Int), o = .lst (.p (.int ((c : Int) + 1)) :: encRow vs) ∧ vs.length < 20000
theorem take_run {o : O} {r : Sto} {m : Int} (h : Row o) (hm : 0 < m) : ∃ (t : Nat) (o' : O), (t : Int) < m ∧ Row o' ∧ runB 2 tmTake [.ref 0, .p (.int m)] (o :: r) = .ok (.p (.int t)) (o' :: r) := by
  obtain ⟨c, vs, rfl, hl⟩ := h
  by_cases hc : c < vs.length
  · have h1 := Int.emod_nonneg vs[c] (b := m) (by omega)
    have h2 := Int.emod_lt_of_pos vs[c] hm
    refine ⟨(vs[c] % m).toNat, .lst (.p (.int ((c + 1 : Nat) + 1)) :: encRow vs), by omega, ⟨c + 1, vs, rfl, hl⟩, ?_⟩
    have e3 : L2.atI (D.p (.int ((c : Int) + 1 + 1)) :: encRow vs) ((c : Int) + 1) = some (encN vs[c]) := by
      rw [atI_succ]
      simp [hc, encRow]
    rw [runB_eq]
    unfold tmTake
    simp [hc]
    simp [e3, hm, encN, h1]
    omega
  · refine ⟨0, _, hm, ⟨c, vs, rfl, hl⟩, ?_⟩
    rw [runB_eq]
    unfold tmTake
    simp [hc]
theorem cutD_all {xs : List D} {n : Nat} (h : xs.length ≤ n) : cutD xs none (some (n : Int)) = xs := by
  unfold cutD HT.sIx
  simp only []
  rw [List.take_of_length_le]
  · simp
  · simp only [List.length_drop]
    rw [if_neg (by omega)]
    omega
def isI (xs : List D) : Prop := ∀ d ∈ xs, ∃ i : Int, d = .p (.int i)
theorem isI_map (ns : List Int) : isI (ns.map fun i => .p (.int i)) := fun d h => by
  obtain ⟨i, _, rfl⟩ := List.mem_map.mp h
  exact ⟨i, rfl⟩
theorem isI_rng (a : Int) (n : Nat) : isI (rngD a n) := fun d h => by
  obtain ⟨i, _, rfl⟩ := List.mem_map.mp h
  exact ⟨_, rfl⟩
theorem rng_mem {a : Int} {n : Nat} {d : D} (h : d ∈ rngD a n) : ∃ i : Nat, i < n ∧ d = .p (.int (a + i)) := by
  obtain ⟨i, hi, rfl⟩ := List.mem_map.mp h
  exact ⟨i, List.mem_range.mp hi, rfl⟩
@[simp] theorem rngD_length {a : Int} {n : Nat} : (rngD a n).length = n := by simp [rngD]

section
variable {g : GV} {b : SV} {c : TV} {k : En → Sto → RS} {P : RS → Prop} {J : En → Sto → Prop} {xs : List D} {e : En} {s : Sto} {n : Nat}
theorem forP (I : List D → En → Sto → Prop) (h0 : I xs e s) (hn : ∀ e s, I [] e s → P (.nx e s)) (hs : ∀ d r e s, I (d :: r) e s → ((g d e s).toS e b).wp (I r) P) : P (forL g b xs e s) := forL_run I hn hs xs e s h0
theorem forPS (I : List D → En → Sto → Prop) (h0 : I xs e s) (hn : ∀ e s, I [] e s → P (k e s)) (hs : ∀ d r e s, I (d :: r) e s → ((g d e s).toS e b).wp (I r) fun r => P (r.seq k)) : P ((forL g b xs e s).seq k) := forL_run (Q := fun r => P (r.seq k)) I hn hs xs e s h0
theorem forW (I : List D → En → Sto → Prop) (h0 : I xs e s) (hn : ∀ e s, I [] e s → J e s) (hs : ∀ d r e s, I (d :: r) e s → ((g d e s).toS e b).wp (I r) fun r => r.wp J P) : (forL g b xs e s).wp J P := forL_run (Q := fun r => r.wp J P) I hn hs xs e s h0
theorem forWS (I : List D → En → Sto → Prop) (h0 : I xs e s) (hn : ∀ e s, I [] e s → (k e s).wp J P) (hs : ∀ d r e s, I (d :: r) e s → ((g d e s).toS e b).wp (I r) fun r => (r.seq k).wp J P) : ((forL g b xs e s).seq k).wp J P := forL_run (Q := fun r => (r.seq k).wp J P) I hn hs xs e s h0
theorem whP (I : Nat → En → Sto → Prop) (m : Nat) (hm : m < n) (h0 : I m e s) (hs : ∀ m e s, I m e s → ((c e s).toS e fun t s => if t then b e s else .bk e s).wp (fun e' s' => ∃ m', m' < m ∧ I m' e' s') P) : P (whGo c b n e s) := while_run I hs n m e s hm h0
theorem whPS (I : Nat → En → Sto → Prop) (m : Nat) (hm : m < n) (h0 : I m e s) (hs : ∀ m e s, I m e s → ((c e s).toS e fun t s => if t then b e s else .bk e s).wp (fun e' s' => ∃ m', m' < m ∧ I m' e' s') fun r => P (r.seq k)) : P ((whGo c b n e s).seq k) := while_run (Q := fun r => P (r.seq k)) I hs n m e s hm h0
theorem whW (I : Nat → En → Sto → Prop) (m : Nat) (hm : m < n) (h0 : I m e s) (hs : ∀ m e s, I m e s → ((c e s).toS e fun t s => if t then b e s else .bk e s).wp (fun e' s' => ∃ m', m' < m ∧ I m' e' s') fun r => r.wp J P) : (whGo c b n e s).wp J P := while_run (Q := fun r => r.wp J P) I hs n m e s hm h0
theorem whWS (I : Nat → En → Sto → Prop) (m : Nat) (hm : m < n) (h0 : I m e s) (hs : ∀ m e s, I m e s → ((c e s).toS e fun t s => if t then b e s else .bk e s).wp (fun e' s' => ∃ m', m' < m ∧ I m' e' s') fun r => (r.seq k).wp J P) : ((whGo c b n e s).seq k).wp J P := while_run (Q := fun r => (r.seq k).wp J P) I hs n m e s hm h0
end
/-- what a body's outcome gives back -/
theorem runB_P {n : Nat} {b : SV} {ds : List D} {s : Sto} {P : R D → Prop} (h : ∀ Q : RS → Prop, (∀ r, P (rsOut r) → Q r) → Q (b (ds.map some ++ List.replicate (n - ds.length) none) s)) : P (runB n b ds s) := by
  rw [runB_eq]
  exact h (fun r => P (rsOut r)) fun r q => q

inductive StA (ro : List PyData) : List D → En → Sto → Prop
  | mk (xs x2 x3 x4 l) (h1 : isI xs) (h2 : l.length + 60 * xs.length ≤ 3780) : StA ro xs [some (.ro ro), some (.ref 0), x2, x3, x4, none] [.lst (.p (.int 1) :: encRow l)]
inductive StB (ro : List PyData) (n : Nat) : List D → En → Sto → Prop
  | mk (xs x2 v x4 l) (h2 : l.length + xs.length + 60 * n ≤ 3780) : StB ro n xs [some (.ro ro), some (.ref 0), x2, some (.p (.int v)), x4, none] [.lst (.p (.int 1) :: encRow l)]
inductive StC (ro : List PyData) (l : List Int) : List D → En → Sto → Prop
  | mk (xs x2 x3 x4 v) (h1 : isI xs) (h2 : 0 ≤ v) (h3 : v < 1000003) : StC ro l xs [some (.ro ro), some (.ref 0), x2, x3, x4, some (.p (.int v))] [.lst (.p (.int 1) :: encRow l)]
inductive StD (ro : List PyData) : List D → En → Sto → Prop
  | mk (xs x2 x3 x4 v l) (h1 : ∀ d ∈ xs, ∃ i : Nat, i < 150 ∧ d = .p (.int i)) (h2 : 0 ≤ v) (h3 : v < 2147483647) (h4 : l.length + xs.length ≤ 10000) : StD ro xs [some (.ro ro), some (.ref 0), x2, x3, x4, some (.p (.int v))] [.lst (.p (.int 1) :: encRow l)]
theorem stream_run (ns : List Int) (h : ns.length ≤ 63) : ∃ o, Row o ∧ runB 6 tmStream [.ro (ns.map PyData.int)] [] = .ok (.ref 0) [o] := by
  refine runB_P (P := fun r => ∃ o, Row o ∧ r = .ok (.ref 0) [o]) fun P hP => ?_
  replace hP : ∀ o, Row o → P (.rt (.ref 0) [o]) := fun o ho => hP _ ⟨o, ho, rfl⟩
  unfold tmStream
  have hc : cutD ((ns.map PyData.int).map D.p) none (some 63) = (ns.map PyData.int).map D.p := cutD_all (n := 63) (by simpa using h)
  have hi : isI ((ns.map PyData.int).map D.p) := by
    rw [List.map_map]
    exact isI_map ns
  have hl : ((ns.map PyData.int).map D.p).length ≤ 63 := by simpa using h
  have hn : newL false ((ns.map PyData.int).map D.p) = fun s => .ok (.p (.list (ns.map PyData.int))) s := funext fun s => newL_false _
  generalize hro : ns.map PyData.int = ro at *
  simp only [sSeq_eq, sSet_eq, eLst_eq, aCons_eq, eC_eq, aNil_eq, R.bind_ok, sizeLine_eq, newL_true, R.toS_ok, RS.seq_nx, List.map_cons, List.map_nil, List.length_cons, List.length_nil, List.nil_append, List.cons_append, List.replicate, List.set, sFor_eq]
  simp [hCut, hc, hn, foGo_S]
  refine forPS (StA ro) (.mk _ _ _ _ [] hi (by simp at hl ⊢; omega)) ?_ ?_
  · rintro e s ⟨x2, x3, x4, l, _, hl2⟩
    simp [hCut, hc, hn, foGo_S]
    refine forPS (StC ro l) (.mk _ _ _ _ _ hi (by omega) (by omega)) ?_ ?_
    · rintro e s ⟨x2, x3, x4, v, _, hv0, hv⟩
      simp [foGo_S]
      refine forPS (StD ro) (.mk _ _ _ _ _ _ ?_ hv0 (by omega) ?_) ?_ ?_
      · intro d hd
        obtain ⟨i, h1, h2⟩ := rng_mem hd
        exact ⟨i, h1, by rw [h2]; simp⟩
      · simp at hl2 ⊢
        omega
      · rintro e s ⟨x2, x3, x4, v, l, _, _, hv, hl⟩
        simp
        exact hP _ ⟨0, l, rfl, by simp at hl; omega⟩
      · rintro d r e s ⟨x2, x3, x4, v, l, hd, hv0, hv, hl⟩
        obtain ⟨i, hi, rfl⟩ := hd d List.mem_cons_self
        simp at hl
        have m1 : mulOk v 48271 = true := mulOk_s (by omega) (by omega)
        have m2 : mulOk (i : Int) 69621 = true := mulOk_s (by omega) (by omega)
        have m3 : l.length + 1 < sizeLine := by rw [sizeLine_eq]; omega
        simp [m1, m2, m3, divOk_s, encRow_app]
        exact .mk _ _ _ _ _ _ (fun d h => hd d (List.mem_cons_of_mem _ h)) (by omega) (by omega) (by simp; omega)
    · rintro d r e s ⟨x2, x3, x4, v, hd, hv0, hv⟩
      obtain ⟨i, rfl⟩ := hd d List.mem_cons_self
      have m1 : mulOk v 131 = true := mulOk_s (by omega) (by omega)
      simp [m1]
      exact .mk _ _ _ _ _ (fun d h => hd d (List.mem_cons_of_mem _ h)) (by omega) (by omega)
  · rintro d r e s ⟨x2, x3, x4, l, hd, hl⟩
    obtain ⟨i, rfl⟩ := hd d List.mem_cons_self
    simp [foGo_S]
    refine forW (StB ro r.length) (.mk _ _ _ _ l (by simp at hl ⊢; omega)) ?_ ?_
    · rintro e s ⟨x2, x4, v, l, hl⟩
      exact .mk _ _ _ _ l (fun d h => hd d (List.mem_cons_of_mem _ h)) (by simp at hl; omega)
    · rintro d r2 e s ⟨x2, v, x4, l, hl⟩
      simp at hl
      have m3 : l.length + 1 < sizeLine := by rw [sizeLine_eq]; omega
      simp [divOk_s, m3, encRow_app]
      split
      · simp
        exact .mk _ _ _ _ _ (fun d h => hd d (List.mem_cons_of_mem _ h)) (by simp; omega)
      · simp
        exact .mk _ _ _ _ _ (by simp; omega)

/-! ### two roads joined -/
section
variable {p : Prop} [Decidable p]
theorem ite_nx {e e' : En} {s : Sto} : (if p then RS.nx e s else RS.nx e' s) = RS.nx (if p then e else e') s := by split <;> rfl
theorem ite_cons' {α : Type} {a b : α} {l m : List α} : (if p then a :: l else b :: m) = (if p then a else b) :: (if p then l else m) := by split <;> rfl
theorem ite_some' {α : Type} {a b : α} : (if p then some a else some b) = some (if p then a else b) := by split <;> rfl
theorem ite_dp {a b : PyData} : (if p then D.p a else D.p b) = D.p (if p then a else b) := by split <;> rfl
theorem ite_int {a b : Int} : (if p then PyData.int a else PyData.int b) = PyData.int (if p then a else b) := by split <;> rfl
end

/-! ### comprehensions that draw -/
theorem lc_draw_go {g : GV} {f : EV} {r : Sto} (Pp : D → PyData → Prop) (E : En → Prop) : ∀ (xs : List D), (∀ d ∈ xs, ∀ o, Row o → ∃ y o', Row o' ∧ Pp d y ∧ ∀ e, E e → ((g d e (o :: r)).bind fun e1 s => f e1 s) = .ok (.p y) (o' :: r)) → ∀ o, Row o →
    ∃ (ys : List PyData) (o' : O), Row o' ∧ ys.length = xs.length ∧ (∀ y ∈ ys, ∃ d ∈ xs, Pp d y) ∧ ∀ acc e, E e → acc.length + xs.length ≤ sizeLine → lcL g tYes f e xs acc (o :: r) = .ok (acc ++ ys.map D.p) (o' :: r)
  | [], _, o, ho => ⟨[], o, ho, rfl, fun _ h => (List.not_mem_nil h).elim, fun acc e _ _ => by simp [lcL]⟩
  | d :: xs, h, o, ho => by
    obtain ⟨y, o1, h1, h2, h3⟩ := h d List.mem_cons_self o ho
    obtain ⟨ys, o2, h4, h5, h6, h7⟩ := lc_draw_go Pp E xs (fun d hd => h d (List.mem_cons_of_mem _ hd)) o1 h1
    refine ⟨y :: ys, o2, h4, by simp [h5], fun z hz => ?_, fun acc e he hz => ?_⟩
    · rcases List.mem_cons.mp hz with q | q
      · exact ⟨d, List.mem_cons_self, q ▸ h2⟩
      · obtain ⟨d', hd', q'⟩ := h6 z q
        exact ⟨d', List.mem_cons_of_mem _ hd', q'⟩
    · rw [List.length_cons] at hz
      have q := h3 e he
      unfold lcL
      cases hg : g d e (o :: r) with
      | bad => rw [hg] at q; cases q
      | ex c x s' => rw [hg] at q; cases q
      | ok e1 s1 =>
        rw [hg] at q
        have q : f e1 s1 = .ok (.p y) (o1 :: r) := q
        simp only [R.bind_ok, tYes_eq, if_true, q]
        rw [if_pos (by omega), h7 _ _ he (by rw [List.length_append, List.length_singleton]; omega)]
        simp
theorem lc_draw {g : GV} {f : EV} {r : Sto} (Pp : D → PyData → Prop) (E : En → Prop) (xs : List D) (h : ∀ d ∈ xs, ∀ o, Row o → ∃ y o', Row o' ∧ Pp d y ∧ ∀ e, E e → ((g d e (o :: r)).bind fun e1 s => f e1 s) = .ok (.p y) (o' :: r)) (hz : xs.length ≤ sizeLine) (o : O) (ho : Row o) :
    ∃ (ys : List PyData) (o' : O), Row o' ∧ ys.length = xs.length ∧ (∀ y ∈ ys, ∃ d ∈ xs, Pp d y) ∧ ∀ e, E e → (lcL g tYes f e xs [] (o :: r)).noX.bind (fun ds s => newL false ds s) = .ok (.p (.list ys)) (o' :: r) := by
  obtain ⟨ys, o', h1, h2, h3, h4⟩ := lc_draw_go Pp E xs h o ho
  refine ⟨ys, o', h1, h2, h3, fun e he => ?_⟩
  rw [h4 [] e he (by simpa using hz)]
  simp [newL_false]
theorem eLc_eq {h : Bool} {vs : List Nat} {fi : IV} {g : GV} {p : TV} {f : EV} {e : En} {s : Sto} : eLc h vs fi g p f e s = (fi e s).bind fun it s => ((lcGo g p f (wipeE e vs) it it.n 0 [] s).noX).bind fun ds s => newL h ds s := rfl
theorem lcL_zip {g : GV} {f : EV} {e0 : En} {s : Sto} : ∀ (xs ys acc : List D) (hl : xs.length = ys.length) (hs : ∀ i (h1 : i < xs.length) (h2 : i < ys.length), ((g xs[i] e0 s).bind fun e1 s => f e1 s) = .ok ys[i] s) (hz : acc.length + xs.length ≤ sizeLine), lcL g tYes f e0 xs acc s = .ok (acc ++ ys) s
  | [], [], acc, _, _, _ => by simp [lcL]
  | x :: xs, y :: ys, acc, hl, hs, hz => by
    have q := hs 0 (by simp) (by simp)
    simp only [List.getElem_cons_zero] at q
    rw [List.length_cons] at hz
    unfold lcL
    cases hg : g x e0 s with
    | bad => rw [hg] at q; cases q
    | ex c x s' => rw [hg] at q; cases q
    | ok e1 s1 =>
      rw [hg] at q
      have q : f e1 s1 = .ok y s := q
      simp only [R.bind_ok, tYes_eq, if_true, q]
      rw [if_pos (by omega), lcL_zip xs ys (acc ++ [y]) (by simpa using hl) (fun i h1 h2 => by
        have := hs (i + 1) (by simpa using h1) (by simpa using h2)
        simpa using this) (by rw [List.length_append, List.length_singleton]; omega)]
      simp
  | [], _ :: _, _, hl, _, _ => by cases hl
  | _ :: _, [], _, hl, _, _ => by cases hl
theorem lcL_rng {g : GV} {f : EV} {e0 : En} {s : Sto} {n : Nat} (ys : List D) (hl : ys.length = n) (hs : ∀ i (h2 : i < ys.length), ((g (.p (.int i)) e0 s).bind fun e1 s => f e1 s) = .ok ys[i] s) (hz : n ≤ sizeLine) : lcL g tYes f e0 (rngD 0 n) [] s = .ok ys s := by
  have := lcL_zip (g := g) (f := f) (e0 := e0) (s := s) (rngD 0 n) ys [] (by rw [rngD_length, hl]) (fun i h1 h2 => by
    have e : (rngD 0 n)[i] = .p (.int i) := by simp [rngD]
    rw [e]
    exact hs i h2) (by simpa using hz)
  simpa using this
theorem iteL {α : Type} {p : Prop} [Decidable p] {a b : α} (h : ¬ p → b = a) : (if p then a else b) = a := by
  split
  · rfl
  · exact h ‹_›

/-! ### loops by place -/
theorem at_run {g : GV} {b : SV} {Q : RS → Prop} {xs : List D} (J : Nat → En → Sto → Prop) (hn : ∀ e s, J xs.length e s → Q (.nx e s)) (hs : ∀ k (h : k < xs.length) e s, J k e s → ((g xs[k] e s).toS e b).wp (J (k + 1)) Q) {e : En} {s : Sto} (h0 : J 0 e s) : Q (forL g b xs e s) :=
  forL_run (Q := Q) (fun r e s => ∃ k, r = xs.drop k ∧ k ≤ xs.length ∧ J k e s) (fun e s ⟨k, h1, h2, h3⟩ => by
    have : xs.length ≤ k := List.drop_eq_nil_iff.mp h1.symm
    have : k = xs.length := by omega
    subst this
    exact hn e s h3) (fun d r e s ⟨k, h1, h2, h3⟩ => by
    by_cases hk : k < xs.length
    · rw [List.drop_eq_getElem_cons hk] at h1
      injection h1 with h4 h5
      subst h4 h5
      have q := hs k hk e s h3
      unfold RS.wp at q ⊢
      split
      · rename_i h
        rw [h] at q
        exact ⟨k + 1, rfl, by omega, q⟩
      · rename_i h
        rw [h] at q
        exact ⟨k + 1, rfl, by omega, q⟩
      · rename_i h
        rw [h] at q
        exact q
      · rename_i n1 n2 n3
        split at q
        · exact (n1 _ _ ‹_›).elim
        · exact (n2 _ _ ‹_›).elim
        · exact (n3 _ _ ‹_›).elim
        · exact q
    · rw [List.drop_eq_nil_of_le (by omega)] at h1
      cases h1) xs e s ⟨0, rfl, by omega, h0⟩
section
variable {g : GV} {b : SV} {k : En → Sto → RS} {P : RS → Prop} {I : En → Sto → Prop} {xs : List D} {e : En} {s : Sto} {n : Nat}
theorem atP (J : Nat → En → Sto → Prop) (h0 : J 0 e s) (hn : ∀ e s, J xs.length e s → P (.nx e s)) (hs : ∀ i (h : i < xs.length) e s, J i e s → ((g xs[i] e s).toS e b).wp (J (i + 1)) P) : P (forL g b xs e s) := at_run J hn hs h0
theorem atPS (J : Nat → En → Sto → Prop) (h0 : J 0 e s) (hn : ∀ e s, J xs.length e s → P (k e s)) (hs : ∀ i (h : i < xs.length) e s, J i e s → ((g xs[i] e s).toS e b).wp (J (i + 1)) fun r => P (r.seq k)) : P ((forL g b xs e s).seq k) := at_run (Q := fun r => P (r.seq k)) J hn hs h0
theorem atW (J : Nat → En → Sto → Prop) (h0 : J 0 e s) (hn : ∀ e s, J xs.length e s → I e s) (hs : ∀ i (h : i < xs.length) e s, J i e s → ((g xs[i] e s).toS e b).wp (J (i + 1)) fun r => r.wp I P) : (forL g b xs e s).wp I P := at_run (Q := fun r => r.wp I P) J hn hs h0
theorem atWS (J : Nat → En → Sto → Prop) (h0 : J 0 e s) (hn : ∀ e s, J xs.length e s → (k e s).wp I P) (hs : ∀ i (h : i < xs.length) e s, J i e s → ((g xs[i] e s).toS e b).wp (J (i + 1)) fun r => (r.seq k).wp I P) : ((forL g b xs e s).seq k).wp I P := at_run (Q := fun r => (r.seq k).wp I P) J hn hs h0
theorem rng_run {Q : RS → Prop} (J : Nat → En → Sto → Prop) (hn : ∀ e s, J n e s → Q (.nx e s)) (hs : ∀ i e s, i < n → J i e s → ((g (.p (.int i)) e s).toS e b).wp (J (i + 1)) Q) {e : En} {s : Sto} (h0 : J 0 e s) : Q (forL g b (rngD 0 n) e s) := at_run (xs := rngD 0 n) J (by rw [rngD_length]; exact hn) (fun i h e s j => by
  have e1 : (rngD 0 n)[i] = .p (.int i) := by simp [rngD]
  rw [e1]
  exact hs i e s (by simpa using h) j) h0
theorem rngP (J : Nat → En → Sto → Prop) (h0 : J 0 e s) (hn : ∀ e s, J n e s → P (.nx e s)) (hs : ∀ i e s, i < n → J i e s → ((g (.p (.int i)) e s).toS e b).wp (J (i + 1)) P) : P (forL g b (rngD 0 n) e s) := rng_run J hn hs h0
theorem rngPS (J : Nat → En → Sto → Prop) (h0 : J 0 e s) (hn : ∀ e s, J n e s → P (k e s)) (hs : ∀ i e s, i < n → J i e s → ((g (.p (.int i)) e s).toS e b).wp (J (i + 1)) fun r => P (r.seq k)) : P ((forL g b (rngD 0 n) e s).seq k) := rng_run (Q := fun r => P (r.seq k)) J hn hs h0
theorem rngW (J : Nat → En → Sto → Prop) (h0 : J 0 e s) (hn : ∀ e s, J n e s → I e s) (hs : ∀ i e s, i < n → J i e s → ((g (.p (.int i)) e s).toS e b).wp (J (i + 1)) fun r => r.wp I P) : (forL g b (rngD 0 n) e s).wp I P := rng_run (Q := fun r => r.wp I P) J hn hs h0
theorem rngWS (J : Nat → En → Sto → Prop) (h0 : J 0 e s) (hn : ∀ e s, J n e s → (k e s).wp I P) (hs : ∀ i e s, i < n → J i e s → ((g (.p (.int i)) e s).toS e b).wp (J (i + 1)) fun r => (r.seq k).wp I P) : ((forL g b (rngD 0 n) e s).seq k).wp I P := rng_run (Q := fun r => (r.seq k).wp I P) J hn hs h0
end

/-! ### objects behind a store -/
section
variable {s r : Sto} {ds es : List D} {o a c : O} {x : PyData} {xs : List PyData}
@[simp] theorem lstAt_app0 : lstAt (s ++ .lst ds :: r) s.length = some ds := by
  unfold lstAt
  simp
@[simp] theorem lstAt_app1 : lstAt (s ++ o :: .lst ds :: r) (s.length + 1) = some ds := by
  unfold lstAt
  simp
@[simp] theorem lstAt_app2 : lstAt (s ++ a :: o :: .lst ds :: r) (s.length + 1 + 1) = some ds := by
  unfold lstAt
  simp [Nat.add_assoc]
@[simp] theorem set_app0 : (s ++ o :: r).set s.length a = s ++ a :: r := by simp
@[simp] theorem set_app1 : (s ++ o :: c :: r).set (s.length + 1) a = s ++ o :: a :: r := by simp
theorem keeps_app : Keeps s (s ++ r) := .inl (by simp)
theorem leave_p : leave s (.ok (.p x) (s ++ r)) = .ok (.p x) s := by
  rw [leave_yes (d' := .p x) keeps_app rfl]
  simp
theorem leave_p0 : leave s (.ok (.p x) s) = .ok (.p x) s := by
  have := leave_p (s := s) (r := []) (x := x)
  simpa using this
theorem calm_ref {k : Nat} (h : lstAt r k = some (xs.map D.p)) : calm s.length (s ++ r) (.ref (s.length + k)) = some (.p (.list xs)) := by
  unfold calm
  simp only []
  unfold calm1
  simp only []
  rw [if_neg (by omega)]
  unfold lstAt at h
  rw [List.getElem?_append_right (by omega), show s.length + k - s.length = k by omega]
  cases q : r[k]? with
  | none => rw [q] at h; cases h
  | some o =>
    rw [q] at h
    cases o with
    | lst ds =>
      simp only [Option.some.injEq] at h
      subst h
      simp [allP_map]
    | ins => cases h
theorem leave_ref {k : Nat} (h : lstAt r k = some (xs.map D.p)) : leave s (.ok (.ref (s.length + k)) (s ++ r)) = .ok (.p (.list xs)) s := by
  rw [leave_yes keeps_app (calm_ref h)]
  simp
end

/-! ### slices, ends, joins -/
theorem cutD_take (xs : List D) (n : Nat) : cutD xs none (some (n : Int)) = xs.take n := by
  unfold cutD
  rw [HT.sIx_nat]
  simp only [HT.sIx]
  rw [List.drop_zero, Nat.sub_zero]
  by_cases h : n ≤ xs.length
  · rw [Nat.min_eq_left h]
  · rw [Nat.min_eq_right (by omega), List.take_length, List.take_of_length_le (by omega)]
theorem cutD_drop (xs : List D) (n : Nat) : cutD xs (some (n : Int)) none = xs.drop n := by
  unfold cutD
  rw [HT.sIx_nat]
  simp only [HT.sIx]
  by_cases h : n ≤ xs.length
  · rw [Nat.min_eq_left h, List.take_of_length_le (by rw [List.length_drop]; omega)]
  · rw [Nat.min_eq_right (by omega), List.drop_length, List.drop_eq_nil_of_le (by omega)]
    simp
theorem cutD_init (xs : List D) : cutD xs none (some (-1)) = xs.dropLast := by
  unfold cutD
  simp only [HT.sIx]
  rw [if_pos (by decide), List.drop_zero, Nat.sub_zero, List.dropLast_eq_take]
  congr 1
  omega
section
variable {s : Sto} {xs ys : List PyData} {n : Nat}
@[simp] theorem hCut_ltake : hCut false (.p (.list xs)) none (some (n : Int)) s = .ok (.p (.list (xs.take n))) s := by
  show newL false (cutD (xs.map D.p) none (some (n : Int))) s = _
  rw [cutD_take, ← List.map_take, newL_false]
@[simp] theorem hCut_ldrop : hCut false (.p (.list xs)) (some (n : Int)) none s = .ok (.p (.list (xs.drop n))) s := by
  show newL false (cutD (xs.map D.p) (some (n : Int)) none) s = _
  rw [cutD_drop, ← List.map_drop, newL_false]
@[simp] theorem hCut_ldrop1 : hCut false (.p (.list xs)) (some ((n : Int) + 1)) none s = .ok (.p (.list (xs.drop (n + 1)))) s := by
  rw [show ((n : Int) + 1) = ((n + 1 : Nat) : Int) by omega, hCut_ldrop]
@[simp] theorem hCut_linit : hCut false (.p (.list xs)) none (some (-1)) s = .ok (.p (.list xs.dropLast)) s := by
  show newL false (cutD (xs.map D.p) none (some (-1))) s = _
  rw [cutD_init, ← List.map_dropLast, newL_false]
@[simp] theorem hCut_ttake : hCut false (.p (.tuple xs)) none (some (n : Int)) s = .ok (.p (.tuple (xs.take n))) s := by
  show R.ok (mkT (cutD (xs.map D.p) none (some (n : Int)))) s = _
  rw [cutD_take, ← List.map_take, mkT_map]
@[simp] theorem hCut_tdrop : hCut false (.p (.tuple xs)) (some (n : Int)) none s = .ok (.p (.tuple (xs.drop n))) s := by
  show R.ok (mkT (cutD (xs.map D.p) (some (n : Int)) none)) s = _
  rw [cutD_drop, ← List.map_drop, mkT_map]
@[simp] theorem hCut_tdrop1 : hCut false (.p (.tuple xs)) (some ((n : Int) + 1)) none s = .ok (.p (.tuple (xs.drop (n + 1)))) s := by
  rw [show ((n : Int) + 1) = ((n + 1 : Nat) : Int) by omega, hCut_tdrop]
@[simp] theorem hCut_tinit : hCut false (.p (.tuple xs)) none (some (-1)) s = .ok (.p (.tuple xs.dropLast)) s := by
  show R.ok (mkT (cutD (xs.map D.p) none (some (-1)))) s = _
  rw [cutD_init, ← List.map_dropLast, mkT_map]
@[simp] theorem hAdd_ll : hAdd (.p (.list xs)) (.p (.list ys)) s = if xs.length + ys.length ≤ sizeLine then .ok (.p (.list (xs ++ ys))) s else .bad := by
  show (if (xs.map D.p).length + (ys.map D.p).length ≤ sizeLine then newL false (xs.map D.p ++ ys.map D.p) s else .bad) = _
  rw [List.length_map, List.length_map, ← List.map_append, newL_false]
@[simp] theorem hAdd_tt : hAdd (.p (.tuple xs)) (.p (.tuple ys)) s = if xs.length + ys.length ≤ sizeLine then .ok (.p (.tuple (xs ++ ys))) s else .bad := by
  show (if (xs.map D.p).length + (ys.map D.p).length ≤ sizeLine then R.ok (mkT (xs.map D.p ++ ys.map D.p)) s else .bad) = _
  rw [List.length_map, List.length_map, ← List.map_append, mkT_map]
theorem atI_last {α : Type} (xs : List α) : L2.atI xs (-1) = xs.getLast? := by
  unfold L2.atI L2.ixN
  rw [if_neg (by decide)]
  cases xs with
  | nil => rfl
  | cons x r =>
    rw [if_pos (by rw [List.length_cons]; omega), List.getLast?_eq_getElem?]
    show (x :: r)[_]? = _
    congr 1
    rw [List.length_cons]
    omega
theorem hIx_llast {x : PyData} (h : xs.getLast? = some x) : hIx (.p (.list xs)) (.p (.int (-1))) s = .ok (.p x) s := hIx_list (by rw [atI_last]; exact h)
theorem hIx_tlast {x : PyData} (h : xs.getLast? = some x) : hIx (.p (.tuple xs)) (.p (.int (-1))) s = .ok (.p x) s := hIx_tuple (by rw [atI_last]; exact h)
theorem hIx_lat {i : Nat} {x : PyData} (h : xs[i]? = some x) : hIx (.p (.list xs)) (.p (.int i)) s = .ok (.p x) s := hIx_list (by rw [atI_nat]; exact h)
theorem hIx_tat {i : Nat} {x : PyData} (h : xs[i]? = some x) : hIx (.p (.tuple xs)) (.p (.int i)) s = .ok (.p x) s := hIx_tuple (by rw [atI_nat]; exact h)
end
@[simp] theorem hAdd_lr {s : Sto} {xs : List PyData} {k : Nat} : hAdd (.p (.list xs)) (.ref k) s = match lstAt s k with
  | some ds => if xs.length + ds.length ≤ sizeLine then newL false (xs.map D.p ++ ds) s else .bad
  | none => .bad := by
  show (match some (xs.map D.p), lstAt s k with
    | some xs, some ys => if xs.length + ys.length ≤ sizeLine then newL false (xs ++ ys) s else R.bad
    | _, _ => .bad) = _
  cases lstAt s k with
  | none => rfl
  | some ds => simp

/-! ### loops over an object of the store -/
theorem itL_run {g : GV} {b : SV} {Q : RS → Prop} {d : D} {xs : List D} (J : Nat → En → Sto → Prop) (hk : ∀ i e s, J i e s → asL s d = some xs) (hn : ∀ e s, J xs.length e s → Q (.nx e s)) (hs : ∀ i (h : i < xs.length) e s, J i e s → ((g xs[i] e s).toS e b).wp (J (i + 1)) Q) : ∀ m i e s, xs.length - i ≤ m → i ≤ xs.length → J i e s → Q (foGo g b (itL d xs.length) m i e s)
  | 0, i, e, s, h1, h2, j => by
    have : i = xs.length := by omega
    subst this
    unfold foGo
    have e1 : (itL d xs.length).nx xs.length s = some none := by
      show (asL s d).map _ = _
      rw [hk _ _ _ j]
      simp
    rw [e1]
    exact hn e s j
  | m + 1, i, e, s, h1, h2, j => by
    unfold foGo
    by_cases hi : i < xs.length
    · have e1 : (itL d xs.length).nx i s = some (some xs[i]) := by
        show (asL s d).map _ = _
        rw [hk _ _ _ j]
        simp [hi]
      rw [e1]
      have q := hs i hi e s j
      show Q ((g xs[i] e s).toS e fun e' s => (b e' s).loop (foGo g b (itL d xs.length) m (i + 1)))
      cases hg : g xs[i] e s with
      | ok e' s' =>
        rw [hg] at q
        exact loop_wp q fun e2 s2 i2 => itL_run J hk hn hs m (i + 1) e2 s2 (by omega) (by omega) i2
      | ex c x s' => rw [hg] at q; exact q
      | bad => rw [hg] at q; exact q
    · have : i = xs.length := by omega
      subst this
      have e1 : (itL d xs.length).nx xs.length s = some none := by
        show (asL s d).map _ = _
        rw [hk _ _ _ j]
        simp
      rw [e1]
      exact hn e s j
section
variable {g : GV} {b : SV} {k : En → Sto → RS} {P : RS → Prop} {I : En → Sto → Prop} {xs : List D} {e : En} {s : Sto} {d : D}
theorem olP (J : Nat → En → Sto → Prop) (h0 : J 0 e s) (hk : ∀ i e s, J i e s → asL s d = some xs) (hn : ∀ e s, J xs.length e s → P (.nx e s)) (hs : ∀ i (h : i < xs.length) e s, J i e s → ((g xs[i] e s).toS e b).wp (J (i + 1)) P) : P (foGo g b (itL d xs.length) xs.length 0 e s) := itL_run J hk hn hs _ _ _ _ (by omega) (by omega) h0
theorem olPS (J : Nat → En → Sto → Prop) (h0 : J 0 e s) (hk : ∀ i e s, J i e s → asL s d = some xs) (hn : ∀ e s, J xs.length e s → P (k e s)) (hs : ∀ i (h : i < xs.length) e s, J i e s → ((g xs[i] e s).toS e b).wp (J (i + 1)) fun r => P (r.seq k)) : P ((foGo g b (itL d xs.length) xs.length 0 e s).seq k) := itL_run (Q := fun r => P (r.seq k)) J hk hn hs _ _ _ _ (by omega) (by omega) h0
theorem olW (J : Nat → En → Sto → Prop) (h0 : J 0 e s) (hk : ∀ i e s, J i e s → asL s d = some xs) (hn : ∀ e s, J xs.length e s → I e s) (hs : ∀ i (h : i < xs.length) e s, J i e s → ((g xs[i] e s).toS e b).wp (J (i + 1)) fun r => r.wp I P) : (foGo g b (itL d xs.length) xs.length 0 e s).wp I P := itL_run (Q := fun r => r.wp I P) J hk hn hs _ _ _ _ (by omega) (by omega) h0
theorem olWS (J : Nat → En → Sto → Prop) (h0 : J 0 e s) (hk : ∀ i e s, J i e s → asL s d = some xs) (hn : ∀ e s, J xs.length e s → (k e s).wp I P) (hs : ∀ i (h : i < xs.length) e s, J i e s → ((g xs[i] e s).toS e b).wp (J (i + 1)) fun r => (r.seq k).wp I P) : ((foGo g b (itL d xs.length) xs.length 0 e s).seq k).wp I P := itL_run (Q := fun r => (r.seq k).wp I P) J hk hn hs _ _ _ _ (by omega) (by omega) h0
end
theorem iSeqD_rf {k : Nat} {s : Sto} : iSeqD (.ref k) s = match lstAt s k with
  | some xs => .ok (itL (.ref k) xs.length) s
  | none => .bad := rfl
@[simp] theorem itL_n {d : D} {n : Nat} : (itL d n).n = n := rfl
theorem toP_rf {s : Sto} {k : Nat} {ys : List PyData} (h : lstAt s k = some (ys.map D.p)) : toP s (.ref k) = some (.list ys) := by
  unfold lstAt at h
  unfold toP
  simp only []
  cases q : s[k]? with
  | none => rw [q] at h; cases h
  | some o =>
    rw [q] at h
    cases o with
    | lst ds =>
      simp only [Option.some.injEq] at h
      subst h
      simp [allP_map]
    | ins => cases h
section
variable {s : Sto} {k : Nat} {xs ys : List PyData}
theorem hNe_plr (h : lstAt s k = some (ys.map D.p)) : hNe (.p (.list xs)) (.ref k) s = if SeqAt.shaped (.list xs) && SeqAt.shaped (.list ys) then .ok (.p (.bool (!PyData.eqvAll xs ys))) s else .bad := by
  unfold hNe hEqB
  simp only []
  rw [toP_rf h]
  simp only [toP]
  cases SeqAt.shaped (.list xs) && SeqAt.shaped (.list ys) <;> simp [PyData.eqv]
theorem hEq_plr (h : lstAt s k = some (ys.map D.p)) : hEq (.p (.list xs)) (.ref k) s = if SeqAt.shaped (.list xs) && SeqAt.shaped (.list ys) then .ok (.p (.bool (PyData.eqvAll xs ys))) s else .bad := by
  unfold hEq hEqB
  simp only []
  rw [toP_rf h]
  simp only [toP]
  cases SeqAt.shaped (.list xs) && SeqAt.shaped (.list ys) <;> simp [PyData.eqv]
theorem hNotIn_plr (h : lstAt s k = some (ys.map D.p)) : hNotIn (.p (.list xs)) (.ref k) s = if SeqAt.shaped (.list xs) && SeqAt.shaped (.list ys) then .ok (.p (.bool (!ys.any fun z => PyData.eqv z (.list xs)))) s else .bad := by
  unfold hNotIn hInB
  simp only []
  rw [toP_rf h]
  simp only [toP]
  cases SeqAt.shaped (.list xs) && SeqAt.shaped (.list ys) <;> simp
end

theorem seqY {P : RS → Prop} {K : En → Sto → RS} {X : RS} (Y : En → Sto → Prop) (hX : ∃ e s, X = .nx e s ∧ Y e s) (h : ∀ e s, Y e s → P (K e s)) : P (X.seq K) := by
  obtain ⟨e, s, rfl, y⟩ := hX
  exact h e s y
@[simp] theorem truB_rf {s : Sto} {k : Nat} : truB s (.ref k) = (lstAt s k).map fun ds => !ds.isEmpty := rfl
theorem lc_drawL {g : GV} {f : EV} {r : Sto} (Pp : D → PyData → Prop) (E : En → Prop) (xs : List D) (h : ∀ d ∈ xs, ∀ o, Row o → ∃ y o', Row o' ∧ Pp d y ∧ ∀ e, E e → ((g d e (o :: r)).bind fun e1 s => f e1 s) = .ok (.p y) (o' :: r)) (hz : xs.length ≤ sizeLine) (o : O) (ho : Row o) :
    ∃ (ys : List PyData) (o' : O), Row o' ∧ ys.length = xs.length ∧ (∀ y ∈ ys, ∃ d ∈ xs, Pp d y) ∧ ∀ e, E e → lcL g tYes f e xs [] (o :: r) = .ok (ys.map D.p) (o' :: r) := by
  obtain ⟨ys, o', h1, h2, h3, h4⟩ := lc_draw_go Pp E xs h o ho
  refine ⟨ys, o', h1, h2, h3, fun e he => ?_⟩
  rw [h4 [] e he (by simpa using hz)]
  simp
theorem ints_of {ys : List PyData} {p : Int → Prop} {Q : D → Prop} (h : ∀ y ∈ ys, ∃ d, Q d ∧ ∃ t : Int, y = .int t ∧ p t) : ∃ ts : List Int, ys = ts.map PyData.int ∧ ∀ t ∈ ts, p t := by
  induction ys with
  | nil => exact ⟨[], rfl, fun _ h => (List.not_mem_nil h).elim⟩
  | cons y ys ih =>
    obtain ⟨ts, rfl, q⟩ := ih fun y hy => h y (List.mem_cons_of_mem _ hy)
    obtain ⟨_, _, t, rfl, ht⟩ := h y List.mem_cons_self
    exact ⟨t :: ts, rfl, fun x hx => (List.mem_cons.mp hx).elim (fun e => e ▸ ht) (q x)⟩
theorem wipeE_get {e : En} {v i : Nat} (h : v ≠ i) : (wipeE e [v])[i]? = e[i]? := by
  unfold wipeE
  simp [List.getElem?_set_ne h, wipeE]
theorem wipeE_len {e : En} {v : Nat} : (wipeE e [v]).length = e.length := by
  unfold wipeE
  simp [wipeE]
end Dl
/-! The data layer: lists of ints, instances (plain Lean). -/
namespace Dl
open PySem
abbrev dI (i : Int) : D := .p (.int i)
abbrev dB (b : Bool) : D := .p (.bool b)
theorem ints_shaped {F : List Int} : SeqAt.shaped (.list (F.map PyData.int)) = true := by
  have f : PyData.canLayAll0 (F.map PyData.int) = true ∧ PyData.depthAll (F.map PyData.int) ≤ 1 := by
    induction F with
    | nil => exact ⟨rfl, by simp [PyData.depthAll]⟩
    | cons x F ih =>
      obtain ⟨i1, i2⟩ := ih
      refine ⟨by simp only [List.map_cons, PyData.canLayAll0, PyData.canLay0, i1, Bool.and_self], ?_⟩
      simp only [List.map_cons, PyData.depthAll, PyData.depth]
      omega
  unfold SeqAt.shaped
  rw [show PyData.canLay0 (.list (F.map PyData.int)) = true by simp only [PyData.canLay0, f.1], Bool.true_and, decide_eq_true_eq]
  simp only [PyData.depth]
  have := f.2
  omega
theorem eqv_ints : ∀ {F G : List Int}, PyData.eqvAll (F.map PyData.int) (G.map PyData.int) = decide (F = G)
  | [], [] => by simp [PyData.eqvAll]
  | [], y :: G => by simp [PyData.eqvAll]
  | x :: F, [] => by simp [PyData.eqvAll]
  | x :: F, y :: G => by
    rw [List.map_cons, List.map_cons, PyData.eqvAll, eqv_ints, PyData.eqv]
    rw [Bool.eq_iff_iff]
    simp
theorem eq_ints {s : Sto} {F G : List Int} : hEq (.p (.list (F.map PyData.int))) (.p (.list (G.map PyData.int))) s = .ok (dB (decide (F = G))) s := by
  rw [hEq_ll, ints_shaped, ints_shaped, eqv_ints]
  rfl
theorem ne_ints {s : Sto} {F G : List Int} : hNe (.p (.list (F.map PyData.int))) (.p (.list (G.map PyData.int))) s = .ok (dB (!decide (F = G))) s := by
  rw [hNe_ll, ints_shaped, ints_shaped, eqv_ints]
  rfl
theorem map_dI (F : List Int) : F.map dI = (F.map PyData.int).map D.p := by
  rw [List.map_map]
  rfl
theorem ne_rr {s : Sto} {j k : Nat} {F G : List Int} (h1 : lstAt s j = some (F.map dI)) (h2 : lstAt s k = some (G.map dI)) : hNe (.ref j) (.ref k) s = .ok (dB (!decide (F = G))) s := by
  rw [map_dI] at h1 h2
  unfold hNe hEqB
  simp only []
  rw [toP_rf h1, toP_rf h2]
  simp only [ints_shaped, Bool.and_self, if_true]
  rw [show PyData.eqv (.list (F.map PyData.int)) (.list (G.map PyData.int)) = PyData.eqvAll (F.map PyData.int) (G.map PyData.int) by rw [PyData.eqv], eqv_ints]
theorem at_ints {F : List Int} {i : Nat} (h : i < F.length) : (F.map dI)[i]? = some (dI (F.getD i 0)) := by
  rw [List.getElem?_map, List.getD_eq_getElem?_getD, List.getElem?_eq_getElem h]
  rfl
theorem at_intsP {F : List Int} {i : Nat} (h : i < F.length) : (F.map PyData.int)[i]? = some (.int (F.getD i 0)) := by
  rw [List.getElem?_map, List.getD_eq_getElem?_getD, List.getElem?_eq_getElem h]
  rfl
theorem ix_intsP {s : Sto} {F : List Int} {i : Nat} (h : i < F.length) : hIx (.p (.list (F.map PyData.int))) (.p (.int i)) s = .ok (dI (F.getD i 0)) s := hIx_lat (at_intsP h)
@[simp] theorem insAt_rf {s : Sto} {k : Nat} : insAt s (.ref k) = match s[k]? with
  | some (.ins c fs) => some (k, c, fs)
  | _ => none := id rfl
section
variable {f m : Str} {fo fv g h : EV} {b : SV} {o : D → D → Sto → R D} {e : En} {s : Sto} {c i : Nat} {G : List D → Sto → R D} {dd : List D} {l : AV} {mt : Nat → Bool} {z : Str}
@[simp] theorem eFld_eq : eFld f fo e s = (fo e s).bind fun o s => match insAt s o with
  | some (_, _, fs) => match fs.lookup f with
    | some d => .ok d s
    | none => .bad
  | none => .bad := id rfl
@[simp] theorem sFldD_eq : sFldD f fo fv e s = (fv e s).toS e fun y s => (fo e s).toS e fun o s => match insAt s o with
  | some (k, c, fs) => if fs.length < 1000 then .nx e (s.set k (.ins c (putD f y fs))) else .bad
  | none => .bad := id rfl
@[simp] theorem sFldAugD_eq : sFldAugD f o fo fv e s = (fo e s).toS e fun d s => match insAt s d with
  | some (_, c, fs) => match fs.lookup f with
    | some x => (fv e s).toS e fun y s => (o x y s).toS e fun z s => match insAt s d with
      | some (k', c', fs') => if c' = c ∧ fs'.length < 1000 then .nx e (s.set k' (.ins c (putD f z fs'))) else .bad
      | none => .bad
    | none => .bad
  | none => .bad := id rfl
@[simp] theorem eMeth_eq : eMeth m c G dd fo l e s = (fo e s).bind fun o s => match insAt s o with
  | some (_, c', fs) => if c' = c ∧ fs.lookup m = none then (l e s).bind fun ds s => G (o :: (ds ++ dd)) s else .bad
  | none => .bad := id rfl
@[simp] theorem eMake_eq : eMake c G dd l e s = (l e s).bind fun ds s1 => (G (.ref s1.length :: (ds ++ dd)) (s1 ++ [.ins c []])).bind fun v s2 => match v with
  | .p .none => .ok (.ref s1.length) s2
  | _ => .bad := id rfl
@[simp] theorem sTryIf_eq : sTryIf mt i z b g h e s = match b e s with
  | .ex c x e' s' => if mt c then (match x with
    | .str y => if i < e'.length then (match (if y = z then g (e'.set i none) s' else h (e'.set i none) s') with
      | .ok d s2 => .rt d s2
      | _ => .bad) else .bad
    | _ => .bad) else .ex c x e' s'
  | r => r := id rfl
end
@[simp] theorem hIAdd_ii {a b : Int} {s : Sto} : hIAdd (.p (.int a)) (.p (.int b)) s = .ok (.p (.int (a + b))) s := id rfl
theorem ltL_ints {s : Sto} {F G : List Int} : hLtL (.p (.list (F.map PyData.int))) (.p (.list (G.map PyData.int))) s = .ok (dB (ltI F G)) s := by
  have h : ∀ F : List Int, asL s (.p (.list (F.map PyData.int))) = some (F.map dI) := fun F => by
    rw [map_dI]
    rfl
  unfold hLtL
  rw [h, h]
  simp only [intsD_map]
end Dl
/-! law k09: the law keeps (plain Lean). -/
namespace Lk09
open PySem Dl
/-- a tape's fields -/
def tfs (xs : List Int) (a b : Nat) (n : Int) : List (Str × D) := [(q_numbers, .p (.list (xs.map PyData.int))), (q_sizes, .ref a), (q_told, .ref b), (q_steps, dI n), (q_deep, dI 0)]
section
variable {xs : List Int} {a b : Nat} {n m : Int}
@[simp] theorem tf_numbers : (tfs xs a b n).lookup q_numbers = some (.p (.list (xs.map PyData.int))) := by rfl
@[simp] theorem tf_sizes : (tfs xs a b n).lookup q_sizes = some (.ref a) := by rfl
@[simp] theorem tf_told : (tfs xs a b n).lookup q_told = some (.ref b) := by rfl
@[simp] theorem tf_steps : (tfs xs a b n).lookup q_steps = some (dI n) := by rfl
@[simp] theorem tf_draw : (tfs xs a b n).lookup q_draw = none := by rfl
@[simp] theorem tf_step : (tfs xs a b n).lookup q_step = none := by rfl
@[simp] theorem tf_len : (tfs xs a b n).length = 5 := by rfl
@[simp] theorem tf_put : putD q_steps (dI m) (tfs xs a b n) = tfs xs a b m := by rfl
end
theorem init_ok {k : Nat} {xs : List Int} {s : Sto} : fnk (k + 1) .Tape_init [.ref s.length, .p (.list (xs.map PyData.int))] (s ++ [.ins 0 []]) = .ok (.p .none) (s ++ [.ins 0 (tfs xs (s.length + 1) (s.length + 1 + 1) 0), .lst [], .lst []]) := by
  rw [fnk_Tape_init]
  generalize fnk k = C at *
  rw [runB_eq]
  unfold b_Tape_init
  have p1 : ∀ d, putD q_numbers d [] = [(q_numbers, d)] := fun _ => rfl
  have p2 : ∀ d x, putD q_sizes d [(q_numbers, x)] = [(q_numbers, x), (q_sizes, d)] := fun _ _ => rfl
  have p3 : ∀ d x y, putD q_told d [(q_numbers, x), (q_sizes, y)] = [(q_numbers, x), (q_sizes, y), (q_told, d)] := fun _ _ _ => rfl
  have p4 : ∀ d x y z, putD q_steps d [(q_numbers, x), (q_sizes, y), (q_told, z)] = [(q_numbers, x), (q_sizes, y), (q_told, z), (q_steps, d)] := fun _ _ _ _ => rfl
  have p5 : ∀ d x y z u, putD q_deep d [(q_numbers, x), (q_sizes, y), (q_told, z), (q_steps, u)] = [(q_numbers, x), (q_sizes, y), (q_told, z), (q_steps, u), (q_deep, d)] := fun _ _ _ _ _ => rfl
  simp [p1, p2, p3, p4, p5, tfs, Nat.add_assoc]
def due (xs T : List Int) (size : Int) : Int := if T.length < xs.length then xs.getD T.length 0 % size else 0
theorem draw1 {k : Nat} {s : Sto} {d : D} : fnk (k + 1) .Tape_draw [d, dI 1] s = .ok (dI 0) s := by
  rw [fnk_Tape_draw]
  generalize fnk k = C at *
  rw [runB_eq]
  unfold b_Tape_draw
  simp
theorem draw_ok {k : Nat} {xs S T : List Int} {size : Int} {o : O} {r : Sto} (h : 1 < size) (h1 : S.length ≤ 1000) (h2 : T.length ≤ 1000) :
    fnk (k + 1) .Tape_draw [.ref 1, dI size] (o :: .ins 0 (tfs xs 2 3 0) :: .lst (S.map dI) :: .lst (T.map dI) :: r) = .ok (dI (due xs T size)) (o :: .ins 0 (tfs xs 2 3 0) :: .lst ((S ++ [size]).map dI) :: .lst ((T ++ [due xs T size]).map dI) :: r) := by
  rw [fnk_Tape_draw]
  generalize fnk k = C at *
  rw [runB_eq]
  unfold b_Tape_draw
  have e1 : ¬ size = 1 := by omega
  have e2 : (0 : Int) < size := by omega
  have z1 : S.length < 16777216 := by omega
  have z2 : T.length < 16777216 := by omega
  unfold due
  by_cases c : T.length < xs.length
  · have ix := ix_intsP (s := o :: .ins 0 (tfs xs 2 3 0) :: .lst (S.map dI) :: .lst (T.map dI) :: r) c
    simp [-List.getD_eq_getElem?_getD, e1, e2, c, ix, lstAt, PySem.sizeLine_eq, z1, z2]
  · simp [-List.getD_eq_getElem?_getD, e1, e2, c, lstAt, PySem.sizeLine_eq, z1, z2]
theorem step_ok {k : Nat} {xs : List Int} {i a b : Nat} {n : Int} {s : Sto} (h : s[i]? = some (.ins 0 (tfs xs a b n))) (hn : n ≠ 4000) : fnk (k + 1) .Tape_step [.ref i] s = .ok (.p .none) (s.set i (.ins 0 (tfs xs a b (n + 1)))) := by
  rw [fnk_Tape_step]
  generalize fnk k = C at *
  rw [runB_eq]
  unfold b_Tape_step
  simp [h, k_MAX_STEPS, hn]
theorem step_ex {k : Nat} {xs : List Int} {i a b : Nat} {s : Sto} (h : s[i]? = some (.ins 0 (tfs xs a b 4000))) : fnk (k + 1) .Tape_step [.ref i] s = .ex 0 (.str q_steps) s := by
  rw [fnk_Tape_step]
  generalize fnk k = C at *
  rw [runB_eq]
  unfold b_Tape_step
  simp [h, k_MAX_STEPS, sRaise]
theorem shorter_ok {k : Nat} {F G : List Int} {s : Sto} : fnk (k + 1) .c_shorter [.p (.list (F.map PyData.int)), .p (.list (G.map PyData.int))] s = .ok (dB (decide (F.length < G.length) || decide (F.length = G.length) && ltI F G)) s := by
  rw [fnk_c_shorter]
  generalize fnk k = C at *
  rw [runB_eq]
  unfold b_c_shorter
  have lt := ltL_ints (s := s) (F := F) (G := G)
  by_cases c : F.length = G.length
  · simp [c, lt]
  · have c' : ¬ ((F.length : Int) = G.length) := by omega
    simp [c, c']
theorem ltI_self : ∀ F : List Int, ltI F F = false
  | [] => rfl
  | x :: F => by simp [ltI, ltI_self F]

/-! ### zeros at the end -/
def trm (F : List Int) : List Int := (F.reverse.dropWhile (· == 0)).reverse
theorem trm_nil : trm [] = [] := rfl
theorem trm_zero {F : List Int} : trm (F ++ [0]) = trm F := by simp [trm]
theorem trm_no {F : List Int} {x : Int} (h : x ≠ 0) : trm (F ++ [x]) = F ++ [x] := by simp [trm, h]
theorem trm_zeros {F : List Int} : ∀ n, trm (F ++ List.replicate n 0) = trm F
  | 0 => by simp
  | n + 1 => by rw [List.replicate_succ', ← List.append_assoc, trm_zero, trm_zeros n]
theorem snoc (F : List Int) : F = [] ∨ ∃ G x, F = G ++ [x] := by
  rcases List.eq_nil_or_concat F with h | ⟨G, x, h⟩
  · exact .inl h
  · exact .inr ⟨G, x, by simpa using h⟩
theorem take_snoc {F : List Int} {n : Nat} (h0 : 0 < n) (h : n ≤ F.length) : F.take n = F.take (n - 1) ++ [F.getD (n - 1) 0] := by
  obtain ⟨m, rfl⟩ : ∃ m, n = m + 1 := ⟨n - 1, by omega⟩
  rw [List.take_succ, Nat.add_sub_cancel, List.getD_eq_getElem?_getD, List.getElem?_eq_getElem (by omega)]
  rfl
def TrI (F : List Int) (s : Sto) (n : Nat) (e : En) (s' : Sto) : Prop := e = [some (.p (.list (F.map PyData.int))), some (dI n)] ∧ s' = s ∧ n ≤ F.length ∧ trm (F.take n) = trm F
theorem trimmed_ok {k : Nat} {F : List Int} {s : Sto} (hF : F.length ≤ 1000) : fnk (k + 1) .c_trimmed [.p (.list (F.map PyData.int))] s = .ok (.p (.list ((trm F).map PyData.int))) s := by
  rw [fnk_c_trimmed]
  generalize fnk k = C at *
  refine runB_P (P := fun r => r = .ok (.p (.list ((trm F).map PyData.int))) s) fun Q hQ => ?_
  replace hQ : Q (.rt (.p (.list ((trm F).map PyData.int))) s) := hQ _ rfl
  unfold b_c_trimmed
  simp [sWhile]
  refine whPS (TrI F s) F.length (by unfold wN; omega) ⟨rfl, rfl, Nat.le_refl _, by rw [List.take_length]⟩ ?_
  rintro m e s' ⟨rfl, rfl, h, t⟩
  by_cases c : 0 < m
  · have ix := ix_intsP (s := s') (F := F) (i := m - 1) (by omega)
    have em : ((m : Int) - 1) = ((m - 1 : Nat) : Int) := by omega
    have tk := take_snoc c h
    by_cases z : F.getD (m - 1) 0 = 0
    · rw [z] at ix tk
      rw [tk, trm_zero] at t
      simp [c, em, ix]
      exact ⟨m - 1, by omega, rfl, rfl, by omega, t⟩
    · rw [tk, trm_no z, ← tk] at t
      rw [← t] at hQ
      simp [-List.getD_eq_getElem?_getD, c, em, ix, z]
      rw [List.map_take] at hQ
      exact hQ
  · have m0 : m = 0 := by omega
    subst m0
    rw [List.take_zero, trm_nil] at t
    rw [← t] at hQ
    simp
    exact hQ
def StI (s : Sto) (i : Nat) (e : En) (s' : Sto) : Prop := (∃ x, e = [some (dI 4001), some (.ref s.length), x, none]) ∧ s' = s ++ [.ins 0 (tfs [] (s.length + 1) (s.length + 1 + 1) i), .lst [], .lst []] ∧ i ≤ 4000
theorem steps_ok {k : Nat} {s : Sto} : ∃ s', fnk (k + 2) .law_steps [dI 4001] s = .ok (dI 4000) s' := by
  rw [fnk_law_steps]
  have f1 : fnk (k + 1) .Tape_init [.ref s.length, .p (.list [])] (s ++ [.ins 0 []]) = _ := init_ok (xs := [])
  have f2 := fun (i : Nat) (h : i < 4000) => step_ok (k := k) (xs := []) (i := s.length) (a := s.length + 1) (b := s.length + 1 + 1) (n := (i : Int)) (s := s ++ [.ins 0 (tfs [] (s.length + 1) (s.length + 1 + 1) i), .lst [], .lst []]) (by simp) (by omega)
  have f3 := step_ex (k := k) (xs := []) (i := s.length) (a := s.length + 1) (b := s.length + 1 + 1) (s := s ++ [.ins 0 (tfs [] (s.length + 1) (s.length + 1 + 1) 4000), .lst [], .lst []]) (by simp)
  generalize fnk (k + 1) = C at *
  refine runB_P (P := fun r => ∃ s', r = .ok (dI 4000) s') fun Q hQ => ?_
  replace hQ : ∀ s', Q (.rt (dI 4000) s') := fun s' => hQ _ ⟨s', rfl⟩
  unfold b_law_steps
  simp [f1, foGo_S]
  refine rngPS (StI s) ⟨⟨none, rfl⟩, by simp, by omega⟩ ?_ ?_
  · rintro e s' ⟨_, _, h⟩
    omega
  · rintro i e s' hi ⟨⟨x, rfl⟩, rfl, h⟩
    by_cases c : i = 4000
    · subst c
      simp [f3, m_TooLarge]
      exact hQ _
    · have f2 := f2 i (by omega)
      simp at f2
      simp [f2]
      exact ⟨⟨_, rfl⟩, by simp, by omega⟩

theorem trm_len (F : List Int) : (trm F).length ≤ F.length := by
  unfold trm
  rw [List.length_reverse, ← List.length_reverse (as := F)]
  exact (List.dropWhile_sublist _).length_le
/-! ### the law -/
def tailD (C : Cs) : SV :=
  (sSeq (sSet 12 (eCall (C .law_take) [] (aCons (eVar 1) (aCons (eC (.int 4)) aNil))))
  (sSeq (sSet 13 (eLc false [8] (iRange1 (eCall (C .law_take) [] (aCons (eVar 1) (aCons (eC (.int 6)) aNil)))) (gSet 8) tYes (eCall (C .law_take) [] (aCons (eVar 1) (aCons (eC (.int 3)) aNil)))))
  (sSeq (sSet 10 (eBlt (hList false) (aCons (eVar 13) aNil)))
  (sSeq (sFor (iRange1 (eBlt hLen (aCons (eVar 13) aNil))) (gSet 8)
  (sIf (tAnd (tTru (eVar 10)) (tB (eOp hEq (eOp hIx (eVar 10) (eNeg (eC (.int 1)))) (eC (.int 0)))))
  (sSet 10 (eCut false (eVar 10) oNone (oSome (eNeg (eC (.int 1))))))
  sNil))
  (sSeq (sIf (tB (eOp hNe (eCall (C .c_trimmed) [] (aCons (eOp hAdd (eVar 13) (eOp hMul (eLst false (aCons (eC (.int 0)) aNil)) (eVar 12))) aNil)) (eVar 10)))
  (sRet (eC (.bool false)))
  sNil)
  (sSeq (sSet 14 (eLc false [8] (iRange1 (eCall (C .law_take) [] (aCons (eVar 1) (aCons (eC (.int 6)) aNil)))) (gSet 8) tYes (eCall (C .law_take) [] (aCons (eVar 1) (aCons (eC (.int 3)) aNil)))))
  (sSeq (sSet 15 (eOr (eOp hLt (eBlt hLen (aCons (eVar 13) aNil)) (eBlt hLen (aCons (eVar 14) aNil))) (eAnd (eOp hEq (eBlt hLen (aCons (eVar 13) aNil)) (eBlt hLen (aCons (eVar 14) aNil))) (eOp hLtL (eVar 13) (eVar 14)))))
  (sSeq (sIf (tOr (tB (eOp hNe (eCall (C .c_shorter) [] (aCons (eVar 13) (aCons (eVar 14) aNil))) (eVar 15))) (tB (eOp hIsNot (eCall (C .c_shorter) [] (aCons (eVar 13) (aCons (eVar 13) aNil))) (eC (.bool false)))))
  (sRet (eC (.bool false)))
  sNil)
  (sRet (eOr (eOp hGt (eCall (C .law_take) [] (aCons (eVar 1) (aCons (eC (.int 8)) aNil))) (eC (.int 0))) (eOp hEq (eCall (C .law_steps) [] (aCons (eC (.int 4001)) aNil)) (eC (.int 4000)))))))))))))
def tailC (C : Cs) : SV :=
  (sSeq (sIf (tOr (tB (eOp hNe (eFld q_told (eVar 5)) (eVar 6))) (tOr (tB (eOp hNe (eFld q_sizes (eVar 5)) (eVar 7))) (tB (eOp hNe (eVar 2) (eVar 4)))))
  (sRet (eC (.bool false)))
  sNil)
  (tailD C))
def drawB (C : Cs) : SV :=
  (sSeq (sSet 9 (eOp hAdd (eC (.int 1)) (eCall (C .law_take) [] (aCons (eVar 1) (aCons (eC (.int 59)) aNil)))))
  (sSeq (sIf (tB (eOp hEq (eCall (C .law_take) [] (aCons (eVar 1) (aCons (eC (.int 6)) aNil))) (eC (.int 0))))
  (sSet 9 (eOp hAdd (eC (.int 1)) (eOp hMul (eCall (C .law_take) [] (aCons (eVar 1) (aCons (eC (.int 2)) aNil))) (eOp hSub (eOp hPow (eC (.int 10)) (eC (.int 15))) (eC (.int 1))))))
  sNil)
  (sSeq (sSet 10 (eC (.int 0)))
  (sSeq (sIf (tB (eOp hGt (eVar 9) (eC (.int 1))))
  (sSeq (sSet 10 (eIf (tB (eOp hLt (eBlt hLen (aCons (eVar 6) aNil)) (eBlt hLen (aCons (eVar 2) aNil)))) (eOp hMod (eBlt hInt (aCons (eOp hIx (eVar 2) (eBlt hLen (aCons (eVar 6) aNil))) aNil)) (eVar 9)) (eC (.int 0))))
  (sSeq (sExpr (eMeL hAppend (eVar 6) (aCons (eVar 10) aNil)))
  (sExpr (eMeL hAppend (eVar 7) (aCons (eVar 9) aNil)))))
  sNil)
  (sSeq (sSet 11 (eMeth q_draw 0 (C .Tape_draw) [] (eVar 5) (aCons (eVar 9) aNil)))
  (sIf (tOr (tTru (eIsi "bool" (eVar 11))) (tOr (tNot (tTru (eIsi "int" (eVar 11)))) (tB (eOp hNe (eVar 11) (eVar 10)))))
  (sRet (eC (.bool false)))
  sNil))))))
def dIt (C : Cs) : IV := (iRange1 (eIf (tTru (eVar 3)) (eOp hAdd (eC (.int 90)) (eCall (C .law_take) [] (aCons (eVar 1) (aCons (eC (.int 59)) aNil)))) (eCall (C .law_take) [] (aCons (eVar 1) (aCons (eC (.int 16)) aNil)))))
def dX (C : Cs) : EV := (eLc false [16] (iSeq (eCut false (eVar 0) oNone (oSome (eC (.int 10))))) (gSet 16) tYes (eIf (tB (eOp hEq (eCall (C .law_take) [] (aCons (eVar 1) (aCons (eC (.int 2)) aNil))) (eC (.int 0)))) (eOp hMod (eBlt hAbs (aCons (eBlt hInt (aCons (eVar 16) aNil)) aNil)) (eOp hPow (eC (.int 10)) (eC (.int 30)))) (eCall (C .law_take) [] (aCons (eVar 1) (aCons (eC (.int 59)) aNil)))))
def dY (C : Cs) : EV := (eOp hAdd (eVar 2) (eLc false [8] (iRange1 (eOp hAdd (eC (.int 100)) (eCall (C .law_take) [] (aCons (eVar 1) (aCons (eC (.int 59)) aNil))))) (gSet 8) tYes (eOp hAdd (eC (.int 1)) (eCall (C .law_take) [] (aCons (eVar 1) (aCons (eC (.int 59)) aNil))))))
def dL (C : Cs) : EV := (eOp hEq (eCall (C .law_take) [] (aCons (eVar 1) (aCons (eC (.int 4)) aNil))) (eC (.int 0)))
theorem law_is (C : Cs) : b_c_law C = sSeq (sSet 1 (eCall (C .law_stream) [] (aCons (eVar 0) aNil))) (sSeq (sSet 2 (dX C)) (sSeq (sSet 3 (dL C)) (sSeq (sIf (tTru (eVar 3)) (sSet 2 (dY C)) sNil) (sSeq (sSet 4 (eBlt (hList false) (aCons (eVar 2) aNil))) (sSeq (sSet 5 (eMake 0 (C .Tape_init) [] (aCons (eVar 2) aNil))) (sSeq (sSet 6 (eLst true aNil)) (sSeq (sSet 7 (eLst true aNil)) (sSeq (sFor (dIt C) (gSet 8) (drawB C)) (tailC C))))))))) := rfl
theorem take_v (k : Nat) (m : Int) (o : O) (r : Sto) (ho : Row o) (hm : 0 < m) : ∃ (t : Nat) (o' : O), (t : Int) < m ∧ Row o' ∧ fnk (k + 1) .law_take [.ref 0, .p (.int m)] (o :: r) = .ok (.p (.int t)) (o' :: r) := by
  obtain ⟨t, o', h1, h2, h3⟩ := take_run (o := o) (r := r) ho hm
  exact ⟨t, o', h1, h2, (fnk_law_take k _ _).trans h3⟩
/-- a row of drawn ints -/
theorem lcI {v : Nat} {fi : IV} {f : EV} {r : Sto} {ds : List D} (p : Int → Prop) {e : En} {o o1 : O} (hv : v ≠ 1) (h1 : e[1]? = some (some (.ref 0))) (hi : fi e (o :: r) = .ok (itS ds) (o1 :: r)) (ro : Row o1) (hz : ds.length ≤ 16777216)
    (hn : v < e.length)
    (hf : ∀ d ∈ ds, ∀ o, Row o → ∃ (t : Int) (o' : O), Row o' ∧ p t ∧ ∀ e : En, e[1]? = some (some (.ref 0)) → v < e.length → ((gSet v d e (o :: r)).bind fun e1 s => f e1 s) = .ok (dI t) (o' :: r)) :
    ∃ (F : List Int) (o2 : O), Row o2 ∧ F.length = ds.length ∧ (∀ t ∈ F, p t) ∧ eLc false [v] fi (gSet v) tYes f e (o :: r) = .ok (.p (.list (F.map PyData.int))) (o2 :: r) := by
  obtain ⟨ys, o2, r2, l2, y2, q2⟩ := lc_draw (g := gSet v) (f := f) (r := r) (fun _ y => ∃ t : Int, y = .int t ∧ p t) (fun e => e[1]? = some (some (.ref 0)) ∧ v < e.length) ds (fun d hd o ho => by
    obtain ⟨t, o', h2, h3, h4⟩ := hf d hd o ho
    exact ⟨_, o', h2, ⟨t, rfl, h3⟩, fun e he => h4 e he.1 he.2⟩) (by rw [PySem.sizeLine_eq]; exact hz) o1 ro
  obtain ⟨F, rfl, hF⟩ := ints_of y2
  refine ⟨F, o2, r2, by simpa using l2, hF, ?_⟩
  rw [eLc_eq, hi]
  simp only [R.bind_ok, lcGo_S]
  exact q2 _ ⟨by rw [wipeE_get hv]; exact h1, by rw [wipeE_len]; exact hn⟩
theorem mulZ {s : Sto} {n : Nat} (hn : n ≤ 1000) : hMul (.p (.list [.int 0])) (.p (.int n)) s = .ok (.p (.list ((List.replicate n (0 : Int)).map PyData.int))) s := by
  unfold hMul
  simp only [asM_list]
  rw [if_pos (by rw [PySem.sizeLine_eq]; simp; omega), show (List.replicate ((n : Int)).toNat (List.map D.p [PyData.int 0])).flatten = ((List.replicate n (0 : Int)).map PyData.int).map D.p by simp [List.flatten_replicate_singleton], newL_false]
def DuI (F : List Int) (E : Option D → List Int → En) (s0 : Sto) (i : Nat) (e : En) (s : Sto) : Prop := ∃ x G, e = E x G ∧ s = s0 ∧ trm G = trm F ∧ (G.length + i ≤ F.length ∨ trm G = G)
theorem tailD_ok (C : Cs) (fT : ∀ (m : Int), 0 < m → ∀ o, Row o → ∀ r, ∃ (t : Nat) (o' : O), (t : Int) < m ∧ Row o' ∧ C .law_take [.ref 0, .p (.int m)] (o :: r) = .ok (.p (.int t)) (o' :: r))
    (fTr : ∀ (F : List Int) s, F.length ≤ 1000 → C .c_trimmed [.p (.list (F.map PyData.int))] s = .ok (.p (.list ((trm F).map PyData.int))) s)
    (fSh : ∀ (F G : List Int) s, C .c_shorter [.p (.list (F.map PyData.int)), .p (.list (G.map PyData.int))] s = .ok (dB (decide (F.length < G.length) || decide (F.length = G.length) && ltI F G)) s)
    (fSt : ∀ s, ∃ s', C .law_steps [dI 4001] s = .ok (dI 4000) s') (a0 a2 a3 a4 a5 a6 a7 x8 x9 x10 x11 : Option D) (o : O) (r : Sto) (ho : Row o) (Q : RS → Prop) (hQ : ∀ s, Q (.rt (dB true) s)) :
    Q (tailD C [a0, some (.ref 0), a2, a3, a4, a5, a6, a7, x8, x9, x10, x11, none, none, none, none, none] (o :: r)) := by
  unfold tailD
  obtain ⟨z, o1, z1, r1, ez⟩ := fT 4 (by decide) o ho r
  obtain ⟨n, o2, n1, r2, en⟩ := fT 6 (by decide) o1 r1 r
  obtain ⟨F, o3, r3, lF, pF, eF⟩ := lcI (v := 8) (fi := iRange1 (eCall (C .law_take) [] (aCons (eVar 1) (aCons (eC (.int 6)) aNil)))) (f := eCall (C .law_take) [] (aCons (eVar 1) (aCons (eC (.int 3)) aNil))) (r := r) (ds := rngD 0 n) (fun t => 0 ≤ t ∧ t < 3)
    (e := [a0, some (.ref 0), a2, a3, a4, a5, a6, a7, x8, x9, x10, x11, some (dI z), none, none, none, none]) (o := o1) (o1 := o2) (by decide) rfl (by simp [en]; omega) r2 (by simp; omega) (by simp) (fun d hd o ho => by
    obtain ⟨t, o', t1, t2, t3⟩ := fT 3 (by decide) o ho r
    exact ⟨t, o', t2, ⟨by omega, by omega⟩, fun e he hn => by simp [he, t3]⟩)
  rw [rngD_length] at lF
  have mz := mulZ (s := o3 :: r) (n := z) (by omega)
  have lz : (F.length : Int) < 4611686018427387904 := by omega
  simp [ez, eF, lz, foGo_S]
  refine rngPS (DuI F (fun x G => [a0, some (.ref 0), a2, a3, a4, a5, a6, a7, x, x9, some (.p (.list (G.map PyData.int))), x11, some (dI z), some (.p (.list (F.map PyData.int))), none, none, none]) (o3 :: r)) ⟨x8, F, rfl, rfl, rfl, .inl (by omega)⟩ ?_ ?_
  · rintro e s ⟨x, G, rfl, rfl, t1, t2⟩
    have tG : G = trm F := by
      rw [← t1]
      rcases t2 with t2 | t2
      · have : G = [] := List.eq_nil_of_length_eq_zero (by omega)
        rw [this]
        rfl
      · exact t2.symm
    subst tG
    have e1 := fTr (F ++ List.replicate z 0) (o3 :: r) (by simp; omega)
    rw [trm_zeros, List.map_append] at e1
    obtain ⟨n2, o4, n3, r4, en2⟩ := fT 6 (by decide) o3 r3 r
    obtain ⟨G, o5, r5, lG, pG, eG⟩ := lcI (v := 8) (fi := iRange1 (eCall (C .law_take) [] (aCons (eVar 1) (aCons (eC (.int 6)) aNil)))) (f := eCall (C .law_take) [] (aCons (eVar 1) (aCons (eC (.int 3)) aNil))) (r := r) (ds := rngD 0 n2) (fun t => 0 ≤ t ∧ t < 3)
      (e := [a0, some (.ref 0), a2, a3, a4, a5, a6, a7, x, x9, some (.p (.list ((trm F).map PyData.int))), x11, some (dI z), some (.p (.list (F.map PyData.int))), none, none, none]) (o := o3) (o1 := o4) (by decide) rfl (by simp [en2]; omega) r4 (by simp; omega) (by simp) (fun d hd o ho => by
      obtain ⟨t, o', t1, t2, t3⟩ := fT 3 (by decide) o ho r
      exact ⟨t, o', t2, ⟨by omega, by omega⟩, fun e he hn => by simp [he, t3]⟩)
    have ne := ne_ints (s := o3 :: r) (F := trm F) (G := trm F)
    have lt := ltL_ints (s := o5 :: r) (F := F) (G := G)
    have s1 := fSh F G (o5 :: r)
    have s2 := fSh F F (o5 :: r)
    rw [ltI_self] at s2
    obtain ⟨q, o6, q1, r6, eq⟩ := fT 8 (by decide) o5 r5 r
    obtain ⟨s6, e6⟩ := fSt (o6 :: r)
    rw [List.map_replicate] at e1 mz
    simp [-hNe_ll, -hMul_int, mz, PySem.sizeLine_eq, show F.length + z ≤ 16777216 by omega, e1, ne, eG]
    simp at s2
    have fin : ∀ b : Bool, C .c_shorter [.p (.list (F.map PyData.int)), .p (.list (G.map PyData.int))] (o5 :: r) = .ok (dB b) (o5 :: r) → Q (((RS.nx [a0, some (.ref 0), a2, a3, a4, a5, a6, a7, x, x9, some (.p (.list ((trm F).map PyData.int))), x11, some (dI z), some (.p (.list (F.map PyData.int))), some (.p (.list (G.map PyData.int))), some (dB b), none] (o5 :: r))).seq
      (sSeq (sIf (tOr (tB (eOp hNe (eCall (C .c_shorter) [] (aCons (eVar 13) (aCons (eVar 14) aNil))) (eVar 15))) (tB (eOp hIsNot (eCall (C .c_shorter) [] (aCons (eVar 13) (aCons (eVar 13) aNil))) (eC (.bool false)))))
        (sRet (eC (.bool false))) sNil)
        (sRet (eOr (eOp hGt (eCall (C .law_take) [] (aCons (eVar 1) (aCons (eC (.int 8)) aNil))) (eC (.int 0))) (eOp hEq (eCall (C .law_steps) [] (aCons (eC (.int 4001)) aNil)) (eC (.int 4000))))))) := fun b hb => by
      by_cases q0 : 0 < q
      · cases b <;> simp [hb, s2, eq, q0] <;> exact hQ _
      · have q0' : q = 0 := by omega
        subst q0'
        cases b <;> simp [hb, s2, eq, e6] <;> exact hQ _
    by_cases c1 : F.length < G.length
    · simp only [c1, decide_true, Bool.true_or] at s1 ⊢
      exact fin true s1
    · have e1 : (decide (F.length < G.length)) = false := decide_eq_false c1
      rw [e1, Bool.false_or] at s1
      by_cases c2 : F.length = G.length
      · have c2' : (F.length : Int) = G.length := by omega
        rw [decide_eq_true c2, Bool.true_and] at s1
        simp only [e1, decide_eq_true c2', lt]
        exact fin _ s1
      · have c2' : ¬ (F.length : Int) = G.length := by omega
        rw [decide_eq_false c2, Bool.false_and] at s1
        simp only [e1, decide_eq_false c2']
        exact fin _ s1
  · rintro i e s hi ⟨x, G, rfl, rfl, t1, t2⟩
    rcases snoc G with rfl | ⟨G, y, rfl⟩
    · simp
      exact ⟨_, _, rfl, rfl, t1, .inr rfl⟩
    · by_cases y0 : y = 0
      · subst y0
        rw [trm_zero] at t1 t2
        have ix : hIx (.p (.list ((G ++ [0]).map PyData.int))) (dI (-1)) (o3 :: r) = .ok (dI 0) (o3 :: r) := hIx_llast (by simp)
        rw [List.map_append] at ix
        simp at ix
        simp [ix]
        refine ⟨_, G, rfl, rfl, t1, ?_⟩
        rcases t2 with t2 | t2
        · rw [List.length_append, List.length_singleton] at t2
          exact .inl (by omega)
        · have := trm_len G
          rw [t2, List.length_append, List.length_singleton] at this
          omega
      · have ix : hIx (.p (.list ((G ++ [y]).map PyData.int))) (dI (-1)) (o3 :: r) = .ok (dI y) (o3 :: r) := hIx_llast (by simp)
        rw [List.map_append] at ix
        simp at ix
        simp [ix, y0]
        exact ⟨some (dI i), G ++ [y], by simp, rfl, t1, .inr (trm_no y0)⟩
def drawR (C : Cs) : SV :=
  (sSeq (sSet 10 (eC (.int 0)))
  (sSeq (sIf (tB (eOp hGt (eVar 9) (eC (.int 1))))
  (sSeq (sSet 10 (eIf (tB (eOp hLt (eBlt hLen (aCons (eVar 6) aNil)) (eBlt hLen (aCons (eVar 2) aNil)))) (eOp hMod (eBlt hInt (aCons (eOp hIx (eVar 2) (eBlt hLen (aCons (eVar 6) aNil))) aNil)) (eVar 9)) (eC (.int 0))))
  (sSeq (sExpr (eMeL hAppend (eVar 6) (aCons (eVar 10) aNil)))
  (sExpr (eMeL hAppend (eVar 7) (aCons (eVar 9) aNil)))))
  sNil)
  (sSeq (sSet 11 (eMeth q_draw 0 (C .Tape_draw) [] (eVar 5) (aCons (eVar 9) aNil)))
  (sIf (tOr (tTru (eIsi "bool" (eVar 11))) (tOr (tNot (tTru (eIsi "int" (eVar 11)))) (tB (eOp hNe (eVar 11) (eVar 10)))))
  (sRet (eC (.bool false)))
  sNil))))
theorem drawB_is (C : Cs) : drawB C = sSeq (sSet 9 (eOp hAdd (eC (.int 1)) (eCall (C .law_take) [] (aCons (eVar 1) (aCons (eC (.int 59)) aNil))))) (sSeq (sIf (tB (eOp hEq (eCall (C .law_take) [] (aCons (eVar 1) (aCons (eC (.int 6)) aNil))) (eC (.int 0))))
  (sSet 9 (eOp hAdd (eC (.int 1)) (eOp hMul (eCall (C .law_take) [] (aCons (eVar 1) (aCons (eC (.int 2)) aNil))) (eOp hSub (eOp hPow (eC (.int 10)) (eC (.int 15))) (eC (.int 1))))))
  sNil) (drawR C)) := rfl
def dst (xs S T : List Int) (o : O) : Sto := [o, .ins 0 (tfs xs 2 3 0), .lst (S.map dI), .lst (T.map dI), .lst (T.map dI), .lst (S.map dI)]
def den (a0 : Option D) (xs : List Int) (long : Bool) (x8 x9 x10 x11 : Option D) : En := [a0, some (.ref 0), some (.p (.list (xs.map PyData.int))), some (dB long), some (.p (.list (xs.map PyData.int))), some (.ref 1), some (.ref 4), some (.ref 5), x8, x9, x10, x11, none, none, none, none, none]
def DrI (a0 : Option D) (xs : List Int) (long : Bool) (i : Nat) (e : En) (s : Sto) : Prop := ∃ x8 x9 x10 x11 S T o, Row o ∧ e = den a0 xs long x8 x9 x10 x11 ∧ s = dst xs S T o ∧ S.length ≤ i ∧ T.length ≤ i
theorem drawR_ok (C : Cs) (fD1 : ∀ d s, C .Tape_draw [d, dI 1] s = .ok (dI 0) s) (fD : ∀ (xs S T : List Int) (size : Int) (o : O) (r : Sto), 1 < size → S.length ≤ 1000 → T.length ≤ 1000 →
      C .Tape_draw [.ref 1, dI size] (o :: .ins 0 (tfs xs 2 3 0) :: .lst (S.map dI) :: .lst (T.map dI) :: r) = .ok (dI (due xs T size)) (o :: .ins 0 (tfs xs 2 3 0) :: .lst ((S ++ [size]).map dI) :: .lst ((T ++ [due xs T size]).map dI) :: r))
    {i : Nat} (hi : i < 1000) (a0 : Option D) (xs : List Int) (long : Bool) (x8 x10 x11 : Option D) (size : Int) (S T : List Int) (o : O) (ho : Row o) (h : 1 ≤ size) (hS : S.length ≤ i) (hT : T.length ≤ i) (P : RS → Prop) :
    (drawR C (den a0 xs long x8 (some (dI size)) x10 x11) (dst xs S T o)).wp (DrI a0 xs long (i + 1)) P := by
  have ty1 : isTy "bool" "int" = false := by decide +kernel
  have ty2 : isTy "int" "int" = true := by decide +kernel
  unfold drawR den dst
  by_cases c : size = 1
  · subst c
    simp [fD1]
    exact ⟨x8, some (dI 1), some (dI 0), some (dI 0), S, T, o, ho, rfl, rfl, by omega, by omega⟩
  · have c1 : 1 < size := by omega
    have c0 : 0 < size := by omega
    have z1 : S.length < 16777216 := by omega
    have z2 : T.length < 16777216 := by omega
    have f := fD xs S T size o [.lst ((T ++ [due xs T size]).map dI), .lst ((S ++ [size]).map dI)] c1 (by omega) (by omega)
    have fin : (DrI a0 xs long (i + 1)) (den a0 xs long x8 (some (dI size)) (some (dI (due xs T size))) (some (dI (due xs T size)))) (dst xs (S ++ [size]) (T ++ [due xs T size]) o) := ⟨_, _, _, _, _, _, o, ho, rfl, rfl, by simp; omega, by simp; omega⟩
    unfold den dst at fin
    simp at f
    by_cases q : T.length < xs.length
    · have ix := ix_intsP (s := [o, .ins 0 (tfs xs 2 3 0), .lst (S.map dI), .lst (T.map dI), .lst (T.map dI), .lst (S.map dI)]) q
      have ed : due xs T size = xs.getD T.length 0 % size := by
        unfold due
        rw [if_pos q]
      rw [ed] at f fin
      simp [-List.getD_eq_getElem?_getD, c1, c0, q, ix, lstAt, PySem.sizeLine_eq, z1, z2, f, ty1, ty2]
      simpa [-List.getD_eq_getElem?_getD] using fin
    · have ed : due xs T size = 0 := by
        unfold due
        rw [if_neg q]
      rw [ed] at f fin
      simp [c1, q, lstAt, PySem.sizeLine_eq, z1, z2, f, ty1, ty2]
      simpa using fin
theorem drawB_ok (C : Cs) (fT : ∀ (m : Int), 0 < m → ∀ o, Row o → ∀ r, ∃ (t : Nat) (o' : O), (t : Int) < m ∧ Row o' ∧ C .law_take [.ref 0, .p (.int m)] (o :: r) = .ok (.p (.int t)) (o' :: r))
    (fD1 : ∀ d s, C .Tape_draw [d, dI 1] s = .ok (dI 0) s) (fD : ∀ (xs S T : List Int) (size : Int) (o : O) (r : Sto), 1 < size → S.length ≤ 1000 → T.length ≤ 1000 →
      C .Tape_draw [.ref 1, dI size] (o :: .ins 0 (tfs xs 2 3 0) :: .lst (S.map dI) :: .lst (T.map dI) :: r) = .ok (dI (due xs T size)) (o :: .ins 0 (tfs xs 2 3 0) :: .lst ((S ++ [size]).map dI) :: .lst ((T ++ [due xs T size]).map dI) :: r))
    {i : Nat} (hi : i < 1000) (a0 : Option D) (xs : List Int) (long : Bool) (x8 x9 x10 x11 : Option D) (S T : List Int) (o : O) (ho : Row o) (hS : S.length ≤ i) (hT : T.length ≤ i) (P : RS → Prop) :
    (drawB C (den a0 xs long x8 x9 x10 x11) (dst xs S T o)).wp (DrI a0 xs long (i + 1)) P := by
  rw [drawB_is]
  obtain ⟨t, o1, t1, r1, e1⟩ := fT 59 (by decide) o ho [.ins 0 (tfs xs 2 3 0), .lst (S.map dI), .lst (T.map dI), .lst (T.map dI), .lst (S.map dI)]
  obtain ⟨u, o2, u1, r2, e2⟩ := fT 6 (by decide) o1 r1 [.ins 0 (tfs xs 2 3 0), .lst (S.map dI), .lst (T.map dI), .lst (T.map dI), .lst (S.map dI)]
  by_cases u0 : u = 0
  · subst u0
    obtain ⟨v, o3, v1, r3, e3⟩ := fT 2 (by decide) o2 r2 [.ins 0 (tfs xs 2 3 0), .lst (S.map dI), .lst (T.map dI), .lst (T.map dI), .lst (S.map dI)]
    have mo : mulOk (v : Int) 999999999999999 = true := mulOk_of (m := 20) (n := 60) (by omega) (by decide)
    have pw : powOk 10 15 = true := by decide
    have q := drawR_ok C fD1 fD hi a0 xs long x8 x10 x11 (1 + (v : Int) * 999999999999999) S T o3 r3 (by omega) hS hT P
    unfold den dst at *
    simp at e2
    simp [e1, e2, e3, mo, pw]
    exact q
  · have q := drawR_ok C fD1 fD hi a0 xs long x8 x10 x11 (1 + (t : Int)) S T o2 r2 (by omega) hS hT P
    unfold den dst at *
    simp [e1, e2, u0]
    exact q
theorem tailC_ok (C : Cs) (fT : ∀ (m : Int), 0 < m → ∀ o, Row o → ∀ r, ∃ (t : Nat) (o' : O), (t : Int) < m ∧ Row o' ∧ C .law_take [.ref 0, .p (.int m)] (o :: r) = .ok (.p (.int t)) (o' :: r))
    (fTr : ∀ (F : List Int) s, F.length ≤ 1000 → C .c_trimmed [.p (.list (F.map PyData.int))] s = .ok (.p (.list ((trm F).map PyData.int))) s)
    (fSh : ∀ (F G : List Int) s, C .c_shorter [.p (.list (F.map PyData.int)), .p (.list (G.map PyData.int))] s = .ok (dB (decide (F.length < G.length) || decide (F.length = G.length) && ltI F G)) s)
    (fSt : ∀ s, ∃ s', C .law_steps [dI 4001] s = .ok (dI 4000) s') (a0 : Option D) (xs : List Int) (long : Bool) (x8 x9 x10 x11 : Option D) (S T : List Int) (o : O) (ho : Row o) (Q : RS → Prop) (hQ : ∀ s, Q (.rt (dB true) s)) :
    Q (tailC C (den a0 xs long x8 x9 x10 x11) (dst xs S T o)) := by
  have q := tailD_ok C fT fTr fSh fSt a0 (some (.p (.list (xs.map PyData.int)))) (some (dB long)) (some (.p (.list (xs.map PyData.int)))) (some (.ref 1)) (some (.ref 4)) (some (.ref 5)) x8 x9 x10 x11 o [.ins 0 (tfs xs 2 3 0), .lst (S.map dI), .lst (T.map dI), .lst (T.map dI), .lst (S.map dI)] ho Q hQ
  have n1 := ne_rr (s := dst xs S T o) (j := 3) (k := 4) (F := T) (G := T) rfl rfl
  have n2 := ne_rr (s := dst xs S T o) (j := 2) (k := 5) (F := S) (G := S) rfl rfl
  have n3 := ne_ints (s := dst xs S T o) (F := xs) (G := xs)
  unfold tailC
  unfold den dst at *
  simp at n1 n2
  simp [-hNe_ll, n1, n2, n3]
  exact q
theorem hCut_rtake {xs : List PyData} {n : Nat} {s : Sto} : hCut false (.ro xs) none (some (n : Int)) s = .ok (.p (.list (xs.take n))) s := by
  show newL false (cutD (xs.map D.p) none (some (n : Int))) s = _
  rw [cutD_take, ← List.map_take, newL_false]
def tail2 (C : Cs) : SV := sSeq (sSet 4 (eBlt (hList false) (aCons (eVar 2) aNil))) (sSeq (sSet 5 (eMake 0 (C .Tape_init) [] (aCons (eVar 2) aNil))) (sSeq (sSet 6 (eLst true aNil)) (sSeq (sSet 7 (eLst true aNil)) (sSeq (sFor (dIt C) (gSet 8) (drawB C)) (tailC C)))))
theorem tail2_ok (C : Cs) (fT : ∀ (m : Int), 0 < m → ∀ o, Row o → ∀ r, ∃ (t : Nat) (o' : O), (t : Int) < m ∧ Row o' ∧ C .law_take [.ref 0, .p (.int m)] (o :: r) = .ok (.p (.int t)) (o' :: r))
    (fI : ∀ (xs : List Int) (o : O), C .Tape_init [.ref 1, .p (.list (xs.map PyData.int))] [o, .ins 0 []] = .ok (.p .none) [o, .ins 0 (tfs xs 2 3 0), .lst [], .lst []])
    (fD1 : ∀ d s, C .Tape_draw [d, dI 1] s = .ok (dI 0) s) (fD : ∀ (xs S T : List Int) (size : Int) (o : O) (r : Sto), 1 < size → S.length ≤ 1000 → T.length ≤ 1000 →
      C .Tape_draw [.ref 1, dI size] (o :: .ins 0 (tfs xs 2 3 0) :: .lst (S.map dI) :: .lst (T.map dI) :: r) = .ok (dI (due xs T size)) (o :: .ins 0 (tfs xs 2 3 0) :: .lst ((S ++ [size]).map dI) :: .lst ((T ++ [due xs T size]).map dI) :: r))
    (fTr : ∀ (F : List Int) s, F.length ≤ 1000 → C .c_trimmed [.p (.list (F.map PyData.int))] s = .ok (.p (.list ((trm F).map PyData.int))) s)
    (fSh : ∀ (F G : List Int) s, C .c_shorter [.p (.list (F.map PyData.int)), .p (.list (G.map PyData.int))] s = .ok (dB (decide (F.length < G.length) || decide (F.length = G.length) && ltI F G)) s)
    (fSt : ∀ s, ∃ s', C .law_steps [dI 4001] s = .ok (dI 4000) s') (a0 : Option D) (xs : List Int) (long : Bool) (x8 : Option D) (o : O) (ho : Row o) (Q : RS → Prop) (hQ : ∀ s, Q (.rt (dB true) s)) :
    Q (tail2 C [a0, some (.ref 0), some (.p (.list (xs.map PyData.int))), some (dB long), none, none, none, none, x8, none, none, none, none, none, none, none, none] [o]) := by
  have f := fI xs o
  obtain ⟨n, o1, n1, r1, e1⟩ : ∃ (n : Nat) (o' : O), n < 1000 ∧ Row o' ∧ dIt C (den a0 xs long x8 none none none) (dst xs [] [] o) = .ok (itS (rngD 0 n)) (dst xs [] [] o') := by
    unfold dIt den dst
    cases long with
    | true =>
      obtain ⟨t, o', t1, t2, t3⟩ := fT 59 (by decide) o ho [.ins 0 (tfs xs 2 3 0), .lst [], .lst [], .lst [], .lst []]
      have q : (90 : Int) + t < 4611686018427387904 := by omega
      have q2 : ((90 : Int) + t).toNat = 90 + t := by omega
      refine ⟨90 + t, o', by omega, t2, ?_⟩
      have q3 : -4611686018427387904 ≤ (90 : Int) + t := by omega
      simp [t3, q, q2, q3]
    | false =>
      obtain ⟨t, o', t1, t2, t3⟩ := fT 16 (by decide) o ho [.ins 0 (tfs xs 2 3 0), .lst [], .lst [], .lst [], .lst []]
      have q : (t : Int) < 4611686018427387904 := by omega
      refine ⟨t, o', by omega, t2, ?_⟩
      simp [t3, q]
  unfold tail2
  unfold den dst at e1
  simp at e1
  simp [f, e1, foGo_S]
  refine rngPS (DrI a0 xs long) ⟨x8, none, none, none, [], [], o1, r1, rfl, rfl, by simp, by simp⟩ ?_ ?_
  · rintro e s ⟨x8, x9, x10, x11, S, T, o, ho, rfl, rfl, h1, h2⟩
    exact tailC_ok C fT fTr fSh fSt a0 xs long x8 x9 x10 x11 S T o ho Q hQ
  · rintro i e s hi ⟨x8, x9, x10, x11, S, T, o, ho, rfl, rfl, h1, h2⟩
    exact drawB_ok C fT fD1 fD (by omega) a0 xs long (some (dI i)) x9 x10 x11 S T o ho h1 h2 _
theorem law_true (ns : List Int) (h : ns.length ≤ 63) : ∃ s, fnk 20 .c_law [.ro (ns.map PyData.int)] [] = .ok (.p (.bool true)) s := by
  rw [fnk_c_law]
  obtain ⟨o0, r0, e⟩ := stream_run ns h
  have e0 : fnk 19 .law_stream [.ro (ns.map PyData.int)] [] = .ok (.ref 0) [o0] := (fnk_law_stream 18 _ _).trans e
  have fT : ∀ (m : Int), 0 < m → ∀ o, Row o → ∀ r, ∃ (t : Nat) (o' : O), (t : Int) < m ∧ Row o' ∧ fnk 19 .law_take [.ref 0, .p (.int m)] (o :: r) = .ok (.p (.int t)) (o' :: r) := fun m hm o ho r => take_v 18 m o r ho hm
  have fI : ∀ (xs : List Int) (o : O), fnk 19 .Tape_init [.ref 1, .p (.list (xs.map PyData.int))] [o, .ins 0 []] = .ok (.p .none) [o, .ins 0 (tfs xs 2 3 0), .lst [], .lst []] := fun xs o => init_ok (k := 18) (xs := xs) (s := [o])
  have fD1 := fun d s => draw1 (k := 18) (d := d) (s := s)
  have fD := fun (xs S T : List Int) (size : Int) (o : O) (r : Sto) h1 h2 h3 => draw_ok (k := 18) (xs := xs) (S := S) (T := T) (size := size) (o := o) (r := r) h1 h2 h3
  have fTr := fun (F : List Int) s hF => trimmed_ok (k := 18) (F := F) (s := s) hF
  have fSh := fun (F G : List Int) s => shorter_ok (k := 18) (F := F) (G := G) (s := s)
  have fSt := fun s => steps_ok (k := 17) (s := s)
  generalize fnk 19 = C at *
  refine runB_P (P := fun r => ∃ s, r = .ok (.p (.bool true)) s) fun Q hQ => ?_
  replace hQ : ∀ s, Q (.rt (dB true) s) := fun s => hQ _ ⟨s, rfl⟩
  -- the numbers
  obtain ⟨F, o1, r1, lF, _, eF⟩ := lcI (v := 16) (fi := iSeq (eCut false (eVar 0) oNone (oSome (eC (.int 10))))) (f := (eIf (tB (eOp hEq (eCall (C .law_take) [] (aCons (eVar 1) (aCons (eC (.int 2)) aNil))) (eC (.int 0)))) (eOp hMod (eBlt hAbs (aCons (eBlt hInt (aCons (eVar 16) aNil)) aNil)) (eOp hPow (eC (.int 10)) (eC (.int 30)))) (eCall (C .law_take) [] (aCons (eVar 1) (aCons (eC (.int 59)) aNil)))))
    (r := []) (ds := (ns.take 10).map dI) (fun _ => True) (e := [some (.ro (ns.map PyData.int)), some (.ref 0), none, none, none, none, none, none, none, none, none, none, none, none, none, none, none]) (o := o0) (o1 := o0) (by decide) rfl (by have := hCut_rtake (xs := ns.map PyData.int) (n := 10) (s := [o0]); simp at this; simp [this]; rfl) r0 (by simp; omega) (by simp) (fun d hd o ho => by
      obtain ⟨c, _, rfl⟩ := List.mem_map.mp hd
      obtain ⟨t, o', t1, t2, t3⟩ := fT 2 (by decide) o ho []
      by_cases t0 : t = 0
      · subst t0
        have pw : powOk 10 30 = true := by decide
        simp at t3
        exact ⟨(if c < 0 then -c else c) % 1000000000000000000000000000000, o', t2, trivial, fun e he hn => by simp [he, t3, pw, hn]⟩
      · obtain ⟨u, o'', u1, u2, u3⟩ := fT 59 (by decide) o' t2 []
        exact ⟨(u : Int), o'', u2, trivial, fun e he hn => by simp [he, t3, t0, u3]⟩)
  have is2 : ∀ C : Cs, b_c_law C = sSeq (sSet 1 (eCall (C .law_stream) [] (aCons (eVar 0) aNil))) (sSeq (sSet 2 (dX C)) (sSeq (sSet 3 (dL C)) (sSeq (sIf (tTru (eVar 3)) (sSet 2 (dY C)) sNil) (tail2 C)))) := fun C => rfl
  rw [is2]
  obtain ⟨t, o2, t1, r2, e2⟩ := fT 4 (by decide) o1 r1 []
  have dX1 : dX C [some (.ro (ns.map PyData.int)), some (.ref 0), none, none, none, none, none, none, none, none, none, none, none, none, none, none, none] [o0] = .ok (.p (.list (F.map PyData.int))) [o1] := eF
  rw [List.length_map, List.length_take] at lF
  by_cases t0 : t = 0
  · subst t0
    obtain ⟨u, o3, u1, r3, e3⟩ := fT 59 (by decide) o2 r2 []
    have q : (100 : Int) + u < 4611686018427387904 := by omega
    have q2 : ((100 : Int) + u).toNat = 100 + u := by omega
    have q3 : -4611686018427387904 ≤ (100 : Int) + u := by omega
    obtain ⟨G, o4, r4, lG, _, eG⟩ := lcI (v := 8) (fi := (iRange1 (eOp hAdd (eC (.int 100)) (eCall (C .law_take) [] (aCons (eVar 1) (aCons (eC (.int 59)) aNil)))))) (f := (eOp hAdd (eC (.int 1)) (eCall (C .law_take) [] (aCons (eVar 1) (aCons (eC (.int 59)) aNil)))))
      (r := []) (ds := rngD 0 (100 + u)) (fun _ => True) (e := [some (.ro (ns.map PyData.int)), some (.ref 0), some (.p (.list (F.map PyData.int))), some (dB true), none, none, none, none, none, none, none, none, none, none, none, none, none]) (o := o2) (o1 := o3) (by decide) rfl (by simp [e3, q, q2, q3]) r3 (by simp; omega) (by simp) (fun d hd o ho => by
        obtain ⟨v, o', v1, v2, v3⟩ := fT 59 (by decide) o ho []
        exact ⟨1 + (v : Int), o', v2, trivial, fun e he hn => by simp [he, v3]⟩)
    rw [rngD_length] at lG
    have fin := tail2_ok C fT fI fD1 fD fTr fSh fSt (some (.ro (ns.map PyData.int))) (F ++ G) true none o4 r4 Q hQ
    rw [List.map_append] at fin
    simp at e2
    have sz : F.length + G.length ≤ 16777216 := by omega
    unfold dL dY
    simp [e0, dX1, e2, eG, PySem.sizeLine_eq, sz]
    exact fin
  · have fin := tail2_ok C fT fI fD1 fD fTr fSh fSt (some (.ro (ns.map PyData.int))) F false none o2 r2 Q hQ
    unfold dL
    simp [e0, dX1, e2, t0]
    exact fin
end Lk09
/-! law_k09_draws_of_a_tape: what the top has left, the end (printed by gen.py). -/
namespace Lk09
open PySem PySem.Spec PyProof.Rows L2 Dl
def adOf (f0 f1 f2 f3 f4 f5 f6 f7 f8 : Addr) : Fn → Addr
  | .Tape_init => f0
  | .Tape_draw => f1
  | .Tape_step => f2
  | .c_trimmed => f3
  | .c_shorter => f4
  | .law_stream => f5
  | .law_take => f6
  | .law_steps => f7
  | .c_law => f8
def fdOf (d0 d1 d2 d3 d4 d5 d6 d7 d8 : FuncData) : Fn → FuncData
  | .Tape_init => d0
  | .Tape_draw => d1
  | .Tape_step => d2
  | .c_trimmed => d3
  | .c_shorter => d4
  | .law_stream => d5
  | .law_take => d6
  | .law_steps => d7
  | .c_law => d8
def ctK (K : PySem.W.Frag) : Nat → Addr := fun c => match c with
  | 0 => clsAd K "Tape"
  | _ => clsAd K "Tape"
theorem all_mk {P : Program} {w : World} {K : PySem.W.Frag} {h : Heap} {mg : Str → Option Value} {fa : Addr} (X : K.In h) (G : h.Ns mainGlobals mg) (hfa : mg "law" = some (.ref fa))
    {Cc_Tape : Addr} (gc_Tape : PySem.W.nsIn K mainGlobals "Tape" = some (some (.ref Cc_Tape)))
    (pg_Tape : PySem.W.plainGet K Cc_Tape Str.empty = true) (hd_Tape : PySem.W.hasDictIn K Cc_Tape = true) (po_Tape : PySem.W.plainOver K Cc_Tape = true) (sa_Tape : PySem.W.findIn K (.ref Cc_Tape) "__setattr__" = some (some (.builtin "object.__setattr__")))
    (na_Tape_deep : PySem.W.findIn K (.ref Cc_Tape) "deep" = some none)
    (na_Tape_numbers : PySem.W.findIn K (.ref Cc_Tape) "numbers" = some none)
    (na_Tape_sizes : PySem.W.findIn K (.ref Cc_Tape) "sizes" = some none)
    (na_Tape_steps : PySem.W.findIn K (.ref Cc_Tape) "steps" = some none)
    (na_Tape_told : PySem.W.findIn K (.ref Cc_Tape) "told" = some none)
    (mk_Tape : PySem.W.makesIn K Cc_Tape = true) (kc_Tape : PySem.W.keepIn K (.ref Cc_Tape) = true)
    {f0 : Addr} {od0 an0 : Option Addr} {sl0 : Array (Option Value)} {oc0 kV0 dc0 pm0 cd0 ct0 : Value}
    (a0 : PySem.W.findIn K (.ref Cc_Tape) "__init__" = some (some (.ref f0))) (i0 : PySem.W.isFn K (.ref f0) = true) (l0 : K.lookup f0 = some ⟨oc0, od0, .func (PySem.W.fnOf "__init__" "Tape.__init__" (defArgs s_Tape_init) (defBody s_Tape_init) (defScope s_Tape_init) .none kV0 dc0 pm0 an0 cd0 ct0), sl0⟩) (c0 : PySem.W.codeIn K cd0 "Tape.__init__" = true) (k0 : PySem.W.keepIn K (.ref f0) = true)
    {f1 : Addr} {od1 an1 : Option Addr} {sl1 : Array (Option Value)} {oc1 kV1 dc1 pm1 cd1 ct1 : Value}
    (a1 : PySem.W.findIn K (.ref Cc_Tape) "draw" = some (some (.ref f1))) (i1 : PySem.W.isFn K (.ref f1) = true) (l1 : K.lookup f1 = some ⟨oc1, od1, .func (PySem.W.fnOf "draw" "Tape.draw" (defArgs s_Tape_draw) (defBody s_Tape_draw) (defScope s_Tape_draw) .none kV1 dc1 pm1 an1 cd1 ct1), sl1⟩) (c1 : PySem.W.codeIn K cd1 "Tape.draw" = true) (k1 : PySem.W.keepIn K (.ref f1) = true)
    {f2 : Addr} {od2 an2 : Option Addr} {sl2 : Array (Option Value)} {oc2 kV2 dc2 pm2 cd2 ct2 : Value}
    (a2 : PySem.W.findIn K (.ref Cc_Tape) "step" = some (some (.ref f2))) (i2 : PySem.W.isFn K (.ref f2) = true) (l2 : K.lookup f2 = some ⟨oc2, od2, .func (PySem.W.fnOf "step" "Tape.step" (defArgs s_Tape_step) (defBody s_Tape_step) (defScope s_Tape_step) .none kV2 dc2 pm2 an2 cd2 ct2), sl2⟩) (c2 : PySem.W.codeIn K cd2 "Tape.step" = true) (k2 : PySem.W.keepIn K (.ref f2) = true)
    {f3 : Addr} {od3 an3 : Option Addr} {sl3 : Array (Option Value)} {oc3 kV3 dc3 pm3 cd3 ct3 : Value}
    (a3 : PySem.W.nsIn K mainGlobals "trimmed" = some (some (.ref f3))) (l3 : K.lookup f3 = some ⟨oc3, od3, .func (PySem.W.fnOf "trimmed" "trimmed" (defArgs s_c_trimmed) (defBody s_c_trimmed) (defScope s_c_trimmed) .none kV3 dc3 pm3 an3 cd3 ct3), sl3⟩) (c3 : PySem.W.codeIn K cd3 "trimmed" = true) (k3 : PySem.W.keepIn K (.ref f3) = true)
    {f4 : Addr} {od4 an4 : Option Addr} {sl4 : Array (Option Value)} {oc4 kV4 dc4 pm4 cd4 ct4 : Value}
    (a4 : PySem.W.nsIn K mainGlobals "shorter" = some (some (.ref f4))) (l4 : K.lookup f4 = some ⟨oc4, od4, .func (PySem.W.fnOf "shorter" "shorter" (defArgs s_c_shorter) (defBody s_c_shorter) (defScope s_c_shorter) .none kV4 dc4 pm4 an4 cd4 ct4), sl4⟩) (c4 : PySem.W.codeIn K cd4 "shorter" = true) (k4 : PySem.W.keepIn K (.ref f4) = true)
    {f5 : Addr} {od5 an5 : Option Addr} {sl5 : Array (Option Value)} {oc5 kV5 dc5 pm5 cd5 ct5 : Value}
    (a5 : PySem.W.nsIn K mainGlobals "_law_stream" = some (some (.ref f5))) (l5 : K.lookup f5 = some ⟨oc5, od5, .func (PySem.W.fnOf "_law_stream" "_law_stream" (defArgs s_law_stream) (defBody s_law_stream) (defScope s_law_stream) .none kV5 dc5 pm5 an5 cd5 ct5), sl5⟩) (c5 : PySem.W.codeIn K cd5 "_law_stream" = true) (k5 : PySem.W.keepIn K (.ref f5) = true)
    {f6 : Addr} {od6 an6 : Option Addr} {sl6 : Array (Option Value)} {oc6 kV6 dc6 pm6 cd6 ct6 : Value}
    (a6 : PySem.W.nsIn K mainGlobals "_law_take" = some (some (.ref f6))) (l6 : K.lookup f6 = some ⟨oc6, od6, .func (PySem.W.fnOf "_law_take" "_law_take" (defArgs s_law_take) (defBody s_law_take) (defScope s_law_take) .none kV6 dc6 pm6 an6 cd6 ct6), sl6⟩) (c6 : PySem.W.codeIn K cd6 "_law_take" = true) (k6 : PySem.W.keepIn K (.ref f6) = true)
    {f7 : Addr} {od7 an7 : Option Addr} {sl7 : Array (Option Value)} {oc7 kV7 dc7 pm7 cd7 ct7 : Value}
    (a7 : PySem.W.nsIn K mainGlobals "_law_steps" = some (some (.ref f7))) (l7 : K.lookup f7 = some ⟨oc7, od7, .func (PySem.W.fnOf "_law_steps" "_law_steps" (defArgs s_law_steps) (defBody s_law_steps) (defScope s_law_steps) .none kV7 dc7 pm7 an7 cd7 ct7), sl7⟩) (c7 : PySem.W.codeIn K cd7 "_law_steps" = true) (k7 : PySem.W.keepIn K (.ref f7) = true)
    {f8 : Addr} {od8 an8 : Option Addr} {sl8 : Array (Option Value)} {oc8 kV8 dc8 pm8 cd8 ct8 : Value}
    (a8 : PySem.W.nsIn K mainGlobals "law" = some (some (.ref f8))) (l8 : K.lookup f8 = some ⟨oc8, od8, .func (PySem.W.fnOf "law" "law" (defArgs s_c_law) (defBody s_c_law) (defScope s_c_law) .none kV8 dc8 pm8 an8 cd8 ct8), sl8⟩) (c8 : PySem.W.codeIn K cd8 "law" = true) (k8 : PySem.W.keepIn K (.ref f8) = true)
    (z_abs : PySem.W.nsIn K mainGlobals "abs" = some none)
    (z_bool : PySem.W.nsIn K mainGlobals "bool" = some none)
    (z_int : PySem.W.nsIn K mainGlobals "int" = some none)
    (z_isinstance : PySem.W.nsIn K mainGlobals "isinstance" = some none)
    (z_len : PySem.W.nsIn K mainGlobals "len" = some none)
    (z_list : PySem.W.nsIn K mainGlobals "list" = some none)
    (z_range : PySem.W.nsIn K mainGlobals "range" = some none)
    (z_super : PySem.W.nsIn K mainGlobals "super" = some none)
    {t_MAX_STEPS : Tok} (v_MAX_STEPS : PySem.W.nsIn K mainGlobals "MAX_STEPS" = some (some (.int 4000 t_MAX_STEPS)))
    {Cx_TooLarge fI_TooLarge : Addr} (gx_TooLarge : PySem.W.nsIn K mainGlobals "TooLarge" = some (some (.ref Cx_TooLarge))) (sx_TooLarge : SupC P K Cx_TooLarge fI_TooLarge "name" "name")
    {Cx_Refused : Addr} (gx_Refused : PySem.W.nsIn K mainGlobals "Refused" = some (some (.ref Cx_Refused)))
    (fx_TooLarge : XfC K Cx_TooLarge)
    (xx_TooLarge_TooLarge : PySem.W.exmOne K (.ref Cx_TooLarge) (.ref Cx_TooLarge) = some true)
    (xx_TooLarge_Refused : PySem.W.exmOne K (.ref Cx_Refused) (.ref Cx_TooLarge) = some false) :
    ∃ fd : FuncData, (∀ (s : Shared) (v : Value), BindsTo s fd ⟨[v], []⟩ [("script", v)]) ∧ ∀ base : Heap, K.In base → base.Ns mainGlobals mg → FnG P w K mg base 20 fa fd ["script"] (spG K (ctK K) (exT K) 1 (fnk 20 .c_law)) := by
  have e := hfa.symm.trans (PySem.W.mg_of X G a8)
  cases e
  have ec_TooLarge : (exT K).cls 0 = Cx_TooLarge := clsAd_of gx_TooLarge
  have ecc_Tape : ctK K 0 = Cc_Tape := clsAd_of gc_Tape
  have M : Fx P K mg (exT K) (ctK K) (adOf f0 f1 f2 f3 f4 f5 f6 f7 fa) (fdOf _ _ _ _ _ _ _ _ _) fI_TooLarge := ⟨fun i => match i with
    | .Tape_init => ⟨⟨_, _, _, _, _, _, _, _, _, _, rfl, l0, c0, fun _ => rfl⟩, k0, fun h => nomatch h⟩
    | .Tape_draw => ⟨⟨_, _, _, _, _, _, _, _, _, _, rfl, l1, c1, fun _ => rfl⟩, k1, fun h => nomatch h⟩
    | .Tape_step => ⟨⟨_, _, _, _, _, _, _, _, _, _, rfl, l2, c2, fun _ => rfl⟩, k2, fun h => nomatch h⟩
    | .c_trimmed => ⟨⟨_, _, _, _, _, _, _, _, _, _, rfl, l3, c3, fun _ => rfl⟩, k3, fun _ => PySem.W.mg_of X G a3⟩
    | .c_shorter => ⟨⟨_, _, _, _, _, _, _, _, _, _, rfl, l4, c4, fun _ => rfl⟩, k4, fun _ => PySem.W.mg_of X G a4⟩
    | .law_stream => ⟨⟨_, _, _, _, _, _, _, _, _, _, rfl, l5, c5, fun _ => rfl⟩, k5, fun _ => PySem.W.mg_of X G a5⟩
    | .law_take => ⟨⟨_, _, _, _, _, _, _, _, _, _, rfl, l6, c6, fun _ => rfl⟩, k6, fun _ => PySem.W.mg_of X G a6⟩
    | .law_steps => ⟨⟨_, _, _, _, _, _, _, _, _, _, rfl, l7, c7, fun _ => rfl⟩, k7, fun _ => PySem.W.mg_of X G a7⟩
    | .c_law => ⟨⟨_, _, _, _, _, _, _, _, _, _, rfl, l8, c8, fun _ => rfl⟩, k8, fun _ => PySem.W.mg_of X G a8⟩,
    PySem.W.mg_none_of X G z_abs,
    PySem.W.mg_none_of X G z_bool,
    PySem.W.mg_none_of X G z_int,
    PySem.W.mg_none_of X G z_isinstance,
    PySem.W.mg_none_of X G z_len,
    PySem.W.mg_none_of X G z_list,
    PySem.W.mg_none_of X G z_range,
    PySem.W.mg_none_of X G z_super,
    ⟨_, .int 4000, PySem.W.mg_of X G v_MAX_STEPS, ⟨_, rfl⟩, fun _ => rfl⟩,
    by rw [ec_TooLarge]; exact sx_TooLarge,
    rfl,
    by rw [ec_TooLarge]; exact PySem.W.mg_of X G gx_TooLarge,
    fun c => match c with | 0 => (by rw [ec_TooLarge]; exact xx_TooLarge_TooLarge) | c + 1 => (by rw [ec_TooLarge, show (exT K).cls (c + 1) = Cx_Refused from clsAd_of gx_Refused]; exact xx_TooLarge_Refused),
    by rw [ec_TooLarge]; exact fx_TooLarge,
    fun c => match c with | 0 => (by rw [ecc_Tape]; exact ⟨pg_Tape, hd_Tape, po_Tape, sa_Tape⟩) | c + 1 => (by rw [show ctK K (c + 1) = Cc_Tape from clsAd_of gc_Tape]; exact ⟨pg_Tape, hd_Tape, po_Tape, sa_Tape⟩),
    fun c => match c with | 0 => (by rw [ecc_Tape]; exact na_Tape_deep) | c + 1 => (by rw [show ctK K (c + 1) = Cc_Tape from clsAd_of gc_Tape]; exact na_Tape_deep),
    fun c => match c with | 0 => (by rw [ecc_Tape]; exact na_Tape_numbers) | c + 1 => (by rw [show ctK K (c + 1) = Cc_Tape from clsAd_of gc_Tape]; exact na_Tape_numbers),
    fun c => match c with | 0 => (by rw [ecc_Tape]; exact na_Tape_sizes) | c + 1 => (by rw [show ctK K (c + 1) = Cc_Tape from clsAd_of gc_Tape]; exact na_Tape_sizes),
    fun c => match c with | 0 => (by rw [ecc_Tape]; exact na_Tape_steps) | c + 1 => (by rw [show ctK K (c + 1) = Cc_Tape from clsAd_of gc_Tape]; exact na_Tape_steps),
    fun c => match c with | 0 => (by rw [ecc_Tape]; exact na_Tape_told) | c + 1 => (by rw [show ctK K (c + 1) = Cc_Tape from clsAd_of gc_Tape]; exact na_Tape_told),
    by rw [ecc_Tape]; exact ⟨a1, i1, k1⟩,
    by rw [ecc_Tape]; exact ⟨a2, i2, k2⟩,
    by rw [ecc_Tape]; exact ⟨mk_Tape, a0, i0, kc_Tape⟩,
    by rw [ecc_Tape]; exact PySem.W.mg_of X G gc_Tape⟩
  exact ⟨_, fun s v => .of_eq rfl, fun base _ _ => ok_all M 20 .c_law⟩
end Lk09
open PySem PySem.W PyProof.Rows
set_option maxHeartbeats 0 in
theorem PySem.Challenge.cw_chance_k09_draws_of_a_tape_holds : PySem.Challenge.rw_chance_k09_draws_of_a_tape.Holds := by
  w_on; o_law; k_head; (case hw => w_witness2)
  k_fill
  refine Dl.walkG (l := PySem.Challenge.rw_chance_k09_draws_of_a_tape) (n := 63) (k := 20) (x := "script") (sp := fun w => (fun K => Dl.spG K (Lk09.ctK K) (Lk09.exT K) 1 (Lk09.fnk 20 .c_law)) _) rfl (by decide) rfl ⟨rfl, rfl, by decide, by decide⟩ (fun w h Y => PySem.W.kIn_of Y) ?F (fun w H a ns hl hS => Dl.law_want hS (Lk09.law_true ns hl))
  case F =>
    intro w mg fa h KX G hmg
    refine' Lk09.all_mk KX G hmg ?gc_Tape ?pg_Tape ?hd_Tape ?po_Tape ?sa_Tape ?na_Tape_deep ?na_Tape_numbers ?na_Tape_sizes ?na_Tape_steps ?na_Tape_told ?mk_Tape ?kc_Tape ?a0 ?i0 ?l0 ?c0 ?k0 ?a1 ?i1 ?l1 ?c1 ?k1 ?a2 ?i2 ?l2 ?c2 ?k2 ?a3 ?l3 ?c3 ?k3 ?a4 ?l4 ?c4 ?k4 ?a5 ?l5 ?c5 ?k5 ?a6 ?l6 ?c6 ?k6 ?a7 ?l7 ?c7 ?k7 ?a8 ?l8 ?c8 ?k8 ?z_abs ?z_bool ?z_int ?z_isinstance ?z_len ?z_list ?z_range ?z_super ?v_MAX_STEPS ?gx_TooLarge ?sx_TooLarge ?gx_Refused ?fx_TooLarge ?xx_TooLarge_TooLarge ?xx_TooLarge_Refused
    (case gc_Tape => k_is); (case pg_Tape => k_is); (case hd_Tape => k_is); (case po_Tape => k_is); (case sa_Tape => k_is); (case na_Tape_deep => k_is); (case na_Tape_numbers => k_is); (case na_Tape_sizes => k_is); (case na_Tape_steps => k_is); (case na_Tape_told => k_is); (case mk_Tape => k_is); (case kc_Tape => k_is); (case a0 => k_is); (case i0 => k_is); (case l0 => k_is); (case c0 => k_is); (case k0 => k_is); (case a1 => k_is); (case i1 => k_is); (case l1 => k_is); (case c1 => k_is); (case k1 => k_is); (case a2 => k_is); (case i2 => k_is); (case l2 => k_is); (case c2 => k_is); (case k2 => k_is); (case a3 => k_is); (case l3 => k_is); (case c3 => k_is); (case k3 => k_is); (case a4 => k_is); (case l4 => k_is); (case c4 => k_is); (case k4 => k_is); (case a5 => k_is); (case l5 => k_is); (case c5 => k_is); (case k5 => k_is); (case a6 => k_is); (case l6 => k_is); (case c6 => k_is); (case k6 => k_is); (case a7 => k_is); (case l7 => k_is); (case c7 => k_is); (case k7 => k_is); (case a8 => k_is); (case l8 => k_is); (case c8 => k_is); (case k8 => k_is); (case z_abs => k_is); (case z_bool => k_is); (case z_int => k_is); (case z_isinstance => k_is); (case z_len => k_is); (case z_list => k_is); (case z_range => k_is); (case z_super => k_is); (case v_MAX_STEPS => k_is); (case gx_TooLarge => k_is); (case sx_TooLarge => (refine' Dl.supC_mk ?h1 ?h2 ?h3 ?h4 ?h5 ?h6 ?h7 ?h8 ?h9 ?h10 ?h11 ?h12 ?h13 ?h14 ?h15 ?h16 ?h17 ?h18 ?h19 ?h20 ?h21 ?h22 ?h23 ?h24 ?h25 ?h26 ?h27 ?h28 ?h29 ?h30 ?h31 ?h32 ?h33 ?h34 ?h35 ?h36 ?h37; (case h1 => k_is); (case h2 => decide +kernel); (case h3 => k_is); (case h4 => k_is); (case h5 => k_is); (case h6 => k_is); (case h7 => k_is); (case h8 => k_is); (case h9 => k_is); (case h10 => k_is); (case h11 => exact fun _ _ _ => BindsTo.of_eq rfl); (case h12 => rfl); (case h13 => rfl); (case h14 => k_is); (case h15 => rfl); (case h16 => decide +kernel); (case h17 => k_is); (case h18 => rfl); (case h19 => rfl); (case h20 => rfl); (case h21 => rfl); (case h22 => decide); (case h23 => rfl); (case h24 => rfl); (case h25 => rfl); (case h26 => decide +kernel); (case h27 => decide); (case h28 => decide); (case h29 => exact fun _ => ⟨_, rfl⟩); (case h30 => exact fun _ => rfl); (case h31 => exact fun _ => rfl); (case h32 => k_is); (case h33 => ks_is); (case h34 => k_is); (case h35 => k_is); (case h36 => kx_is); (case h37 => k_is))); (case gx_Refused => k_is); (case fx_TooLarge => (refine' ⟨?x1, ?x2, ?x3, ?x4⟩; (case x1 => k_is); (case x2 => k_is); (case x3 => k_is); (case x4 => k_is))); (case xx_TooLarge_TooLarge => kernel_rfl); (case xx_TooLarge_Refused => kernel_rfl)
