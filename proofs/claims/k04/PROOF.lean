import PyProof.Rows.All
import HandS.ForMost
import HandS.Exc
import HandS.TryOnly
import HandS.TupAny
import HandS.Wide
import HandS.WideMore
import HandS.WideBits
import HandS.Flow
import HandS.Deep
import HandS.IsInst
import HandS.Defaults
import HandS.Zip
import HandS.RevRange
import HandS.Style
import HandS.TupLe
import HandS.Gcd
import HandS.CallSlots
import HandS.More
import HandS.Walk
import HandS.Ends
import HandS.RaiseMore
import HandS.Conv
import HandS.ExcInit
import KE.KExcSuper
import HandS.ExcSuper
import HandS.ExcField
import KE.KExcLine
import KE.LtSeq
import PySem.Challenge.RW_chance_k04_terms_and_near_things
import PyProof.ReprBulk
set_option Elab.async false
set_option linter.all false
set_option maxRecDepth 100000
set_option maxHeartbeats 4000000
/-! The data layer: values as data, a store of mutable objects, functions on them; what a reading of the hand layer says of them. -/
namespace Dl
open PySem PySem.Spec PyProof.Rows L2

/-- a value: plain data, a mutable object by its place in the store, or a tuple in which such stand -/
inductive D where
  | p (x : PyData)
  | ref (k : Nat)
  | bag (xs : List D)
  | ro (xs : List PyData)
inductive O where
  | lst (xs : List D)
  | ins (c : Nat) (fs : List (Str × D))
abbrev Sto := List O
abbrev En := List (Option D)

inductive R (α : Type) where
  | ok (a : α) (s : Sto)
  | ex (c : Nat) (x : PyData) (s : Sto)
  | bad
def R.bind {α β : Type} (r : R α) (f : α → Sto → R β) : R β :=
  match r with
  | .ok a s => f a s
  | .ex c x s => .ex c x s
  | .bad => .bad
@[simp] theorem R.bind_ok {α β : Type} (a : α) (s : Sto) (f : α → Sto → R β) : R.bind (.ok a s) f = f a s := id rfl
@[simp] theorem R.bind_ex {α β : Type} (c : Nat) (x : PyData) (s : Sto) (f : α → Sto → R β) : R.bind (.ex c x s) f = .ex c x s := id rfl
@[simp] theorem R.bind_bad {α β : Type} (f : α → Sto → R β) : R.bind .bad f = .bad := id rfl

abbrev EV := En → Sto → R D
abbrev TV := En → Sto → R Bool
abbrev AV := En → Sto → R (List D)
inductive RS where
  | nx (e : En) (s : Sto)
  | rt (d : D) (s : Sto)
  | bk (e : En) (s : Sto)
  | ct (e : En) (s : Sto)
  | ex (c : Nat) (x : PyData) (e : En) (s : Sto)
  | bad
abbrev SV := En → Sto → RS

/-! ### worlds -/
structure Wd where
  mu : List Addr
  fz : Addr → Prop
  pr : Addr → Prop
  H : Hp

/-- a list that nobody writes any more -/
def FzL (w : Wd) (a : Addr) (vs : List V) : Prop := w.H a = some (.lst vs) ∧ w.fz a
/-- a list that may be read only -/
def SqR (K : PySem.W.Frag) (H : Hp) (a : Addr) (vs : List V) : Prop := (∃ o, H a = some (.frz o (.lst vs))) ∨
    ∃ (o : Obj) (its : Array Value) (n : Nat), K.lookup a = some o ∧ o.cls = .type "list" ∧ o.dict = none ∧ o.data = .seq its n ∧ its.size ≤ sizeLine ∧ Vals vs its.toList
theorem SqR.sq {K : PySem.W.Frag} {H : Hp} {a : Addr} {vs : List V} (h : SqR K H a vs) : SqL K H a vs := by
  rcases h with ⟨o, h⟩ | h
  · exact .inl (.inr ⟨o, h⟩)
  · exact .inr h
theorem FzL.sq {K : PySem.W.Frag} {w : Wd} {a : Addr} {vs : List V} (h : FzL w a vs) : SqL K w.H a vs := .inl (.inl h.1)

mutual
def RP (K : PySem.W.Frag) (w : Wd) : PyData → V → Prop
  | .none, v => v = .non
  | .bool b, v => v = .bl b
  | .int i, v => v = .int i
  | .str x, v => v = .str x
  | .tuple xs, v => ∃ a vs, v = .ref a ∧ SqT K w.H a vs ∧ RPs K w xs vs
  | .list xs, v => ∃ a vs, v = .ref a ∧ FzL w a vs ∧ RPs K w xs vs
  | .dict kvs, v => kvs = [] ∧ ∃ a, v = .ref a ∧ w.H a = some (.dK []) ∧ w.fz a
def RPs (K : PySem.W.Frag) (w : Wd) : List PyData → List V → Prop
  | [], vs => vs = []
  | x :: xs, vs => ∃ v r, vs = v :: r ∧ RP K w x v ∧ RPs K w xs r
end
mutual
def RD (K : PySem.W.Frag) (w : Wd) : D → V → Prop
  | .p x, v => RP K w x v
  | .ref k, v => ∃ a, w.mu[k]? = some a ∧ v = .ref a
  | .bag xs, v => ∃ a vs, v = .ref a ∧ SqT K w.H a vs ∧ RDs K w xs vs
  | .ro xs, v => ∃ a vs, v = .ref a ∧ SqR K w.H a vs ∧ RPs K w xs vs
def RDs (K : PySem.W.Frag) (w : Wd) : List D → List V → Prop
  | [], vs => vs = []
  | x :: xs, vs => ∃ v r, vs = v :: r ∧ RD K w x v ∧ RDs K w xs r
end
def RF (K : PySem.W.Frag) (w : Wd) : List (Str × D) → List (Str × V) → Prop
  | [], vs => vs = []
  | (f, x) :: xs, vs => ∃ v r, vs = (f, v) :: r ∧ RD K w x v ∧ RF K w xs r

structure Ext0 (K : PySem.W.Frag) (w w' : Wd) : Prop where
  mu : ∃ ν, w'.mu = w.mu ++ ν
  sq : ∀ a xs, SqT K w.H a xs → SqT K w'.H a xs
  sr : ∀ a xs, SqR K w.H a xs → SqR K w'.H a xs
  fz : ∀ a, w.fz a → w'.fz a ∧ w'.H a = w.H a
structure Ext (K : PySem.W.Frag) (w w' : Wd) : Prop extends Ext0 K w w' where
  pr : ∀ a, w.pr a → w'.pr a ∧ w'.H a = w.H a

section
variable {K : PySem.W.Frag} {w w' w'' : Wd}
theorem Ext0.fl (e : Ext0 K w w') (a : Addr) (xs : List V) (h : FzL w a xs) : FzL w' a xs := ⟨(e.fz a h.2).2.trans h.1, (e.fz a h.2).1⟩
theorem Ext0.refl : Ext0 K w w := ⟨⟨[], by simp⟩, fun _ _ h => h, fun _ _ h => h, fun _ h => ⟨h, rfl⟩⟩
theorem Ext.refl : Ext K w w := ⟨Ext0.refl, fun _ h => ⟨h, rfl⟩⟩
theorem Ext0.trans (a : Ext0 K w w') (b : Ext0 K w' w'') : Ext0 K w w'' :=
  ⟨by
    obtain ⟨x, hx⟩ := a.mu
    obtain ⟨y, hy⟩ := b.mu
    exact ⟨x ++ y, by rw [hy, hx, List.append_assoc]⟩,
  fun c xs h => b.sq c xs (a.sq c xs h), fun c xs h => b.sr c xs (a.sr c xs h), fun c h => ⟨(b.fz c (a.fz c h).1).1, ((b.fz c (a.fz c h).1).2).trans (a.fz c h).2⟩⟩
theorem Ext.trans (a : Ext K w w') (b : Ext K w' w'') : Ext K w w'' :=
  ⟨a.toExt0.trans b.toExt0, fun c h => ⟨(b.pr c (a.pr c h).1).1, ((b.pr c (a.pr c h).1).2).trans (a.pr c h).2⟩⟩
theorem Ext0.at (e : Ext0 K w w') {k : Nat} {a : Addr} (h : w.mu[k]? = some a) : w'.mu[k]? = some a := by
  obtain ⟨ν, hν⟩ := e.mu
  obtain ⟨hk, _⟩ := List.getElem?_eq_some_iff.mp h
  rw [hν, List.getElem?_append_left hk]
  exact h
mutual
theorem RP.ext0 (e : Ext0 K w w') : ∀ (x : PyData) (v : V), RP K w x v → RP K w' x v
  | .none, _, h => h
  | .bool _, _, h => h
  | .int _, _, h => h
  | .str _, _, h => h
  | .tuple xs, _, h => by
    obtain ⟨a, vs, rfl, h1, h2⟩ := h
    exact ⟨a, vs, rfl, e.sq _ _ h1, RPs.ext0 e xs vs h2⟩
  | .list xs, _, h => by
    obtain ⟨a, vs, rfl, h1, h2⟩ := h
    exact ⟨a, vs, rfl, e.fl _ _ h1, RPs.ext0 e xs vs h2⟩
  | .dict _, _, h => by
    obtain ⟨rfl, a, rfl, h1, h2⟩ := h
    exact ⟨rfl, a, rfl, (e.fz a h2).2.trans h1, (e.fz a h2).1⟩
theorem RPs.ext0 (e : Ext0 K w w') : ∀ (xs : List PyData) (vs : List V), RPs K w xs vs → RPs K w' xs vs
  | [], _, h => h
  | x :: xs, _, h => by
    obtain ⟨v, r, rfl, h1, h2⟩ := h
    exact ⟨v, r, rfl, RP.ext0 e x v h1, RPs.ext0 e xs r h2⟩
end
mutual
theorem RD.ext0 (e : Ext0 K w w') : ∀ (x : D) (v : V), RD K w x v → RD K w' x v
  | .p x, v, h => RP.ext0 e x v h
  | .ref k, _, h => by
    obtain ⟨a, h1, rfl⟩ := h
    exact ⟨a, e.at h1, rfl⟩
  | .bag xs, _, h => by
    obtain ⟨a, vs, rfl, h1, h2⟩ := h
    exact ⟨a, vs, rfl, e.sq _ _ h1, RDs.ext0 e xs vs h2⟩
  | .ro xs, _, h => by
    obtain ⟨a, vs, rfl, h1, h2⟩ := h
    exact ⟨a, vs, rfl, e.sr _ _ h1, RPs.ext0 e xs vs h2⟩
theorem RDs.ext0 (e : Ext0 K w w') : ∀ (xs : List D) (vs : List V), RDs K w xs vs → RDs K w' xs vs
  | [], _, h => h
  | x :: xs, _, h => by
    obtain ⟨v, r, rfl, h1, h2⟩ := h
    exact ⟨v, r, rfl, RD.ext0 e x v h1, RDs.ext0 e xs r h2⟩
end
theorem RF.ext0 (e : Ext0 K w w') : ∀ (xs : List (Str × D)) (vs : List (Str × V)), RF K w xs vs → RF K w' xs vs
  | [], _, h => h
  | (f, x) :: xs, _, h => by
    obtain ⟨v, r, rfl, h1, h2⟩ := h
    exact ⟨v, r, rfl, RD.ext0 e x v h1, RF.ext0 e xs r h2⟩
theorem RP.ext (e : Ext K w w') (x : PyData) (v : V) (h : RP K w x v) : RP K w' x v := RP.ext0 e.toExt0 x v h
theorem RPs.ext (e : Ext K w w') (x : List PyData) (v : List V) (h : RPs K w x v) : RPs K w' x v := RPs.ext0 e.toExt0 x v h
theorem RD.ext (e : Ext K w w') (x : D) (v : V) (h : RD K w x v) : RD K w' x v := RD.ext0 e.toExt0 x v h
theorem RDs.ext (e : Ext K w w') (x : List D) (v : List V) (h : RDs K w x v) : RDs K w' x v := RDs.ext0 e.toExt0 x v h
theorem RF.ext (e : Ext K w w') (x : List (Str × D)) (v : List (Str × V)) (h : RF K w x v) : RF K w' x v := RF.ext0 e.toExt0 x v h
theorem RPs.length : ∀ {xs : List PyData} {vs : List V}, RPs K w xs vs → vs.length = xs.length
  | [], _, h => by
    have h : _ = [] := h
    rw [h]
    rfl
  | x :: xs, _, h => by
    obtain ⟨v, r, rfl, _, h2⟩ := h
    simp [RPs.length h2]
theorem RDs.length : ∀ {xs : List D} {vs : List V}, RDs K w xs vs → vs.length = xs.length
  | [], _, h => by
    have h : _ = [] := h
    rw [h]
    rfl
  | x :: xs, _, h => by
    obtain ⟨v, r, rfl, _, h2⟩ := h
    simp [RDs.length h2]
theorem RPs.get : ∀ {xs : List PyData} {vs : List V} {i : Nat} {x : PyData}, RPs K w xs vs → xs[i]? = some x → ∃ v, vs[i]? = some v ∧ RP K w x v
  | [], _, _, _, _, e => by simp at e
  | y :: xs, _, 0, x, h, e => by
    obtain ⟨v, r, rfl, h1, _⟩ := h
    simp at e
    subst e
    exact ⟨v, rfl, h1⟩
  | y :: xs, _, i + 1, x, h, e => by
    obtain ⟨v, r, rfl, _, h2⟩ := h
    obtain ⟨u, e1, e2⟩ := RPs.get (i := i) (x := x) h2 (by simpa using e)
    exact ⟨u, by simpa using e1, e2⟩
theorem RDs.get : ∀ {xs : List D} {vs : List V} {i : Nat} {x : D}, RDs K w xs vs → xs[i]? = some x → ∃ v, vs[i]? = some v ∧ RD K w x v
  | [], _, _, _, _, e => by simp at e
  | y :: xs, _, 0, x, h, e => by
    obtain ⟨v, r, rfl, h1, _⟩ := h
    simp at e
    subst e
    exact ⟨v, rfl, h1⟩
  | y :: xs, _, i + 1, x, h, e => by
    obtain ⟨v, r, rfl, _, h2⟩ := h
    obtain ⟨u, e1, e2⟩ := RDs.get (i := i) (x := x) h2 (by simpa using e)
    exact ⟨u, by simpa using e1, e2⟩
theorem RDs.append : ∀ {xs : List D} {vs : List V} {ys : List D} {us : List V}, RDs K w xs vs → RDs K w ys us → RDs K w (xs ++ ys) (vs ++ us)
  | [], _, _, _, h, g => by
    have h : _ = [] := h
    rw [h]
    exact g
  | x :: xs, _, _, _, h, g => by
    obtain ⟨v, r, rfl, h1, h2⟩ := h
    exact ⟨v, r ++ _, rfl, h1, RDs.append h2 g⟩
theorem RPs.append : ∀ {xs : List PyData} {vs : List V} {ys : List PyData} {us : List V}, RPs K w xs vs → RPs K w ys us → RPs K w (xs ++ ys) (vs ++ us)
  | [], _, _, _, h, g => by
    have h : _ = [] := h
    rw [h]
    exact g
  | x :: xs, _, _, _, h, g => by
    obtain ⟨v, r, rfl, h1, h2⟩ := h
    exact ⟨v, r ++ _, rfl, h1, RPs.append h2 g⟩
theorem RDs.set {x : D} {v : V} (hx : RD K w x v) : ∀ {xs : List D} {vs : List V} (i : Nat), RDs K w xs vs → RDs K w (xs.set i x) (vs.set i v)
  | [], _, _, h => by
    have h : _ = [] := h
    rw [h]
    rfl
  | y :: xs, _, 0, h => by
    obtain ⟨u, r, rfl, _, h2⟩ := h
    exact ⟨v, r, rfl, hx, h2⟩
  | y :: xs, _, i + 1, h => by
    obtain ⟨u, r, rfl, h1, h2⟩ := h
    exact ⟨u, r.set i v, rfl, h1, RDs.set hx i h2⟩
theorem RDs.take : ∀ {xs : List D} {vs : List V} (i : Nat), RDs K w xs vs → RDs K w (xs.take i) (vs.take i)
  | [], _, i, h => by
    have h : _ = [] := h
    rw [h]
    simp [RDs]
  | y :: xs, _, 0, h => by simp [RDs]
  | y :: xs, _, i + 1, h => by
    obtain ⟨u, r, rfl, h1, h2⟩ := h
    exact ⟨u, r.take i, rfl, h1, RDs.take i h2⟩
theorem RDs.drop : ∀ {xs : List D} {vs : List V} (i : Nat), RDs K w xs vs → RDs K w (xs.drop i) (vs.drop i)
  | [], _, i, h => by
    have h : _ = [] := h
    rw [h]
    simp [RDs]
  | y :: xs, _, 0, h => h
  | y :: xs, _, i + 1, h => by
    obtain ⟨u, r, rfl, h1, h2⟩ := h
    exact RDs.drop i h2
theorem RPs.take : ∀ {xs : List PyData} {vs : List V} (i : Nat), RPs K w xs vs → RPs K w (xs.take i) (vs.take i)
  | [], _, i, h => by
    have h : _ = [] := h
    rw [h]
    simp [RPs]
  | y :: xs, _, 0, h => by simp [RPs]
  | y :: xs, _, i + 1, h => by
    obtain ⟨u, r, rfl, h1, h2⟩ := h
    exact ⟨u, r.take i, rfl, h1, RPs.take i h2⟩
theorem RPs.drop : ∀ {xs : List PyData} {vs : List V} (i : Nat), RPs K w xs vs → RPs K w (xs.drop i) (vs.drop i)
  | [], _, i, h => by
    have h : _ = [] := h
    rw [h]
    simp [RPs]
  | y :: xs, _, 0, h => h
  | y :: xs, _, i + 1, h => by
    obtain ⟨u, r, rfl, h1, h2⟩ := h
    exact RPs.drop i h2
theorem RPs.reverse : ∀ {xs : List PyData} {vs : List V}, RPs K w xs vs → RPs K w xs.reverse vs.reverse
  | [], _, h => by
    have h : _ = [] := h
    rw [h]
    rfl
  | x :: xs, _, h => by
    obtain ⟨v, r, rfl, h1, h2⟩ := h
    rw [List.reverse_cons, List.reverse_cons]
    exact RPs.append (RPs.reverse h2) ⟨v, [], rfl, h1, rfl⟩
theorem RPs.toD : ∀ {xs : List PyData} {vs : List V}, RPs K w xs vs → RDs K w (xs.map D.p) vs
  | [], _, h => h
  | x :: xs, _, h => by
    obtain ⟨v, r, rfl, h1, h2⟩ := h
    exact ⟨v, r, rfl, h1, RPs.toD h2⟩

/-- all are plain data -/
def allP : List D → Option (List PyData)
  | [] => some []
  | .p x :: r => (allP r).map fun l => x :: l
  | _ :: _ => none
@[simp] theorem allP_nil : allP [] = some [] := rfl
@[simp] theorem allP_p (x : PyData) (r : List D) : allP (.p x :: r) = (allP r).map fun l => x :: l := rfl
@[simp] theorem allP_ref (k : Nat) (r : List D) : allP (.ref k :: r) = none := rfl
@[simp] theorem allP_ro (xs : List PyData) (r : List D) : allP (.ro xs :: r) = none := rfl
@[simp] theorem allP_bag (xs : List D) (r : List D) : allP (.bag xs :: r) = none := rfl
@[simp] theorem allP_map (xs : List PyData) : allP (xs.map D.p) = some xs := by
  induction xs with
  | nil => rfl
  | cons x r ih => simp [ih]
theorem allP_some : ∀ {ds : List D} {xs : List PyData}, allP ds = some xs → ds = xs.map D.p
  | [], xs, h => by
    simp at h
    subst h
    rfl
  | .p x :: r, xs, h => by
    rw [allP_p] at h
    cases q : allP r with
    | none => rw [q] at h; cases h
    | some l =>
      rw [q] at h
      cases h
      rw [allP_some q]
      rfl
  | .ref _ :: _, _, h => by simp at h
  | .bag _ :: _, _, h => by simp at h
  | .ro _ :: _, _, h => by simp at h
theorem RDs.toP : ∀ {xs : List PyData} {vs : List V}, RDs K w (xs.map D.p) vs → RPs K w xs vs
  | [], _, h => h
  | x :: xs, _, h => by
    obtain ⟨v, r, rfl, h1, h2⟩ := h
    exact ⟨v, r, rfl, h1, RDs.toP h2⟩
/-- a tuple of such -/
def mkT (ds : List D) : D := match allP ds with
  | some xs => .p (.tuple xs)
  | none => .bag ds
theorem RD.mkT {ds : List D} {a : Addr} {vs : List V} (h : SqT K w.H a vs) (r : RDs K w ds vs) : RD K w (mkT ds) (.ref a) := by
  unfold Dl.mkT
  cases q : allP ds with
  | none => exact ⟨a, vs, rfl, h, r⟩
  | some xs =>
    rw [allP_some q] at r
    exact ⟨a, vs, rfl, h, r.toP⟩
end

/-! ### the store and the heap -/
def RO (K : PySem.W.Frag) (CT : Nat → Addr) (w : Wd) (a : Addr) : O → Prop
  | .lst ds => ∃ vs, w.H a = some (.lst vs) ∧ RDs K w ds vs
  | .ins c fs => ∃ dx vs, w.H a = some (.ins (CT c) dx vs) ∧ RF K w fs vs
structure Sim (K : PySem.W.Frag) (CT : Nat → Addr) (w : Wd) (s : Sto) : Prop where
  len : w.mu.length = s.length
  nd : w.mu.Nodup
  dj : ∀ a ∈ w.mu, ¬ w.fz a ∧ ¬ w.pr a
  fz : ∀ a, w.fz a → ∃ u, w.H a = some u
  fp : ∀ a, w.fz a → ¬ w.pr a
  pr : ∀ a, w.pr a → ∃ u, w.H a = some u
  ob : ∀ (k : Nat) (o : O), s[k]? = some o → ∃ a, w.mu[k]? = some a ∧ RO K CT w a o
/-- the slots -/
structure RE (K : PySem.W.Frag) (w : Wd) (e : En) (σ : L2.St) : Prop where
  len : e.length = σ.length
  at' : ∀ (i : Nat) (d : D), e[i]? = some (some d) → ∃ v, σ[i]? = some (some v) ∧ RD K w d v

section
variable {K : PySem.W.Frag} {CT : Nat → Addr} {w w' : Wd} {s : Sto} {e : En} {σ : L2.St}
theorem RE.ext0 (r : RE K w e σ) (x : Ext0 K w w') : RE K w' e σ := ⟨r.len, fun i d h => by
  obtain ⟨v, h1, h2⟩ := r.at' i d h
  exact ⟨v, h1, RD.ext0 x d v h2⟩⟩
theorem RE.ext (r : RE K w e σ) (x : Ext K w w') : RE K w' e σ := r.ext0 x.toExt0
theorem RE.set (r : RE K w e σ) (i : Nat) {d : D} {v : V} (h : RD K w d v) : RE K w (e.set i (some d)) (σ.set i (some v)) := ⟨by simp [r.len], fun j d' hj => by
  by_cases hij : i = j
  · subst hij
    have hi : i < e.length := by
      obtain ⟨hl, _⟩ := List.getElem?_eq_some_iff.mp hj
      simpa using hl
    rw [List.getElem?_set_self hi] at hj
    cases hj
    refine ⟨v, ?_, h⟩
    rw [List.getElem?_set_self (by rw [← r.len]; exact hi)]
  · rw [List.getElem?_set_ne hij] at hj
    obtain ⟨u, h1, h2⟩ := r.at' j d' hj
    exact ⟨u, by rw [List.getElem?_set_ne hij]; exact h1, h2⟩⟩
theorem RO.ext (x : Ext0 K w w') {a : Addr} {o : O} (h : RO K CT w a o) (hH : w'.H a = w.H a) : RO K CT w' a o := by
  cases o with
  | lst ds =>
    obtain ⟨vs, h1, h2⟩ := h
    exact ⟨vs, by rw [hH]; exact h1, RDs.ext0 x _ _ h2⟩
  | ins c fs =>
    obtain ⟨dx, vs, h1, h2⟩ := h
    exact ⟨dx, vs, by rw [hH]; exact h1, RF.ext0 x _ _ h2⟩

/-- a new object that is no object of the store: a tuple, a list that stays -/
theorem Ext.fresh {p : Addr} {o : HO} {mu' : List Addr} {fz' pr' : Addr → Prop} (hp : w.H p = none) (hm : ∃ ν, mu' = w.mu ++ ν) (hf : ∀ a, w.fz a → fz' a) (hr : ∀ a, w.pr a → pr' a) (hfz : ∀ a, w.fz a → ∃ u, w.H a = some u) (hpr : ∀ a, w.pr a → ∃ u, w.H a = some u) : Ext K w ⟨mu', fz', pr', upd w.H p o⟩ where
  mu := hm
  sq := fun a xs h => by
    rcases h with (h | ⟨ob, h⟩) | h
    · exact .inl (.inl (by show upd w.H p o a = _; rw [upd_ne (ne_of_none h hp)]; exact h))
    · exact .inl (.inr ⟨ob, by show upd w.H p o a = _; rw [upd_ne (ne_of_none h hp)]; exact h⟩)
    · exact .inr h
  sr := fun a xs h => by
    rcases h with ⟨ob, h⟩ | h
    · exact .inl ⟨ob, by show upd w.H p o a = _; rw [upd_ne (ne_of_none h hp)]; exact h⟩
    · exact .inr h
  fz := fun a h => ⟨hf a h, by
    obtain ⟨u, hu⟩ := hfz a h
    show upd w.H p o a = _
    rw [upd_ne (ne_of_none hu hp)]⟩
  pr := fun a h => ⟨hr a h, by
    obtain ⟨u, hu⟩ := hpr a h
    show upd w.H p o a = _
    rw [upd_ne (ne_of_none hu hp)]⟩
theorem Sim.at (m : Sim K CT w s) {k : Nat} {o : O} (h : s[k]? = some o) : ∃ a, w.mu[k]? = some a ∧ RO K CT w a o := m.ob k o h
theorem RO.some {a : Addr} {o : O} (h : RO K CT w a o) : ∃ u, w.H a = some u := by
  cases o with
  | lst ds => exact ⟨_, h.choose_spec.1⟩
  | ins c fs =>
    obtain ⟨dx, vs, h1, _⟩ := h
    exact ⟨_, h1⟩
theorem Sim.free (m : Sim K CT w s) {p : Addr} (hp : w.H p = none) : p ∉ w.mu := fun hm => by
  obtain ⟨k, hk⟩ := List.getElem?_of_mem hm
  have hl : k < s.length := by
    obtain ⟨h, _⟩ := List.getElem?_eq_some_iff.mp hk
    rw [← m.len]
    exact h
  obtain ⟨a, h1, h2⟩ := m.ob k s[k] (List.getElem?_eq_getElem hl)
  rw [hk] at h1
  cases h1
  obtain ⟨u, hu⟩ := h2.some
  rw [hp] at hu
  cases hu
theorem Sim.freeF (m : Sim K CT w s) {p : Addr} (hp : w.H p = none) : ¬ w.fz p := fun hm => by
  obtain ⟨vs, hv⟩ := m.fz p hm
  rw [hp] at hv
  cases hv
theorem Sim.freeP (m : Sim K CT w s) {p : Addr} (hp : w.H p = none) : ¬ w.pr p := fun hm => by
  obtain ⟨vs, hv⟩ := m.pr p hm
  rw [hp] at hv
  cases hv
/-- a tuple is made (or any object that the store does not name) -/
theorem Sim.extT (m : Sim K CT w s) {p : Addr} {o : HO} (hp : w.H p = none) : Ext K w { w with H := upd w.H p o } := Ext.fresh hp ⟨[], by simp⟩ (fun _ h => h) (fun _ h => h) m.fz m.pr
theorem Sim.newT (m : Sim K CT w s) {p : Addr} {o : HO} (hp : w.H p = none) : Sim K CT { w with H := upd w.H p o } s where
  len := m.len
  nd := m.nd
  dj := m.dj
  fz := fun a h => by
    obtain ⟨vs, hv⟩ := m.fz a h
    exact ⟨vs, by show upd w.H p o a = _; rw [upd_ne (ne_of_none hv hp)]; exact hv⟩
  fp := m.fp
  pr := fun a h => by
    obtain ⟨vs, hv⟩ := m.pr a h
    exact ⟨vs, by show upd w.H p o a = _; rw [upd_ne (ne_of_none hv hp)]; exact hv⟩
  ob := fun k ob h => by
    obtain ⟨a, h1, h2⟩ := m.ob k ob h
    obtain ⟨u, hu⟩ := h2.some
    exact ⟨a, h1, h2.ext (m.extT hp).toExt0 (by show upd w.H p o a = _; rw [upd_ne (ne_of_none hu hp)])⟩
/-- a list that stays is made -/
abbrev Wd.addF (w : Wd) (p : Addr) (vs : List V) : Wd := { w with H := upd w.H p (.lst vs), fz := fun a => w.fz a ∨ a = p }
theorem Sim.extF (m : Sim K CT w s) {p : Addr} {vs : List V} (hp : w.H p = none) : Ext K w (w.addF p vs) := Ext.fresh hp ⟨[], by simp⟩ (fun _ h => .inl h) (fun _ h => h) m.fz m.pr
theorem Sim.newF (m : Sim K CT w s) {p : Addr} {vs : List V} (hp : w.H p = none) : Sim K CT (w.addF p vs) s where
  len := m.len
  nd := m.nd
  dj := fun a ha => ⟨fun h => by
    rcases h with h | h
    · exact (m.dj a ha).1 h
    · subst h
      exact m.free hp ha, (m.dj a ha).2⟩
  fz := fun a h => by
    rcases h with h | h
    · obtain ⟨us, hv⟩ := m.fz a h
      exact ⟨us, by show upd w.H p _ a = _; rw [upd_ne (ne_of_none hv hp)]; exact hv⟩
    · subst h
      exact ⟨_, upd_same⟩
  fp := fun a h => by
    rcases h with h | h
    · exact m.fp a h
    · subst h
      exact m.freeP hp
  pr := fun a h => by
    obtain ⟨us, hv⟩ := m.pr a h
    exact ⟨us, by show upd w.H p _ a = _; rw [upd_ne (ne_of_none hv hp)]; exact hv⟩
  ob := fun k ob h => by
    obtain ⟨a, h1, h2⟩ := m.ob k ob h
    obtain ⟨u, hu⟩ := h2.some
    exact ⟨a, h1, h2.ext (m.extF hp).toExt0 (by show upd w.H p _ a = _; rw [upd_ne (ne_of_none hu hp)])⟩
/-- a new object of the store -/
abbrev Wd.addO (w : Wd) (p : Addr) (u : HO) : Wd := { w with H := upd w.H p u, mu := w.mu ++ [p] }
theorem Sim.extO (m : Sim K CT w s) {p : Addr} {o : HO} (hp : w.H p = none) : Ext K w (w.addO p o) := Ext.fresh hp ⟨[p], rfl⟩ (fun _ h => h) (fun _ h => h) m.fz m.pr
theorem Sim.newO (m : Sim K CT w s) {p : Addr} {u : HO} {o : O} (hp : w.H p = none) (r : RO K CT (w.addO p u) p o) : Sim K CT (w.addO p u) (s ++ [o]) where
  len := by simp [m.len]
  nd := by
    show (w.mu ++ [p]).Nodup
    rw [List.nodup_append]
    refine ⟨m.nd, by simp, fun a ha b hb => ?_⟩
    have : b = p := by simpa using hb
    subst this
    intro e
    subst e
    exact m.free hp ha
  dj := fun a ha => by
    rcases List.mem_append.mp ha with ha | ha
    · exact m.dj a ha
    · have : a = p := by simpa using ha
      subst this
      exact ⟨m.freeF hp, m.freeP hp⟩
  fz := fun a h => by
    obtain ⟨vs, hv⟩ := m.fz a h
    exact ⟨vs, by show upd w.H p _ a = _; rw [upd_ne (ne_of_none hv hp)]; exact hv⟩
  fp := m.fp
  pr := fun a h => by
    obtain ⟨vs, hv⟩ := m.pr a h
    exact ⟨vs, by show upd w.H p _ a = _; rw [upd_ne (ne_of_none hv hp)]; exact hv⟩
  ob := fun k ob h => by
    by_cases hk : k < s.length
    · rw [List.getElem?_append_left hk] at h
      obtain ⟨a, h1, h2⟩ := m.ob k ob h
      obtain ⟨v, hu⟩ := h2.some
      exact ⟨a, by show (w.mu ++ [p])[k]? = _; rw [List.getElem?_append_left (by rw [m.len]; exact hk)]; exact h1, h2.ext (m.extO hp).toExt0 (by show upd w.H p _ a = _; rw [upd_ne (ne_of_none hu hp)])⟩
    · have hk2 : k = s.length := by
        obtain ⟨hl, _⟩ := List.getElem?_eq_some_iff.mp h
        rw [List.length_append, List.length_singleton] at hl
        omega
      subst hk2
      rw [List.getElem?_append_right (Nat.le_refl _)] at h
      simp at h
      subst h
      exact ⟨p, by show (w.mu ++ [p])[s.length]? = _; rw [← m.len]; simp, r⟩
/-- an object of the store, or a list in the making, changes -/
theorem Ext.write {a : Addr} {u u' : HO} (h : w.H a = some u) (nz : ¬ w.fz a) (np : ¬ w.pr a) (nt : ∀ xs, u ≠ .tup xs) (nf : ∀ o x, u ≠ .frz o x) : Ext K w { w with H := upd w.H a u' } where
  mu := ⟨[], by simp⟩
  sq := fun b xs q => by
    have step : ∀ z, w.H b = some z → z ≠ u → upd w.H a u' b = some z := fun z hz ne => by
      rw [upd_ne]
      · exact hz
      · rintro rfl
        rw [h] at hz
        cases hz
        exact ne rfl
    rcases q with (q | ⟨ob, q⟩) | q
    · exact .inl (.inl (step _ q fun z => nt _ z.symm))
    · exact .inl (.inr ⟨ob, step _ q fun z => nf _ _ z.symm⟩)
    · exact .inr q
  sr := fun b xs q => by
    rcases q with ⟨ob, q⟩ | q
    · refine .inl ⟨ob, ?_⟩
      show upd w.H a u' b = _
      rw [upd_ne]
      · exact q
      · rintro rfl
        rw [h] at q
        cases q
        exact nf _ _ rfl
    · exact .inr q
  fz := fun b q => ⟨q, by
    show upd w.H a u' b = _
    rw [upd_ne]
    rintro rfl
    exact nz q⟩
  pr := fun b q => ⟨q, by
    show upd w.H a u' b = _
    rw [upd_ne]
    rintro rfl
    exact np q⟩
theorem Sim.extW (m : Sim K CT w s) {k : Nat} {a : Addr} {u u' : HO} (hk : w.mu[k]? = some a) (h : w.H a = some u) (nt : ∀ xs, u ≠ .tup xs) (nf : ∀ o x, u ≠ .frz o x) : Ext K w { w with H := upd w.H a u' } :=
  Ext.write h (m.dj a (List.mem_of_getElem? hk)).1 (m.dj a (List.mem_of_getElem? hk)).2 nt nf
theorem Sim.write (m : Sim K CT w s) {k : Nat} {a : Addr} {u u' : HO} {o : O} (hk : w.mu[k]? = some a) (h : w.H a = some u) (nt : ∀ xs, u ≠ .tup xs) (nf : ∀ o x, u ≠ .frz o x) (r : RO K CT { w with H := upd w.H a u' } a o) : Sim K CT { w with H := upd w.H a u' } (s.set k o) where
  len := by simp [m.len]
  nd := m.nd
  dj := m.dj
  fz := fun b hb => by
    obtain ⟨vs, hv⟩ := m.fz b hb
    refine ⟨vs, ?_⟩
    show upd w.H a u' b = _
    rw [upd_ne]
    · exact hv
    · rintro rfl
      exact (m.dj _ (List.mem_of_getElem? hk)).1 hb
  fp := m.fp
  pr := fun b hb => by
    obtain ⟨vs, hv⟩ := m.pr b hb
    refine ⟨vs, ?_⟩
    show upd w.H a u' b = _
    rw [upd_ne]
    · exact hv
    · rintro rfl
      exact (m.dj _ (List.mem_of_getElem? hk)).2 hb
  ob := fun j ob hj => by
    by_cases e : k = j
    · subst e
      have hl : k < s.length := by
        obtain ⟨hl, _⟩ := List.getElem?_eq_some_iff.mp hj
        simpa using hl
      rw [List.getElem?_set_self hl] at hj
      cases hj
      exact ⟨a, hk, r⟩
    · rw [List.getElem?_set_ne e] at hj
      obtain ⟨b, h1, h2⟩ := m.ob j ob hj
      refine ⟨b, h1, h2.ext (m.extW hk h nt nf).toExt0 ?_⟩
      show upd w.H a u' b = _
      rw [upd_ne]
      rintro rfl
      refine e ?_
      obtain ⟨l1, e1⟩ := List.getElem?_eq_some_iff.mp hk
      obtain ⟨l2, e2⟩ := List.getElem?_eq_some_iff.mp h1
      exact (List.getElem_inj m.nd).mp (e1.trans e2.symm)
end

/-! ### what an evaluation yields -/
abbrev XW := Nat → PyData → L2.St → Sto → Wd → Prop
def Ok {α : Type} (K : PySem.W.Frag) (CT : Nat → Addr) (W : Nat → PyData → Sto → Wd → Prop) (w : Wd) (r : R α) (k : α → Sto → Wd → Prop) : Prop :=
  match r with
  | .ok a s' => ∀ w', Ext K w w' → Sim K CT w' s' → k a s' w'
  | .ex c x s' => ∀ w', Ext K w w' → Sim K CT w' s' → W c x s' w'
  | .bad => False
section
variable {K : PySem.W.Frag} {CT : Nat → Addr} {W : Nat → PyData → Sto → Wd → Prop} {w w' : Wd} {s : Sto} {α β : Type}
theorem Ok.ext {r : R α} {k : α → Sto → Wd → Prop} (x : Ext K w w') (h : Ok K CT W w r k) : Ok K CT W w' r k := by
  cases r with
  | ok a s' => exact fun w2 e2 m2 => h w2 (x.trans e2) m2
  | ex c y s' => exact fun w2 e2 m2 => h w2 (x.trans e2) m2
  | bad => exact h
theorem Ok.imp {r : R α} {k k' : α → Sto → Wd → Prop} (h : Ok K CT W w r k) (i : ∀ a s' w', Ext K w w' → Sim K CT w' s' → k a s' w' → k' a s' w') : Ok K CT W w r k' := by
  cases r with
  | ok a s' => exact fun w2 e2 m2 => i a s' w2 e2 m2 (h w2 e2 m2)
  | ex c y s' => exact h
  | bad => exact h
theorem Ok.bind {r : R α} {f : α → Sto → R β} {k : β → Sto → Wd → Prop} (h : Ok K CT W w (r.bind f) k) : Ok K CT W w r fun a s' w' => Ext K w w' ∧ Sim K CT w' s' ∧ Ok K CT W w' (f a s') k := by
  cases r with
  | ok a s' => exact fun w2 e2 m2 => ⟨e2, m2, Ok.ext e2 h⟩
  | ex c y s' => exact h
  | bad => exact h
theorem Ok.get {a : α} {s' : Sto} {k : α → Sto → Wd → Prop} (h : Ok K CT W w (.ok a s') k) (x : Ext K w w') (m : Sim K CT w' s') : k a s' w' := h w' x m
end

/-- the reading of an expression that yields what f says -/
def tD (K : PySem.W.Frag) (CT : Nat → Addr) (W : XW) (f : EV) : TE := fun σ H Q => ∃ w s e, w.H = H ∧ Sim K CT w s ∧ RE K w e σ ∧ Ok K CT (fun c x s' w' => W c x σ s' w') w (f e s) fun d s' w' => ∀ v, RD K w' d v → Q v w'.H
def tDT (K : PySem.W.Frag) (CT : Nat → Addr) (W : XW) (f : TV) : TT := fun σ H Q => ∃ w s e, w.H = H ∧ Sim K CT w s ∧ RE K w e σ ∧ Ok K CT (fun c x s' w' => W c x σ s' w') w (f e s) fun b s' w' => Q b w'.H
def tDA (K : PySem.W.Frag) (CT : Nat → Addr) (W : XW) (f : AV) : TA := fun σ H Q => ∃ w s e, w.H = H ∧ Sim K CT w s ∧ RE K w e σ ∧ Ok K CT (fun c x s' w' => W c x σ s' w') w (f e s) fun ds s' w' => ∀ vs, RDs K w' ds vs → Q vs w'.H
def OkS (K : PySem.W.Frag) (CT : Nat → Addr) (W : XW) (w : Wd) (r : RS) (D : Ends) : Prop :=
  match r with
  | .nx e s => ∀ w' σ, Ext K w w' → Sim K CT w' s → RE K w' e σ → D.nx σ w'.H
  | .bk e s => ∀ w' σ, Ext K w w' → Sim K CT w' s → RE K w' e σ → D.bk σ w'.H
  | .ct e s => ∀ w' σ, Ext K w w' → Sim K CT w' s → RE K w' e σ → D.ct σ w'.H
  | .rt d s => ∀ w' v, Ext K w w' → Sim K CT w' s → RD K w' d v → D.rt v w'.H
  | .ex c x e s => ∀ w' σ, Ext K w w' → Sim K CT w' s → RE K w' e σ → W c x σ s w'
  | .bad => False
def tDS (K : PySem.W.Frag) (CT : Nat → Addr) (W : XW) (f : SV) : TS := fun D σ H => ∃ w s e, w.H = H ∧ Sim K CT w s ∧ RE K w e σ ∧ OkS K CT W w (f e s) D

abbrev PD (X : Cx) (CT : Nat → Addr) (W : XW) (e : Expr) (f : EV) : Prop := PE X e (tD X.K CT W f)
abbrev PDT (X : Cx) (CT : Nat → Addr) (W : XW) (e : Expr) (f : TV) : Prop := PT X e (tDT X.K CT W f)
abbrev PDA (X : Cx) (CT : Nat → Addr) (W : XW) (es : List Expr) (f : AV) : Prop := PA X es (tDA X.K CT W f)
abbrev PDS (X : Cx) (CT : Nat → Addr) (W : XW) (st : Stmt) (f : SV) : Prop := PS X st (tDS X.K CT W f)
abbrev PDB (X : Cx) (CT : Nat → Addr) (W : XW) (st : List Stmt) (f : SV) : Prop := PSs X st (tDS X.K CT W f)
end Dl

namespace L2
open PySem PySem.Spec PyProof.Rows
section
variable {X : Cx}
theorem PE.imp {e : Expr} {t t' : TE} (h : PE X e t) (i : ∀ σ H Q, t' σ H Q → t σ H Q) : PE X e t' := ⟨fun pins s σ H Q I h' => h.run pins s σ H Q I (i _ _ _ h')⟩
theorem PT.imp {e : Expr} {t t' : TT} (h : PT X e t) (i : ∀ σ H Q, t' σ H Q → t σ H Q) : PT X e t' := ⟨fun pins s σ H Q I h' => h.run pins s σ H Q I (i _ _ _ h')⟩
theorem PW.imp {e : Expr} {t t' : TT} (h : PW X e t) (i : ∀ σ H Q, t' σ H Q → t σ H Q) : PW X e t' := ⟨fun wh pins s σ H Q I h' => h.run wh pins s σ H Q I (i _ _ _ h')⟩
theorem PA.imp {es : List Expr} {t t' : TA} (h : PA X es t) (i : ∀ σ H Q, t' σ H Q → t σ H Q) : PA X es t' := ⟨fun pos pins s σ H Q I h' => h.run pos pins s σ H Q I (i _ _ _ h')⟩
theorem PS.imp {st : Stmt} {t t' : TS} (h : PS X st t) (i : ∀ D σ H, t' D σ H → t D σ H) : PS X st t' := ⟨fun pins s σ H D I h' => h.run pins s σ H D I (i _ _ _ h')⟩
theorem PSs.imp {st : List Stmt} {t t' : TS} (h : PSs X st t) (i : ∀ D σ H, t' D σ H → t D σ H) : PSs X st t' := ⟨fun pins s σ H D I h' => h.run pins s σ H D I (i _ _ _ h')⟩
end
end L2
/-! The data layer: expressions. -/
namespace Dl
open PySem PySem.Spec PyProof.Rows L2

/-! ### lists and tuples as they are read -/
def asM (s : Sto) : D → Option (List D)
  | .p (.list xs) => some (xs.map D.p)
  | .ref k => match s[k]? with
    | some (.lst ds) => some ds
    | _ => none
  | _ => none
def asL (s : Sto) : D → Option (List D)
  | .ro xs => some (xs.map D.p)
  | d => asM s d
def asT : D → Option (List D)
  | .p (.tuple xs) => some (xs.map D.p)
  | .bag xs => some xs
  | _ => none
section
variable {K : PySem.W.Frag} {CT : Nat → Addr} {W : Nat → PyData → Sto → Wd → Prop} {w : Wd} {s : Sto} {d : D} {v : V} {ds : List D}
theorem asM_rep (m : Sim K CT w s) (r : RD K w d v) (h : asM s d = some ds) : ∃ a vs, v = .ref a ∧ w.H a = some (.lst vs) ∧ RDs K w ds vs := by
  cases d with
  | p x =>
    cases x <;> try (cases h; done)
    obtain ⟨a, vs, rfl, h1, h2⟩ := r
    cases h
    exact ⟨a, vs, rfl, h1.1, h2.toD⟩
  | ref k =>
    obtain ⟨a, h1, rfl⟩ := r
    have h : (match s[k]? with | some (.lst ds) => some ds | _ => none) = some ds := h
    cases q : s[k]? with
    | none => rw [q] at h; cases h
    | some o =>
      rw [q] at h
      cases o with
      | ins c fs => cases h
      | lst es =>
        cases h
        obtain ⟨b, h2, vs, h3, h4⟩ := m.ob k _ q
        rw [h1] at h2
        cases h2
        exact ⟨a, vs, rfl, h3, h4⟩
  | bag xs => cases h
  | ro xs => cases h
theorem asL_rep (m : Sim K CT w s) (r : RD K w d v) (h : asL s d = some ds) : ∃ a vs, v = .ref a ∧ SqL K w.H a vs ∧ RDs K w ds vs := by
  cases d with
  | ro xs =>
    obtain ⟨a, vs, rfl, h1, h2⟩ := r
    cases h
    exact ⟨a, vs, rfl, h1.sq, h2.toD⟩
  | p x =>
    obtain ⟨a, vs, rfl, h1, h2⟩ := asM_rep m r h
    exact ⟨a, vs, rfl, .of h1, h2⟩
  | ref k =>
    obtain ⟨a, vs, rfl, h1, h2⟩ := asM_rep m r h
    exact ⟨a, vs, rfl, .of h1, h2⟩
  | bag xs => cases h
theorem asT_rep (r : RD K w d v) (h : asT d = some ds) : ∃ a vs, v = .ref a ∧ SqT K w.H a vs ∧ RDs K w ds vs := by
  cases d with
  | p x =>
    cases x <;> try (cases h; done)
    obtain ⟨a, vs, rfl, h1, h2⟩ := r
    cases h
    exact ⟨a, vs, rfl, h1, h2.toD⟩
  | bag xs =>
    obtain ⟨a, vs, rfl, h1, h2⟩ := r
    cases h
    exact ⟨a, vs, rfl, h1, h2⟩
  | ref k => cases h
  | ro xs => cases h

/-- a list is made: h, an object of the store; else one that stays, if its items are plain data -/
def newL (h : Bool) (ds : List D) (s : Sto) : R D :=
  if h then .ok (.ref s.length) (s ++ [.lst ds]) else
  match allP ds with
  | some xs => .ok (.p (.list xs)) s
  | none => .ok (.ref s.length) (s ++ [.lst ds])
theorem newL_ok {h : Bool} {p : Addr} {vs : List V} {Q : VK} (m : Sim K CT w s) (hp : w.H p = none) (r : RDs K w ds vs) (q : Ok K CT W w (newL h ds s) fun d s' w' => ∀ v, RD K w' d v → Q v w'.H) : Q (.ref p) (upd w.H p (.lst vs)) := by
  have asO : Ok K CT W w (.ok (.ref s.length) (s ++ [.lst ds])) (fun d s' w' => ∀ v, RD K w' d v → Q v w'.H) → Q (.ref p) (upd w.H p (.lst vs)) := fun q => by
    have x := m.extO (o := .lst vs) hp
    refine q.get x (m.newO hp ⟨vs, upd_same, RDs.ext x _ _ r⟩) (.ref p) ⟨p, ?_, rfl⟩
    show (w.mu ++ [p])[s.length]? = _
    rw [← m.len]
    simp
  unfold newL at q
  cases h with
  | true => exact asO q
  | false =>
    cases e : allP ds with
    | none =>
      rw [e] at q
      exact asO q
    | some xs =>
      rw [e] at q
      have x := m.extF (vs := vs) hp
      have r2 : RDs K w (xs.map D.p) vs := by rw [← allP_some e]; exact r
      exact q.get x (m.newF hp) (.ref p) ⟨p, vs, rfl, ⟨upd_same, .inr rfl⟩, (RPs.ext x _ _ r2.toP)⟩
theorem newT_ok {p : Addr} {vs : List V} {Q : VK} (m : Sim K CT w s) (hp : w.H p = none) (r : RDs K w ds vs) (q : Ok K CT W w (.ok (mkT ds) s) fun d s' w' => ∀ v, RD K w' d v → Q v w'.H) : Q (.ref p) (upd w.H p (.tup vs)) := by
  have x := m.extT (o := .tup vs) hp
  exact q.get x (m.newT hp) (.ref p) (RD.mkT (.of upd_same) (RDs.ext x _ _ r))
theorem oldT_ok {a : Addr} {vs : List V} {Q : VK} (m : Sim K CT w s) (h : SqT K w.H a vs) (r : RDs K w ds vs) (q : Ok K CT W w (.ok (mkT ds) s) fun d s' w' => ∀ v, RD K w' d v → Q v w'.H) : Q (.ref a) w.H :=
  q.get Ext.refl m (.ref a) (RD.mkT h r)
theorem now {x : PyData} {v : V} {Q : VK} (m : Sim K CT w s) (q : Ok K CT W w (.ok (.p x) s) fun d s' w' => ∀ v, RD K w' d v → Q v w'.H) (r : RP K w x v) : Q v w.H := q.get Ext.refl m v r
theorem nowD {d : D} {v : V} {Q : VK} (m : Sim K CT w s) (q : Ok K CT W w (.ok d s) fun d s' w' => ∀ v, RD K w' d v → Q v w'.H) (r : RD K w d v) : Q v w.H := q.get Ext.refl m v r
end

/-! ### names, constants -/
def eVar (i : Nat) : EV := fun e s => match e[i]? with
  | some (some d) => .ok d s
  | _ => .bad
def eC (x : PyData) : EV := fun _ s => .ok (.p x) s
section
variable {X : Cx} {CT : Nat → Addr} {W : XW} {pos : Pos}
theorem pd_var (i : Nat) {x : Str} (hN : X.N[i]? = some x := by rfl) (hv : Vis X.env.scope x := by first | exact Or.inl rfl | exact Or.inr (Or.inl rfl) | exact Or.inr (Or.inr rfl)) (hd : (x == ("__debug__" : Str)) = false := by decide)
    (hcd : (x == ("__classdict__" : Str)) = false := by decide) : PD X CT W (.Name x pos) (eVar i) := by
  refine (pe_var hN hv hd hcd).imp fun σ H Q h => ?_
  obtain ⟨w, s, e, rfl, m, r, ok⟩ := h
  unfold eVar at ok
  split at ok
  · rename_i d hd
    obtain ⟨v, h1, h2⟩ := r.at' i d hd
    exact ⟨v, h1, nowD m ok h2⟩
  · exact ok.elim
theorem pd_c {e : Expr} {x : PyData} {v : V} (h : PE X e (tC v)) (hr : ∀ w, RP X.K w x v) : PD X CT W e (eC x) := by
  refine h.imp fun σ H Q h => ?_
  obtain ⟨w, s, e, rfl, m, r, ok⟩ := h
  exact now m ok (hr w)
theorem pd_int {i : Int} {j : Nat} : PD X CT W (.Constant (.int i) j pos) (eC (.int i)) := pd_c pe_int fun _ => rfl
theorem pd_bl {b : Bool} {j : Nat} : PD X CT W (.Constant (.bool b) j pos) (eC (.bool b)) := pd_c pe_bl fun _ => rfl
theorem pd_non {j : Nat} : PD X CT W (.Constant .none j pos) (eC .none) := pd_c pe_non fun _ => rfl
theorem pd_str {x y : Str} {j : Nat} (h : x = y) : PD X CT W (.Constant (.str x) j pos) (eC (.str y)) := by
  subst h
  exact pd_c pe_str fun _ => rfl
/-- a module's constant -/
theorem pd_glob {x : Str} {y : PyData} {v : V} {u : Value} (hg : Gl X x) (hm : X.mg x = some u) (r : RelV v u) (hr : ∀ w, RP X.K w y v) (hd : (x == ("__debug__" : Str)) = false := by decide) : PD X CT W (.Name x pos) (eC y) := pd_c (pe_glob hg hm r hd) hr
end

/-! ### operators -/
def OpD (K : PySem.W.Frag) (CT : Nat → Addr) (r : R2) (h : D → D → Sto → R D) : Prop :=
  ∀ (W : Nat → PyData → Sto → Wd → Prop) (w : Wd) (s : Sto) (x y : D) (vx vy : V) (Q : VK), Sim K CT w s → RD K w x vx → RD K w y vy → Ok K CT W w (h x y s) (fun d s' w' => ∀ v, RD K w' d v → Q v w'.H) → r vx vy w.H Q
def eOp (h : D → D → Sto → R D) (f g : EV) : EV := fun e s => (f e s).bind fun x s => (g e s).bind fun y s => h x y s
section
variable {X : Cx} {CT : Nat → Addr} {W : XW} {pos : Pos} {a b c : Expr} {f g k : EV} {r r' : R2} {h h' : D → D → Sto → R D}
theorem tD_op {K : PySem.W.Frag} {σ : L2.St} {H : Hp} {Q : VK} (hr : OpD K CT r h) (q : tD K CT W (eOp h f g) σ H Q) : tD K CT W f σ H fun x H1 => tD K CT W g σ H1 fun y H2 => r x y H2 Q := by
  obtain ⟨w, s, e, rfl, m, re, ok⟩ := q
  refine ⟨w, s, e, rfl, m, re, (Ok.bind ok).imp fun x s1 w1 e1 m1 ⟨_, _, ok1⟩ vx rx => ?_⟩
  refine ⟨w1, s1, e, rfl, m1, re.ext e1, (Ok.bind ok1).imp fun y s2 w2 e2 m2 ⟨_, _, ok2⟩ vy ry => ?_⟩
  exact hr _ w2 s2 x y vx vy Q m2 (RD.ext e2 x vx rx) ry ok2
theorem pd_op {op : Operator} (ho : OpR X (binaryOp op) r) (hr : OpD X.K CT r h) (ha : PD X CT W a f) (hb : PD X CT W b g) : PD X CT W (.BinOp a op b pos) (eOp h f g) :=
  (pe_op ho ha hb).imp fun σ H Q q => tD_op hr q
theorem pd_cmp {op : CmpOp} (ho : OpR X (compareOp op) r) (hr : OpD X.K CT r h) (ha : PD X CT W a f) (hb : PD X CT W b g) (hm : behindInMarks op b = false := by first | exact nomark _ (by decide) (by decide) | rfl) : PD X CT W (.Compare a [op] [b] pos) (eOp h f g) :=
  (pe_cmpR ho ha hb hm).imp fun σ H Q q => tD_op hr q
theorem OpD.or {K : PySem.W.Frag} (p : D → D → Bool) (h1 : OpD K CT r h) (h2 : OpD K CT r' h') : OpD K CT (fun x y H Q => r x y H Q ∨ r' x y H Q) (fun x y s => if p x y then h x y s else h' x y s) := by
  intro W w s x y vx vy Q m rx ry ok
  by_cases q : p x y = true
  · simp only [q, if_true] at ok
    exact .inl (h1 W w s x y vx vy Q m rx ry ok)
  · simp only [q] at ok
    exact .inr (h2 W w s x y vx vy Q m rx ry ok)

/-- the ints of two values -/
def hInt2 (k : Int → Int → Option PyData) : D → D → Sto → R D
  | .p (.int i), .p (.int j), s => match k i j with
    | some x => .ok (.p x) s
    | none => .bad
  | _, _, _ => .bad
theorem rp_int {K : PySem.W.Frag} {w : Wd} {i : Int} {v : V} (h : RD K w (.p (.int i)) v) : v = .int i := h
theorem opd_int0 {K : PySem.W.Frag} (gi : Int → Int → Int) : OpD K CT (rI0 fun i j => .int (gi i j)) (hInt2 fun i j => some (.int (gi i j))) := by
  intro W w s x y vx vy Q m rx ry ok
  unfold hInt2 at ok
  split at ok
  · exact ⟨_, _, rx, ry, now m ok rfl⟩
  · exact ok.elim
theorem opd_intB {K : PySem.W.Frag} (gi : Int → Int → Bool) : OpD K CT (rI0 fun i j => .bl (gi i j)) (hInt2 fun i j => some (.bool (gi i j))) := by
  intro W w s x y vx vy Q m rx ry ok
  unfold hInt2 at ok
  split at ok
  · exact ⟨_, _, rx, ry, now m ok rfl⟩
  · exact ok.elim
theorem opd_int {K : PySem.W.Frag} {C : Int → Int → Prop} (cb : Int → Int → Bool) (gi : Int → Int → Int) (hc : ∀ i j, cb i j = true → C i j) : OpD K CT (rI C fun i j => .int (gi i j)) (hInt2 fun i j => if cb i j then some (.int (gi i j)) else none) := by
  intro W w s x y vx vy Q m rx ry ok
  unfold hInt2 at ok
  split at ok
  · rename_i i j
    by_cases q : cb i j = true
    · simp only [q, if_true] at ok
      exact ⟨_, _, rx, ry, hc _ _ q, now m ok rfl⟩
    · simp only [q] at ok
      exact ok.elim
  · exact ok.elim

/-! ### + -/
def hAdd : D → D → Sto → R D
  | .p (.int i), .p (.int j), s => .ok (.p (.int (i + j))) s
  | .p (.str x), .p (.str y), s => if x.length + y.length ≤ sizeLine then .ok (.p (.str (x ++ y))) s else .bad
  | x, y, s => match asT x, asT y with
    | some xs, some ys => if xs.length + ys.length ≤ sizeLine then .ok (mkT (xs ++ ys)) s else .bad
    | _, _ => match asM s x, asM s y with
      | some xs, some ys => if xs.length + ys.length ≤ sizeLine then newL false (xs ++ ys) s else .bad
      | _, _ => .bad
def rStrAdd : R2 := fun x y H Q => ∃ i j, x = .str i ∧ y = .str j ∧ i.length + j.length ≤ sizeLine ∧ Q (.str (i ++ j)) H
def rAddD (K : PySem.W.Frag) : R2 := fun x y H Q => rI0 (fun i j => .int (i + j)) x y H Q ∨ rStrAdd x y H Q ∨ rCatA K x y H Q ∨ rCat x y H Q
theorem op_addD : OpR X (binaryOp .Add) (rAddD X.K) := op_add.or (op_add_str.or (op_catA.or op_cat))
theorem opd_add {K : PySem.W.Frag} : OpD K CT (rAddD K) hAdd := by
  intro W w s x y vx vy Q m rx ry ok
  unfold hAdd at ok
  split at ok
  · exact .inl ⟨_, _, rx, ry, now m ok rfl⟩
  · split at ok
    · rename_i hz
      exact .inr (.inl ⟨_, _, rx, ry, hz, now m ok rfl⟩)
    · exact ok.elim
  · split at ok
    · rename_i xs ys hx hy
      split at ok
      · rename_i hz
        obtain ⟨a1, us, rfl, q1, r1⟩ := asT_rep rx hx
        obtain ⟨a2, vs, rfl, q2, r2⟩ := asT_rep ry hy
        have l1 := r1.length
        have l2 := r2.length
        refine .inr (.inr (.inl ⟨a1, a2, us, vs, rfl, rfl, q1, q2, by omega, fun e => ?_, fun _ e => ?_, fun _ _ p hp => ?_⟩))
        · subst e
          exact oldT_ok m q2 (r1.append r2) ok
        · subst e
          have r3 := r1.append r2
          rw [List.append_nil] at r3
          exact oldT_ok m q1 r3 ok
        · exact newT_ok m hp (r1.append r2) ok
      · exact ok.elim
    · split at ok
      · rename_i xs ys hx hy
        split at ok
        · rename_i hz
          obtain ⟨a1, us, rfl, q1, r1⟩ := asM_rep m rx hx
          obtain ⟨a2, vs, rfl, q2, r2⟩ := asM_rep m ry hy
          have l1 := r1.length
          have l2 := r2.length
          exact .inr (.inr (.inr ⟨a1, a2, us, vs, rfl, rfl, q1, q2, by omega, fun p hp => newL_ok m hp (r1.append r2) ok⟩))
        · exact ok.elim
      · exact ok.elim
theorem pd_add (ha : PD X CT W a f) (hb : PD X CT W b g) : PD X CT W (.BinOp a .Add b pos) (eOp hAdd f g) := pd_op op_addD opd_add ha hb
abbrev hSub := hInt2 fun i j => some (.int (i - j))
theorem pd_sub (ha : PD X CT W a f) (hb : PD X CT W b g) : PD X CT W (.BinOp a .Sub b pos) (eOp hSub f g) := pd_op op_sub (opd_int0 _) ha hb

/-! ### * -/
def mulOk (i j : Int) : Bool := decide (i.natAbs.log2 + j.natAbs.log2 < 1000000)
theorem mulOk_c {i j : Int} (h : mulOk i j = true) : CMulW i j := by
  unfold mulOk at h
  unfold CMulW
  exact of_decide_eq_true h
def hMul : D → D → Sto → R D
  | .p (.int i), .p (.int j), s => if mulOk i j then .ok (.p (.int (i * j))) s else .bad
  | x, .p (.int k), s => match asM s x with
    | some xs => if -(2 ^ 63) ≤ k ∧ k < 2 ^ 63 ∧ xs.length * k.toNat ≤ sizeLine then newL false (List.replicate k.toNat xs).flatten s else .bad
    | none => .bad
  | _, _, _ => .bad
/-- .. where the new list is an object of the store -/
def hMulH : D → D → Sto → R D
  | x, .p (.int k), s => match asM s x with
    | some xs => if -(2 ^ 63) ≤ k ∧ k < 2 ^ 63 ∧ xs.length * k.toNat ≤ sizeLine then newL true (List.replicate k.toNat xs).flatten s else .bad
    | none => .bad
  | _, _, _ => .bad
theorem RDs.rep {K : PySem.W.Frag} {w : Wd} {xs : List D} {vs : List V} (r : RDs K w xs vs) : ∀ k : Nat, RDs K w (List.replicate k xs).flatten (List.replicate k vs).flatten
  | 0 => rfl
  | k + 1 => by
    rw [List.replicate_succ, List.replicate_succ, List.flatten_cons, List.flatten_cons]
    exact r.append (RDs.rep r k)
theorem opd_mul {K : PySem.W.Frag} : OpD K CT (fun x y H Q => rI CMulW (fun i j => .int (i * j)) x y H Q ∨ rRep x y H Q) hMul := by
  intro W w s x y vx vy Q m rx ry ok
  unfold hMul at ok
  split at ok
  · split at ok
    · rename_i q
      exact .inl ⟨_, _, rx, ry, mulOk_c q, now m ok rfl⟩
    · exact ok.elim
  · split at ok
    · rename_i xs hx
      split at ok
      · rename_i hz
        obtain ⟨a1, us, rfl, q1, r1⟩ := asM_rep m rx hx
        have l1 := r1.length
        exact .inr ⟨a1, _, us, rfl, ry, q1, hz.1, hz.2.1, by rw [l1]; exact hz.2.2, fun p hp => newL_ok m hp (r1.rep _) ok⟩
      · exact ok.elim
    · exact ok.elim
  · exact ok.elim
theorem opd_mulH {K : PySem.W.Frag} : OpD K CT rRep hMulH := by
  intro W w s x y vx vy Q m rx ry ok
  unfold hMulH at ok
  split at ok
  · split at ok
    · rename_i xs hx
      split at ok
      · rename_i hz
        obtain ⟨a1, us, rfl, q1, r1⟩ := asM_rep m rx hx
        have l1 := r1.length
        exact ⟨a1, _, us, rfl, ry, q1, hz.1, hz.2.1, by rw [l1]; exact hz.2.2, fun p hp => newL_ok m hp (r1.rep _) ok⟩
      · exact ok.elim
    · exact ok.elim
  · exact ok.elim
theorem pd_mul (ha : PD X CT W a f) (hb : PD X CT W b g) : PD X CT W (.BinOp a .Mult b pos) (eOp hMul f g) := pd_op (op_mulW.or op_rep) opd_mul ha hb
theorem pd_mulH (ha : PD X CT W a f) (hb : PD X CT W b g) : PD X CT W (.BinOp a .Mult b pos) (eOp hMulH f g) := pd_op op_rep opd_mulH ha hb

/-! ### // % ** << -/
def divOk (i j : Int) : Bool := decide (0 < j) && (decide (j.natAbs.log2 < 9000) || !Builtin.divisionGoesByPylong i j)
abbrev hDiv := hInt2 fun i j => if divOk i j then some (.int (i / j)) else none
theorem op_fdivD : OpR X (binaryOp .FloorDiv) (fun x y H Q => rI CDivW (fun i j => .int (i / j)) x y H Q ∨ rI CDivP (fun i j => .int (i / j)) x y H Q) :=
  op_fdivW.or (opI fun i j _ _ _ _ _ hc q => floordiv_int (Int.ne_of_gt hc.1) (by rw [Int.fdiv_eq_ediv_of_nonneg _ (Int.le_of_lt hc.1)]; exact q) (.inl hc.2))
theorem opd_div {K : PySem.W.Frag} : OpD K CT (fun x y H Q => rI CDivW (fun i j => .int (i / j)) x y H Q ∨ rI CDivP (fun i j => .int (i / j)) x y H Q) hDiv := by
  intro W w s x y vx vy Q m rx ry ok
  unfold hDiv hInt2 at ok
  split at ok
  · rename_i i j
    by_cases q : divOk i j = true
    · simp only [q, if_true] at ok
      unfold divOk at q
      rw [Bool.and_eq_true, Bool.or_eq_true, decide_eq_true_eq, decide_eq_true_eq] at q
      rcases q with ⟨q1, q2 | q2⟩
      · exact .inl ⟨_, _, rx, ry, ⟨q1, q2⟩, now m ok rfl⟩
      · exact .inr ⟨_, _, rx, ry, ⟨q1, by simpa using q2⟩, now m ok rfl⟩
    · simp only [q] at ok
      exact ok.elim
  · exact ok.elim
theorem pd_div (ha : PD X CT W a f) (hb : PD X CT W b g) : PD X CT W (.BinOp a .FloorDiv b pos) (eOp hDiv f g) := pd_op op_fdivD opd_div ha hb
abbrev hMod := hInt2 fun i j => if decide (0 < j) then some (.int (i % j)) else none
theorem pd_mod (ha : PD X CT W a f) (hb : PD X CT W b g) : PD X CT W (.BinOp a .Mod b pos) (eOp hMod f g) := pd_op op_mod (opd_int (fun _ j => decide (0 < j)) _ fun _ _ h => of_decide_eq_true h) ha hb
def powOk (i j : Int) : Bool := decide (0 ≤ j) && decide (j ≤ 1000000) && decide (i.natAbs < 2 ^ 64)
theorem powOk_c (i j : Int) (h : powOk i j = true) : CPow i j := by
  unfold powOk at h
  simp only [Bool.and_eq_true, decide_eq_true_eq] at h
  exact ⟨h.1.1, h.1.2, h.2⟩
abbrev hPow := hInt2 fun i j => if powOk i j then some (.int (i ^ j.toNat)) else none
theorem pd_pow (ha : PD X CT W a f) (hb : PD X CT W b g) : PD X CT W (.BinOp a .Pow b pos) (eOp hPow f g) := pd_op op_pow (opd_int powOk _ powOk_c) ha hb
abbrev hShl := hInt2 fun i j => if powOk i j then some (.int (i * 2 ^ j.toNat)) else none
theorem pd_shl (ha : PD X CT W a f) (hb : PD X CT W b g) : PD X CT W (.BinOp a .LShift b pos) (eOp hShl f g) := pd_op op_shl (opd_int powOk _ powOk_c) ha hb
end
end Dl
/-! The data layer: comparisons, tests, subscripts, displays. -/
namespace Dl
open PySem PySem.Spec PyProof.Rows L2

/-! ### == -/
def toP (s : Sto) : D → Option PyData
  | .p x => some x
  | .ro xs => some (.list xs)
  | .ref k => match s[k]? with
    | some (.lst ds) => (allP ds).map .list
    | _ => none
  | .bag _ => none
section
variable {K : PySem.W.Frag} {CT : Nat → Addr} {W : Nat → PyData → Sto → Wd → Prop} {w : Wd} {s : Sto} {d : D} {v : V} {ds : List D}
mutual
theorem RP.dp : ∀ (x : PyData) (v : V), RP K w x v → x.canLay0 = true → Dp K w.H v x
  | .none, _, h, _ => by cases h; exact .non
  | .bool b, _, h, _ => by cases h; exact .bl b
  | .int i, _, h, _ => by cases h; exact .int i
  | .str x, _, h, _ => by cases h; exact .str x
  | .tuple xs, _, h, c => by
    obtain ⟨a, vs, rfl, h1, h2⟩ := h
    exact .tup h1 (RPs.dp xs vs h2 (by simpa [PyData.canLay0] using c))
  | .list xs, _, h, c => by
    obtain ⟨a, vs, rfl, h1, h2⟩ := h
    exact .lst (FzL.sq h1) (RPs.dp xs vs h2 (by simpa [PyData.canLay0] using c))
  | .dict _, _, _, c => by simp [PyData.canLay0] at c
theorem RPs.dp : ∀ (xs : List PyData) (vs : List V), RPs K w xs vs → PyData.canLayAll0 xs = true → DpAll K w.H vs xs
  | [], _, h, _ => by
    have h : _ = [] := h
    rw [h]
    exact .nil
  | x :: xs, _, h, c => by
    obtain ⟨v, r, rfl, h1, h2⟩ := h
    simp only [PyData.canLayAll0, Bool.and_eq_true] at c
    exact .cons (RP.dp x v h1 c.1) (RPs.dp xs r h2 c.2)
end
theorem toP_dp {x : PyData} (m : Sim K CT w s) (r : RD K w d v) (h : toP s d = some x) (c : x.canLay0 = true) : Dp K w.H v x := by
  cases d with
  | p y => cases h; exact RP.dp _ _ r c
  | ro xs =>
    cases h
    obtain ⟨a, vs, rfl, h1, h2⟩ := r
    exact .lst h1.sq (RPs.dp xs vs h2 (by simpa [PyData.canLay0] using c))
  | bag xs => cases h
  | ref k =>
    have h' : (match s[k]? with | some (.lst ds) => (allP ds).map PyData.list | _ => none) = some x := h
    cases q : s[k]? with
    | none => rw [q] at h'; cases h'
    | some o =>
      rw [q] at h'
      cases o with
      | ins _ _ => cases h'
      | lst es =>
        cases e : allP es with
        | none => simp [e] at h'
        | some xs =>
          simp only [e, Option.map_some, Option.some.injEq] at h'
          subst h'
          obtain ⟨a, vs, rfl, h1, h2⟩ := asM_rep (ds := es) m r (by show (match s[k]? with | some (.lst ds) => some ds | _ => none) = some es; rw [q])
          rw [allP_some e] at h2
          exact .lst (.of h1) (RPs.dp xs vs h2.toP (by simpa [PyData.canLay0] using c))
end
def flatP : PyData → Bool
  | .none => true
  | .bool _ => true
  | .int _ => true
  | .str _ => true
  | _ => false
theorem flat_rep {K : PySem.W.Frag} {w : Wd} {x : PyData} {v : V} (f : flatP x = true) (r : RP K w x v) : flatV v = true := by
  cases x <;> first | (cases f; done) | (cases r; rfl)
theorem eqV_rep {K : PySem.W.Frag} {w : Wd} {x y : PyData} {v u : V} (f : flatP x = true) (g : flatP y = true) (r : RP K w x v) (q : RP K w y u) : eqV v u = PyData.eqv x y := by
  cases x <;> cases y <;> first | (cases f; done) | (cases g; done) | (cases r; cases q; simp [eqV, PyData.eqv])

def hEqB (s : Sto) : D → D → Option Bool
  | .p (.int i), .p (.int j) => some (decide (i = j))
  | .p (.str x), .p (.str y) => some (decide (x = y))
  | .p (.bool x), .p (.bool y) => some (decide (x = y))
  | x, y => match toP s x, toP s y with
    | some a, some b => if SeqAt.shaped a && SeqAt.shaped b then some (PyData.eqv a b) else none
    | _, _ => none
def hEq (x y : D) (s : Sto) : R D := match hEqB s x y with
  | some b => .ok (.p (.bool b)) s
  | none => .bad
def hNe (x y : D) (s : Sto) : R D := match hEqB s x y with
  | some b => .ok (.p (.bool !b)) s
  | none => .bad
section
variable {X : Cx} {CT : Nat → Addr} {W : XW} {pos : Pos} {a b c : Expr} {f g k : EV}
theorem hEqB_ok {K : PySem.W.Frag} {W : Nat → PyData → Sto → Wd → Prop} {w : Wd} {s : Sto} {x y : D} {vx vy : V} {z : Bool} {Q : V → Hp → Prop} (m : Sim K CT w s) (rx : RD K w x vx) (ry : RD K w y vy) (h : hEqB s x y = some z) (q : Q (.bl z) w.H) : rEq vx vy w.H Q ∨ rEqD K vx vy w.H Q := by
  unfold hEqB at h
  split at h
  · rename_i i j
    cases (show vx = .int i from rx)
    cases (show vy = .int j from ry)
    refine .inl ⟨rfl, ?_⟩
    cases h
    have e : decide (V.int i = V.int j) = decide (i = j) := by simp
    rw [e]
    exact q
  · rename_i i j
    cases (show vx = .str i from rx)
    cases (show vy = .str j from ry)
    refine .inl ⟨rfl, ?_⟩
    cases h
    have e : decide (V.str i = V.str j) = decide (i = j) := by simp
    rw [e]
    exact q
  · rename_i i j
    cases (show vx = .bl i from rx)
    cases (show vy = .bl j from ry)
    refine .inl ⟨rfl, ?_⟩
    cases h
    have e : decide (V.bl i = V.bl j) = decide (i = j) := by simp
    rw [e]
    exact q
  · split at h
    · rename_i p1 p2 e1 e2
      split at h
      · rename_i sh
        rw [Bool.and_eq_true] at sh
        cases h
        exact .inr ⟨_, _, toP_dp m rx e1 (SeqAt.canLay_of_shaped sh.1), toP_dp m ry e2 (SeqAt.canLay_of_shaped sh.2), sh.1, sh.2, q⟩
      · cases h
    · cases h
theorem hNeB_ok {K : PySem.W.Frag} {W : Nat → PyData → Sto → Wd → Prop} {w : Wd} {s : Sto} {x y : D} {vx vy : V} {z : Bool} {Q : V → Hp → Prop} (m : Sim K CT w s) (rx : RD K w x vx) (ry : RD K w y vy) (h : hEqB s x y = some z) (q : Q (.bl !z) w.H) : rNe vx vy w.H Q ∨ rNeD K vx vy w.H Q := by
  rcases hEqB_ok (W := W) (Q := fun v _ => ∀ b, v = .bl b → Q (.bl !b) w.H) m rx ry h (fun b e => by cases e; exact q) with h | ⟨d, e, h1, h2, h3, h4, h5⟩
  · exact .inl ⟨h.1, h.2 _ rfl⟩
  · exact .inr ⟨d, e, h1, h2, h3, h4, h5 _ rfl⟩
theorem opd_eq {K : PySem.W.Frag} : OpD K CT (fun x y H Q => rEq x y H Q ∨ rEqD K x y H Q) hEq := by
  intro W w s x y vx vy Q m rx ry ok
  unfold hEq at ok
  split at ok
  · rename_i z e
    exact hEqB_ok (W := W) m rx ry e (now m ok rfl)
  · exact ok.elim
theorem opd_ne {K : PySem.W.Frag} : OpD K CT (fun x y H Q => rNe x y H Q ∨ rNeD K x y H Q) hNe := by
  intro W w s x y vx vy Q m rx ry ok
  unfold hNe at ok
  split at ok
  · rename_i z e
    exact hNeB_ok (W := W) m rx ry e (now m ok rfl)
  · exact ok.elim
variable (hu : X.A.units + 65 < cLine)
include hu
theorem pd_eq (ha : PD X CT W a f) (hb : PD X CT W b g) : PD X CT W (.Compare a [.Eq] [b] pos) (eOp hEq f g) := pd_cmp (op_eq.or (op_eqD (by omega))) opd_eq ha hb
theorem pd_ne (ha : PD X CT W a f) (hb : PD X CT W b g) : PD X CT W (.Compare a [.NotEq] [b] pos) (eOp hNe f g) := pd_cmp (op_ne.or (op_neD (by omega))) opd_ne ha hb
end

/-! ### order -/
section
variable {X : Cx} {CT : Nat → Addr} {W : XW} {pos : Pos} {a b c : Expr} {f g k : EV}
abbrev hLt := hInt2 fun i j => some (.bool (decide (i < j)))
abbrev hLe := hInt2 fun i j => some (.bool (decide (i ≤ j)))
abbrev hGt := hInt2 fun i j => some (.bool (decide (j < i)))
abbrev hGe := hInt2 fun i j => some (.bool (decide (j ≤ i)))
theorem pd_lt (ha : PD X CT W a f) (hb : PD X CT W b g) : PD X CT W (.Compare a [.Lt] [b] pos) (eOp hLt f g) := pd_cmp op_lt (opd_intB _) ha hb
theorem pd_le (ha : PD X CT W a f) (hb : PD X CT W b g) : PD X CT W (.Compare a [.LtE] [b] pos) (eOp hLe f g) := pd_cmp op_le (opd_intB _) ha hb
theorem pd_gt (ha : PD X CT W a f) (hb : PD X CT W b g) : PD X CT W (.Compare a [.Gt] [b] pos) (eOp hGt f g) := pd_cmp op_gt (opd_intB _) ha hb
theorem pd_ge (ha : PD X CT W a f) (hb : PD X CT W b g) : PD X CT W (.Compare a [.GtE] [b] pos) (eOp hGe f g) := pd_cmp op_ge (opd_intB _) ha hb
/-- a op b op' c -/
def eChain (h h' : D → D → Sto → R D) (f g k : EV) : EV := fun e s => (f e s).bind fun x s => (g e s).bind fun y s => (h x y s).bind fun z s => match z with
  | .p (.bool true) => (k e s).bind fun u s => h' y u s
  | .p (.bool false) => .ok (.p (.bool false)) s
  | _ => .bad
theorem pd_chain {op op' : CmpOp} {r r' : R2} {h h' : D → D → Sto → R D} (ho : OpR X (compareOp op) r) (ho' : OpR X (compareOp op') r') (hr : OpD X.K CT r h) (hr' : OpD X.K CT r' h') (ha : PD X CT W a f) (hb : PD X CT W b g) (hc : PD X CT W c k)
    (hm : lastMarks [op, op'] [b, c] = false := by with_unfolding_all rfl) : PD X CT W (.Compare a [op, op'] [b, c] pos) (eChain h h' f g k) := by
  refine (pe_chain ho ho' ha hb hc hm).imp fun σ H Q q => ?_
  obtain ⟨w, s, e, rfl, m, re, ok⟩ := q
  refine ⟨w, s, e, rfl, m, re, (Ok.bind ok).imp fun x s1 w1 e1 m1 ⟨_, _, ok1⟩ vx rx => ?_⟩
  refine ⟨w1, s1, e, rfl, m1, re.ext e1, (Ok.bind ok1).imp fun y s2 w2 e2 m2 ⟨_, _, ok2⟩ vy ry => ?_⟩
  refine hr (fun c x s' w' => W c x σ s' w') w2 s2 x y vx vy _ m2 (RD.ext e2 x vx rx) ry ((Ok.bind ok2).imp fun z s3 w3 e3 m3 ⟨_, _, ok3⟩ vz rz => ?_)
  cases z with
  | p z =>
   cases z with
   | bool t =>
    cases (show vz = .bl t from rz)
    refine ⟨t, rfl, ?_⟩
    cases t with
    | false => exact ok3.get Ext.refl m3 (.bl false) rfl
    | true =>
      rw [if_pos rfl]
      refine ⟨w3, s3, e, rfl, m3, ((re.ext e1).ext e2).ext e3, (Ok.bind ok3).imp fun u s4 w4 e4 m4 ⟨_, _, ok4⟩ vu ru => ?_⟩
      exact hr' (fun c x s' w' => W c x σ s' w') w4 s4 y u vy vu _ m4 (RD.ext e4 _ _ (RD.ext e3 _ _ ry)) ru ok4
   | _ => exact ok3.elim
  | _ => exact ok3.elim
theorem pd_leLt (ha : PD X CT W a f) (hb : PD X CT W b g) (hc : PD X CT W c k) (hm : lastMarks [.LtE, .Lt] [b, c] = false := by with_unfolding_all rfl) : PD X CT W (.Compare a [.LtE, .Lt] [b, c] pos) (eChain hLe hLt f g k) := pd_chain op_le op_lt (opd_intB _) (opd_intB _) ha hb hc hm
theorem pd_leLe (ha : PD X CT W a f) (hb : PD X CT W b g) (hc : PD X CT W c k) (hm : lastMarks [.LtE, .LtE] [b, c] = false := by with_unfolding_all rfl) : PD X CT W (.Compare a [.LtE, .LtE] [b, c] pos) (eChain hLe hLe f g k) := pd_chain op_le op_le (opd_intB _) (opd_intB _) ha hb hc hm
end

/-! ### in -/
def flatAll : List D → Option (List PyData)
  | [] => some []
  | .p x :: r => if flatP x then (flatAll r).map fun l => x :: l else none
  | _ :: _ => none
theorem flatAll_some : ∀ {ds : List D} {xs : List PyData}, flatAll ds = some xs → ds = xs.map D.p ∧ ∀ x ∈ xs, flatP x = true
  | [], xs, h => by
    cases h
    simp
  | .p x :: r, xs, h => by
    unfold flatAll at h
    by_cases fx : flatP x = true
    · rw [if_pos fx] at h
      cases q : flatAll r with
      | none => rw [q] at h; cases h
      | some l =>
        rw [q] at h
        cases h
        obtain ⟨h1, h2⟩ := flatAll_some q
        subst h1
        refine ⟨rfl, fun y hy => ?_⟩
        rcases List.mem_cons.mp hy with rfl | hy
        · exact fx
        · exact h2 y hy
    · rw [if_neg fx] at h
      cases h
  | .ref _ :: _, _, h => by cases h
  | .bag _ :: _, _, h => by cases h
  | .ro _ :: _, _, h => by cases h
/-- x in y: a text in a text; a flat thing in a list or tuple of such; data in a list -/
def hInB (s : Sto) : D → D → Option Bool
  | .p (.str x), .p (.str y) => some (!(Builtin.Str.occurrences y x 0 y.length 1).isEmpty)
  | .p x, .p (.tuple ys) => if flatP x && ys.all flatP then some (ys.any fun y => PyData.eqv y x) else none
  | x, y => match toP s x, toP s y with
    | some a, some (.list bs) => if SeqAt.shaped a && SeqAt.shaped (.list bs) then some (bs.any fun z => PyData.eqv z a) else none
    | _, _ => none
def hIn (x y : D) (s : Sto) : R D := match hInB s x y with
  | some b => .ok (.p (.bool b)) s
  | none => .bad
def hNotIn (x y : D) (s : Sto) : R D := match hInB s x y with
  | some b => .ok (.p (.bool !b)) s
  | none => .bad
def rStrIn (neg : Bool) : R2 := fun x y H Q => ∃ i j, x = .str i ∧ y = .str j ∧ Q (.bl (if neg then !(!(Builtin.Str.occurrences j i 0 j.length 1).isEmpty) else !(Builtin.Str.occurrences j i 0 j.length 1).isEmpty)) H
section
variable {X : Cx} {CT : Nat → Addr} {W : XW} {pos : Pos} {a b c : Expr} {f g k : EV}
theorem inV_rep {K : PySem.W.Frag} {w : Wd} {x : PyData} {v : V} (fx : flatP x = true) (rx : RP K w x v) : ∀ {ys : List PyData} {vs : List V}, (∀ y ∈ ys, flatP y = true) → RPs K w ys vs → vs.all flatV = true ∧ inV v vs = ys.any fun y => PyData.eqv y x
  | [], _, _, h => by
    have h : _ = [] := h
    subst h
    exact ⟨rfl, rfl⟩
  | y :: ys, _, fy, h => by
    obtain ⟨u, r, rfl, h1, h2⟩ := h
    obtain ⟨i1, i2⟩ := inV_rep fx rx (fun z hz => fy z (List.mem_cons_of_mem _ hz)) h2
    have g := fy y List.mem_cons_self
    refine ⟨by simp [flat_rep g h1, i1], ?_⟩
    unfold inV at i2 ⊢
    simp only [List.any_cons]
    rw [i2, eqV_rep g fx h1 rx]
theorem hInB_ok {K : PySem.W.Frag} {w : Wd} {s : Sto} {x y : D} {vx vy : V} {z : Bool} (neg : Bool) {Q : V → Hp → Prop} (m : Sim K CT w s) (rx : RD K w x vx) (ry : RD K w y vy) (h : hInB s x y = some z) (q : Q (.bl (if neg then !z else z)) w.H) :
    rStrIn neg vx vy w.H Q ∨ rIn K neg vx vy w.H Q ∨ ∃ d ds, Dp K w.H vx d ∧ Dp K w.H vy (.list ds) ∧ SeqAt.shaped d = true ∧ SeqAt.shaped (.list ds) = true ∧ Q (.bl (if neg then !(ds.any fun z => PyData.eqv z d) else ds.any fun z => PyData.eqv z d)) w.H := by
  unfold hInB at h
  split at h
  · rename_i i j
    cases h
    exact .inl ⟨_, _, rx, ry, q⟩
  · rename_i x ys _
    split at h
    · rename_i fl
      rw [Bool.and_eq_true, List.all_eq_true] at fl
      cases h
      obtain ⟨a, vs, rfl, h1, h2⟩ := ry
      obtain ⟨i1, i2⟩ := inV_rep fl.1 rx fl.2 h2
      refine .inr (.inl ⟨a, vs, rfl, .inr h1, flat_rep fl.1 rx, i1, ?_⟩)
      rw [i2]
      exact q
    · cases h
  · split at h
    · rename_i p1 p2 e1 e2
      split at h
      · rename_i sh
        rw [Bool.and_eq_true] at sh
        cases h
        exact .inr (.inr ⟨_, _, toP_dp m rx e1 (SeqAt.canLay_of_shaped sh.1), toP_dp m ry e2 (SeqAt.canLay_of_shaped sh.2), sh.1, sh.2, q⟩)
      · cases h
    · cases h
theorem opd_in {K : PySem.W.Frag} : OpD K CT (fun x y H Q => rStrIn false x y H Q ∨ rIn K false x y H Q ∨ rInD K x y H Q) hIn := by
  intro W w s x y vx vy Q m rx ry ok
  unfold hIn at ok
  split at ok
  · rename_i z e
    rcases hInB_ok false m rx ry e (Q := Q) (now m ok rfl) with h | h | h
    · exact .inl h
    · exact .inr (.inl h)
    · exact .inr (.inr h)
  · exact ok.elim
theorem opd_notIn {K : PySem.W.Frag} : OpD K CT (fun x y H Q => rStrIn true x y H Q ∨ rIn K true x y H Q ∨ rNotInD K x y H Q) hNotIn := by
  intro W w s x y vx vy Q m rx ry ok
  unfold hNotIn at ok
  split at ok
  · rename_i z e
    rcases hInB_ok true m rx ry e (Q := Q) (now m ok rfl) with h | h | h
    · exact .inl h
    · exact .inr (.inl h)
    · exact .inr (.inr h)
  · exact ok.elim
theorem pd_in (hu : X.A.units + 65 < cLine) (ha : PD X CT W a f) (hb : PD X CT W b g) (hm : behindInMarks .In b = false := by rfl) : PD X CT W (.Compare a [.In] [b] pos) (eOp hIn f g) := pd_cmp (op_in_str.or (op_in_seq.or (op_inD hu))) opd_in ha hb hm
theorem pd_notIn (hu : X.A.units + 65 < cLine) (ha : PD X CT W a f) (hb : PD X CT W b g) (hm : behindInMarks .NotIn b = false := by rfl) : PD X CT W (.Compare a [.NotIn] [b] pos) (eOp hNotIn f g) := pd_cmp (op_notin_str.or (op_notIn_seq.or (op_notInD hu))) opd_notIn ha hb hm
end

/-! ### is -/
def hIs : D → D → Sto → R D
  | x, .p .none, s => match x with
    | .p .none => .ok (.p (.bool true)) s
    | _ => .ok (.p (.bool false)) s
  | .p (.bool i), .p (.bool j), s => .ok (.p (.bool (decide (i = j)))) s
  | _, _, _ => .bad
def hIsNot (x y : D) (s : Sto) : R D := (hIs x y s).bind fun z s => match z with
  | .p (.bool b) => .ok (.p (.bool !b)) s
  | _ => .bad
theorem RD.non_iff {K : PySem.W.Frag} {w : Wd} {x : D} {v : V} (r : RD K w x v) : v = .non ↔ x = .p .none := by
  cases x with
  | p x => cases x with
    | none => exact ⟨fun _ => rfl, fun _ => r⟩
    | bool b => cases (show v = .bl b from r); simp
    | int b => cases (show v = .int b from r); simp
    | str b => cases (show v = .str b from r); simp
    | tuple xs => obtain ⟨a, vs, rfl, _⟩ := r; simp
    | list xs => obtain ⟨a, vs, rfl, _⟩ := r; simp
    | dict xs => obtain ⟨_, a, rfl, _⟩ := r; simp
  | ref k => obtain ⟨a, _, rfl⟩ := r; simp
  | bag xs => obtain ⟨a, vs, rfl, _⟩ := r; simp
  | ro xs => obtain ⟨a, vs, rfl, _⟩ := r; simp
section
variable {X : Cx} {CT : Nat → Addr} {W : XW} {pos : Pos} {a b c : Expr} {f g k : EV}
theorem opd_is {K : PySem.W.Frag} : OpD K CT (fun x y H Q => (y = .non ∧ Q (.bl (decide (x = .non))) H) ∨ rIsB x y H Q) hIs := by
  intro W w s x y vx vy Q m rx ry ok
  unfold hIs at ok
  split at ok
  · refine .inl ⟨ry, ?_⟩
    split at ok
    · rw [decide_eq_true (show vx = .non from rx)]
      exact now m ok rfl
    · rename_i ne
      rw [decide_eq_false (fun e => ne (rx.non_iff.mp e))]
      exact now m ok rfl
  · exact .inr ⟨_, _, rx, ry, now m ok rfl⟩
  · exact ok.elim
theorem opd_isNot {K : PySem.W.Frag} : OpD K CT (fun x y H Q => (y = .non ∧ Q (.bl (!decide (x = .non))) H) ∨ rNotB x y H Q) hIsNot := by
  intro W w s x y vx vy Q m rx ry ok
  unfold hIsNot hIs at ok
  split at ok
  · refine .inl ⟨ry, ?_⟩
    split at ok
    · rw [decide_eq_true (show vx = .non from rx)]
      exact now m ok rfl
    · rename_i ne
      rw [decide_eq_false (fun e => ne (rx.non_iff.mp e))]
      exact now m ok rfl
  · exact .inr ⟨_, _, rx, ry, now m ok rfl⟩
  · exact ok.elim
theorem pd_is (ha : PD X CT W a f) (hb : PD X CT W b g) : PD X CT W (.Compare a [.Is] [b] pos) (eOp hIs f g) := pd_cmp (op_isN.or op_isBl) opd_is ha hb
theorem pd_isNot (ha : PD X CT W a f) (hb : PD X CT W b g) : PD X CT W (.Compare a [.IsNot] [b] pos) (eOp hIsNot f g) := pd_cmp (op_notN.or op_notBl) opd_isNot ha hb
end

/-! ### truth -/
def truB (s : Sto) : D → Option Bool
  | .p .none => some false
  | .p (.bool b) => some b
  | .p (.int i) => some (i != 0)
  | .p (.str x) => if x.length ≤ sizeLine then some ((x.length : Int) != 0) else none
  | d => match asT d with
    | some ds => some !ds.isEmpty
    | none => (asL s d).map fun ds => !ds.isEmpty
theorem isEmpty_len {α β : Type} {xs : List α} {ys : List β} (h : xs.length = ys.length) : xs.isEmpty = ys.isEmpty := by
  cases xs <;> cases ys <;> first | rfl | simp at h
theorem tru_rep {K : PySem.W.Frag} {CT : Nat → Addr} {w : Wd} {s : Sto} {d : D} {v : V} {b : Bool} (m : Sim K CT w s) (r : RD K w d v) (h : truB s d = some b) : TruV K v w.H b := by
  unfold truB at h
  split at h
  · cases (show v = .non from r); cases h; rfl
  · cases (show v = .bl _ from r); cases h; rfl
  · cases (show v = .int _ from r); cases h; rfl
  · cases (show v = .str _ from r)
    split at h
    · rename_i hz
      cases h
      exact ⟨hz, rfl⟩
    · cases h
  · split at h
    · rename_i ds e
      obtain ⟨a, vs, rfl, h1, h2⟩ := asT_rep r e
      cases h
      exact .inr (.inl ⟨vs, h1, by rw [isEmpty_len h2.length]⟩)
    · cases q : asL s d with
      | none => rw [q] at h; cases h
      | some ds =>
        rw [q] at h
        cases h
        obtain ⟨a, vs, rfl, h1, h2⟩ := asL_rep m r q
        exact .inl ⟨vs, h1, by rw [isEmpty_len h2.length]⟩
def tTru (f : EV) : TV := fun e s => (f e s).bind fun d s => match truB s d with
  | some b => .ok b s
  | none => .bad
def tAnd (f g : TV) : TV := fun e s => (f e s).bind fun b s => if b then g e s else .ok false s
def tOr (f g : TV) : TV := fun e s => (f e s).bind fun b s => if b then .ok true s else g e s
def tNot (f : TV) : TV := fun e s => (f e s).bind fun b s => .ok (!b) s
/-- a comparison as a test: its value is a bool -/
def tB (f : EV) : TV := fun e s => (f e s).bind fun d s => match d with
  | .p (.bool b) => .ok b s
  | _ => .bad
section
variable {X : Cx} {CT : Nat → Addr} {W : XW} {pos : Pos} {a b c : Expr} {rest : List Expr} {f g k : EV} {p q : TV}
theorem pt_tru (ha : PD X CT W a f) (he : ∀ whole, isTrue a X.env whole = (do let v ← whole; standAt a.pos; holding [v] (truthy v)) := by intro _; rfl) : PDT X CT W a (tTru f) := by
  refine (pt_truth ha he).imp fun σ H Q q => ?_
  obtain ⟨w, s, e, rfl, m, re, ok⟩ := q
  refine ⟨w, s, e, rfl, m, re, (Ok.bind ok).imp fun d s1 w1 e1 m1 ⟨_, _, ok1⟩ v rv => ?_⟩
  split at ok1
  · rename_i b hb
    exact ⟨b, tru_rep m1 rv hb, ok1.get Ext.refl m1⟩
  · exact ok1.elim
/-- a comparison as a test -/
theorem pt_b {op : CmpOp} {r : R2} {h : D → D → Sto → R D} (ho : OpR X (compareOp op) r) (hr : OpD X.K CT r h) (ha : PD X CT W a f) (hb : PD X CT W b g) (hm : behindInMarks op b = false := by first | exact nomark _ (by decide) (by decide) | rfl) : PDT X CT W (.Compare a [op] [b] pos) (tB (eOp h f g)) := by
  refine (pt_cmpR ho ha hb hm).imp fun σ H Q q => ?_
  obtain ⟨w, s, e, rfl, m, re, ok⟩ := q
  show tTest (tOp r _ _) σ w.H Q
  show tOp r _ _ σ w.H fun x H' => ∃ k, x = .bl k ∧ Q k H'
  refine tD_op hr ⟨w, s, e, rfl, m, re, (Ok.bind ok).imp fun d s1 w1 e1 m1 ⟨_, _, ok1⟩ v rv => ?_⟩
  cases d with
  | p x =>
    cases x with
    | bool t => exact ⟨_, rv, ok1.get Ext.refl m1⟩
    | _ => exact ok1.elim
  | _ => exact ok1.elim
theorem pt_chainD {op op' : CmpOp} {r r' : R2} {h h' : D → D → Sto → R D} (ho : OpR X (compareOp op) r) (ho' : OpR X (compareOp op') r') (hr : OpD X.K CT r h) (hr' : OpD X.K CT r' h') (ha : PD X CT W a f) (hb : PD X CT W b g) (hc : PD X CT W c k)
    (hm : lastMarks [op, op'] [b, c] = false := by with_unfolding_all rfl) : PDT X CT W (.Compare a [op, op'] [b, c] pos) (tB (eChain h h' f g k)) := by
  refine (pt_chain ho ho' ha hb hc hm).imp fun σ H Q q => ?_
  obtain ⟨w, s, e, rfl, m, re, ok⟩ := q
  refine ⟨w, s, e, rfl, m, re, ?_⟩
  have ok' : Ok X.K CT (fun c x s' w' => W c x σ s' w') w (eChain h h' f g k e s) (fun d s' w' => ∀ v, RD X.K w' d v → ∃ k, v = .bl k ∧ Q k w'.H) := (Ok.bind ok).imp fun d s1 w1 e1 m1 ⟨_, _, ok1⟩ v rv => by
    cases d with
    | p x =>
      cases x with
      | bool t => exact ⟨_, rv, ok1.get Ext.refl m1⟩
      | _ => exact ok1.elim
    | _ => exact ok1.elim
  refine (Ok.bind ok').imp fun x s1 w1 e1 m1 ⟨_, _, ok1⟩ vx rx => ?_
  refine ⟨w1, s1, e, rfl, m1, re.ext e1, (Ok.bind ok1).imp fun y s2 w2 e2 m2 ⟨_, _, ok2⟩ vy ry => ?_⟩
  refine hr (fun c x s' w' => W c x σ s' w') w2 s2 x y vx vy _ m2 (RD.ext e2 x vx rx) ry ((Ok.bind ok2).imp fun z s3 w3 e3 m3 ⟨_, _, ok3⟩ vz rz => ?_)
  cases z with
  | p z =>
   cases z with
   | bool t =>
    cases (show vz = .bl t from rz)
    refine ⟨t, rfl, ?_⟩
    cases t with
    | false => exact ok3.get Ext.refl m3 (.bl false) rfl
    | true =>
      rw [if_pos rfl]
      refine ⟨w3, s3, e, rfl, m3, ((re.ext e1).ext e2).ext e3, (Ok.bind ok3).imp fun u s4 w4 e4 m4 ⟨_, _, ok4⟩ vu ru => ?_⟩
      exact hr' (fun c x s' w' => W c x σ s' w') w4 s4 y u vy vu _ m4 (RD.ext e4 _ _ (RD.ext e3 _ _ ry)) ru ok4
   | _ => exact ok3.elim
  | _ => exact ok3.elim
theorem pt_notD (ha : PDT X CT W a p) : PDT X CT W (.UnaryOp .Not a pos) (tNot p) := by
  refine (L2.pt_not ha).imp fun σ H Q q => ?_
  obtain ⟨w, s, e, rfl, m, re, ok⟩ := q
  exact ⟨w, s, e, rfl, m, re, (Ok.bind ok).imp fun b s1 w1 e1 m1 ⟨_, _, ok1⟩ => ok1.get Ext.refl m1⟩
abbrev PDW (X : Cx) (CT : Nat → Addr) (W : XW) (e : Expr) (f : TV) : Prop := PW X e (tDT X.K CT W f)
theorem pw_and1D (ha : PDT X CT W a p) : PDW X CT W (.BoolOp .And [a] pos) p := pw_and1 ha
theorem pw_or1D (ha : PDT X CT W a p) : PDW X CT W (.BoolOp .Or [a] pos) p := pw_or1 ha
theorem pw_andD (ha : PDT X CT W a p) (hb : PDW X CT W (.BoolOp .And (b :: rest) pos) q) : PDW X CT W (.BoolOp .And (a :: b :: rest) pos) (tAnd p q) := by
  refine (pw_and ha hb).imp fun σ H Q q => ?_
  obtain ⟨w, s, e, rfl, m, re, ok⟩ := q
  refine ⟨w, s, e, rfl, m, re, (Ok.bind ok).imp fun b s1 w1 e1 m1 ⟨_, _, ok1⟩ => ?_⟩
  cases b with
  | true => exact ⟨w1, s1, e, rfl, m1, re.ext e1, ok1⟩
  | false => exact ok1.get Ext.refl m1
theorem pw_orD (ha : PDT X CT W a p) (hb : PDW X CT W (.BoolOp .Or (b :: rest) pos) q) : PDW X CT W (.BoolOp .Or (a :: b :: rest) pos) (tOr p q) := by
  refine (pw_or ha hb).imp fun σ H Q q => ?_
  obtain ⟨w, s, e, rfl, m, re, ok⟩ := q
  refine ⟨w, s, e, rfl, m, re, (Ok.bind ok).imp fun b s1 w1 e1 m1 ⟨_, _, ok1⟩ => ?_⟩
  cases b with
  | true => exact ok1.get Ext.refl m1
  | false => exact ⟨w1, s1, e, rfl, m1, re.ext e1, ok1⟩

/-! and, or, not as values -/
def eAnd (f g : EV) : EV := fun e s => (f e s).bind fun x s => match truB s x with
  | some true => g e s
  | some false => .ok x s
  | none => .bad
def eOr (f g : EV) : EV := fun e s => (f e s).bind fun x s => match truB s x with
  | some true => .ok x s
  | some false => g e s
  | none => .bad
def eNot (f : EV) : EV := fun e s => (f e s).bind fun x s => match truB s x with
  | some b => .ok (.p (.bool !b)) s
  | none => .bad
def eIf (p : TV) (f g : EV) : EV := fun e s => (p e s).bind fun b s => if b then f e s else g e s
theorem pd_one {op : BoolOp} (h : PD X CT W a f) : PD X CT W (.BoolOp op [a] pos) f := pe_one h
theorem pd_and (ha : PD X CT W a f) (hb : PD X CT W (.BoolOp .And (b :: rest) pos) g) : PD X CT W (.BoolOp .And (a :: b :: rest) pos) (eAnd f g) := by
  refine (pe_andT ha hb).imp fun σ H Q q => ?_
  obtain ⟨w, s, e, rfl, m, re, ok⟩ := q
  refine ⟨w, s, e, rfl, m, re, (Ok.bind ok).imp fun x s1 w1 e1 m1 ⟨_, _, ok1⟩ v rv => ?_⟩
  split at ok1
  · rename_i hb
    exact ⟨true, tru_rep m1 rv hb, by rw [if_pos rfl]; exact ⟨w1, s1, e, rfl, m1, re.ext e1, ok1⟩⟩
  · rename_i hb
    exact ⟨false, tru_rep m1 rv hb, by rw [if_neg Bool.false_ne_true]; exact nowD m1 ok1 rv⟩
  · exact ok1.elim
theorem pd_or (ha : PD X CT W a f) (hb : PD X CT W (.BoolOp .Or (b :: rest) pos) g) : PD X CT W (.BoolOp .Or (a :: b :: rest) pos) (eOr f g) := by
  refine (pe_orT ha hb).imp fun σ H Q q => ?_
  obtain ⟨w, s, e, rfl, m, re, ok⟩ := q
  refine ⟨w, s, e, rfl, m, re, (Ok.bind ok).imp fun x s1 w1 e1 m1 ⟨_, _, ok1⟩ v rv => ?_⟩
  split at ok1
  · rename_i hb
    exact ⟨true, tru_rep m1 rv hb, by rw [if_pos rfl]; exact nowD m1 ok1 rv⟩
  · rename_i hb
    exact ⟨false, tru_rep m1 rv hb, by rw [if_neg Bool.false_ne_true]; exact ⟨w1, s1, e, rfl, m1, re.ext e1, ok1⟩⟩
  · exact ok1.elim
theorem pd_not (ha : PD X CT W a f) : PD X CT W (.UnaryOp .Not a pos) (eNot f) := by
  refine (pe_notT ha).imp fun σ H Q q => ?_
  obtain ⟨w, s, e, rfl, m, re, ok⟩ := q
  refine ⟨w, s, e, rfl, m, re, (Ok.bind ok).imp fun x s1 w1 e1 m1 ⟨_, _, ok1⟩ v rv => ?_⟩
  split at ok1
  · rename_i b hb
    exact ⟨b, tru_rep m1 rv hb, now m1 ok1 rfl⟩
  · exact ok1.elim
theorem pd_if (hc : PDT X CT W c p) (ha : PD X CT W a f) (hb : PD X CT W b g) : PD X CT W (.IfExp c a b pos) (eIf p f g) := by
  refine (pe_ifExp hc ha hb).imp fun σ H Q q => ?_
  obtain ⟨w, s, e, rfl, m, re, ok⟩ := q
  refine ⟨w, s, e, rfl, m, re, (Ok.bind ok).imp fun b s1 w1 e1 m1 ⟨_, _, ok1⟩ => ?_⟩
  cases b with
  | true => exact ⟨w1, s1, e, rfl, m1, re.ext e1, ok1⟩
  | false => exact ⟨w1, s1, e, rfl, m1, re.ext e1, ok1⟩
def eNeg (f : EV) : EV := fun e s => (f e s).bind fun x s => match x with
  | .p (.int i) => .ok (.p (.int (-i))) s
  | _ => .bad
theorem pd_neg (ha : PD X CT W a f) : PD X CT W (.UnaryOp .USub a pos) (eNeg f) := by
  refine (pe_un un_neg ha).imp fun σ H Q q => ?_
  obtain ⟨w, s, e, rfl, m, re, ok⟩ := q
  refine ⟨w, s, e, rfl, m, re, (Ok.bind ok).imp fun x s1 w1 e1 m1 ⟨_, _, ok1⟩ v rv => ?_⟩
  split at ok1
  · exact ⟨_, rv, now m1 ok1 rfl⟩
  · exact ok1.elim
end

/-! ### argument lists, displays -/
def aNil : AV := fun _ s => .ok [] s
def aCons (f : EV) (g : AV) : AV := fun e s => (f e s).bind fun x s => (g e s).bind fun r s => .ok (x :: r) s
def eTup (g : AV) : EV := fun e s => (g e s).bind fun ds s => if ds.length ≤ sizeLine then .ok (mkT ds) s else .bad
def eLst (h : Bool) (g : AV) : EV := fun e s => (g e s).bind fun ds s => if ds.length ≤ sizeLine then newL h ds s else .bad
section
variable {X : Cx} {CT : Nat → Addr} {W : XW} {pos : Pos} {a b c : Expr} {es : List Expr} {f g k : EV} {l : AV}
theorem pa_nilD : PDA X CT W [] aNil := by
  refine pa_nil.imp fun σ H Q q => ?_
  obtain ⟨w, s, e, rfl, m, re, ok⟩ := q
  exact ok.get Ext.refl m [] rfl
theorem pa_consD (ha : PD X CT W a f) (hr : PDA X CT W es l) (hs : starEach (a :: es) X.env = (false, eval a X.env) :: starEach es X.env := by rfl) : PDA X CT W (a :: es) (aCons f l) := by
  refine (pa_cons ha hr hs).imp fun σ H Q q => ?_
  obtain ⟨w, s, e, rfl, m, re, ok⟩ := q
  refine ⟨w, s, e, rfl, m, re, (Ok.bind ok).imp fun x s1 w1 e1 m1 ⟨_, _, ok1⟩ v rv => ?_⟩
  refine ⟨w1, s1, e, rfl, m1, re.ext e1, (Ok.bind ok1).imp fun ds s2 w2 e2 m2 ⟨_, _, ok2⟩ vs rvs => ?_⟩
  exact ok2.get Ext.refl m2 (v :: vs) ⟨v, vs, rfl, RD.ext e2 _ _ rv, rvs⟩
theorem pd_tup {x1} (h : PDA X CT W es l) : PD X CT W (.Tuple es x1 pos) (eTup l) := by
  refine (pe_tup h).imp fun σ H Q q => ?_
  obtain ⟨w, s, e, rfl, m, re, ok⟩ := q
  refine ⟨w, s, e, rfl, m, re, (Ok.bind ok).imp fun ds s1 w1 e1 m1 ⟨_, _, ok1⟩ vs rvs => ?_⟩
  split at ok1
  · rename_i hz
    exact ⟨by rw [rvs.length]; exact hz, fun p hp => newT_ok m1 hp rvs ok1⟩
  · exact ok1.elim
theorem pd_lst (h : Bool) (ha : PDA X CT W es l) : PD X CT W (.List es pos) (eLst h l) := by
  refine (pe_lst ha).imp fun σ H Q q => ?_
  obtain ⟨w, s, e, rfl, m, re, ok⟩ := q
  refine ⟨w, s, e, rfl, m, re, (Ok.bind ok).imp fun ds s1 w1 e1 m1 ⟨_, _, ok1⟩ vs rvs => ?_⟩
  split at ok1
  · rename_i hz
    exact ⟨by rw [rvs.length]; exact hz, fun p hp => newL_ok m1 hp rvs ok1⟩
  · exact ok1.elim
end

/-! ### subscripts, slices -/
/-- the i-th item, from behind where i is negative -/
def hIx : D → D → Sto → R D
  | .p (.str z), .p (.int i), s => if z.length ≤ sizeLine then (match atI z.cps.toList i with
    | some c => .ok (.p (.str ⟨#[c]⟩)) s
    | none => .bad) else .bad
  | x, .p (.int i), s => match asT x with
    | some xs => (match atI xs i with
      | some d => .ok d s
      | none => .bad)
    | none => match asL s x with
      | some xs => (match atI xs i with
        | some d => .ok d s
        | none => .bad)
      | none => .bad
  | _, _, _ => .bad
theorem RDs.atI {K : PySem.W.Frag} {w : Wd} {xs : List D} {vs : List V} {i : Int} {d : D} (r : RDs K w xs vs) (h : L2.atI xs i = some d) : ∃ v, L2.atI vs i = some v ∧ RD K w d v := by
  unfold L2.atI at h ⊢
  rw [r.length]
  cases q : ixN xs.length i with
  | none => rw [q] at h; cases h
  | some j =>
    rw [q] at h
    exact r.get h
theorem opd_ix {K : PySem.W.Frag} {CT : Nat → Addr} : OpD K CT (rIx K) hIx := by
  intro W w s x y vx vy Q m rx ry ok
  unfold hIx at ok
  split at ok
  · split at ok
    · rename_i hz
      split at ok
      · rename_i c hc
        exact .inr (.inr ⟨_, _, c, rx, ry, hz, hc, now m ok rfl⟩)
      · exact ok.elim
    · exact ok.elim
  · split at ok
    · rename_i xs hx
      split at ok
      · rename_i d hd
        obtain ⟨a, vs, rfl, h1, h2⟩ := asT_rep rx hx
        obtain ⟨v, h3, h4⟩ := h2.atI hd
        exact .inr (.inl ⟨a, vs, _, v, rfl, ry, h1, h3, nowD m ok h4⟩)
      · exact ok.elim
    · split at ok
      · rename_i xs hx
        split at ok
        · rename_i d hd
          obtain ⟨a, vs, rfl, h1, h2⟩ := asL_rep m rx hx
          obtain ⟨v, h3, h4⟩ := h2.atI hd
          exact .inl ⟨a, vs, _, v, rfl, ry, h1, h3, nowD m ok h4⟩
        · exact ok.elim
      · exact ok.elim
  · exact ok.elim
def cutD (xs : List D) (lo hi : Option Int) : List D := (xs.drop (HT.sIx xs.length 0 lo)).take (HT.sIx xs.length xs.length hi - HT.sIx xs.length 0 lo)
theorem RDs.cut {K : PySem.W.Frag} {w : Wd} {xs : List D} {vs : List V} (r : RDs K w xs vs) (lo hi : Option Int) : RDs K w (cutD xs lo hi) (cutV vs lo hi) := by
  unfold cutD cutV
  rw [r.length]
  exact (r.drop _).take _
abbrev OV := En → Sto → R (Option Int)
def oNone : OV := fun _ s => .ok none s
def oSome (f : EV) : OV := fun e s => (f e s).bind fun d s => match d with
  | .p (.int i) => .ok (some i) s
  | _ => .bad
def hCut (h : Bool) (x : D) (lo hi : Option Int) (s : Sto) : R D := match asT x with
  | some xs => .ok (mkT (cutD xs lo hi)) s
  | none => match asL s x with
    | some xs => newL h (cutD xs lo hi) s
    | none => .bad
def eCut (h : Bool) (f : EV) (lo hi : OV) : EV := fun e s => (f e s).bind fun x s => (lo e s).bind fun l s => (hi e s).bind fun u s => hCut h x l u s
def tDO (K : PySem.W.Frag) (CT : Nat → Addr) (W : XW) (f : OV) : TO := fun σ H Q => ∃ w s e, w.H = H ∧ Sim K CT w s ∧ RE K w e σ ∧ Ok K CT (fun c x s' w' => W c x σ s' w') w (f e s) fun d s' w' => Q d w'.H
section
variable {X : Cx} {CT : Nat → Addr} {W : XW} {pos p2 : Pos} {a b c : Expr} {lo hi : Option Expr} {f g k : EV} {l u : OV}
theorem po_imp {e : Option Expr} {t t' : TO} (h : PO X e t) (i : ∀ σ H Q, t' σ H Q → t σ H Q) : PO X e t' := ⟨fun pins s σ H Q I h' => h.run pins s σ H Q I (i _ _ _ h')⟩
theorem po_noneD : PO X none (tDO X.K CT W oNone) := po_imp po_none fun σ H Q q => by
  obtain ⟨w, s, e, rfl, m, re, ok⟩ := q
  exact ok.get Ext.refl m
theorem po_someD (h : PD X CT W a f) : PO X (some a) (tDO X.K CT W (oSome f)) := po_imp (po_some h) fun σ H Q q => by
  obtain ⟨w, s, e, rfl, m, re, ok⟩ := q
  refine ⟨w, s, e, rfl, m, re, (Ok.bind ok).imp fun d s1 w1 e1 m1 ⟨_, _, ok1⟩ v rv => ?_⟩
  split at ok1
  · exact ⟨_, rv, ok1.get Ext.refl m1⟩
  · exact ok1.elim
theorem pd_ix (ha : PD X CT W a f) (hb : PD X CT W b g) (hs : PlainIx b := by exact fun _ _ => rfl) : PD X CT W (.Subscript a b pos) (eOp hIx f g) :=
  (pe_ix ix_seq ha hb hs).imp fun σ H Q q => tD_op opd_ix q
theorem pd_cut (h : Bool) (ha : PD X CT W a f) (hl : PO X lo (tDO X.K CT W l)) (hh : PO X hi (tDO X.K CT W u)) : PD X CT W (.Subscript a (.Slice lo hi none p2) pos) (eCut h f l u) := by
  refine (pe_slice (sl_tupA.or sl_list) ha hl hh).imp fun σ H Q q => ?_
  obtain ⟨w, s, e, rfl, m, re, ok⟩ := q
  refine ⟨w, s, e, rfl, m, re, (Ok.bind ok).imp fun x s1 w1 e1 m1 ⟨_, _, ok1⟩ vx rx => ?_⟩
  refine ⟨w1, s1, e, rfl, m1, re.ext e1, (Ok.bind ok1).imp fun lo s2 w2 e2 m2 ⟨_, _, ok2⟩ => ?_⟩
  refine ⟨w2, s2, e, rfl, m2, (re.ext e1).ext e2, (Ok.bind ok2).imp fun hi s3 w3 e3 m3 ⟨_, _, ok3⟩ => ?_⟩
  have rx := RD.ext e3 _ _ (RD.ext e2 _ _ rx)
  unfold hCut at ok3
  split at ok3
  · rename_i xs hx
    obtain ⟨a, vs, rfl, h1, h2⟩ := asT_rep rx hx
    refine .inl ⟨a, vs, rfl, h1, fun hw => ?_, fun _ p hp => newT_ok m3 hp (h2.cut lo hi) ok3⟩
    have e1 : cutV vs lo hi = vs := by
      unfold cutV
      rw [hw.1, hw.2, List.drop_zero, Nat.sub_zero, List.take_length]
    exact oldT_ok m3 h1 (by rw [← e1]; exact h2.cut lo hi) ok3
  · split at ok3
    · rename_i xs hx
      obtain ⟨a, vs, rfl, h1, h2⟩ := asL_rep m3 rx hx
      exact .inr ⟨a, vs, rfl, h1, fun p hp => newL_ok m3 hp (h2.cut lo hi) ok3⟩
    · exact ok3.elim
end
end Dl
/-! The data layer: statements, loops, comprehensions. -/
namespace Dl
open PySem PySem.Spec PyProof.Rows L2

/-! ### what is wanted of exceptions -/
/-- how an exception of the store's kind lies: its class, its own dict with its one field -/
structure ExT where
  cls : Nat → Addr
  fld : Nat → Str
def ExR (K : PySem.W.Frag) (T : ExT) (w : Wd) (c : Nat) (x : PyData) (cls : Value) (d : Option Addr) : Prop :=
  cls = .ref (T.cls c) ∧ ∃ dd v, d = some dd ∧ w.H dd = some (.xd [(T.fld c, v)]) ∧ RP K w x v
def WL (K : PySem.W.Frag) (CT : Nat → Addr) (T : ExT) (W : XW) : WX := fun cls d σ H => ∃ c x s w, w.H = H ∧ Sim K CT w s ∧ ExR K T w c x cls d ∧ W c x σ s w
/-- no exception -/
abbrev W0 : XW := fun _ _ _ _ _ => False
/-- room for k calls, one in another; nothing is shown yet -/
structure RoomG (k : Nat) (A : Around) : Prop where
  hd : A.handled = none
  gd : A.guards = some []
  dp : A.depth + 2 * k + 5 < recursionLimit
  un : A.units + 8 * k + 200 < cLine
theorem RoomG.mono {j k : Nat} {A : Around} (r : RoomG k A) (h : j ≤ k) : RoomG j A := ⟨r.hd, r.gd, by have := r.dp; omega, by have := r.un; omega⟩
theorem RoomG.down {k : Nat} {A : Around} (r : RoomG (k + 1) A) (env : Env) : RoomG k (A.deeper env) :=
  ⟨r.hd, r.gd, by
    have := r.dp
    show A.depth + 1 + 2 * k + 5 < _
    omega, by
    have := r.un
    show A.units + 3 + 8 * k + 200 < _
    omega⟩
/-- what a body stands in -/
structure Bd (X : Cx) (CT : Nat → Addr) (T : ExT) (W : XW) (k : Nat) : Prop where
  calm : X.calm = true
  nd : X.N.Nodup
  own : PassesOwn (model X.prog X.w) X.A X.env X.xe
  room : RoomG k X.A
  dp1 : X.A.depth + 2 * k + 6 < recursionLimit ∧ X.A.units + 8 * k + 204 < cLine
  tk : Takes X (WL X.K CT T W)
theorem Bd.hu {X : Cx} {CT : Nat → Addr} {T : ExT} {W : XW} {k : Nat} (B : Bd X CT T W k) : X.A.units + 65 < cLine := by
  have := B.room.un
  omega
theorem Bd.blk {X : Cx} {CT : Nat → Addr} {T : ExT} {W : XW} {k : Nat} (B : Bd X CT T W k) (s : Shared) (H : Hp) (scope : Scope) (cenv : Env) (fp : List Addr) : Bd (X.blk s H scope cenv fp) CT T W0 k :=
  ⟨B.calm, B.nd, PassesOwn.never, B.room, B.dp1, fun _ _ x => by
    obtain ⟨_, _, _, _, _, _, _, _, _, _, _, _, _, _, _, _, _, _, _, _, _, _, _, z⟩ := x
    exact z.elim⟩

/-! ### statements -/
def R.toS {α : Type} (r : R α) (e : En) (f : α → Sto → RS) : RS := match r with
  | .ok a s => f a s
  | .ex c x s => .ex c x e s
  | .bad => .bad
@[simp] theorem R.toS_ok {α : Type} (a : α) (s : Sto) (e : En) (f : α → Sto → RS) : (R.ok a s).toS e f = f a s := id rfl
@[simp] theorem R.toS_ex {α : Type} (c : Nat) (x : PyData) (s : Sto) (e : En) (f : α → Sto → RS) : (R.ex c x s : R α).toS e f = .ex c x e s := id rfl
@[simp] theorem R.toS_bad {α : Type} (e : En) (f : α → Sto → RS) : (R.bad : R α).toS e f = .bad := id rfl
def RS.seq (r : RS) (k : En → Sto → RS) : RS := match r with
  | .nx e s => k e s
  | r => r
@[simp] theorem RS.seq_nx (e : En) (s : Sto) (k : En → Sto → RS) : (RS.nx e s).seq k = k e s := id rfl
@[simp] theorem RS.seq_rt (d : D) (s : Sto) (k : En → Sto → RS) : (RS.rt d s).seq k = .rt d s := id rfl
@[simp] theorem RS.seq_bk (e : En) (s : Sto) (k : En → Sto → RS) : (RS.bk e s).seq k = .bk e s := id rfl
@[simp] theorem RS.seq_ct (e : En) (s : Sto) (k : En → Sto → RS) : (RS.ct e s).seq k = .ct e s := id rfl
@[simp] theorem RS.seq_ex (c : Nat) (x : PyData) (e : En) (s : Sto) (k : En → Sto → RS) : (RS.ex c x e s).seq k = .ex c x e s := id rfl
@[simp] theorem RS.seq_bad (k : En → Sto → RS) : RS.bad.seq k = .bad := id rfl
/-- a loop's body -/
def RS.loop (r : RS) (k : En → Sto → RS) : RS := match r with
  | .nx e s => k e s
  | .ct e s => k e s
  | .bk e s => .nx e s
  | r => r
@[simp] theorem RS.loop_nx (e : En) (s : Sto) (k : En → Sto → RS) : (RS.nx e s).loop k = k e s := id rfl
@[simp] theorem RS.loop_ct (e : En) (s : Sto) (k : En → Sto → RS) : (RS.ct e s).loop k = k e s := id rfl
@[simp] theorem RS.loop_bk (e : En) (s : Sto) (k : En → Sto → RS) : (RS.bk e s).loop k = .nx e s := id rfl
@[simp] theorem RS.loop_rt (d : D) (s : Sto) (k : En → Sto → RS) : (RS.rt d s).loop k = .rt d s := id rfl
@[simp] theorem RS.loop_ex (c : Nat) (x : PyData) (e : En) (s : Sto) (k : En → Sto → RS) : (RS.ex c x e s).loop k = .ex c x e s := id rfl
@[simp] theorem RS.loop_bad (k : En → Sto → RS) : RS.bad.loop k = .bad := id rfl
section
variable {K : PySem.W.Frag} {CT : Nat → Addr} {W : XW} {w w' : Wd} {s : Sto} {e : En} {D D' : Ends} {α : Type}
theorem OkS.ext {r : RS} (x : Ext K w w') (h : OkS K CT W w r D) : OkS K CT W w' r D := by
  cases r with
  | nx e s => exact fun w2 σ e2 m2 => h w2 σ (x.trans e2) m2
  | bk e s => exact fun w2 σ e2 m2 => h w2 σ (x.trans e2) m2
  | ct e s => exact fun w2 σ e2 m2 => h w2 σ (x.trans e2) m2
  | rt d s => exact fun w2 σ e2 m2 => h w2 σ (x.trans e2) m2
  | ex c y e s => exact fun w2 σ e2 m2 => h w2 σ (x.trans e2) m2
  | bad => exact h
theorem OkS.toS {r : R α} {f : α → Sto → RS} {σ : L2.St} (re : RE K w e σ) (h : OkS K CT W w (r.toS e f) D) : Ok K CT (fun c x s' w' => W c x σ s' w') w r fun a s' w' => Ext K w w' ∧ Sim K CT w' s' ∧ OkS K CT W w' (f a s') D := by
  cases r with
  | ok a s' => exact fun w2 e2 m2 => ⟨e2, m2, OkS.ext e2 h⟩
  | ex c x s' => exact fun w2 e2 m2 => h w2 σ e2 m2 (re.ext e2)
  | bad => exact h
theorem OkS.seq {r : RS} {k : En → Sto → RS} (h : OkS K CT W w (r.seq k) D) : OkS K CT W w r { D with nx := fun σ H => ∃ w' s' e', w'.H = H ∧ Sim K CT w' s' ∧ RE K w' e' σ ∧ OkS K CT W w' (k e' s') D } := by
  cases r with
  | nx e s => exact fun w2 σ e2 m2 re => ⟨w2, s, e, rfl, m2, re, OkS.ext e2 h⟩
  | bk e s => exact h
  | ct e s => exact h
  | rt d s => exact h
  | ex c y e s => exact h
  | bad => exact h
theorem OkS.loop {r : RS} {k : En → Sto → RS} {N : L2.St → Hp → Prop} (h : OkS K CT W w (r.loop k) D) (hN : ∀ w' s' e' σ, Ext K w w' → Sim K CT w' s' → RE K w' e' σ → OkS K CT W w' (k e' s') D → N σ w'.H) : OkS K CT W w r { D with nx := N, ct := N, bk := D.nx } := by
  cases r with
  | nx e s => exact fun w2 σ e2 m2 re => hN w2 s e σ e2 m2 re (OkS.ext e2 h)
  | ct e s => exact fun w2 σ e2 m2 re => hN w2 s e σ e2 m2 re (OkS.ext e2 h)
  | bk e s => exact h
  | rt d s => exact h
  | ex c y e s => exact h
  | bad => exact h
end

def sNil : SV := fun e s => .nx e s
def sSeq (f g : SV) : SV := fun e s => (f e s).seq g
def sPass : SV := fun e s => .nx e s
def sBreak : SV := fun e s => .bk e s
def sCont : SV := fun e s => .ct e s
def sExpr (f : EV) : SV := fun e s => (f e s).toS e fun _ s => .nx e s
def sRet (f : EV) : SV := fun e s => (f e s).toS e fun d s => .rt d s
def sRetN : SV := fun _ s => .rt (.p .none) s
def sSet (i : Nat) (f : EV) : SV := fun e s => (f e s).toS e fun d s => .nx (e.set i (some d)) s
def sIf (p : TV) (f g : SV) : SV := fun e s => (p e s).toS e fun b s => if b then f e s else g e s
section
variable {X : Cx} {CT : Nat → Addr} {W : XW} {pos : Pos} {a b c : Expr} {st : Stmt} {rest es1 es2 : List Stmt} {f g k : EV} {p q : TV} {u v : SV}
theorem pb_nil : PDB X CT W [] sNil := by
  refine pss_nil.imp fun D σ H q => ?_
  obtain ⟨w, s, e, rfl, m, re, ok⟩ := q
  exact ok w σ Ext.refl m re
theorem pb_cons (h1 : PDS X CT W st u) (h2 : PDB X CT W rest v) : PDB X CT W (st :: rest) (sSeq u v) := by
  refine (pss_cons h1 h2).imp fun D σ H q => ?_
  obtain ⟨w, s, e, rfl, m, re, ok⟩ := q
  exact ⟨w, s, e, rfl, m, re, OkS.seq ok⟩
theorem pb_one (h1 : PDS X CT W st u) : PDB X CT W [st] u := pss_one h1
theorem ps_passD : PDS X CT W (.Pass pos) sPass := by
  refine ps_pass.imp fun D σ H q => ?_
  obtain ⟨w, s, e, rfl, m, re, ok⟩ := q
  exact ok w σ Ext.refl m re
theorem ps_docD {x : Str} {j : Nat} {pos' : Pos} : PDS X CT W (.Expr (.Constant (.str x) j pos) pos') sPass := by
  refine ps_doc.imp fun D σ H q => ?_
  obtain ⟨w, s, e, rfl, m, re, ok⟩ := q
  exact ok w σ Ext.refl m re
theorem ps_breakD : PDS X CT W (.Break pos) sBreak := by
  refine ps_break.imp fun D σ H q => ?_
  obtain ⟨w, s, e, rfl, m, re, ok⟩ := q
  exact ok w σ Ext.refl m re
theorem ps_contD : PDS X CT W (.Continue pos) sCont := by
  refine ps_continue.imp fun D σ H q => ?_
  obtain ⟨w, s, e, rfl, m, re, ok⟩ := q
  exact ok w σ Ext.refl m re
theorem ps_exprD (h : PD X CT W a f) (hs : swapsWith a none pos.line X.env = pure false := by rfl) : PDS X CT W (.Expr a pos) (sExpr f) := by
  refine (ps_expr h hs).imp fun D σ H q => ?_
  obtain ⟨w, s, e, rfl, m, re, ok⟩ := q
  exact ⟨w, s, e, rfl, m, re, (OkS.toS re ok).imp fun d s1 w1 e1 m1 ⟨_, _, ok1⟩ v _ => ok1 w1 σ Ext.refl m1 (re.ext e1)⟩
theorem ps_retD (h : PD X CT W a f) : PDS X CT W (.Return (some a) pos) (sRet f) := by
  refine (ps_ret h).imp fun D σ H q => ?_
  obtain ⟨w, s, e, rfl, m, re, ok⟩ := q
  exact ⟨w, s, e, rfl, m, re, (OkS.toS re ok).imp fun d s1 w1 e1 m1 ⟨_, _, ok1⟩ v rv => ok1 w1 v Ext.refl m1 rv⟩
theorem ps_retND : PDS X CT W (.Return none pos) sRetN := by
  refine ps_retN.imp fun D σ H q => ?_
  obtain ⟨w, s, e, rfl, m, re, ok⟩ := q
  exact ok w .non Ext.refl m rfl
theorem ps_setD (i : Nat) {x : Str} {pos' : Pos} (hN : X.N.Nodup) (h : PD X CT W a f) (hi : X.N[i]? = some x := by rfl) (hx : Loc X.env.scope x := by first | exact Or.inl rfl | exact Or.inr rfl) (hs : swapsWith a (some (.Name x pos')) pos.line X.env = pure false := by rfl)
    (hf : X.fn x = true ∨ X.env.scope.names.lookup x = some .local := by first | exact .inl rfl | exact .inr rfl | assumption) : PDS X CT W (.Assign [.Name x pos'] a pos) (sSet i f) := by
  refine (ps_set hN hi hx h hs hf).imp fun D σ H q => ?_
  obtain ⟨w, s, e, rfl, m, re, ok⟩ := q
  exact ⟨w, s, e, rfl, m, re, (OkS.toS re ok).imp fun d s1 w1 e1 m1 ⟨_, _, ok1⟩ v rv => ok1 w1 _ Ext.refl m1 ((re.ext e1).set i rv)⟩
theorem ps_ifD (hc : PDT X CT W c p) (ha : PDB X CT W es1 u) (hb : PDB X CT W es2 v) : PDS X CT W (.If c es1 es2 pos) (sIf p u v) := by
  refine (ps_if hc ha hb).imp fun D σ H q => ?_
  obtain ⟨w, s, e, rfl, m, re, ok⟩ := q
  refine ⟨w, s, e, rfl, m, re, (OkS.toS re ok).imp fun b s1 w1 e1 m1 ⟨_, _, ok1⟩ => ?_⟩
  cases b with
  | true => exact ⟨w1, s1, e, rfl, m1, re.ext e1, ok1⟩
  | false => exact ⟨w1, s1, e, rfl, m1, re.ext e1, ok1⟩
end

/-! ### targets -/
abbrev GV := D → En → Sto → R En
def tDG (K : PySem.W.Frag) (CT : Nat → Addr) (W : XW) (sl : List Nat) (g : GV) : TG := fun v σ H Q => ∃ w s e d, w.H = H ∧ Sim K CT w s ∧ RE K w e σ ∧ RD K w d v ∧
  Ok K CT (fun c x s' w' => W c x σ s' w') w (g d e s) fun e' s' w' => ∀ σ', RE K w' e' σ' → (∀ vs, (∀ i ∈ sl, i ∈ vs) → wipe σ' vs = wipe σ vs) → Q σ' w'.H
abbrev PDG (X : Cx) (CT : Nat → Addr) (W : XW) (sl : List Nat) (tg : Expr) (g : GV) : Prop := PG X tg (tDG X.K CT W sl g)
theorem pg_imp {X : Cx} {tg : Expr} {t t' : TG} (h : PG X tg t) (i : ∀ v σ H Q, t' v σ H Q → t v σ H Q) : PG X tg t' := ⟨fun pins s σ H v u Q I r h' => h.run pins s σ H v u Q I r (i _ _ _ _ h')⟩
theorem pgs_imp {X : Cx} {tg : List Expr} {t t' : TGs} (h : PGs X tg t) (i : ∀ v σ H Q, t' v σ H Q → t v σ H Q) : PGs X tg t' := ⟨fun pins s σ H v u Q I r h' => h.run pins s σ H v u Q I r (i _ _ _ _ h')⟩
theorem wipe_get {σ : L2.St} (i : Nat) : ∀ vs : List Nat, (wipe σ vs)[i]? = if i ∈ vs ∧ i < σ.length then some none else σ[i]?
  | [] => by simp [wipe]
  | v :: vs => by
    unfold wipe
    by_cases hv : v = i
    · subst hv
      by_cases hl : v < σ.length
      · rw [List.getElem?_set_self (by rw [wipe_length]; exact hl)]
        simp [hl]
      · rw [List.getElem?_eq_none (by rw [List.length_set, wipe_length]; omega)]
        simp [hl]
    · rw [List.getElem?_set_ne hv, wipe_get i vs]
      have : (i ∈ v :: vs) = (i ∈ vs) := by simp [Ne.symm hv]
      simp only [this]
theorem wipe_set {σ : L2.St} {i : Nat} {x : Option V} {vs : List Nat} (h : i ∈ vs) : wipe (σ.set i x) vs = wipe σ vs := by
  apply List.ext_getElem?
  intro j
  rw [wipe_get, wipe_get, List.length_set]
  by_cases e : i = j
  · subst e
    by_cases hl : i < σ.length
    · simp [h, hl]
    · simp [hl]
  · rw [List.getElem?_set_ne e]
def wipeE (e : En) : List Nat → En
  | [] => e
  | v :: vs => (wipeE e vs).set v none
theorem RE.wipe {K : PySem.W.Frag} {w : Wd} {e : En} {σ : L2.St} (r : RE K w e σ) : ∀ vs : List Nat, RE K w (wipeE e vs) (wipe σ vs)
  | [] => r
  | v :: vs => by
    have q := RE.wipe r vs
    refine ⟨by unfold wipeE L2.wipe; simp [q.len], fun i d h => ?_⟩
    unfold wipeE at h
    by_cases hv : v = i
    · subst hv
      have : v < (wipeE e vs).length := by
        obtain ⟨hl, _⟩ := List.getElem?_eq_some_iff.mp h
        simpa using hl
      rw [List.getElem?_set_self this] at h
      cases h
    · rw [List.getElem?_set_ne hv] at h
      obtain ⟨u, h1, h2⟩ := q.at' i d h
      exact ⟨u, by unfold L2.wipe; rw [List.getElem?_set_ne hv]; exact h1, h2⟩
def gSet (i : Nat) : GV := fun d e s => .ok (e.set i (some d)) s
/-- several targets, in order -/
abbrev GsV := List D → En → Sto → R En
/-- without exceptions -/
def R.noX {α : Type} (r : R α) : R α := match r with
  | .ok a s => .ok a s
  | _ => .bad
def gsNil : GsV := fun ds e s => match ds with
  | [] => .ok e s
  | _ => .bad
def gsCons (g : GV) (h : GsV) : GsV := fun ds e s => match ds with
  | d :: r => (g d e s).bind fun e s => h r e s
  | [] => .bad
def tDGs (K : PySem.W.Frag) (CT : Nat → Addr) (sl : List Nat) (g : GsV) : TGs := fun vs σ H Q => ∃ w s e ds, w.H = H ∧ Sim K CT w s ∧ RE K w e σ ∧ RDs K w ds vs ∧
  Ok K CT (fun _ _ _ _ => False) w (g ds e s) fun e' s' w' => ∀ σ', RE K w' e' σ' → (∀ vs, (∀ i ∈ sl, i ∈ vs) → wipe σ' vs = wipe σ vs) → Q σ' w'.H
abbrev PDGs (X : Cx) (CT : Nat → Addr) (sl : List Nat) (tg : List Expr) (g : GsV) : Prop := PGs X tg (tDGs X.K CT sl g)
def seqOf (s : Sto) (d : D) : Option (List D) := match asT d with
  | some ds => some ds
  | none => asL s d
def gTup (n : Nat) (g : GsV) : GV := fun d e s => match seqOf s d with
  | some ds => if ds.length = n then (g ds e s).noX else .bad
  | none => .bad
section
variable {X : Cx} {CT : Nat → Addr} {W : XW} {pos : Pos} {a b c tg : Expr} {tgs : List Expr} {f fi g k : EV} {h : GV} {hs : GsV} {sl sl' : List Nat}
theorem pg_set (i : Nat) {x : Str} (hN : X.N.Nodup) (hi : X.N[i]? = some x := by rfl) (hx : Loc X.env.scope x := by first | exact Or.inl rfl | exact Or.inr rfl) (hf : X.fn x = true ∨ X.env.scope.names.lookup x = some .local := by first | exact .inl rfl | exact .inr rfl | assumption) :
    PDG X CT W [i] (.Name x pos) (gSet i) := by
  refine pg_imp (pg_name hN hi hx hf) fun v σ H Q q => ?_
  obtain ⟨w, s, e, d, rfl, m, re, rd, ok⟩ := q
  exact ok.get Ext.refl m _ (re.set i rd) fun vs hv => wipe_set (hv i (by simp))
theorem pgs_nilD : PDGs X CT [] [] gsNil := by
  refine pgs_imp pgs_nil fun v σ H Q q => ?_
  obtain ⟨w, s, e, d, rfl, m, re, rd, ok⟩ := q
  cases d with
  | nil => exact ⟨rd, ok.get Ext.refl m _ re fun _ _ => rfl⟩
  | cons x r => exact ok.elim
theorem pgs_consD (h1 : PDG X CT W0 sl tg h) (h2 : PDGs X CT sl' tgs hs) (hs' : (assignEach (tg :: tgs) X.env).map (·.2) = assign tg X.env :: (assignEach tgs X.env).map (·.2) := by rfl) : PDGs X CT (sl ++ sl') (tg :: tgs) (gsCons h hs) := by
  refine pgs_imp (pgs_cons h1 h2 hs') fun vs σ H Q q => ?_
  obtain ⟨w, s, e, ds, rfl, m, re, rd, ok⟩ := q
  cases ds with
  | nil => exact ok.elim
  | cons d r =>
    obtain ⟨v, vr, rfl, r1, r2⟩ := rd
    refine ⟨v, vr, rfl, w, s, e, d, rfl, m, re, r1, (Ok.bind ok).imp fun e1 s1 w1 x1 m1 ⟨_, _, ok1⟩ σ1 re1 hw1 => ?_⟩
    refine ⟨w1, s1, e1, r, rfl, m1, re1, RDs.ext x1 _ _ r2, ok1.imp fun e2 s2 w2 x2 m2 q2 σ2 re2 hw2 => ?_⟩
    exact q2 σ2 re2 fun vs hv => (hw2 vs fun i hi => hv i (List.mem_append_right _ hi)).trans (hw1 vs fun i hi => hv i (List.mem_append_left _ hi))
theorem seqOf_rep {K : PySem.W.Frag} {w : Wd} {s : Sto} {d : D} {v : V} {ds : List D} (m : Sim K CT w s) (r : RD K w d v) (hq : seqOf s d = some ds) : ∃ a vs, v = .ref a ∧ (SqL K w.H a vs ∨ SqT K w.H a vs) ∧ RDs K w ds vs := by
  unfold seqOf at hq
  split at hq
  · rename_i e
    cases hq
    obtain ⟨a, vs, rfl, h1, h2⟩ := asT_rep r e
    exact ⟨a, vs, rfl, .inr h1, h2⟩
  · obtain ⟨a, vs, rfl, h1, h2⟩ := asL_rep m r hq
    exact ⟨a, vs, rfl, .inl h1, h2⟩
/-- a, b, .. = a tuple or a list of that length -/
theorem pg_tupD {kk : Nat} (n : Nat) (hc : X.calm = true) (h2 : PDGs X CT sl tgs hs) (hn : (assignEach tgs X.env).length = n := by rfl) (hst : (assignEach tgs X.env).findIdx? (·.1) = none := by rfl) : PDG X CT W sl (.Tuple tgs kk pos) (gTup n hs) := by
  refine ⟨fun pins s σ H v u Q I r q => ?_⟩
  obtain ⟨w, st, e, d, rfl, m, re, rd, ok⟩ := q
  unfold gTup at ok
  split at ok
  · rename_i ds hq
    split at ok
    · rename_i hl
      obtain ⟨a, vs, rfl, hsq, rvs⟩ := seqOf_rep m rd hq
      have go : tDGs X.K CT sl hs vs σ w.H Q := ⟨w, st, e, ds, rfl, m, re, rvs, by
        cases q : hs ds e st with
        | ok e' s' => rw [q] at ok; exact ok
        | ex c x s' => rw [q] at ok; exact ok.elim
        | bad => rw [q] at ok; exact ok⟩
      have lv := rvs.length
      rcases hsq with hsq | hsq
      · exact (pg_lst hc h2 hn hst).run pins s σ w.H _ u Q I r ⟨a, vs, rfl, hsq, by omega, go⟩
      · exact (pg_tup hc h2 hn hst).run pins s σ w.H _ u Q I r ⟨a, vs, rfl, hsq, by omega, go⟩
    · exact ok.elim
  · exact ok.elim
end
end Dl
/-! The data layer: stores, loops, comprehensions, calls. -/
namespace Dl
open PySem PySem.Spec PyProof.Rows L2

/-! ### stores -/
section
variable {K : PySem.W.Frag} {CT : Nat → Addr} {w : Wd} {s : Sto}
theorem wr_ok {k : Nat} {a : Addr} {ds : List D} {vs vs' : List V} (m : Sim K CT w s) (hk : w.mu[k]? = some a) (hH : w.H a = some (.lst vs)) (r : RDs K w ds vs') :
    Ext K w { w with H := upd w.H a (.lst vs') } ∧ Sim K CT { w with H := upd w.H a (.lst vs') } (s.set k (.lst ds)) := by
  have x := m.extW (u' := .lst vs') hk hH (fun _ z => nomatch z) (fun _ _ z => nomatch z)
  exact ⟨x, m.write hk hH (fun _ z => nomatch z) (fun _ _ z => nomatch z) ⟨vs', upd_same, RDs.ext x _ _ r⟩⟩
/-- the list that stands at a place of the store -/
def lstAt (s : Sto) (k : Nat) : Option (List D) := match s[k]? with
  | some (.lst ds) => some ds
  | _ => none
theorem lstAt_rep {k : Nat} {v : V} {ds : List D} (m : Sim K CT w s) (r : RD K w (.ref k) v) (h : lstAt s k = some ds) : ∃ a vs, v = .ref a ∧ w.mu[k]? = some a ∧ w.H a = some (.lst vs) ∧ RDs K w ds vs := by
  obtain ⟨a, h1, rfl⟩ := r
  obtain ⟨b, vs, e, h2, h3⟩ := asM_rep (d := .ref k) (ds := ds) m ⟨a, h1, rfl⟩ h
  cases e
  exact ⟨a, vs, rfl, h1, h2, h3⟩
end
def setIx (o i d : D) (s : Sto) : R Unit := match o, i with
  | .ref k, .p (.int i) => match lstAt s k with
    | some xs => match ixN xs.length i with
      | some j => .ok () (s.set k (.lst (xs.set j d)))
      | none => .bad
    | none => .bad
  | _, _ => .bad
def gIx (f g : EV) : GV := fun d e s => (f e s).bind fun o s => (g e s).bind fun i s => (setIx o i d s).bind fun _ s => .ok e s
def sAsg (f : EV) (g : GV) : SV := fun e s => (f e s).toS e fun d s => (g d e s).toS e fun e' s => .nx e' s
/-- x op= f -/
def sAug (i : Nat) (h : D → D → Sto → R D) (f : EV) : SV := fun e s => match e[i]? with
  | some (some x) => (f e s).toS e fun y s => (h x y s).toS e fun z s => .nx (e.set i (some z)) s
  | _ => .bad
/-- o[i] op= f, at a list -/
def hIxL (x i : D) (s : Sto) : R D := match asL s x, i with
  | some xs, .p (.int i) => match atI xs i with
    | some d => .ok d s
    | none => .bad
  | _, _ => .bad
def sAugIx (fo fi : EV) (h : D → D → Sto → R D) (f : EV) : SV := fun e s => (fo e s).toS e fun o s => (fi e s).toS e fun i s => (hIxL o i s).toS e fun x s => (f e s).toS e fun y s => (h x y s).toS e fun z s => (setIx o i z s).toS e fun _ s => .nx e s
section
variable {X : Cx} {CT : Nat → Addr} {W : XW} {pos : Pos} {a b c o i tg : Expr} {f g k : EV} {h : GV} {sl : List Nat}
theorem setIx_ok {K : PySem.W.Frag} {W : Nat → PyData → Sto → Wd → Prop} {w : Wd} {s : Sto} {o i d : D} {vo vi v : V} {Q : Hp → Prop} (m : Sim K CT w s) (ro : RD K w o vo) (ri : RD K w i vi) (rd : RD K w d v) (ok : Ok K CT W w (setIx o i d s) fun _ s' w' => Q w'.H) : rSetL vo vi v w.H Q := by
  unfold setIx at ok
  split at ok
  · split at ok
    · rename_i xs hx
      split at ok
      · rename_i j hj
        obtain ⟨a, vs, rfl, h1, h2, h3⟩ := lstAt_rep m ro hx
        obtain ⟨x, m'⟩ := wr_ok m h1 h2 (h3.set rd j)
        exact ⟨a, vs, _, j, rfl, ri, h2, by rw [h3.length]; exact hj, ok.get x m'⟩
      · exact ok.elim
    · exact ok.elim
  · exact ok.elim
theorem pg_ix (ho : PD X CT W o f) (hi : PD X CT W i g) (ha : ∀ v, assign (.Subscript o i pos) X.env v = (do
      let ov ← holding [v] (eval o X.env)
      let iv ← holding [v, ov] (eval i X.env)
      standAt pos
      holding [v, ov, iv] (setItem ov iv v)
      release [v, ov, iv] []) := by intro _; rfl) : PDG X CT W [] (.Subscript o i pos) (gIx f g) := by
  refine pg_imp (pg_sub ho hi set_list ha) fun v σ H Q q => ?_
  obtain ⟨w, s, e, d, rfl, m, re, rd, ok⟩ := q
  refine ⟨w, s, e, rfl, m, re, (Ok.bind ok).imp fun x s1 w1 e1 m1 ⟨_, _, ok1⟩ vo ro => ?_⟩
  refine ⟨w1, s1, e, rfl, m1, re.ext e1, (Ok.bind ok1).imp fun y s2 w2 e2 m2 ⟨_, _, ok2⟩ vi ri => ?_⟩
  refine setIx_ok (W := fun c x s' w' => W c x σ s' w') m2 (RD.ext e2 _ _ ro) ri (RD.ext e2 _ _ (RD.ext e1 _ _ rd)) ((Ok.bind ok2).imp fun z s3 w3 e3 m3 ⟨_, _, ok3⟩ => ?_)
  exact ok3.get Ext.refl m3 σ (((re.ext e1).ext e2).ext e3) fun _ _ => rfl
theorem ps_asgD (hf : PD X CT W a f) (hg : PDG X CT W sl tg h) (hs : swapsWithSole [tg] a pos.line X.env = pure false := by rfl) (hw : swappedStores [tg] a X.env = pure none := by rfl)
    (h1 : (assignEach [tg] X.env).map (·.2) = [assign tg X.env] := by rfl) : PDS X CT W (.Assign [tg] a pos) (sAsg f h) := by
  refine (ps_asg hf hg hs hw h1).imp fun D σ H q => ?_
  obtain ⟨w, s, e, rfl, m, re, ok⟩ := q
  refine ⟨w, s, e, rfl, m, re, (OkS.toS re ok).imp fun d s1 w1 e1 m1 ⟨_, _, ok1⟩ v rv => ?_⟩
  refine ⟨w1, s1, e, d, rfl, m1, re.ext e1, rv, (OkS.toS (re.ext e1) ok1).imp fun e' s2 w2 e2 m2 ⟨_, _, ok2⟩ σ' re' _ => ?_⟩
  exact ok2 w2 σ' Ext.refl m2 re'
theorem ps_augD (j : Nat) {x : Str} {op : Operator} {pos' : Pos} {r : R2} {hh : D → D → Sto → R D} (ho : OpR X (inplaceOp op) r) (hr : OpD X.K CT r hh) (hN : X.N.Nodup) (hf : PD X CT W a f) (hi : X.N[j]? = some x := by rfl) (hx : Loc X.env.scope x := by first | exact Or.inl rfl | exact Or.inr rfl)
    (hfn : X.fn x = true ∨ X.env.scope.names.lookup x = some .local := by first | exact .inl rfl | exact .inr rfl | assumption) : PDS X CT W (.AugAssign (.Name x pos') op a pos) (sAug j hh f) := by
  refine (ps_aug (ti := r) hN hi hx hf ho hfn).imp fun D σ H q => ?_
  obtain ⟨w, s, e, rfl, m, re, ok⟩ := q
  unfold sAug at ok
  split at ok
  · rename_i x hx
    obtain ⟨vx, h1, h2⟩ := re.at' _ _ hx
    refine ⟨vx, h1, w, s, e, rfl, m, re, (OkS.toS re ok).imp fun y s1 w1 e1 m1 ⟨_, _, ok1⟩ vy ry => ?_⟩
    refine hr (fun c x s' w' => W c x σ s' w') w1 s1 x y vx vy _ m1 (RD.ext e1 _ _ h2) ry ((OkS.toS (re.ext e1) ok1).imp fun z s2 w2 e2 m2 ⟨_, _, ok2⟩ vz rz => ?_)
    exact ok2 w2 _ Ext.refl m2 (((re.ext e1).ext e2).set j rz)
  · exact ok.elim
theorem opd_ixL {K : PySem.W.Frag} : OpD K CT (rIxL K) hIxL := by
  intro W w s x y vx vy Q m rx ry ok
  unfold hIxL at ok
  split at ok
  · rename_i xs i hx
    split at ok
    · rename_i d hd
      obtain ⟨a, vs, rfl, h1, h2⟩ := asL_rep m rx hx
      obtain ⟨v, h3, h4⟩ := h2.atI hd
      exact ⟨a, vs, _, v, rfl, ry, h1, h3, nowD m ok h4⟩
    · exact ok.elim
  · exact ok.elim
theorem get_list : PGet X (rIxL X.K) := by
  intro pins s σ H x y v u Q I rx ry h
  obtain ⟨p, xs, i, z, rfl, rfl, hq, he, q⟩ := h
  cases rx
  obtain ⟨t, rfl⟩ := ry
  obtain ⟨its, r, pl, hz⟩ := I.list hq
  obtain ⟨j, h1, h2, h3, h4, h5⟩ := atI_get he
  obtain ⟨w, ew, rw'⟩ := r.get h2
  have hl := r.length
  have hn := line63
  have fin : EP X pins σ Q w s := ⟨z, H, I, rw', q⟩
  by_cases h0 : 0 ≤ i
  · have hj : i.toNat = j := by
      rw [seqIndex_of h0 h5] at h1
      exact Option.some.inj h1
    exact wpAny_getItem_list (Q := fun r s' => EP X pins σ Q r s') pl.isList h0 (by omega) (by rw [hj]; simpa using ew) fin
  · have hj : (i + (its.toArray.size : Int)).toNat = j := by
      rw [seqIndex_neg (by omega) h4] at h1
      rw [List.size_toArray, ← hl]
      exact Option.some.inj h1
    exact wpAny_getItem_list_neg (Q := fun r s' => EP X pins σ Q r s') pl.isList (by omega) (by rw [List.size_toArray] <;> omega) (by omega) (by rw [hj]; simpa using ew) fin
theorem ps_augIxD {op : Operator} {tpos : Pos} {r : R2} {hh : D → D → Sto → R D} (hop : OpR X (inplaceOp op) r) (hr : OpD X.K CT r hh) (ho : PD X CT W o f) (hi : PD X CT W i g) (he : PD X CT W a k)
    (ha : ∀ ov iv new, augStore i ov iv new = (do holding [new, ov, iv] (setItem ov iv new); release [new, ov, iv] []; pure .next) := by intros; rfl) : PDS X CT W (.AugAssign (.Subscript o i tpos) op a pos) (sAugIx f g hh k) := by
  refine (ps_augS (tip := r) ho hi get_list he hop set_list ha).imp fun D σ H q => ?_
  obtain ⟨w, s, e, rfl, m, re, ok⟩ := q
  refine ⟨w, s, e, rfl, m, re, (OkS.toS re ok).imp fun x s1 w1 e1 m1 ⟨_, _, ok1⟩ vo ro => ?_⟩
  have re1 := re.ext e1
  refine ⟨w1, s1, e, rfl, m1, re1, (OkS.toS re1 ok1).imp fun y s2 w2 e2 m2 ⟨_, _, ok2⟩ vi ri => ?_⟩
  have re2 := re1.ext e2
  refine opd_ixL (fun c x s' w' => W c x σ s' w') w2 s2 x y vo vi _ m2 (RD.ext e2 _ _ ro) ri ((OkS.toS re2 ok2).imp fun z s3 w3 e3 m3 ⟨_, _, ok3⟩ vz rz => ?_)
  have re3 := re2.ext e3
  refine ⟨w3, s3, e, rfl, m3, re3, (OkS.toS re3 ok3).imp fun u s4 w4 e4 m4 ⟨_, _, ok4⟩ vu ru => ?_⟩
  have re4 := re3.ext e4
  refine hr (fun c x s' w' => W c x σ s' w') w4 s4 z u vz vu _ m4 (RD.ext e4 _ _ rz) ru ((OkS.toS re4 ok4).imp fun t s5 w5 e5 m5 ⟨_, _, ok5⟩ vt rt => ?_)
  have re5 := re4.ext e5
  have x5 := (e2.trans e3).trans (e4.trans e5)
  refine setIx_ok (W := fun c x s' w' => W c x σ s' w') m5 (RD.ext x5 _ _ ro) (RD.ext ((e3.trans e4).trans e5) _ _ ri) rt ((OkS.toS re5 ok5).imp fun _ s6 w6 e6 m6 ⟨_, _, ok6⟩ => ?_)
  exact ok6 w6 σ Ext.refl m6 (re5.ext e6)
end

/-! ### while -/
def whGo (c : TV) (b : SV) : Nat → En → Sto → RS
  | 0, _, _ => .bad
  | n + 1, e, s => (c e s).toS e fun t s => if t then (b e s).loop (whGo c b n) else .nx e s
def sWhile (n : Nat) (c : TV) (b : SV) : SV := fun e s => whGo c b n e s
section
variable {X : Cx} {CT : Nat → Addr} {T : ExT} {W : XW} {k : Nat} {pos : Pos} {c : Expr} {body : List Stmt} {p : TV} {u : SV}
theorem ps_whileD (n : Nat) (B : Bd X CT T W k) (hc : PDT X CT W c p) (hb : PDB X CT W body u) : PDS X CT W (.While c body [] pos) (sWhile n p u) := by
  refine (ps_while B.own hc hb).imp fun D σ H q => ?_
  obtain ⟨w, s, e, rfl, m, re, ok⟩ := q
  refine ⟨fun n σ H => ∃ w s e, w.H = H ∧ Sim X.K CT w s ∧ RE X.K w e σ ∧ OkS X.K CT W w (whGo p u n e s) D, ⟨n, w, s, e, rfl, m, re, ok⟩, ?_⟩
  rintro n σ H ⟨w, s, e, rfl, m, re, ok⟩
  cases n with
  | zero => exact ok.elim
  | succ n =>
    refine ⟨w, s, e, rfl, m, re, (OkS.toS re ok).imp fun t s1 w1 e1 m1 ⟨_, _, ok1⟩ => ?_⟩
    have re1 := re.ext e1
    cases t with
    | false =>
      exact ok1 w1 σ Ext.refl m1 re1
    | true =>
      refine ⟨fun σ' H' => ∃ w s e, w.H = H' ∧ Sim X.K CT w s ∧ RE X.K w e σ' ∧ OkS X.K CT W w (whGo p u n e s) D, fun σ' H' h => ⟨n, Nat.lt_succ_self n, h⟩, w1, s1, e, rfl, m1, re1, ?_⟩
      exact OkS.loop ok1 fun w' s' e' σ' x' m' re' ok' => ⟨w', s', e', rfl, m', re', ok'⟩
end

/-! ### what is walked -/
/-- n, a bound of the turns; at turn i: nothing known, the end, an item -/
structure IT where
  n : Nat
  nx : Nat → Sto → Option (Option D)
def itS (xs : List D) : IT := ⟨xs.length, fun i _ => some xs[i]?⟩
def itL (d : D) (n : Nat) : IT := ⟨n, fun i s => (asL s d).map fun xs => xs[i]?⟩
def itZ (x y : D) (n : Nat) : IT := ⟨n, fun i s => match asT x, asT y with
  | some xs, some ys => some (match xs[i]?, ys[i]? with
    | some a, some b => some (mkT [a, b])
    | _, _ => none)
  | _, _ => match asL s x, asL s y with
    | some xs, some ys => some (match xs[i]?, ys[i]? with
      | some a, some b => some (mkT [a, b])
      | _, _ => none)
    | _, _ => none⟩
structure ITok (K : PySem.W.Frag) (CT : Nat → Addr) (w : Wd) (J : It) (it : IT) : Prop where
  stop : ∀ w' s i, Ext K w w' → Sim K CT w' s → it.nx i s = some none → J.stop i w'.H
  go : ∀ w' s i d, Ext K w w' → Sim K CT w' s → it.nx i s = some (some d) → J.go i w'.H ∧ ∀ x H', J.yld i w'.H x H' → ∃ w2, w2.H = H' ∧ Ext K w' w2 ∧ Sim K CT w2 s ∧ RD K w2 d x
theorem ITok.ext {K : PySem.W.Frag} {CT : Nat → Addr} {w w' : Wd} {J : It} {it : IT} (h : ITok K CT w J it) (x : Ext K w w') : ITok K CT w' J it :=
  ⟨fun w2 s i e m q => h.stop w2 s i (x.trans e) m q, fun w2 s i d e m q => h.go w2 s i d (x.trans e) m q⟩
abbrev IV := En → Sto → R IT
def tDI (K : PySem.W.Frag) (CT : Nat → Addr) (W : XW) (f : IV) : TI := fun σ H Q => ∃ w s e, w.H = H ∧ Sim K CT w s ∧ RE K w e σ ∧ Ok K CT (fun c x s' w' => W c x σ s' w') w (f e s) fun it s' w' => ∀ J, ITok K CT w' J it → Q J w'.H
abbrev PDI (X : Cx) (CT : Nat → Addr) (W : XW) (tg e : Expr) (f : IV) : Prop := PI X tg e (tDI X.K CT W f)
theorem pi_imp {X : Cx} {tg e : Expr} {t t' : TI} (h : PI X tg e t) (i : ∀ σ H Q, t' σ H Q → t σ H Q) : PI X tg e t' := ⟨fun pins s σ H Q I h' => h.run pins s σ H Q I (i _ _ _ h')⟩
theorem pi_or {X : Cx} {tg e : Expr} {t t' : TI} (h : PI X tg e t) (h' : PI X tg e t') : PI X tg e (fun σ H Q => t σ H Q ∨ t' σ H Q) := ⟨fun pins s σ H Q I q => q.elim (h.run pins s σ H Q I) (h'.run pins s σ H Q I)⟩

def iSeq (f : EV) : IV := fun e s => (f e s).bind fun d s => match d with
  | .p (.str z) => .ok (itS (z.cps.toList.map fun c => D.p (.str ⟨#[c]⟩))) s
  | d => match asT d with
    | some xs => .ok (itS xs) s
    | none => match asL s d with
      | some xs => .ok (itL d xs.length) s
      | none => .bad
def rngD (lo : Int) (n : Nat) : List D := (List.range n).map fun (i : Nat) => D.p (.int (lo + i))
def iRange1 (f : EV) : IV := fun e s => (f e s).bind fun d s => match d with
  | .p (.int j) => if -(2 ^ 62) ≤ j ∧ j < 2 ^ 62 then .ok (itS (rngD 0 j.toNat)) s else .bad
  | _ => .bad
def iRange2 (f g : EV) : IV := fun e s => (f e s).bind fun a s => (g e s).bind fun b s => match a, b with
  | .p (.int i), .p (.int j) => if -(2 ^ 62) ≤ i ∧ i < 2 ^ 62 ∧ -(2 ^ 62) ≤ j ∧ j < 2 ^ 62 then .ok (itS (rngD i (j - i).toNat)) s else .bad
  | _, _ => .bad
/-- range(i, j, -1) -/
def dnD (hi : Int) (n : Nat) : List D := (List.range n).map fun (i : Nat) => D.p (.int (hi + (i : Nat) * (-1)))
def iRange3 (f g h : EV) : IV := fun e s => (f e s).bind fun a s => (g e s).bind fun b s => (h e s).bind fun c s => match a, b, c with
  | .p (.int i), .p (.int j), .p (.int (-1)) => if -(2 ^ 62) ≤ i ∧ i < 2 ^ 62 ∧ -(2 ^ 62) ≤ j ∧ j < 2 ^ 62 then .ok (itS (dnD i (i - j).toNat)) s else .bad
  | _, _, _ => .bad
def iZipD (f g : EV) : IV := fun e s => (f e s).bind fun x s => (g e s).bind fun y s => match asT x, asT y with
  | some xs, some ys => .ok (itZ x y xs.length) s
  | _, _ => match asL s x, asL s y with
    | some xs, some ys => .ok (itZ x y xs.length) s
    | _, _ => .bad
section
variable {K : PySem.W.Frag} {CT : Nat → Addr} {w : Wd} {s : Sto}
theorem itok_static {J : It} {xs : List D} (fv : Nat → V) (hr : ∀ w i d, xs[i]? = some d → RD K w d (fv i)) (hs : ∀ i H, xs[i]? = none → J.stop i H) (hg : ∀ i H, xs[i]?.isSome → J.go i H) (hy : ∀ i H x H', J.yld i H x H' → i < xs.length → H' = H ∧ x = fv i) : ITok K CT w J (itS xs) where
  stop := fun w' s i _ _ q => hs i _ (by simpa [itS] using q)
  go := fun w' s i d x m q => by
    have q : xs[i]? = some d := by simpa [itS] using q
    refine ⟨hg i _ (by rw [q]; rfl), fun v H' y => ?_⟩
    obtain ⟨hl, _⟩ := List.getElem?_eq_some_iff.mp q
    obtain ⟨rfl, rfl⟩ := hy i _ v H' y hl
    exact ⟨w', rfl, Ext.refl, m, hr w' i d q⟩
theorem rngD_get {lo : Int} {n i : Nat} {d : D} (h : (rngD lo n)[i]? = some d) : i < n ∧ d = .p (.int (lo + i)) := by
  unfold rngD at h
  rw [List.getElem?_map] at h
  by_cases hi : i < n
  · rw [List.getElem?_range hi] at h
    exact ⟨hi, by simpa using h.symm⟩
  · rw [List.getElem?_eq_none (by simpa using hi)] at h
    cases h
theorem rngD_none {lo : Int} {n i : Nat} (h : (rngD lo n)[i]? = none) : n ≤ i := by
  have := List.getElem?_eq_none_iff.mp h
  simpa [rngD] using this
theorem itok_range {lo : Int} {n : Nat} : ITok K CT w (Itr lo n) (itS (rngD lo n)) :=
  itok_static (fun i => .int (lo + i)) (fun w i d h => by rw [(rngD_get h).2]; rfl) (fun i H h => rngD_none h) (fun i H h => by
    cases q : (rngD lo n)[i]? with
    | none => rw [q] at h; cases h
    | some d => exact (rngD_get q).1) (fun i H x H' y _ => y)
theorem dnD_get {lo : Int} {n i : Nat} {d : D} (h : (dnD lo n)[i]? = some d) : i < n ∧ d = .p (.int (lo + (i : Nat) * (-1))) := by
  unfold dnD at h
  rw [List.getElem?_map] at h
  by_cases hi : i < n
  · rw [List.getElem?_range hi] at h
    exact ⟨hi, by simpa using h.symm⟩
  · rw [List.getElem?_eq_none (by simpa using hi)] at h
    cases h
theorem dnD_none {lo : Int} {n i : Nat} (h : (dnD lo n)[i]? = none) : n ≤ i := by
  have := List.getElem?_eq_none_iff.mp h
  simpa [dnD] using this
theorem itok_rangeN {lo : Int} {n : Nat} : ITok K CT w (Itc lo (-1) n) (itS (dnD lo n)) :=
  itok_static (fun i => .int (lo + (i : Nat) * (-1))) (fun w i d h => by rw [(dnD_get h).2]; rfl) (fun i H h => dnD_none h) (fun i H h => by
    cases q : (dnD lo n)[i]? with
    | none => rw [q] at h; cases h
    | some d => exact (dnD_get q).1) (fun i H x H' y _ => y)
theorem itok_str {z : Str} : ITok K CT w (Its z) (itS (z.cps.toList.map fun c => D.p (.str ⟨#[c]⟩))) where
  stop := fun w' s i _ _ q => by
    have q : (z.cps.toList.map fun c => D.p (.str ⟨#[c]⟩))[i]? = none := by simpa only [itS, Option.some.injEq] using q
    have := List.getElem?_eq_none_iff.mp q
    show z.cps.size ≤ i
    simpa using this
  go := fun w' s i d x m q => by
    have q : (z.cps.toList.map fun c => D.p (.str ⟨#[c]⟩))[i]? = some d := by simpa only [itS, Option.some.injEq] using q
    obtain ⟨hl, hd⟩ := List.getElem?_eq_some_iff.mp q
    refine ⟨by show i < z.cps.size; simpa using hl, fun v H' y => ?_⟩
    obtain ⟨rfl, c, hc, rfl⟩ := y
    refine ⟨w', rfl, Ext.refl, m, ?_⟩
    rw [List.getElem?_map] at q
    have : z.cps.toList[i]? = some c := by simpa using hc
    rw [this] at q
    cases q
    rfl
theorem itok_tup {a : Addr} {vs : List V} {ds : List D} (h : SqT K w.H a vs) (r : RDs K w ds vs) : ITok K CT w (Itt K a) (itS ds) where
  stop := fun w' s i x _ q => by
    have q : ds[i]? = none := by simpa [itS] using q
    exact ⟨vs, x.sq _ _ h, by rw [r.length]; exact List.getElem?_eq_none_iff.mp q⟩
  go := fun w' s i d x m q => by
    have q : ds[i]? = some d := by simpa [itS] using q
    obtain ⟨v, h1, h2⟩ := (RDs.ext x _ _ r).get q
    refine ⟨⟨vs, v, x.sq _ _ h, h1⟩, fun u H' y => ?_⟩
    obtain ⟨rfl, y⟩ := y
    have := y vs (x.sq _ _ h)
    rw [h1] at this
    cases this
    exact ⟨w', rfl, Ext.refl, m, h2⟩
theorem itok_list {a : Addr} {d0 : D} {n : Nat} (r : RD K w d0 (.ref a)) : ITok K CT w (Itl K a) (itL d0 n) where
  stop := fun w' s i x m q => by
    have q : (asL s d0).map (fun xs => xs[i]?) = some none := q
    cases e : asL s d0 with
    | none => rw [e] at q; cases q
    | some ds =>
      rw [e] at q
      have q : ds[i]? = none := by simpa using q
      obtain ⟨b, vs, eb, h1, h2⟩ := asL_rep m (RD.ext x _ _ r) e
      cases eb
      exact ⟨vs, h1, by rw [h2.length]; exact List.getElem?_eq_none_iff.mp q⟩
  go := fun w' s i d x m q => by
    have q : (asL s d0).map (fun xs => xs[i]?) = some (some d) := q
    cases e : asL s d0 with
    | none => rw [e] at q; cases q
    | some ds =>
      rw [e] at q
      have q : ds[i]? = some d := by simpa using q
      obtain ⟨b, vs, eb, h1, h2⟩ := asL_rep m (RD.ext x _ _ r) e
      cases eb
      obtain ⟨v, h3, h4⟩ := h2.get q
      refine ⟨⟨vs, v, h1, h3⟩, fun u H' y => ?_⟩
      obtain ⟨rfl, y⟩ := y
      have := y vs h1
      rw [h3] at this
      cases this
      exact ⟨w', rfl, Ext.refl, m, h4⟩
theorem pair_yld {w' : Wd} {s : Sto} {a b : D} {va vb u : V} {H' : Hp} (m : Sim K CT w' s) (ra : RD K w' a va) (rb : RD K w' b vb) (y : ∃ T x z, u = .ref T ∧ w'.H T = none ∧ H' = upd w'.H T (.tup [x, z]) ∧ x = va ∧ z = vb) : ∃ w2, w2.H = H' ∧ Ext K w' w2 ∧ Sim K CT w2 s ∧ RD K w2 (mkT [a, b]) u := by
  obtain ⟨T, x, z, rfl, hT, rfl, rfl, rfl⟩ := y
  have x := m.extT (o := .tup [x, z]) hT
  exact ⟨_, rfl, x, m.newT hT, RD.mkT (.of upd_same) ⟨_, _, rfl, RD.ext x _ _ ra, _, _, rfl, RD.ext x _ _ rb, rfl⟩⟩
theorem itok_zipT {x y : D} {a b : Addr} {xs ys : List D} {n : Nat} {vs us : List V} (ex : asT x = some xs) (ey : asT y = some ys) (h : SqT K w.H a vs) (r : RDs K w xs vs) (h' : SqT K w.H b us) (r' : RDs K w ys us) : ITok K CT w (RZ.ItzT K a b) (itZ x y n) where
  stop := fun w' s i xt m q => by
    have q : some (match xs[i]?, ys[i]? with | some a, some b => some (mkT [a, b]) | _, _ => none) = some none := by simpa only [itZ, ex, ey] using q
    refine ⟨vs, us, xt.sq _ _ h, xt.sq _ _ h', ?_⟩
    rw [r.length, r'.length]
    cases e1 : xs[i]? with
    | none => exact .inl (List.getElem?_eq_none_iff.mp e1)
    | some c =>
      cases e2 : ys[i]? with
      | none => exact .inr (List.getElem?_eq_none_iff.mp e2)
      | some c' => rw [e1, e2] at q; simp at q
  go := fun w' s i d xt m q => by
    have q : some (match xs[i]?, ys[i]? with | some a, some b => some (mkT [a, b]) | _, _ => none) = some (some d) := by simpa only [itZ, ex, ey] using q
    cases e1 : xs[i]? with
    | none => rw [e1] at q; simp at q
    | some c =>
      cases e2 : ys[i]? with
      | none => rw [e1, e2] at q; simp at q
      | some c' =>
        rw [e1, e2] at q
        simp at q
        subst q
        obtain ⟨va, h1, h2⟩ := (RDs.ext xt _ _ r).get e1
        obtain ⟨vb, h3, h4⟩ := (RDs.ext xt _ _ r').get e2
        refine ⟨⟨vs, us, va, vb, xt.sq _ _ h, xt.sq _ _ h', h1, h3⟩, fun u H' yy => pair_yld m h2 h4 ?_⟩
        obtain ⟨T, p, z, rfl, hT, rfl, k1, k2⟩ := yy
        have k1 := k1 vs (xt.sq _ _ h)
        have k2 := k2 us (xt.sq _ _ h')
        rw [h1] at k1
        rw [h3] at k2
        cases k1
        cases k2
        exact ⟨T, _, _, rfl, hT, rfl, rfl, rfl⟩
theorem itok_zipL {x y : D} {a b : Addr} {n : Nat} (nt : asT x = none ∨ asT y = none) (r : RD K w x (.ref a)) (r' : RD K w y (.ref b)) : ITok K CT w (Itz K a b) (itZ x y n) where
  stop := fun w' s i xt m q => by
    have q : (match asL s x, asL s y with
      | some xs, some ys => some (match xs[i]?, ys[i]? with
        | some a, some b => some (mkT [a, b])
        | _, _ => none)
      | _, _ => none) = some none := by
      rcases nt with nt | nt
      · simpa only [itZ, nt] using q
      · cases e : asT x <;> simpa only [itZ, nt, e] using q
    cases ex : asL s x with
    | none => rw [ex] at q; simp at q
    | some xs =>
      cases ey : asL s y with
      | none => rw [ex, ey] at q; simp at q
      | some ys =>
        rw [ex, ey] at q
        obtain ⟨a', vs, eb, h1, h2⟩ := asL_rep m (RD.ext xt _ _ r) ex
        cases eb
        obtain ⟨b', us, eb, h3, h4⟩ := asL_rep m (RD.ext xt _ _ r') ey
        cases eb
        refine ⟨vs, us, h1, h3, ?_⟩
        rw [h2.length, h4.length]
        cases e1 : xs[i]? with
        | none => exact .inl (List.getElem?_eq_none_iff.mp e1)
        | some c =>
          cases e2 : ys[i]? with
          | none => exact .inr (List.getElem?_eq_none_iff.mp e2)
          | some c' => simp [e1, e2] at q
  go := fun w' s i d xt m q => by
    have q : (match asL s x, asL s y with
      | some xs, some ys => some (match xs[i]?, ys[i]? with
        | some a, some b => some (mkT [a, b])
        | _, _ => none)
      | _, _ => none) = some (some d) := by
      rcases nt with nt | nt
      · simpa only [itZ, nt] using q
      · cases e : asT x <;> simpa only [itZ, nt, e] using q
    cases ex : asL s x with
    | none => rw [ex] at q; simp at q
    | some xs =>
      cases ey : asL s y with
      | none => rw [ex, ey] at q; simp at q
      | some ys =>
        rw [ex, ey] at q
        obtain ⟨a', vs, eb, h1, h2⟩ := asL_rep m (RD.ext xt _ _ r) ex
        cases eb
        obtain ⟨b', us, eb, h3, h4⟩ := asL_rep m (RD.ext xt _ _ r') ey
        cases eb
        cases e1 : xs[i]? with
        | none => simp [e1] at q
        | some c =>
          cases e2 : ys[i]? with
          | none => simp [e1, e2] at q
          | some c' =>
            simp [e1, e2] at q
            subst q
            obtain ⟨va, k1, k2⟩ := h2.get e1
            obtain ⟨vb, k3, k4⟩ := h4.get e2
            refine ⟨⟨vs, us, va, vb, h1, h3, k1, k3⟩, fun u H' yy => pair_yld m k2 k4 ?_⟩
            obtain ⟨T, p, z, rfl, hT, rfl, l1, l2⟩ := yy
            have l1 := l1 vs h1
            have l2 := l2 us h3
            rw [k1] at l1
            rw [k3] at l2
            cases l1
            cases l2
            exact ⟨T, _, _, rfl, hT, rfl, rfl, rfl⟩
end
section
variable {X : Cx} {CT : Nat → Addr} {T : ExT} {W : XW} {k : Nat} {pos p p2 tpos : Pos} {a b c tg : Expr} {f g h : EV}
theorem pi_seq (ha : PD X CT W a f) : PDI X CT W tg a (iSeq f) := by
  refine pi_imp (pi_or (pi_or (pi_list ha) (pi_tup ha)) (pi_str ha)) fun σ H Q q => ?_
  obtain ⟨w, s, e, rfl, m, re, ok⟩ := q
  unfold iSeq at ok
  -- which of the three
  cases hf : f e s with
  | bad => rw [hf] at ok; exact ok.elim
  | ex c x s' =>
    rw [hf] at ok
    exact .inl (.inl ⟨w, s, e, rfl, m, re, by rw [hf]; exact ok⟩)
  | ok d s' =>
    rw [hf] at ok
    replace ok : Ok X.K CT _ w (match d with
      | .p (.str z) => .ok (itS (z.cps.toList.map fun c => D.p (.str ⟨#[c]⟩))) s'
      | d => match asT d with
        | some xs => .ok (itS xs) s'
        | none => match asL s' d with
          | some xs => .ok (itL d xs.length) s'
          | none => .bad) _ := ok
    split at ok
    · rename_i z
      refine .inr ⟨w, s, e, rfl, m, re, ?_⟩
      rw [hf]
      intro w' x' m' v rv
      exact ⟨z, rv, ok.get x' m' _ itok_str⟩
    · split at ok
      · rename_i xs hx
        refine .inl (.inr ⟨w, s, e, rfl, m, re, ?_⟩)
        rw [hf]
        intro w' x' m' v rv
        obtain ⟨a, vs, rfl, h1, h2⟩ := asT_rep rv hx
        exact ⟨a, rfl, ⟨vs, h1⟩, ok.get x' m' _ (itok_tup h1 h2)⟩
      · split at ok
        · rename_i xs hx
          refine .inl (.inl ⟨w, s, e, rfl, m, re, ?_⟩)
          rw [hf]
          intro w' x' m' v rv
          obtain ⟨a, vs, rfl, h1, h2⟩ := asL_rep m' rv hx
          exact ⟨a, rfl, ⟨vs, h1⟩, ok.get x' m' _ (itok_list rv)⟩
        · exact ok.elim
theorem pi_range1D (hg : Gl X "range") (hm : X.mg "range" = none) (ha : PD X CT W a f) (hs : starEach [a] X.env = [(false, eval a X.env)] := by rfl) : PDI X CT W tg (.Call (.Name "range" p) [a] [] pos) (iRange1 f) := by
  refine pi_imp (pi_range1 hg hm (pa_cons ha pa_nil (by rw [hs]; rfl)) hs) fun σ H Q q => ?_
  obtain ⟨w, s, e, rfl, m, re, ok⟩ := q
  refine ⟨w, s, e, rfl, m, re, (Ok.bind ok).imp fun d s1 w1 e1 m1 ⟨_, _, ok1⟩ v rv => ?_⟩
  split at ok1
  · split at ok1
    · rename_i hb
      cases (show v = .int _ from rv)
      exact ⟨_, rfl, hb.1, hb.2, ok1.get Ext.refl m1 _ itok_range⟩
    · exact ok1.elim
  · exact ok1.elim
theorem pi_range2D (hg : Gl X "range") (hm : X.mg "range" = none) (ha : PD X CT W a f) (hb : PD X CT W b g) (hs : starEach [a, b] X.env = [(false, eval a X.env), (false, eval b X.env)] := by rfl) (hs2 : starEach [b] X.env = [(false, eval b X.env)] := by rfl) : PDI X CT W tg (.Call (.Name "range" p) [a, b] [] pos) (iRange2 f g) := by
  refine pi_imp (pi_range2 hg hm (pa_cons ha (pa_cons hb pa_nil (by rw [hs2]; rfl)) (by rw [hs, hs2])) hs hs2) fun σ H Q q => ?_
  obtain ⟨w, s, e, rfl, m, re, ok⟩ := q
  refine ⟨w, s, e, rfl, m, re, (Ok.bind ok).imp fun d s1 w1 e1 m1 ⟨_, _, ok1⟩ v rv => ?_⟩
  refine ⟨w1, s1, e, rfl, m1, re.ext e1, (Ok.bind ok1).imp fun d2 s2 w2 e2 m2 ⟨_, _, ok2⟩ u ru => ?_⟩
  have rv := RD.ext e2 _ _ rv
  split at ok2
  · split at ok2
    · rename_i hb
      cases (show v = .int _ from rv)
      cases (show u = .int _ from ru)
      exact ⟨_, _, rfl, hb, ok2.get Ext.refl m2 _ itok_range⟩
    · exact ok2.elim
  · exact ok2.elim
theorem pi_range3D (hg : Gl X "range") (hm : X.mg "range" = none) (ha : PD X CT W a f) (hb : PD X CT W b g) (hc : PD X CT W c h) (hi : ∀ t, PA X [a, b, c] t → PI X tg (.Call (.Name "range" p) [a, b, c] [] pos) (iRng3 t)) (hs : starEach [a, b, c] X.env = (false, eval a X.env) :: starEach [b, c] X.env := by rfl) (hs2 : starEach [b, c] X.env = (false, eval b X.env) :: starEach [c] X.env := by rfl) (hs3 : starEach [c] X.env = (false, eval c X.env) :: starEach [] X.env := by rfl) : PDI X CT W tg (.Call (.Name "range" p) [a, b, c] [] pos) (iRange3 f g h) := by
  refine pi_imp (hi _ (pa_cons ha (pa_cons hb (pa_cons hc pa_nil hs3) hs2) hs)) fun σ H Q q => ?_
  obtain ⟨w, s, e, rfl, m, re, ok⟩ := q
  refine ⟨w, s, e, rfl, m, re, (Ok.bind ok).imp fun d s1 w1 e1 m1 ⟨_, _, ok1⟩ v rv => ?_⟩
  refine ⟨w1, s1, e, rfl, m1, re.ext e1, (Ok.bind ok1).imp fun d2 s2 w2 e2 m2 ⟨_, _, ok2⟩ u ru => ?_⟩
  refine ⟨w2, s2, e, rfl, m2, (re.ext e1).ext e2, (Ok.bind ok2).imp fun d3 s3 w3 e3 m3 ⟨_, _, ok3⟩ t rt => ?_⟩
  have rv := RD.ext e3 _ _ (RD.ext e2 _ _ rv)
  have ru := RD.ext e3 _ _ ru
  split at ok3
  · split at ok3
    · rename_i hb
      cases (show v = .int _ from rv)
      cases (show u = .int _ from ru)
      cases (show t = .int (-1) from rt)
      exact ⟨_, _, -1, _, rfl, RgC.neg hb.1 hb.2.1 hb.2.2.1 hb.2.2.2, ok3.get Ext.refl m3 _ itok_rangeN⟩
    · exact ok3.elim
  · exact ok3.elim
theorem pi_zipD {elts : List Expr} {kk : Nat} (hg : Gl X "zip") (hm : X.mg "zip" = none) (ha : PD X CT W a f) (hb : PD X CT W b g) (hs : starEach [a, b] X.env = (false, eval a X.env) :: starEach [b] X.env := by rfl) (hpl : (backTo pos (starEach [b] X.env)).any (·.1) = false := by rfl) (hs2 : starEach [b] X.env = (false, eval b X.env) :: starEach [] X.env := by rfl) :
    PDI X CT W (.Tuple elts kk tpos) (.Call (.Name "zip" p) [a, b] [] pos) (iZipD f g) := by
  refine pi_imp (RZ.pi_zipA hg hm (pa_cons ha (pa_cons hb pa_nil hs2) hs) hs hpl) fun σ H Q q => ?_
  obtain ⟨w, s, e, rfl, m, re, ok⟩ := q
  refine ⟨w, s, e, rfl, m, re, (Ok.bind ok).imp fun d s1 w1 e1 m1 ⟨_, _, ok1⟩ v rv => ?_⟩
  refine ⟨w1, s1, e, rfl, m1, re.ext e1, (Ok.bind ok1).imp fun d2 s2 w2 e2 m2 ⟨_, _, ok2⟩ u ru => ?_⟩
  have rv := RD.ext e2 _ _ rv
  split at ok2
  · rename_i xs ys hx hy
    obtain ⟨a, vs, rfl, h1, h2⟩ := asT_rep rv hx
    obtain ⟨b, us, rfl, h3, h4⟩ := asT_rep ru hy
    exact ⟨a, b, vs, us, rfl, .inr ⟨h1, h3, ok2.get Ext.refl m2 _ (itok_zipT hx hy h1 h2 h3 h4)⟩⟩
  · rename_i nt
    split at ok2
    · rename_i xs ys hx hy
      obtain ⟨a, vs, rfl, h1, h2⟩ := asL_rep m2 rv hx
      obtain ⟨b, us, rfl, h3, h4⟩ := asL_rep m2 ru hy
      refine ⟨a, b, vs, us, rfl, .inl ⟨h1, h3, ok2.get Ext.refl m2 _ (itok_zipL ?_ rv ru)⟩⟩
      cases ea : asT d with
      | none => exact .inl rfl
      | some xs' =>
        cases eb : asT d2 with
        | none => exact .inr rfl
        | some ys' => exact (nt xs' ys' ea eb).elim
    · exact ok2.elim
end
end Dl
/-! The data layer: for, comprehensions, calls. -/
namespace Dl
open PySem PySem.Spec PyProof.Rows L2

/-! ### for -/
def foGo (g : GV) (b : SV) (it : IT) : Nat → Nat → En → Sto → RS
  | 0, i, e, s => match it.nx i s with
    | some none => .nx e s
    | _ => .bad
  | m + 1, i, e, s => match it.nx i s with
    | some none => .nx e s
    | some (some d) => (g d e s).toS e fun e' s => (b e' s).loop (foGo g b it m (i + 1))
    | none => .bad
def sFor (fi : IV) (g : GV) (b : SV) : SV := fun e s => (fi e s).toS e fun it s => foGo g b it it.n 0 e s
section
variable {X : Cx} {CT : Nat → Addr} {T : ExT} {W : XW} {k : Nat} {pos : Pos} {tg iter : Expr} {body : List Stmt} {fi : IV} {g : GV} {u : SV} {sl : List Nat}
theorem ps_forD (B : Bd X CT T W k) (hi : PDI X CT W tg iter fi) (hg : PDG X CT W sl tg g) (hb : PDB X CT W body u) (hs : ∀ x, foldedSetIterable iter X.env x = pure x := by intro _; rfl) : PDS X CT W (.For tg iter body [] pos) (sFor fi g u) := by
  refine (ps_for B.own B.calm hi hg hb hs).imp fun D σ H q => ?_
  obtain ⟨w, s, e, rfl, m, re, ok⟩ := q
  refine ⟨w, s, e, rfl, m, re, (OkS.toS re ok).imp fun it s1 w1 e1 m1 ⟨_, _, ok1⟩ J hJ => ?_⟩
  refine ⟨fun i m σ H => ∃ w s e, w.H = H ∧ Sim X.K CT w s ∧ RE X.K w e σ ∧ ITok X.K CT w J it ∧ OkS X.K CT W w (foGo g u it m i e s) D, ⟨it.n, w1, s1, e, rfl, m1, re.ext e1, hJ, ok1⟩, ?_⟩
  rintro i m σ H ⟨w, s, e, rfl, m, re, hJ, ok⟩
  rename_i n
  cases n with
  | zero =>
    unfold foGo at ok
    split at ok
    · rename_i hn
      exact .inl ⟨hJ.stop w s i Ext.refl m hn, ok w σ Ext.refl m re⟩
    · exact ok.elim
  | succ n =>
    unfold foGo at ok
    split at ok
    · rename_i hn
      exact .inl ⟨hJ.stop w s i Ext.refl m hn, ok w σ Ext.refl m re⟩
    · rename_i d hn
      obtain ⟨hgo, hy⟩ := hJ.go w s i d Ext.refl m hn
      refine .inr ⟨hgo, fun σ' H' => ∃ w s e, w.H = H' ∧ Sim X.K CT w s ∧ RE X.K w e σ' ∧ ITok X.K CT w J it ∧ OkS X.K CT W w (foGo g u it n (i + 1) e s) D, fun σ' H' h => ⟨n, Nat.lt_succ_self n, h⟩, fun x H' y => ?_⟩
      obtain ⟨w2, rfl, x2, m2, rd⟩ := hy x H' y
      have re2 := re.ext x2
      refine ⟨w2, s, e, d, rfl, m2, re2, rd, (OkS.toS re2 (OkS.ext x2 ok)).imp fun e' s3 w3 x3 m3 ⟨_, _, ok3⟩ σ' re3 _ => ?_⟩
      refine ⟨w3, s3, e', rfl, m3, re3, OkS.loop ok3 fun w4 s4 e4 σ4 x4 m4 re4 ok4 => ?_⟩
      exact ⟨w4, s4, e4, rfl, m4, re4, hJ.ext (x2.trans (x3.trans x4)), ok4⟩
    · exact ok.elim
end

/-! ### list comprehensions -/
def lcGo (g : GV) (p : TV) (f : EV) (e0 : En) (it : IT) : Nat → Nat → List D → Sto → R (List D)
  | 0, i, acc, s => match it.nx i s with
    | some none => .ok acc s
    | _ => .bad
  | m + 1, i, acc, s => match it.nx i s with
    | some none => .ok acc s
    | some (some d) => (g d e0 s).bind fun e1 s => (p e1 s).bind fun b s => if b then (f e1 s).bind fun y s => if acc.length < sizeLine then lcGo g p f e0 it m (i + 1) (acc ++ [y]) s else .bad
      else lcGo g p f e0 it m (i + 1) acc s
    | none => .bad
def eLc (h : Bool) (vs : List Nat) (fi : IV) (g : GV) (p : TV) (f : EV) : EV := fun e s => (fi e s).bind fun it s => (lcGo g p f (wipeE e vs) it it.n 0 [] s).noX.bind fun ds s => newL h ds s
def tYes : TV := fun _ s => .ok true s
theorem noX_bind {K : PySem.W.Frag} {CT : Nat → Addr} {W : Nat → PyData → Sto → Wd → Prop} {w : Wd} {α β : Type} {r : R α} {f : α → Sto → R β} {k : β → Sto → Wd → Prop} (h : Ok K CT W w (r.noX.bind f) k) : Ok K CT (fun _ _ _ _ => False) w r fun a s' w' => Ext K w w' ∧ Sim K CT w' s' ∧ Ok K CT W w' (f a s') k := by
  cases r with
  | ok a s => exact fun w2 x2 m2 => ⟨x2, m2, Ok.ext x2 h⟩
  | ex c x s => exact h.elim
  | bad => exact h.elim
theorem Ok.bindB {K : PySem.W.Frag} {CT : Nat → Addr} {W : Nat → PyData → Sto → Wd → Prop} {w : Wd} {α β : Type} {r : R α} {f : α → Sto → R β} {k : β → Sto → Wd → Prop} (h : Ok K CT W w (r.bind f) k) : Ok K CT W w r fun a s' w' => Ok K CT W w (f a s') k := by
  cases r with
  | ok a s' => exact fun w2 e2 m2 => h
  | ex c y s' => exact h
  | bad => exact h
section
variable {X : Cx} {CT : Nat → Addr} {T : ExT} {W : XW} {k : Nat} {pos : Pos} {elt tg iter : Expr} {ifs : List Expr} {scope : Scope} {own : List (Str × Nat)} {fi : IV} {g : GV} {p : TV} {f : EV} {sl : List Nat}
/-- the list in the making comes to rest -/
theorem rest_ok {K : PySem.W.Frag} {W : Nat → PyData → Sto → Wd → Prop} {w0 w : Wd} {s : Sto} {D : Addr} {h : Bool} {ds : List Dl.D} {vs : List V} {Q : VK} (x0 : Ext K w0 w) (hD : ∀ a, w0.pr a → a ≠ D) (m : Sim K CT w s) (hpr : w.pr D) (hH : w.H D = some (.lst vs)) (r : RDs K w ds vs)
    (q : Ok K CT W w0 (newL h ds s) fun d s' w' => ∀ v, RD K w' d v → Q v w'.H) : Q (.ref D) w.H := by
  have nfz : ¬ w.fz D := fun z => m.fp D z hpr
  have nmu : D ∉ w.mu := fun z => (m.dj D z).2 hpr
  have asO : Ok K CT W w0 (.ok (.ref s.length) (s ++ [.lst ds])) (fun d s' w' => ∀ v, RD K w' d v → Q v w'.H) → Q (.ref D) w.H := fun q => by
    have x1 : Ext0 K w ⟨w.mu ++ [D], w.fz, fun a => w.pr a ∧ a ≠ D, w.H⟩ := ⟨⟨[D], rfl⟩, fun _ _ h => h, fun _ _ h => h, fun _ h => ⟨h, rfl⟩⟩
    refine q.get (w' := ⟨w.mu ++ [D], w.fz, fun a => w.pr a ∧ a ≠ D, w.H⟩) ⟨x0.toExt0.trans x1, fun a ha => ⟨⟨(x0.pr a ha).1, hD a ha⟩, (x0.pr a ha).2⟩⟩ ⟨by simp [m.len], ?_, fun a ha => ?_, m.fz, fun a h z => m.fp a h z.1, fun a h => m.pr a h.1, fun k o hk => ?_⟩ (.ref D) ⟨D, ?_, rfl⟩
    · show (w.mu ++ [D]).Nodup
      rw [List.nodup_append]
      refine ⟨m.nd, by simp, fun a ha b hb => ?_⟩
      have : b = D := by simpa using hb
      subst this
      rintro rfl
      exact nmu ha
    · rcases List.mem_append.mp ha with ha | ha
      · exact ⟨(m.dj a ha).1, fun z => (m.dj a ha).2 z.1⟩
      · have : a = D := by simpa using ha
        subst this
        exact ⟨nfz, fun z => z.2 rfl⟩
    · by_cases hl : k < s.length
      · rw [List.getElem?_append_left hl] at hk
        obtain ⟨a, h1, h2⟩ := m.ob k o hk
        exact ⟨a, by show (w.mu ++ [D])[k]? = _; rw [List.getElem?_append_left (by rw [m.len]; exact hl)]; exact h1, h2.ext x1 rfl⟩
      · have hk2 : k = s.length := by
          obtain ⟨hl, _⟩ := List.getElem?_eq_some_iff.mp hk
          rw [List.length_append, List.length_singleton] at hl
          omega
        subst hk2
        rw [List.getElem?_append_right (Nat.le_refl _)] at hk
        simp at hk
        subst hk
        exact ⟨D, by show (w.mu ++ [D])[s.length]? = _; rw [← m.len]; simp, vs, hH, RDs.ext0 x1 _ _ r⟩
    · show (w.mu ++ [D])[s.length]? = _
      rw [← m.len]
      simp
  unfold newL at q
  cases h with
  | true => exact asO q
  | false =>
    cases e : allP ds with
    | none =>
      rw [e] at q
      exact asO q
    | some xs =>
      rw [e] at q
      have x1 : Ext0 K w ⟨w.mu, fun a => w.fz a ∨ a = D, fun a => w.pr a ∧ a ≠ D, w.H⟩ := ⟨⟨[], by simp⟩, fun _ _ h => h, fun _ _ h => h, fun _ h => ⟨.inl h, rfl⟩⟩
      have r2 : RDs K w (xs.map Dl.D.p) vs := by rw [← allP_some e]; exact r
      refine q.get (w' := ⟨w.mu, fun a => w.fz a ∨ a = D, fun a => w.pr a ∧ a ≠ D, w.H⟩) ⟨x0.toExt0.trans x1, fun a ha => ⟨⟨(x0.pr a ha).1, hD a ha⟩, (x0.pr a ha).2⟩⟩ ⟨m.len, m.nd, fun a ha => ⟨fun z => ?_, fun z => (m.dj a ha).2 z.1⟩, fun a h => ?_, fun a h z => ?_, fun a h => m.pr a h.1, fun k o hk => ?_⟩ (.ref D) ⟨D, vs, rfl, ⟨hH, .inr rfl⟩, RPs.ext0 x1 _ _ r2.toP⟩
      · rcases z with z | z
        · exact (m.dj a ha).1 z
        · subst z
          exact nmu ha
      · rcases h with h | h
        · exact m.fz a h
        · subst h
          exact ⟨_, hH⟩
      · rcases h with h | h
        · exact m.fp a h z.1
        · exact z.2 h
      · obtain ⟨a, h1, h2⟩ := m.ob k o hk
        exact ⟨a, h1, h2.ext x1 rfl⟩
theorem lc_reads (h : Bool) {σ : L2.St} {H : Hp} {Q : VK} (hsl : ∀ i ∈ sl, i ∈ own.map (·.2)) (q : tD X.K CT W (eLc h (own.map (·.2)) fi g p f) σ H Q) :
    tLc (tDI X.K CT W fi) (tDG X.K CT W0 sl g) (tDT X.K CT W0 p) (tD X.K CT W0 f) (own.map (·.2)) σ H Q := by
  obtain ⟨w, s, e, rfl, m, re, ok⟩ := q
  refine ⟨w, s, e, rfl, m, re, (Ok.bind ok).imp fun it s1 w1 e1 m1 ⟨_, _, ok1⟩ J hJ D hD => ?_⟩
  have re1 := (re.ext e1).wipe (own.map (·.2))
  -- the world with the list in the making
  obtain ⟨w2, hw2⟩ : ∃ w2 : Wd, w2 = ⟨w1.mu, w1.fz, fun a => w1.pr a ∨ a = D, upd w1.H D (.lst [])⟩ := ⟨_, rfl⟩
  have x2 : Ext X.K w1 w2 := by
    rw [hw2]
    exact Ext.fresh hD ⟨[], by simp⟩ (fun _ h => h) (fun _ h => .inl h) m1.fz m1.pr
  have m2 : Sim X.K CT w2 s1 := by
    have b := m1.newT (o := .lst []) hD
    rw [hw2]
    refine ⟨b.len, b.nd, fun a ha => ⟨(m1.dj a ha).1, fun z => ?_⟩, b.fz, fun a h z => ?_, fun a h => ?_, fun k o hk => ?_⟩
    · rcases z with z | z
      · exact (m1.dj a ha).2 z
      · subst z
        exact m1.free hD ha
    · rcases z with z | z
      · exact m1.fp a h z
      · subst z
        exact m1.freeF hD h
    · rcases h with h | h
      · exact b.pr a h
      · subst h
        exact ⟨_, upd_same⟩
    · obtain ⟨a, h1, h2⟩ := b.ob k o hk
      exact ⟨a, h1, h2.ext (show Ext0 X.K ⟨w1.mu, w1.fz, w1.pr, upd w1.H D (.lst [])⟩ ⟨w1.mu, w1.fz, fun a => w1.pr a ∨ a = D, upd w1.H D (.lst [])⟩ from ⟨⟨[], by simp⟩, fun _ _ h => h, fun _ _ h => h, fun _ h => ⟨h, rfl⟩⟩) rfl⟩
  have p2 : w2.pr D := by rw [hw2]; exact .inr rfl
  have h2 : w2.H D = some (.lst []) := by rw [hw2]; exact upd_same
  have nD : ∀ a, w1.pr a → a ≠ D := fun a ha z => by
    subst z
    exact m1.freeP hD ha
  have e2 : w2.H = upd w1.H D (.lst []) := by rw [hw2]
  let fin : List Dl.D → Sto → Wd → Prop := fun ds s' w' => Ext X.K w1 w' → Sim X.K CT w' s' → ∀ vs, w'.pr D → w'.H D = some (.lst vs) → RDs X.K w' ds vs → Q (.ref D) w'.H
  -- the end, for every list made so far
  have endOk : Ok X.K CT (fun _ _ _ _ => False) w1 (lcGo g p f (wipeE e (own.map (·.2))) it it.n 0 [] s1) (fun ds s' w' => ∀ vs, w'.pr D → w'.H D = some (.lst vs) → RDs X.K w' ds vs → Q (.ref D) w'.H) := by
    have q := noX_bind ok1
    cases hr : lcGo g p f (wipeE e (own.map (·.2))) it it.n 0 [] s1 with
    | bad => rw [hr] at q; exact q
    | ex c x s' => rw [hr] at q; exact q
    | ok ds s' =>
      intro w' x' m' vs hp hH r
      rw [hr] at ok1
      exact rest_ok x' nD m' hp hH r ok1
  refine ⟨fun i n H => ∃ w s acc vacc, w.H = H ∧ Sim X.K CT w s ∧ Ext X.K w1 w ∧ w.pr D ∧ w.H D = some (.lst vacc) ∧ RDs X.K w acc vacc ∧ RE X.K w (wipeE e (own.map (·.2))) (wipe σ (own.map (·.2))) ∧
    Ok X.K CT (fun _ _ _ _ => False) w1 (lcGo g p f (wipeE e (own.map (·.2))) it n i acc s) (fun ds s' w' => ∀ vs, w'.pr D → w'.H D = some (.lst vs) → RDs X.K w' ds vs → Q (.ref D) w'.H),
    ⟨it.n, w2, s1, [], [], e2, m2, x2, p2, h2, rfl, re1.ext x2, endOk⟩, ?_⟩
  rintro i n H ⟨w, s, acc, vacc, rfl, m, x, hp, hH, racc, re, ok⟩
  have hJ := hJ.ext x
  cases n with
  | zero =>
    unfold lcGo at ok
    split at ok
    · rename_i hn
      exact .inl ⟨hJ.stop w s i Ext.refl m hn, ok.get x m _ hp hH racc⟩
    · exact ok.elim
  | succ n =>
    unfold lcGo at ok
    split at ok
    · rename_i hn
      exact .inl ⟨hJ.stop w s i Ext.refl m hn, ok.get x m _ hp hH racc⟩
    · rename_i d hn
      obtain ⟨hgo, hy⟩ := hJ.go w s i d Ext.refl m hn
      refine .inr ⟨hgo, fun H => ∃ w s acc vacc, w.H = H ∧ Sim X.K CT w s ∧ Ext X.K w1 w ∧ w.pr D ∧ w.H D = some (.lst vacc) ∧ RDs X.K w acc vacc ∧ RE X.K w (wipeE e (own.map (·.2))) (wipe σ (own.map (·.2))) ∧
        Ok X.K CT (fun _ _ _ _ => False) w1 (lcGo g p f (wipeE e (own.map (·.2))) it n (i + 1) acc s) (fun ds s' w' => ∀ vs, w'.pr D → w'.H D = some (.lst vs) → RDs X.K w' ds vs → Q (.ref D) w'.H), fun H' h => ⟨n, Nat.lt_succ_self n, h⟩, fun v H' y => ?_⟩
      obtain ⟨w3, rfl, x3, m3, rd⟩ := hy v H' y
      have re3 := re.ext x3
      refine ⟨w3, s, _, d, rfl, m3, re3, rd, (Ok.ext (x.trans x3) (Ok.bindB ok)).imp fun e' s4 w4 x4 m4 ok4 σ' re4 hw => ?_⟩
      refine ⟨?_, w4, s4, e', rfl, m4, re4, (Ok.ext (x.trans (x3.trans x4)) (Ok.bindB ok4)).imp fun b s5 w5 x5 m5 ok5 => ?_⟩
      · rw [hw _ hsl]
        apply List.ext_getElem?
        intro j
        rw [wipe_get, wipe_get, wipe_length]
        by_cases hj : j ∈ own.map (·.2) ∧ j < σ.length
        · rw [if_pos hj, if_pos hj]
        · rw [if_neg hj, if_neg hj]
      · have x35 := x3.trans (x4.trans x5)
        have go : w5.pr D ∧ w5.H D = w.H D := x35.pr D hp
        cases b with
        | false =>
          exact ⟨w5, s5, acc, vacc, rfl, m5, x.trans x35, go.1, go.2.trans hH, RDs.ext x35 _ _ racc, re3.ext (x4.trans x5), ok5⟩
        | true =>
          refine ⟨w5, s5, e', rfl, m5, re4.ext x5, (Ok.ext (x.trans x35) (Ok.bindB ok5)).imp fun y s6 w6 x6 m6 ok6 vy ry => ?_⟩
          have x36 := x35.trans x6
          have go6 : w6.pr D ∧ w6.H D = w.H D := x36.pr D hp
          have racc6 := RDs.ext x36 _ _ racc
          split at ok6
          · rename_i hz
            refine ⟨vacc, go6.2.trans hH, by rw [racc6.length]; exact hz, ?_⟩
            -- the list in the making grows
            obtain ⟨w7, hw7⟩ : ∃ w7 : Wd, w7 = { w6 with H := upd w6.H D (.lst (vacc ++ [vy])) } := ⟨_, rfl⟩
            have nfz : ¬ w6.fz D := fun z => m6.fp D z go6.1
            have x7 : Ext0 X.K w6 w7 := by
              rw [hw7]
              refine ⟨⟨[], by simp⟩, fun b xs q => ?_, fun b xs q => ?_, fun b q => ⟨q, ?_⟩⟩
              · rcases q with (q | ⟨ob, q⟩) | q
                · exact .inl (.inl (by show upd w6.H D _ b = _; rw [upd_ne (ne_of q (go6.2.trans hH) (by intro z; cases z))]; exact q))
                · exact .inl (.inr ⟨ob, by show upd w6.H D _ b = _; rw [upd_ne (ne_of q (go6.2.trans hH) (by intro z; cases z))]; exact q⟩)
                · exact .inr q
              · rcases q with ⟨ob, q⟩ | q
                · exact .inl ⟨ob, by show upd w6.H D _ b = _; rw [upd_ne (ne_of q (go6.2.trans hH) (by intro z; cases z))]; exact q⟩
                · exact .inr q
              · show upd w6.H D _ b = _
                rw [upd_ne]
                rintro rfl
                exact nfz q
            have m7 : Sim X.K CT w7 s6 := by
              have ne : ∀ b, b ∈ w6.mu → b ≠ D := fun b hb z => by
                subst z
                exact (m6.dj _ hb).2 go6.1
              refine ⟨by rw [hw7]; exact m6.len, by rw [hw7]; exact m6.nd, by rw [hw7]; exact m6.dj, fun b hb => ?_, by rw [hw7]; exact m6.fp, fun b hb => ?_, fun k o hk => ?_⟩
              · rw [hw7] at hb ⊢
                obtain ⟨u, hu⟩ := m6.fz b hb
                refine ⟨u, ?_⟩
                show upd w6.H D _ b = _
                rw [upd_ne]
                · exact hu
                · rintro rfl
                  exact nfz hb
              · rw [hw7] at hb ⊢
                obtain ⟨u, hu⟩ := m6.pr b hb
                by_cases hbD : b = D
                · subst hbD
                  exact ⟨_, upd_same⟩
                · exact ⟨u, by show upd w6.H D _ b = _; rw [upd_ne hbD]; exact hu⟩
              · obtain ⟨a, h1, h2⟩ := m6.ob k o hk
                refine ⟨a, by rw [hw7]; exact h1, h2.ext x7 ?_⟩
                rw [hw7]
                show upd w6.H D _ a = _
                rw [upd_ne (ne a (List.mem_of_getElem? h1))]
            have e7 : w7.H = upd w6.H D (.lst (vacc ++ [vy])) := by rw [hw7]
            -- still an extension of the world ahead of the list
            have x17 : Ext X.K w1 w7 := by
              have x16 := x.trans x36
              refine ⟨x16.toExt0.trans x7, fun a ha => ?_⟩
              obtain ⟨k1, k2⟩ := x16.pr a ha
              refine ⟨by rw [hw7]; exact k1, ?_⟩
              rw [e7, upd_ne (nD a ha)]
              exact k2
            refine ⟨w7, s6, acc ++ [y], vacc ++ [vy], e7, m7, x17, by rw [hw7]; exact go6.1, by rw [e7]; exact upd_same, (RDs.ext0 x7 _ _ racc6).append ⟨vy, [], rfl, RD.ext0 x7 _ _ ry, rfl⟩, ((re3.ext (x4.trans x5)).ext x6).ext0 x7, ?_⟩
            exact ok6
          · exact ok6.elim
    · exact ok.elim
end
end Dl
/-! The data layer: comprehensions in a body, what a def is worth, calls. -/
namespace Dl
open PySem PySem.Spec PyProof.Rows L2

section
variable {X : Cx} {CT : Nat → Addr} {T : ExT} {W : XW} {k : Nat} {pos : Pos} {c elt tg iter : Expr} {ifs : List Expr} {scope : Scope} {own : List (Str × Nat)} {fi : IV} {g : GV} {p : TV} {f : EV} {sl : List Nat}
abbrev PDTs (X : Cx) (CT : Nat → Addr) (W : XW) (es : List Expr) (f : TV) : Prop := PTs X es (tDT X.K CT W f)
theorem pts_nilD : PDTs X CT W [] tYes := ⟨fun pins s σ H Q I q => pts_nil.run pins s σ H Q I (by
  obtain ⟨w, st, e, rfl, m, re, ok⟩ := q
  exact ok.get Ext.refl m)⟩
theorem pts_oneD (h : PDT X CT W c p) : PDTs X CT W [c] p := pts_one h
/-- [elt for tg in iter if ..]; the block's own names with their slots: own; h: the new list is an object of the store -/
theorem pd_lc (h : Bool) (B : Bd X CT T W k) (own : List (Str × Nat)) (hi : PDI X CT W tg iter fi) (ok : BlkOk X.N X.env.scope scope own) (hsl : ∀ i ∈ sl, i ∈ own.map (·.2))
    (hg : ∀ (s : Shared) (H : Hp) (C : Addr) (cl : List (Str × Addr)) (fp : List Addr), PDG (X.blk s H scope (compEnvC scope cl C X.env) fp) CT W0 sl tg g)
    (ht : ∀ (s : Shared) (H : Hp) (C : Addr) (cl : List (Str × Addr)) (fp : List Addr), Bd (X.blk s H scope (compEnvC scope cl C X.env) fp) CT T W0 k → PDTs (X.blk s H scope (compEnvC scope cl C X.env) fp) CT W0 ifs p)
    (he : ∀ (s : Shared) (H : Hp) (C : Addr) (cl : List (Str × Addr)) (fp : List Addr), Bd (X.blk s H scope (compEnvC scope cl C X.env) fp) CT T W0 k → PD (X.blk s H scope (compEnvC scope cl C X.env) fp) CT W0 elt f)
    (hs : ∀ x, foldedSetIterable iter X.env x = pure x := by intro _; rfl) : PD X CT W (.ListComp elt [⟨tg, iter, ifs, 0⟩] scope pos) (eLc h (own.map (·.2)) fi g p f) :=
  (pe_lc (g := tDG X.K CT W0 sl g) (tt := tDT X.K CT W0 p) (te := tD X.K CT W0 f) B.calm B.nd hi ok hg (fun s H C cl fp => ht s H C cl fp (B.blk s H scope _ fp)) (fun s H C cl fp => he s H C cl fp (B.blk s H scope _ fp)) hs).imp fun σ H Q q => lc_reads h hsl q
/-- .. stored on the same line to a local name -/
theorem ps_setLcD (h : Bool) (i : Nat) {y : Str} {py spos : Pos} (B : Bd X CT T W k) (own : List (Str × Nat)) (hi : PDI X CT W tg iter fi) (ok : BlkOk X.N X.env.scope scope own) (hsl : ∀ i ∈ sl, i ∈ own.map (·.2))
    (hg : ∀ (s : Shared) (H : Hp) (C : Addr) (cl : List (Str × Addr)) (fp : List Addr), PDG (X.blk s H scope (compEnvC scope cl C X.env) fp) CT W0 sl tg g)
    (ht : ∀ (s : Shared) (H : Hp) (C : Addr) (cl : List (Str × Addr)) (fp : List Addr), Bd (X.blk s H scope (compEnvC scope cl C X.env) fp) CT T W0 k → PDTs (X.blk s H scope (compEnvC scope cl C X.env) fp) CT W0 ifs p)
    (he : ∀ (s : Shared) (H : Hp) (C : Addr) (cl : List (Str × Addr)) (fp : List Addr), Bd (X.blk s H scope (compEnvC scope cl C X.env) fp) CT T W0 k → PD (X.blk s H scope (compEnvC scope cl C X.env) fp) CT W0 elt f)
    (hy : X.N[i]? = some y := by rfl) (hyl : X.env.scope.names.lookup y = some .local := by rfl)
    (hsw : swapsWith (.ListComp elt [⟨tg, iter, ifs, 0⟩] scope pos) (some (.Name y py)) spos.line X.env = pure true := by exact sw_true rfl rfl rfl (by decide +kernel))
    (hs : ∀ x, foldedSetIterable iter X.env x = pure x := by intro _; rfl) : PDS X CT W (.Assign [.Name y py] (.ListComp elt [⟨tg, iter, ifs, 0⟩] scope pos) spos) (sSet i (eLc h (own.map (·.2)) fi g p f)) := by
  refine (ps_setLc (g := tDG X.K CT W0 sl g) (tt := tDT X.K CT W0 p) (te := tD X.K CT W0 f) B.calm B.nd hy hyl hsw hi ok hg (fun s H C cl fp => ht s H C cl fp (B.blk s H scope _ fp)) (fun s H C cl fp => he s H C cl fp (B.blk s H scope _ fp)) hs).imp fun D σ H q => ?_
  obtain ⟨w, s, e, rfl, m, re, ok⟩ := q
  refine lc_reads (W := W) (CT := CT) h hsl (Q := fun v H' => gName i v σ H' D.nx) ⟨w, s, e, rfl, m, re, (OkS.toS re ok).imp fun d s1 w1 e1 m1 ⟨_, _, ok1⟩ v rv => ?_⟩
  exact ok1 w1 _ Ext.refl m1 ((re.ext e1).set i rv)
end

/-! ### what a def is worth -/
structure FnG (P : Program) (w : World) (K : PySem.W.Frag) (mg : Str → Option Value) (base : Heap) (k : Nat) (f : Addr) (fd : FuncData) (ps : List Str) (sp : Sp) : Prop where
  len : ∀ vs H Q E, sp vs H Q E → vs.length = ps.length
  run : ∀ (A : Around) (fr : List Env) (s : Shared) (H : Hp) (ar : Args) (us : List Value) (vs : List V) (Q : VK) (E : XK), RoomG k A → Env0 P w K mg base A fr s H → BindsTo s fd ar (ps.zip us) → Vals vs us → sp vs H Q E →
    codeAny (model P w) A (.call (.ref f) ar) (CR (L2.CX P w) fr P w H s Q E) s
/-- a def's promise by its function on data; n parameters -/
def spG (K : PySem.W.Frag) (CT : Nat → Addr) (T : ExT) (n : Nat) (f : List D → Sto → R D) : Sp := fun vs H Q E =>
  ∃ w s ds, w.H = H ∧ Sim K CT w s ∧ RDs K w ds vs ∧ ds.length = n ∧ Ok K CT (fun c x s' w' => Sim K CT w' s' → ∀ cls d, ExR K T w' c x cls d → E cls d w'.H) w (f ds s) fun d s' w' => ∀ v, RD K w' d v → Q v w'.H
theorem RDs.start {K : PySem.W.Frag} {w : Wd} : ∀ {ds : List D} {vs : List V} (n : Nat), RDs K w ds vs → RE K w (ds.map some ++ List.replicate n none) (vs.map some ++ List.replicate n none)
  | [], _, n, h => by
    have h : _ = [] := h
    subst h
    refine ⟨by simp, fun i d hd => ?_⟩
    have hd : (List.replicate n (none : Option D))[i]? = some (some d) := by simpa using hd
    rw [List.getElem?_replicate] at hd
    split at hd <;> cases hd
  | x :: xs, _, n, h => by
    obtain ⟨v, r, rfl, h1, h2⟩ := h
    have ih := RDs.start n h2
    refine ⟨by simpa using ih.len, fun i d hd => ?_⟩
    cases i with
    | zero =>
      have : x = d := by simpa using hd
      subst this
      exact ⟨v, rfl, h1⟩
    | succ i => exact ih.at' i d (by simpa using hd)

/-- a body's value: n slots -/
def runB (n : Nat) (b : SV) (ds : List D) (s : Sto) : R D := match b (ds.map some ++ List.replicate (n - ds.length) none) s with
  | .rt d s' => .ok d s'
  | .nx _ s' => .ok (.p .none) s'
  | .ex c x _ s' => .ex c x s'
  | _ => .bad

/-! ### leaving a def whose own objects are of no use behind it -/
mutual
def below (n : Nat) : D → Bool
  | .ref k => decide (k < n)
  | .bag xs => belowL n xs
  | _ => true
def belowL (n : Nat) : List D → Bool
  | [] => true
  | x :: xs => below n x && belowL n xs
end
def belowF (n : Nat) : List (Str × D) → Bool
  | [] => true
  | (_, x) :: xs => below n x && belowF n xs
def belowO (n : Nat) : O → Bool
  | .lst xs => belowL n xs
  | .ins _ fs => belowF n fs
/-- a value on its way out: a list of the def's own comes to rest -/
def calm1 (n : Nat) (s : Sto) : D → Option D
  | .ref k => if k < n then some (.ref k) else match s[k]? with
    | some (.lst ds) => (allP ds).map fun xs => .p (.list xs)
    | _ => none
  | .bag xs => if belowL n xs then some (.bag xs) else none
  | d => some d
def calmL (n : Nat) (s : Sto) : List D → Option (List D)
  | [] => some []
  | x :: xs => match calm1 n s x, calmL n s xs with
    | some y, some ys => some (y :: ys)
    | _, _ => none
def calm (n : Nat) (s : Sto) : D → Option D
  | .bag xs => (calmL n s xs).map mkT
  | d => calm1 n s d
open Classical in
/-- behind the def the store is as it was at its start, but for what stood there already -/
noncomputable def leave (s0 : Sto) (r : R D) : R D := match r with
  | .ok d s => if s.take s0.length = s0 ∨ (∀ o ∈ s.take s0.length, belowO s0.length o = true) then (match calm s0.length s d with
    | some d' => .ok d' (s.take s0.length)
    | none => .bad) else .bad
  | .ex c x s => if s.take s0.length = s0 ∨ (∀ o ∈ s.take s0.length, belowO s0.length o = true) then .ex c x (s.take s0.length) else .bad
  | .bad => .bad
def Keeps (s0 s : Sto) : Prop := s.take s0.length = s0 ∨ (∀ o ∈ s.take s0.length, belowO s0.length o = true)
theorem leave_yes {s0 s : Sto} {d d' : D} (c : Keeps s0 s) (e : calm s0.length s d = some d') : leave s0 (.ok d s) = .ok d' (s.take s0.length) := by
  unfold Keeps at c
  unfold leave
  simp only [if_pos c, e]
theorem leave_none {s0 s : Sto} {d : D} (c : Keeps s0 s) (e : calm s0.length s d = none) : leave s0 (.ok d s) = .bad := by
  unfold Keeps at c
  unfold leave
  simp only [if_pos c, e]
theorem leave_no {s0 s : Sto} {d : D} (c : ¬ Keeps s0 s) : leave s0 (.ok d s) = .bad := by
  unfold Keeps at c
  unfold leave
  simp only [if_neg c]
theorem leave_exY {s0 s : Sto} {n : Nat} {x : PyData} (c : Keeps s0 s) : leave s0 (.ex n x s) = .ex n x (s.take s0.length) := by
  unfold Keeps at c
  unfold leave
  simp only [if_pos c]
theorem leave_exN {s0 s : Sto} {n : Nat} {x : PyData} (c : ¬ Keeps s0 s) : leave s0 (.ex n x s) = .bad := by
  unfold Keeps at c
  unfold leave
  simp only [if_neg c]
section
variable {K : PySem.W.Frag} {CT : Nat → Addr} {w w' : Wd} {s s' : Sto}
mutual
theorem RD.below : ∀ (d : D) (v : V), RD K w d v → below w.mu.length d = true
  | .p _, _, _ => by simp [Dl.below]
  | .ro _, _, _ => by simp [Dl.below]
  | .ref k, _, h => by
    obtain ⟨a, h1, _⟩ := h
    obtain ⟨hk, _⟩ := List.getElem?_eq_some_iff.mp h1
    simp [Dl.below, hk]
  | .bag xs, _, h => by
    obtain ⟨a, vs, _, _, h2⟩ := h
    simpa [Dl.below] using RDs.below xs vs h2
theorem RDs.below : ∀ (ds : List D) (vs : List V), RDs K w ds vs → belowL w.mu.length ds = true
  | [], _, _ => rfl
  | x :: xs, _, h => by
    obtain ⟨v, r, _, h1, h2⟩ := h
    simp [belowL, RD.below x v h1, RDs.below xs r h2]
end
theorem RF.below : ∀ (ds : List (Str × D)) (vs : List (Str × V)), RF K w ds vs → belowF w.mu.length ds = true
  | [], _, _ => rfl
  | (f, x) :: xs, _, h => by
    obtain ⟨v, r, _, h1, h2⟩ := h
    simp [belowF, RD.below x v h1, RF.below xs r h2]
theorem RO.below {a : Addr} {o : O} (h : RO K CT w a o) : belowO w.mu.length o = true := by
  cases o with
  | lst ds =>
    obtain ⟨vs, _, h2⟩ := h
    exact RDs.below ds vs h2
  | ins c fs =>
    obtain ⟨dx, vs, _, h2⟩ := h
    exact RF.below fs vs h2
/-- fewer objects, more lists at rest -/
structure Less (w w' : Wd) (n : Nat) : Prop where
  mu : w'.mu = w.mu.take n
  H : w'.H = w.H
  fz : ∀ a, w.fz a → w'.fz a
mutual
theorem RP.less {n : Nat} (l : Less w w' n) : ∀ (x : PyData) (v : V), RP K w x v → RP K w' x v
  | .none, _, h => h
  | .bool _, _, h => h
  | .int _, _, h => h
  | .str _, _, h => h
  | .tuple xs, _, h => by
    obtain ⟨a, vs, rfl, h1, h2⟩ := h
    exact ⟨a, vs, rfl, by rw [l.H]; exact h1, RPs.less l xs vs h2⟩
  | .list xs, _, h => by
    obtain ⟨a, vs, rfl, h1, h2⟩ := h
    exact ⟨a, vs, rfl, ⟨by rw [l.H]; exact h1.1, l.fz _ h1.2⟩, RPs.less l xs vs h2⟩
  | .dict _, _, h => by
    obtain ⟨rfl, a, rfl, h1, h2⟩ := h
    exact ⟨rfl, a, rfl, by rw [l.H]; exact h1, l.fz _ h2⟩
theorem RPs.less {n : Nat} (l : Less w w' n) : ∀ (xs : List PyData) (vs : List V), RPs K w xs vs → RPs K w' xs vs
  | [], _, h => h
  | x :: xs, _, h => by
    obtain ⟨v, r, rfl, h1, h2⟩ := h
    exact ⟨v, r, rfl, RP.less l x v h1, RPs.less l xs r h2⟩
end
mutual
theorem RD.less {n : Nat} (l : Less w w' n) : ∀ (d : D) (v : V), Dl.below n d = true → RD K w d v → RD K w' d v
  | .p x, v, _, h => RP.less l x v h
  | .ro xs, _, _, h => by
    obtain ⟨a, vs, rfl, h1, h2⟩ := h
    exact ⟨a, vs, rfl, by rw [l.H]; exact h1, RPs.less l xs vs h2⟩
  | .ref k, _, b, h => by
    obtain ⟨a, h1, rfl⟩ := h
    have hk : k < n := by simpa [Dl.below] using b
    exact ⟨a, by rw [l.mu, List.getElem?_take_of_lt hk]; exact h1, rfl⟩
  | .bag xs, _, b, h => by
    obtain ⟨a, vs, rfl, h1, h2⟩ := h
    exact ⟨a, vs, rfl, by rw [l.H]; exact h1, RDs.less l xs vs (by simpa [Dl.below] using b) h2⟩
theorem RDs.less {n : Nat} (l : Less w w' n) : ∀ (ds : List D) (vs : List V), belowL n ds = true → RDs K w ds vs → RDs K w' ds vs
  | [], _, _, h => h
  | x :: xs, _, b, h => by
    obtain ⟨v, r, rfl, h1, h2⟩ := h
    simp only [belowL, Bool.and_eq_true] at b
    exact ⟨v, r, rfl, RD.less l x v b.1 h1, RDs.less l xs r b.2 h2⟩
end
theorem RF.less {n : Nat} (l : Less w w' n) : ∀ (ds : List (Str × D)) (vs : List (Str × V)), belowF n ds = true → RF K w ds vs → RF K w' ds vs
  | [], _, _, h => h
  | (f, x) :: xs, _, b, h => by
    obtain ⟨v, r, rfl, h1, h2⟩ := h
    simp only [belowF, Bool.and_eq_true] at b
    exact ⟨v, r, rfl, RD.less l x v b.1 h1, RF.less l xs r b.2 h2⟩
theorem RO.less {n : Nat} (l : Less w w' n) {a : Addr} {o : O} (b : belowO n o = true) (h : RO K CT w a o) : RO K CT w' a o := by
  cases o with
  | lst ds =>
    obtain ⟨vs, h1, h2⟩ := h
    exact ⟨vs, by rw [l.H]; exact h1, RDs.less l ds vs b h2⟩
  | ins c fs =>
    obtain ⟨dx, vs, h1, h2⟩ := h
    exact ⟨dx, vs, by rw [l.H]; exact h1, RF.less l fs vs b h2⟩
theorem Sim.leave {w0 : Wd} {s0 : Sto} (m0 : Sim K CT w0 s0) (x : Ext K w0 w) (m : Sim K CT w s) (hb : s.take s0.length = s0 ∨ (∀ o ∈ s.take s0.length, belowO s0.length o = true)) :
    ∃ w', Less w w' s0.length ∧ Ext K w0 w' ∧ Sim K CT w' (s.take s0.length) ∧ ∀ k a, w.mu[k]? = some a → s0.length ≤ k → (∃ vs, w.H a = some (.lst vs)) → w'.fz a := by
  obtain ⟨ν, hν⟩ := x.mu
  have lm := m.len
  have hle : s0.length ≤ s.length := by
    have h1 := congrArg List.length hν
    rw [List.length_append, m0.len] at h1
    omega
  refine ⟨⟨w.mu.take s0.length, fun a => w.fz a ∨ ∃ k, w.mu[k]? = some a ∧ s0.length ≤ k ∧ ∃ vs, w.H a = some (.lst vs), w.pr, w.H⟩, ⟨rfl, rfl, fun a h => .inl h⟩, ⟨⟨⟨[], ?_⟩, x.sq, x.sr, fun a h => ⟨.inl (x.fz a h).1, (x.fz a h).2⟩⟩, x.pr⟩, ⟨?_, ?_, fun a ha => ?_, fun a ha => ?_, fun a ha => ?_, m.pr, fun k o hk => ?_⟩, fun k a h1 h2 h3 => .inr ⟨k, h1, h2, h3⟩⟩
  · show w.mu.take s0.length = _
    rw [List.append_nil, hν, ← m0.len, List.take_left']
    rfl
  · show (w.mu.take s0.length).length = _
    rw [List.length_take, List.length_take, lm]
  · exact m.nd.sublist (List.take_sublist _ _)
  · have ha' : a ∈ w.mu := List.mem_of_mem_take ha
    refine ⟨fun z => ?_, (m.dj a ha').2⟩
    rcases z with z | ⟨k, h1, h2, _⟩
    · exact (m.dj a ha').1 z
    · obtain ⟨j, hj⟩ := List.getElem?_of_mem ha
      have hjl : j < s0.length := by
        obtain ⟨hl, _⟩ := List.getElem?_eq_some_iff.mp hj
        rw [List.length_take] at hl
        omega
      have hj : (w.mu.take s0.length)[j]? = some a := hj
      rw [List.getElem?_take_of_lt hjl] at hj
      obtain ⟨l1, e1⟩ := List.getElem?_eq_some_iff.mp hj
      obtain ⟨l2, e2⟩ := List.getElem?_eq_some_iff.mp h1
      have := (List.getElem_inj m.nd).mp (e1.trans e2.symm)
      omega
  · rcases ha with ha | ⟨k, _, _, vs, h⟩
    · exact m.fz a ha
    · exact ⟨_, h⟩
  · rcases ha with ha | ⟨k, h1, _, _⟩
    · exact m.fp a ha
    · exact (m.dj a (List.mem_of_getElem? h1)).2
  · have hkl : k < s0.length := by
      obtain ⟨hl, _⟩ := List.getElem?_eq_some_iff.mp hk
      rw [List.length_take] at hl
      omega
    have hk' := hk
    rw [List.getElem?_take_of_lt hkl] at hk
    obtain ⟨a, h1, h2⟩ := m.ob k o hk
    refine ⟨a, by show (w.mu.take s0.length)[k]? = _; rw [List.getElem?_take_of_lt hkl]; exact h1, RO.less (w := w) (w' := ⟨w.mu.take s0.length, fun a => w.fz a ∨ ∃ k, w.mu[k]? = some a ∧ s0.length ≤ k ∧ ∃ vs, w.H a = some (.lst vs), w.pr, w.H⟩) (n := s0.length) ⟨rfl, rfl, fun a h => Or.inl h⟩ ?_ h2⟩
    rcases hb with hb | hb
    · rw [hb] at hk'
      obtain ⟨b, h3, h4⟩ := m0.ob k o hk'
      rw [← m0.len]
      exact h4.below
    · exact hb o (List.mem_of_getElem? hk')
theorem calm1_rep {w0 : Wd} {s0 : Sto} (m : Sim K CT w s) (l : Less w w' s0.length) (hz : ∀ k a, w.mu[k]? = some a → s0.length ≤ k → (∃ vs, w.H a = some (.lst vs)) → w'.fz a) {d d' : D} {v : V} (h : calm1 s0.length s d = some d') (r : RD K w d v) : RD K w' d' v := by
  cases d with
  | p x => cases h; exact RP.less l _ _ r
  | ro xs => cases h; exact RD.less l _ _ (by simp [Dl.below]) r
  | bag xs =>
    have h : (if belowL s0.length xs then some (D.bag xs) else none) = some d' := h
    split at h
    · rename_i b
      cases h
      exact RD.less l _ _ (by simpa [Dl.below] using b) r
    · cases h
  | ref k =>
    have h : (if k < s0.length then some (D.ref k) else match s[k]? with
      | some (.lst ds) => (allP ds).map fun xs => .p (.list xs)
      | _ => none) = some d' := h
    split at h
    · rename_i b
      cases h
      exact RD.less l _ _ (by simp [Dl.below, b]) r
    · rename_i b
      split at h
      · rename_i ds e
        cases q : allP ds with
        | none => rw [q] at h; cases h
        | some xs =>
          rw [q] at h
          cases h
          obtain ⟨a, h1, rfl⟩ := r
          obtain ⟨b', h2, vs, h3, h4⟩ := m.ob k _ e
          rw [h1] at h2
          cases h2
          rw [allP_some q] at h4
          exact ⟨a, vs, rfl, ⟨by rw [l.H]; exact h3, hz k a h1 (by omega) ⟨vs, h3⟩⟩, RPs.less l _ _ h4.toP⟩
      · cases h
theorem calmL_rep {w0 : Wd} {s0 : Sto} (m : Sim K CT w s) (l : Less w w' s0.length) (hz : ∀ k a, w.mu[k]? = some a → s0.length ≤ k → (∃ vs, w.H a = some (.lst vs)) → w'.fz a) : ∀ {ds ds' : List D} {vs : List V}, calmL s0.length s ds = some ds' → RDs K w ds vs → RDs K w' ds' vs
  | [], _, _, h, r => by cases h; exact r
  | x :: xs, ds', _, h, r => by
    obtain ⟨v, u, rfl, h1, h2⟩ := r
    unfold calmL at h
    split at h
    · rename_i y ys e1 e2
      cases h
      exact ⟨v, u, rfl, calm1_rep (w0 := w0) m l hz e1 h1, calmL_rep (w0 := w0) m l hz e2 h2⟩
    · cases h
theorem calm_rep {w0 : Wd} {s0 : Sto} (m : Sim K CT w s) (l : Less w w' s0.length) (hz : ∀ k a, w.mu[k]? = some a → s0.length ≤ k → (∃ vs, w.H a = some (.lst vs)) → w'.fz a) {d d' : D} {v : V} (h : calm s0.length s d = some d') (r : RD K w d v) : RD K w' d' v := by
  cases d with
  | bag xs =>
    have h : (calmL s0.length s xs).map mkT = some d' := h
    cases q : calmL s0.length s xs with
    | none => rw [q] at h; cases h
    | some ys =>
      rw [q] at h
      cases h
      obtain ⟨a, vs, rfl, h1, h2⟩ := r
      exact RD.mkT (by rw [l.H]; exact h1) (calmL_rep (w0 := w0) m l hz q h2)
  | p x => exact calm1_rep (w0 := w0) m l hz (show calm1 s0.length s (.p x) = some d' from h) r
  | ro x => exact calm1_rep (w0 := w0) m l hz (show calm1 s0.length s (.ro x) = some d' from h) r
  | ref x => exact calm1_rep (w0 := w0) m l hz (show calm1 s0.length s (.ref x) = some d' from h) r
theorem leave_ok {W : Nat → PyData → Sto → Wd → Prop} {r : R D} {Q : VK} (m0 : Sim K CT w s) (hW : ∀ c x s1 w1 s2 w2, Less w1 w2 s.length → (∀ v, RP K w1 x v → RP K w2 x v) → Sim K CT w2 s2 → W c x s2 w2 → W c x s1 w1)
    (q : Ok K CT W w (leave s r) fun d s' w' => ∀ v, RD K w' d v → Q v w'.H) : Ok K CT W w r fun d s' w' => ∀ v, RD K w' d v → Q v w'.H := by
  cases r with
  | bad => exact q
  | ok d s1 =>
    intro w1 x1 m1 v rv
    by_cases c : Keeps s s1
    · cases e : calm s.length s1 d with
      | none =>
        rw [leave_none c e] at q
        exact q.elim
      | some d' =>
        rw [leave_yes c e] at q
        obtain ⟨w2, l, x2, m2, hz⟩ := m0.leave x1 m1 c
        have q2 := q.get x2 m2 v (calm_rep (w0 := w) m1 l hz e rv)
        rw [l.H] at q2
        exact q2
    · rw [leave_no c] at q
      exact q.elim
  | ex cc x s1 =>
    intro w1 x1 m1
    by_cases c : Keeps s s1
    · rw [leave_exY c] at q
      obtain ⟨w2, l, x2, m2, hz⟩ := m0.leave x1 m1 c
      exact hW cc x s1 w1 _ w2 l (fun v => RP.less l x v) m2 (q w2 x2 m2)
    · rw [leave_exN c] at q
      exact q.elim
end

/-- THE RULE: a def by its body on data -/
theorem fnG_of {P : Program} {w : World} {K : PySem.W.Frag} {mg : Str → Option Value} {base : Heap} {CT : Nat → Addr} {T : ExT} {k : Nat} {f : Addr} {nm ql : Str} {pr : Arguments} {bd : List Stmt} {sc : Scope} {dV kV doc pm cdv ct oc : Value} {an od : Option Addr}
    {osl : Array (Option Value)} {N ps : List Str} {b : SV} {fn : List D → Sto → R D}
    (lk : K.lookup f = some ⟨oc, od, .func (PySem.W.fnOf nm ql pr bd sc dV kV doc pm an cdv ct), osl⟩) (hcd : PySem.W.codeIn K cdv ql = true) (S : FnScope N ps sc)
    (hfn : ∀ (w : Wd) (s : Sto) (ds : List D) (Q : VK) (E : XK), Sim K CT w s → Ok K CT (fun c x s' w' => Sim K CT w' s' → ∀ cls d, ExR K T w' c x cls d → E cls d w'.H) w (fn ds s) (fun d s' w' => ∀ v, RD K w' d v → Q v w'.H) → Ok K CT (fun c x s' w' => Sim K CT w' s' → ∀ cls d, ExR K T w' c x cls d → E cls d w'.H) w (runB N.length b ds s) (fun d s' w' => ∀ v, RD K w' d v → Q v w'.H))
    (body : ∀ (A : Around) (fr : List Env) (s : Shared) (H : Hp) (E : XK) (W : XW), Bd (cxOf (L2.CX P w) P w K mg base N ql sc f cdv A fr s H E) CT T W k → PDB (cxOf (L2.CX P w) P w K mg base N ql sc f cdv A fr s H E) CT W bd b) :
    FnG P w K mg base (k + 1) f (PySem.W.fnOf nm ql pr bd sc dV kV doc pm an cdv ct) ps (spG K CT T ps.length fn) := by
  refine ⟨fun vs H Q E ⟨w, s, ds, _, _, r, hl, _⟩ => r.length.trans hl, fun A fr s H ar us vs Q E room e0 hb rv hsp => ?_⟩
  obtain ⟨wd, st, ds, eH, m, rds, hl, okf⟩ := hsp
  have hlv : vs.length = ps.length := rds.length.trans hl
  have inK : K.In s.heap := e0.mod.kin.keeps fun b o e => (e0.bs b o e).1
  have noL : s.heap.NoLimit := e0.mod.nolimit.keeps fun b o e => (e0.bs b o e).1
  have kinds : ∀ y ∈ ps.zip us, sc.names.lookup y.1 = some .local ∨ (sc.names.lookup y.1 = some .cell ∧ ((cellsFrom (s.heap.objs.size + 1) sc.names []).lookup y.1).isSome = true) := by
    rintro ⟨n, v⟩ hy
    have := S.par n (List.of_mem_zip hy).1
    rcases this with q | q
    · exact .inl q
    · exact .inr ⟨q, PySem.W.cellsFrom_some _ _ _ (.inl q)⟩
  have dep : A.depth < recursionLimit := by
    have := room.dp
    omega
  refine codeAny_call_function dep (inK _ _ lk) rfl S.co S.gen rfl (PySem.W.codeRec_of inK hcd) (hb _ _ _ _ ?_)
  refine wpAny_newFunctionEnv_cells S.kind kinds fun env he s1 ic => ?_
  subst he
  refine ⟨noL.keeps ic.toInCall.keep, codeAny_func ?_⟩
  have inv : Inv (cxOf (L2.CX P w) P w K mg base N ql sc f cdv A fr s H E) [] (L2.start N vs) H s1 := inv_start S room.hd e0 hlv rv ic
  let W : XW := fun c x _ s' w' => Sim K CT w' s' → ∀ cls d, ExR K T w' c x cls d → E cls d w'.H
  have tk0 : Takes (cxOf (L2.CX P w) P w K mg base N ql sc f cdv A fr s H E) (fun cls d _ H => E cls d H) := takes_of rfl rfl rfl rfl
  have B : Bd (cxOf (L2.CX P w) P w K mg base N ql sc f cdv A fr s H E) CT T W k := ⟨rfl, S.nd, passes_of rfl, room.down _, ⟨(by
    have := room.dp
    show A.depth + 1 + 2 * k + 6 < _
    omega), (by
    have := room.un
    show A.units + 3 + 8 * k + 204 < _
    omega)⟩, tk0.imp fun cls d σ H' ⟨c, x, s', w', e', mm, hx, q⟩ => e' ▸ q mm cls d hx⟩
  have pb := body A fr s H E W B
  have okb := hfn wd st ds Q E m okf
  have reads : tDS K CT W b { nx := fun _ H' => Q .non H', rt := Q } (L2.start N vs) H := by
    refine ⟨wd, st, ds.map some ++ List.replicate (N.length - ds.length) none, eH, m, ?_, ?_⟩
    · have := RDs.start (N.length - ds.length) rds
      unfold L2.start
      rw [rds.length]
      exact this
    · unfold runB at okb
      cases hr : b (ds.map some ++ List.replicate (N.length - ds.length) none) st with
      | rt d s' => rw [hr] at okb; exact fun w' v x' m' r' => okb w' x' m' v r'
      | nx e s' => rw [hr] at okb; exact fun w' σ x' m' _ => okb w' x' m' .non rfl
      | ex c x e s' => rw [hr] at okb; exact fun w' σ x' m' _ => okb w' x' m'
      | bk e s' => rw [hr] at okb; exact okb.elim
      | ct e s' => rw [hr] at okb; exact okb.elim
      | bad => rw [hr] at okb; exact okb
  refine wpAny_mono (pb.run [] s1 (L2.start N vs) H _ inv reads) (fun fl s' hs => ?_) fun _ _ hs => hs
  cases fl with
  | ret u =>
    obtain ⟨v, σ', H', J, r', q⟩ := hs
    exact ⟨v, H', J.os, J.bare, J.base, J.hok, r', q⟩
  | next =>
    obtain ⟨σ', H', J, q⟩ := hs
    exact ⟨.non, H', J.os, J.bare, J.base, J.hok, rfl, q⟩
  | brk =>
    obtain ⟨_, _, _, q⟩ := hs
    exact q.elim
  | cont =>
    obtain ⟨_, _, _, q⟩ := hs
    exact q.elim

/-! ### calls -/
def eCall (g : List D → Sto → R D) (dd : List D) (l : AV) : EV := fun e s => (l e s).bind fun ds s => g (ds ++ dd) s
section
variable {X : Cx} {CT : Nat → Addr} {T : ExT} {W : XW} {k n : Nat} {x : Str} {p pos : Pos} {a : Expr} {es : List Expr} {l : AV} {f : Addr} {fd : FuncData} {ps : List Str} {dvs : List V} {dvu : List Value} {dd : List D} {g : List D → Sto → R D}
theorem run_G {sp : Sp} {E : XK} {pins : List (Addr × Obj)} {σ : L2.St} {H : Hp} {s : Shared} {Q : VK} {us : List Value} {vs : List V} (F : FnG X.prog X.w X.K X.mg X.base k f fd ps sp) (room : RoomG k X.A) (hb : Binds X.K fd ps dvu) (hd : Vals dvs dvu)
    (hx : PassesAt (L2.CX X.prog X.w) X σ E) (I : Inv X pins σ H s) (r : Vals vs us) (q : sp (vs ++ dvs) H Q E) : wpAny (model X.prog X.w) X.A (call (.ref f) us) (EP X pins σ Q) X.xe s := by
  have both := r.append hd
  have hlen : (us ++ dvu).length = ps.length := both.length.symm.trans (F.len _ _ _ _ q)
  refine wpAny_call (codeAny_mono (F.run X.A X.stack s H ⟨us, []⟩ _ _ Q E room I.env0 (hb s us I.kIn hlen) both q) fun res s' hq => ?_)
  rcases res with e | (_ | _ | _ | u)
  case error => exact hx pins H s e s' I hq
  all_goals first | exact False.elim hq | exact I.after hq
theorem call_reads {σ : L2.St} {H : Hp} {Q : VK} (hn : n = ps.length) (hdd : ∀ w, RDs X.K w dd dvs) (hz : ∀ ds s e r, l e s = .ok ds r → (ds ++ dd).length = n) (q : tD X.K CT W (eCall g dd l) σ H Q) :
    tDA X.K CT W l σ H fun vs H1 => spG X.K CT T n g (vs ++ dvs) H1 Q (WE (WL X.K CT T W) σ) := by
  obtain ⟨w, s, e, rfl, m, re, ok⟩ := q
  refine ⟨w, s, e, rfl, m, re, ?_⟩
  have ok' := Ok.bind ok
  cases hr : l e s with
  | bad => rw [hr] at ok'; exact ok'
  | ex c y s' => rw [hr] at ok'; exact ok'
  | ok ds s1 =>
    rw [hr] at ok'
    intro w1 x1 m1 vs rvs
    obtain ⟨_, _, ok1⟩ := ok' w1 x1 m1
    refine ⟨w1, s1, ds ++ dd, rfl, m1, rvs.append (hdd w1), hz ds s e s1 hr, ?_⟩
    cases hg : g (ds ++ dd) s1 with
    | bad => rw [hg] at ok1; exact ok1
    | ok d s2 => rw [hg] at ok1; exact ok1
    | ex c y s2 =>
      rw [hg] at ok1
      exact fun w2 x2 m2 _ cls d hx => ⟨c, y, s2, w2, rfl, m2, hx, ok1 w2 x2 m2⟩
def AV.len (l : AV) (n : Nat) : Prop := ∀ ds s e r, l e s = .ok ds r → ds.length = n
theorem len_nil : AV.len aNil 0 := fun ds s e r h => by cases h; rfl
theorem len_cons {f : EV} {n : Nat} (h : AV.len l n) : AV.len (aCons f l) (n + 1) := fun ds s e r q => by
  unfold aCons at q
  cases hf : f e s with
  | bad => rw [hf] at q; cases q
  | ex c x s' => rw [hf] at q; cases q
  | ok d s1 =>
    rw [hf] at q
    have q : (l e s1).bind (fun r s => R.ok (d :: r) s) = .ok ds r := q
    cases hl : l e s1 with
    | bad => rw [hl] at q; cases q
    | ex c x s' => rw [hl] at q; cases q
    | ok ds1 s2 =>
      rw [hl] at q
      cases q
      simp [h _ _ _ _ hl]
/-- f(a, ..): the written arguments, then the defaults dd -/
theorem pd_call {m : Nat} (B : Bd X CT T W k) (F : FnG X.prog X.w X.K X.mg X.base k f fd ps (spG X.K CT T n g)) (hn : n = ps.length) (hg : Gl X x) (hm : X.mg x = some (.ref f)) (hk : PySem.W.keepIn X.K (.ref f) = true) (hb : Binds X.K fd ps dvu) (hd : Vals dvs dvu) (hdd : ∀ w, RDs X.K w dd dvs)
    (ha : PDA X CT W (a :: es) l) (hl : AV.len l m) (hmn : m + dd.length = n) (hdb : (x == ("__debug__" : Str)) = false := by decide) (he : starEach (a :: es) X.env = (false, eval a X.env) :: starEach es X.env := by rfl) (hpl : (backTo pos (starEach es X.env)).any (·.1) = false := by rfl) :
    PD X CT W (.Call (.Name x p) (a :: es) [] pos) (eCall g dd l) := by
  refine ⟨fun pins s σ H Q I q => ?_⟩
  have q' := call_reads (T := T) hn hdd (fun ds s e r h => by rw [List.length_append, hl _ _ _ _ h]; exact hmn) q
  refine wpAny_Call_Name_kw (ld_glob I hg hm ?_ hdb)
  refine PySem.W.callWith_K (h₀ := X.base) I.ok.mod.kin hk (thn (ha.run pos pins s σ H _ I q') fun us s1 ⟨vs, H1, I1, r, q1⟩ => ⟨I1.kIn, ?_⟩) he hpl
  exact run_G F B.room hb hd (passAt B.tk σ) I1 r q1
theorem pd_call0 (B : Bd X CT T W k) (F : FnG X.prog X.w X.K X.mg X.base k f fd ps (spG X.K CT T n g)) (hn : n = ps.length) (hg : Gl X x) (hm : X.mg x = some (.ref f)) (hk : PySem.W.keepIn X.K (.ref f) = true) (hb : Binds X.K fd ps dvu) (hd : Vals dvs dvu) (hdd : ∀ w, RDs X.K w dd dvs)
    (hmn : dd.length = n) (hdb : (x == ("__debug__" : Str)) = false := by decide) : PD X CT W (.Call (.Name x p) [] [] pos) (eCall g dd aNil) := by
  refine ⟨fun pins s σ H Q I q => ?_⟩
  have q' := call_reads (T := T) hn hdd (fun ds s e r h => by rw [List.length_append, len_nil _ _ _ _ h]; omega) q
  refine wpAny_Call_Name_kw (ld_glob I hg hm ?_ hdb)
  refine PySem.W.callWith_K0 I.kIn hk ?_
  obtain ⟨w, s0, e, rfl, m, re, ok⟩ := q'
  exact run_G (us := []) F B.room hb hd (passAt B.tk σ) I .nil (ok.get Ext.refl m [] rfl)
end
end Dl
/-! The data layer: built-in functions and methods. -/
namespace Dl
open PySem PySem.Spec PyProof.Rows L2

def CaD (K : PySem.W.Frag) (CT : Nat → Addr) (r : List V → Hp → VK → Prop) (h : List D → Sto → R D) : Prop :=
  ∀ (W : Nat → PyData → Sto → Wd → Prop) (w : Wd) (s : Sto) (xs : List D) (vs : List V) (Q : VK), Sim K CT w s → RDs K w xs vs → Ok K CT W w (h xs s) (fun d s' w' => ∀ v, RD K w' d v → Q v w'.H) → r vs w.H Q
def eBlt (h : List D → Sto → R D) (l : AV) : EV := fun e s => (l e s).bind fun ds s => h ds s
section
variable {X : Cx} {CT : Nat → Addr} {W : XW} {x : Str} {p pos : Pos} {a : Expr} {es : List Expr} {l : AV} {id T : String} {r : List V → Hp → VK → Prop} {h : List D → Sto → R D}
theorem blt_reads {K : PySem.W.Frag} {σ : L2.St} {H : Hp} {Q : VK} (hr : CaD K CT r h) (q : tD K CT W (eBlt h l) σ H Q) : tCB r (tDA K CT W l) σ H Q := by
  obtain ⟨w, s, e, rfl, m, re, ok⟩ := q
  exact ⟨w, s, e, rfl, m, re, (Ok.bind ok).imp fun ds s1 w1 e1 m1 ⟨_, _, ok1⟩ vs rvs => hr _ w1 s1 ds vs Q m1 rvs ok1⟩
theorem pd_blt (hc : CallR X (.builtin id) r) (hr : CaD X.K CT r h) (hg : Gl X x) (hm : X.mg x = none) (hv : bootBuiltins x = some (.builtin id)) (ha : PDA X CT W (a :: es) l) (hn : x ≠ "__name__" := by decide) (hdb : (x == ("__debug__" : Str)) = false := by decide)
    (he : starEach (a :: es) X.env = (false, eval a X.env) :: starEach es X.env := by rfl) (hpl : (backTo pos (starEach es X.env)).any (·.1) = false := by rfl) : PD X CT W (.Call (.Name x p) (a :: es) [] pos) (eBlt h l) :=
  (pe_callB hc hg hm hv ha hn hdb he hpl).imp fun σ H Q q => blt_reads hr q
theorem pd_ty (hc : CallR X (.type T) r) (hr : CaD X.K CT r h) (hg : Gl X x) (hm : X.mg x = none) (hv : bootBuiltins x = some (.type T)) (ha : PDA X CT W (a :: es) l) (hn : x ≠ "__name__" := by decide) (hdb : (x == ("__debug__" : Str)) = false := by decide)
    (he : starEach (a :: es) X.env = (false, eval a X.env) :: starEach es X.env := by rfl) (hpl : (backTo pos (starEach es X.env)).any (·.1) = false := by rfl) : PD X CT W (.Call (.Name x p) (a :: es) [] pos) (eBlt h l) :=
  (pe_callTy hc hg hm hv ha hn hdb he hpl).imp fun σ H Q q => blt_reads hr q
theorem pd_bltG (hc : CallR X (.builtin id) r) (hr : CaD X.K CT r h) (hg : Gl X x) (hm : X.mg x = some (.builtin id)) (ha : PDA X CT W (a :: es) l) (hdb : (x == ("__debug__" : Str)) = false := by decide)
    (he : starEach (a :: es) X.env = (false, eval a X.env) :: starEach es X.env := by rfl) (hpl : (backTo pos (starEach es X.env)).any (·.1) = false := by rfl) : PD X CT W (.Call (.Name x p) (a :: es) [] pos) (eBlt h l) :=
  (pe_callBfun hc hg hm ha hdb he hpl).imp fun σ H Q q => blt_reads hr q
theorem RDs.sing {K : PySem.W.Frag} {w : Wd} {d : D} {v : V} (r : RD K w d v) : RDs K w [d] [v] := ⟨v, [], rfl, r, rfl⟩
theorem RDs.one {K : PySem.W.Frag} {w : Wd} {d : D} {vs : List V} (r : RDs K w [d] vs) : ∃ v, vs = [v] ∧ RD K w d v := by
  obtain ⟨v, u, rfl, h, h2⟩ := r
  cases (show u = [] from h2)
  exact ⟨v, rfl, h⟩
theorem RDs.two {K : PySem.W.Frag} {w : Wd} {d e : D} {vs : List V} (r : RDs K w [d, e] vs) : ∃ v u, vs = [v, u] ∧ RD K w d v ∧ RD K w e u := by
  obtain ⟨v, u, rfl, h, h2⟩ := r
  obtain ⟨z, rfl, h3⟩ := RDs.one h2
  exact ⟨v, z, rfl, h, h3⟩

/-! ### len -/
def hLen : List D → Sto → R D
  | [.p (.str z)], s => if z.length ≤ sizeLine then .ok (.p (.int z.length)) s else .bad
  | [d], s => match seqOf s d with
    | some ds => .ok (.p (.int ds.length)) s
    | none => .bad
  | _, _ => .bad
theorem ca_len {K : PySem.W.Frag} : CaD K CT (fun xs H Q => ∃ x n, xs = [x] ∧ LenV K x H n ∧ Q (.int n) H) hLen := by
  intro W w s xs vs Q m r ok
  unfold hLen at ok
  split at ok
  · split at ok
    · rename_i hz
      obtain ⟨v, rfl, h⟩ := r.one
      cases (show v = .str _ from h)
      exact ⟨_, _, rfl, ⟨hz, rfl⟩, now m ok rfl⟩
    · exact ok.elim
  · split at ok
    · rename_i ds hd
      obtain ⟨v, rfl, h⟩ := r.one
      obtain ⟨a, us, rfl, h1, h2⟩ := seqOf_rep m h hd
      refine ⟨_, us.length, rfl, ?_, now m ok (by rw [h2.length]; rfl)⟩
      rcases h1 with h1 | h1
      · exact .inl ⟨us, h1, rfl⟩
      · exact .inr ⟨us, h1, rfl⟩
    · exact ok.elim
  · exact ok.elim
theorem pd_len (hg : Gl X "len") (hm : X.mg "len" = none) (ha : PDA X CT W [a] l) (he : starEach [a] X.env = (false, eval a X.env) :: starEach [] X.env := by rfl) : PD X CT W (.Call (.Name "len" p) [a] [] pos) (eBlt hLen l) :=
  pd_blt call_len ca_len hg hm PySem.boot_len ha (by decide) (by decide) he rfl

/-! ### int, abs -/
def hAbs : List D → Sto → R D
  | [.p (.int i)], s => .ok (.p (.int (if i < 0 then -i else i))) s
  | _, _ => .bad
theorem ca_abs {K : PySem.W.Frag} : CaD K CT (fun xs H Q => ∃ i, xs = [.int i] ∧ Q (.int (if i < 0 then -i else i)) H) hAbs := by
  intro W w s xs vs Q m r ok
  unfold hAbs at ok
  split at ok
  · obtain ⟨v, rfl, h⟩ := r.one
    cases (show v = .int _ from h)
    exact ⟨_, rfl, now m ok rfl⟩
  · exact ok.elim
theorem pd_abs (hg : Gl X "abs") (hm : X.mg "abs" = none) (ha : PDA X CT W [a] l) (hv : bootBuiltins "abs" = some (.builtin "abs") := by decide +kernel) (he : starEach [a] X.env = (false, eval a X.env) :: starEach [] X.env := by rfl) : PD X CT W (.Call (.Name "abs" p) [a] [] pos) (eBlt hAbs l) :=
  pd_blt call_abs ca_abs hg hm hv ha (by decide) (by decide) he rfl
def hInt : List D → Sto → R D
  | [.p (.int i)], s => .ok (.p (.int i)) s
  | [.p (.bool b)], s => .ok (.p (.int (if b then 1 else 0))) s
  | _, _ => .bad
theorem ca_int {K : PySem.W.Frag} : CaD K CT (fun xs H Q => (∃ i, xs = [.int i] ∧ Q (.int i) H) ∨ ∃ k, xs = [.bl k] ∧ Q (.int (if k then 1 else 0)) H) hInt := by
  intro W w s xs vs Q m r ok
  unfold hInt at ok
  split at ok
  · obtain ⟨v, rfl, h⟩ := r.one
    cases (show v = .int _ from h)
    exact .inl ⟨_, rfl, now m ok rfl⟩
  · obtain ⟨v, rfl, h⟩ := r.one
    cases (show v = .bl _ from h)
    exact .inr ⟨_, rfl, now m ok rfl⟩
  · exact ok.elim
theorem pd_intc (hg : Gl X "int") (hm : X.mg "int" = none) (ha : PDA X CT W [a] l) (hv : bootBuiltins "int" = some (.type "int") := by decide +kernel) (he : starEach [a] X.env = (false, eval a X.env) :: starEach [] X.env := by rfl) : PD X CT W (.Call (.Name "int" p) [a] [] pos) (eBlt hInt l) :=
  pd_ty call_int1 ca_int hg hm hv ha (by decide) (by decide) he rfl

/-! ### sum, max, min, any, all -/
def intsOf : List D → Option (List Int)
  | [] => some []
  | .p (.int i) :: r => (intsOf r).map fun l => i :: l
  | _ :: _ => none
theorem intsOf_some : ∀ {ds : List D} {ns : List Int}, intsOf ds = some ns → ds = ns.map fun i => D.p (.int i)
  | [], ns, h => by cases h; rfl
  | .p (.int i) :: r, ns, h => by
    have h : (intsOf r).map (fun l => i :: l) = some ns := h
    cases q : intsOf r with
    | none => rw [q] at h; cases h
    | some l =>
      rw [q] at h
      cases h
      rw [intsOf_some q]
      rfl
  | .p .none :: _, _, h => by cases h
  | .p (.bool _) :: _, _, h => by cases h
  | .p (.str _) :: _, _, h => by cases h
  | .p (.list _) :: _, _, h => by cases h
  | .p (.tuple _) :: _, _, h => by cases h
  | .p (.dict _) :: _, _, h => by cases h
  | .ref _ :: _, _, h => by cases h
  | .bag _ :: _, _, h => by cases h
  | .ro _ :: _, _, h => by cases h
theorem ints_rep {K : PySem.W.Frag} {w : Wd} : ∀ {ns : List Int} {vs : List V}, RDs K w (ns.map fun i => D.p (.int i)) vs → vs = ns.map V.int
  | [], _, h => h
  | n :: ns, _, h => by
    obtain ⟨v, r, rfl, h1, h2⟩ := h
    cases (show v = .int n from h1)
    rw [ints_rep h2]
    rfl
def boolsOf : List D → Option (List Bool)
  | [] => some []
  | .p (.bool i) :: r => (boolsOf r).map fun l => i :: l
  | _ :: _ => none
theorem boolsOf_some : ∀ {ds : List D} {ns : List Bool}, boolsOf ds = some ns → ds = ns.map fun i => D.p (.bool i)
  | [], ns, h => by cases h; rfl
  | .p (.bool i) :: r, ns, h => by
    have h : (boolsOf r).map (fun l => i :: l) = some ns := h
    cases q : boolsOf r with
    | none => rw [q] at h; cases h
    | some l =>
      rw [q] at h
      cases h
      rw [boolsOf_some q]
      rfl
  | .p .none :: _, _, h => by cases h
  | .p (.int _) :: _, _, h => by cases h
  | .p (.str _) :: _, _, h => by cases h
  | .p (.list _) :: _, _, h => by cases h
  | .p (.tuple _) :: _, _, h => by cases h
  | .p (.dict _) :: _, _, h => by cases h
  | .ref _ :: _, _, h => by cases h
  | .bag _ :: _, _, h => by cases h
  | .ro _ :: _, _, h => by cases h
theorem bools_rep {K : PySem.W.Frag} {w : Wd} : ∀ {ns : List Bool} {vs : List V}, RDs K w (ns.map fun i => D.p (.bool i)) vs → vs = ns.map V.bl
  | [], _, h => h
  | n :: ns, _, h => by
    obtain ⟨v, r, rfl, h1, h2⟩ := h
    cases (show v = .bl n from h1)
    rw [bools_rep h2]
    rfl
@[simp] theorem intsOf_map (ns : List Int) : intsOf (ns.map fun i => D.p (.int i)) = some ns := by
  induction ns with
  | nil => rfl
  | cons x r ih => simp [intsOf, ih]
@[simp] theorem boolsOf_map (ns : List Bool) : boolsOf (ns.map fun i => D.p (.bool i)) = some ns := by
  induction ns with
  | nil => rfl
  | cons x r ih => simp [boolsOf, ih]
def hL1 (s : Sto) : List D → Option (List D)
  | [d] => asL s d
  | _ => none
def hSum (ds : List D) (s : Sto) : R D := match (hL1 s ds).bind intsOf with
  | some ns => .ok (.p (.int ns.sum)) s
  | none => .bad
theorem hL1_rep {K : PySem.W.Frag} {w : Wd} {s : Sto} {ds xs : List D} {vs : List V} (m : Sim K CT w s) (r : RDs K w ds vs) (h : hL1 s ds = some xs) : ∃ a us, vs = [.ref a] ∧ SqL K w.H a us ∧ RDs K w xs us := by
  unfold hL1 at h
  split at h
  · obtain ⟨v, rfl, h1⟩ := r.one
    obtain ⟨a, us, rfl, h2, h3⟩ := asL_rep m h1 h
    exact ⟨a, us, rfl, h2, h3⟩
  · cases h
theorem hL1_ints {K : PySem.W.Frag} {w : Wd} {s : Sto} {ds : List D} {ns : List Int} {vs : List V} (m : Sim K CT w s) (r : RDs K w ds vs) (h : (hL1 s ds).bind intsOf = some ns) : ∃ a, vs = [.ref a] ∧ SqL K w.H a (ns.map V.int) := by
  cases q : hL1 s ds with
  | none => rw [q] at h; cases h
  | some xs =>
    rw [q] at h
    obtain ⟨a, us, rfl, h2, h3⟩ := hL1_rep m r q
    rw [intsOf_some h] at h3
    rw [ints_rep h3] at h2
    exact ⟨a, rfl, h2⟩
theorem hL1_bools {K : PySem.W.Frag} {w : Wd} {s : Sto} {ds : List D} {ns : List Bool} {vs : List V} (m : Sim K CT w s) (r : RDs K w ds vs) (h : (hL1 s ds).bind boolsOf = some ns) : ∃ a, vs = [.ref a] ∧ SqL K w.H a (ns.map V.bl) := by
  cases q : hL1 s ds with
  | none => rw [q] at h; cases h
  | some xs =>
    rw [q] at h
    obtain ⟨a, us, rfl, h2, h3⟩ := hL1_rep m r q
    rw [boolsOf_some h] at h3
    rw [bools_rep h3] at h2
    exact ⟨a, rfl, h2⟩
theorem ca_sum {K : PySem.W.Frag} : CaD K CT (rSum K) hSum := by
  intro W w s xs vs Q m r ok
  unfold hSum at ok
  split at ok
  · rename_i ns e
    obtain ⟨a, rfl, h⟩ := hL1_ints m r e
    exact ⟨a, ns, rfl, h, now m ok rfl⟩
  · exact ok.elim
def hAny (ds : List D) (s : Sto) : R D := match (hL1 s ds).bind boolsOf with
  | some bs => .ok (.p (.bool (bs.any _root_.id))) s
  | none => .bad
def hAll (ds : List D) (s : Sto) : R D := match (hL1 s ds).bind boolsOf with
  | some bs => .ok (.p (.bool (bs.all _root_.id))) s
  | none => .bad
theorem ca_any {K : PySem.W.Frag} : CaD K CT (rAny K) hAny := by
  intro W w s xs vs Q m r ok
  unfold hAny at ok
  split at ok
  · rename_i ns e
    obtain ⟨a, rfl, h⟩ := hL1_bools m r e
    exact ⟨a, ns, rfl, h, now m ok rfl⟩
  · exact ok.elim
theorem ca_all {K : PySem.W.Frag} : CaD K CT (rAll K) hAll := by
  intro W w s xs vs Q m r ok
  unfold hAll at ok
  split at ok
  · rename_i ns e
    obtain ⟨a, rfl, h⟩ := hL1_bools m r e
    exact ⟨a, ns, rfl, h, now m ok rfl⟩
  · exact ok.elim
def listMax : List Int → Option Int
  | [] => none
  | x :: r => some (r.foldl max x)
def listMin : List Int → Option Int
  | [] => none
  | x :: r => some (r.foldl min x)
theorem foldl_max_ge : ∀ (r : List Int) (x : Int), x ≤ r.foldl max x ∧ ∀ y ∈ r, y ≤ r.foldl max x
  | [], x => ⟨Int.le_refl x, fun y h => by cases h⟩
  | z :: r, x => by
    obtain ⟨h1, h2⟩ := foldl_max_ge r (max x z)
    refine ⟨by simp only [List.foldl_cons]; omega, fun y h => ?_⟩
    rcases List.mem_cons.mp h with rfl | h
    · simp only [List.foldl_cons]; omega
    · exact h2 y h
theorem foldl_min_le : ∀ (r : List Int) (x : Int), r.foldl min x ≤ x ∧ ∀ y ∈ r, r.foldl min x ≤ y
  | [], x => ⟨Int.le_refl x, fun y h => by cases h⟩
  | z :: r, x => by
    obtain ⟨h1, h2⟩ := foldl_min_le r (min x z)
    refine ⟨by simp only [List.foldl_cons]; omega, fun y h => ?_⟩
    rcases List.mem_cons.mp h with rfl | h
    · simp only [List.foldl_cons]; omega
    · exact h2 y h
theorem foldl_max_mem : ∀ (r : List Int) (x : Int), r.foldl max x = x ∨ r.foldl max x ∈ r
  | [], x => .inl rfl
  | z :: r, x => by
    simp only [List.foldl_cons]
    rcases foldl_max_mem r (max x z) with h | h
    · rw [h]
      by_cases hz : z ≤ x
      · exact .inl (by omega)
      · exact .inr (List.mem_cons.mpr (.inl (by omega)))
    · exact .inr (List.mem_cons_of_mem _ h)
theorem foldl_min_mem : ∀ (r : List Int) (x : Int), r.foldl min x = x ∨ r.foldl min x ∈ r
  | [], x => .inl rfl
  | z :: r, x => by
    simp only [List.foldl_cons]
    rcases foldl_min_mem r (min x z) with h | h
    · rw [h]
      by_cases hz : x ≤ z
      · exact .inl (by omega)
      · exact .inr (List.mem_cons.mpr (.inl (by omega)))
    · exact .inr (List.mem_cons_of_mem _ h)
def hMax (ds : List D) (s : Sto) : R D := match ds with
  | [.p (.int i), .p (.int j)] => .ok (.p (.int (if j > i then j else i))) s
  | _ => match ((hL1 s ds).bind intsOf).bind listMax with
    | some m => .ok (.p (.int m)) s
    | none => .bad
def hMin (ds : List D) (s : Sto) : R D := match ds with
  | [.p (.int i), .p (.int j)] => .ok (.p (.int (if j < i then j else i))) s
  | _ => match ((hL1 s ds).bind intsOf).bind listMin with
    | some m => .ok (.p (.int m)) s
    | none => .bad
theorem ca_max {K : PySem.W.Frag} : CaD K CT (fun xs H Q => (∃ i j, xs = [.int i, .int j] ∧ Q (.int (if j > i then j else i)) H) ∨ rMax K xs H Q) hMax := by
  intro W w s xs vs Q m r ok
  unfold hMax at ok
  split at ok
  · obtain ⟨v, u, rfl, h1, h2⟩ := r.two
    cases (show v = .int _ from h1)
    cases (show u = .int _ from h2)
    exact .inl ⟨_, _, rfl, now m ok rfl⟩
  · split at ok
    · rename_i z e
      cases q : (hL1 s xs).bind intsOf with
      | none => rw [q] at e; cases e
      | some ns =>
        rw [q] at e
        obtain ⟨a, rfl, h⟩ := hL1_ints m r q
        cases ns with
        | nil => cases e
        | cons x ns =>
          have e : some (ns.foldl max x) = some z := e
          cases e
          refine .inr ⟨a, x :: ns, rfl, h, by simp, fun M hM hle => ?_⟩
          have h1 := foldl_max_ge ns x
          have : M = ns.foldl max x := by
            apply Int.le_antisymm
            · rcases List.mem_cons.mp hM with rfl | hM
              · exact h1.1
              · exact h1.2 M hM
            · rcases foldl_max_mem ns x with q | q
              · rw [q]
                exact hle x List.mem_cons_self
              · exact hle _ (List.mem_cons_of_mem _ q)
          rw [this]
          exact now m ok rfl
    · exact ok.elim
theorem ca_min {K : PySem.W.Frag} : CaD K CT (fun xs H Q => (∃ i j, xs = [.int i, .int j] ∧ Q (.int (if j < i then j else i)) H) ∨ rMin K xs H Q) hMin := by
  intro W w s xs vs Q m r ok
  unfold hMin at ok
  split at ok
  · obtain ⟨v, u, rfl, h1, h2⟩ := r.two
    cases (show v = .int _ from h1)
    cases (show u = .int _ from h2)
    exact .inl ⟨_, _, rfl, now m ok rfl⟩
  · split at ok
    · rename_i z e
      cases q : (hL1 s xs).bind intsOf with
      | none => rw [q] at e; cases e
      | some ns =>
        rw [q] at e
        obtain ⟨a, rfl, h⟩ := hL1_ints m r q
        cases ns with
        | nil => cases e
        | cons x ns =>
          have e : some (ns.foldl min x) = some z := e
          cases e
          refine .inr ⟨a, x :: ns, rfl, h, by simp, fun M hM hle => ?_⟩
          have h1 := foldl_min_le ns x
          have : M = ns.foldl min x := by
            apply Int.le_antisymm
            · rcases foldl_min_mem ns x with q | q
              · rw [q]
                exact hle x List.mem_cons_self
              · exact hle _ (List.mem_cons_of_mem _ q)
            · rcases List.mem_cons.mp hM with rfl | hM
              · exact h1.1
              · exact h1.2 M hM
          rw [this]
          exact now m ok rfl
    · exact ok.elim
theorem pd_sum (hc : X.calm = true) (hg : Gl X "sum") (hm : X.mg "sum" = none) (ha : PDA X CT W [a] l) (hv : bootBuiltins "sum" = some (.builtin "sum") := by decide +kernel) (he : starEach [a] X.env = (false, eval a X.env) :: starEach [] X.env := by rfl) : PD X CT W (.Call (.Name "sum" p) [a] [] pos) (eBlt hSum l) :=
  pd_blt (cr_sum hc) ca_sum hg hm hv ha (by decide) (by decide) he rfl
theorem pd_any (hc : X.calm = true) (hg : Gl X "any") (hm : X.mg "any" = none) (ha : PDA X CT W [a] l) (hv : bootBuiltins "any" = some (.builtin "any") := by decide +kernel) (he : starEach [a] X.env = (false, eval a X.env) :: starEach [] X.env := by rfl) : PD X CT W (.Call (.Name "any" p) [a] [] pos) (eBlt hAny l) :=
  pd_blt (cr_any hc) ca_any hg hm hv ha (by decide) (by decide) he rfl
theorem pd_all (hc : X.calm = true) (hg : Gl X "all") (hm : X.mg "all" = none) (ha : PDA X CT W [a] l) (hv : bootBuiltins "all" = some (.builtin "all") := by decide +kernel) (he : starEach [a] X.env = (false, eval a X.env) :: starEach [] X.env := by rfl) : PD X CT W (.Call (.Name "all" p) [a] [] pos) (eBlt hAll l) :=
  pd_blt (cr_all hc) ca_all hg hm hv ha (by decide) (by decide) he rfl
theorem pd_max (hc : X.calm = true) (hg : Gl X "max") (hm : X.mg "max" = none) (ha : PDA X CT W (a :: es) l) (hv : bootBuiltins "max" = some (.builtin "max") := by decide +kernel) (he : starEach (a :: es) X.env = (false, eval a X.env) :: starEach es X.env := by rfl) (hpl : (backTo pos (starEach es X.env)).any (·.1) = false := by rfl) : PD X CT W (.Call (.Name "max" p) (a :: es) [] pos) (eBlt hMax l) :=
  pd_blt (L2.CallR.or (call_max2 hc) (cr_max hc)) ca_max hg hm hv ha (by decide) (by decide) he hpl
theorem pd_min (hc : X.calm = true) (hg : Gl X "min") (hm : X.mg "min" = none) (ha : PDA X CT W (a :: es) l) (hv : bootBuiltins "min" = some (.builtin "min") := by decide +kernel) (he : starEach (a :: es) X.env = (false, eval a X.env) :: starEach es X.env := by rfl) (hpl : (backTo pos (starEach es X.env)).any (·.1) = false := by rfl) : PD X CT W (.Call (.Name "min" p) (a :: es) [] pos) (eBlt hMin l) :=
  pd_blt (L2.CallR.or (call_min2 hc) (cr_min hc)) ca_min hg hm hv ha (by decide) (by decide) he hpl

/-! ### gcd -/
def hGcd : List D → Sto → R D
  | [.p (.int i), .p (.int j)], s => .ok (.p (.int ((Nat.gcd i.natAbs j.natAbs : Nat) : Int))) s
  | _, _ => .bad
theorem ca_gcd : ∀ {K : PySem.W.Frag}, CaD K CT rGcd hGcd := by
  intro K W w s xs vs Q m r ok
  unfold hGcd at ok
  split at ok
  · obtain ⟨v, u, rfl, h1, h2⟩ := r.two
    cases (show v = .int _ from h1)
    cases (show u = .int _ from h2)
    exact ⟨_, _, rfl, now m ok rfl⟩
  · exact ok.elim
theorem pd_gcd (hg : Gl X "gcd") (hm : X.mg "gcd" = some (.builtin "math.gcd")) (ha : PDA X CT W (a :: es) l) (he : starEach (a :: es) X.env = (false, eval a X.env) :: starEach es X.env := by rfl) (hpl : (backTo pos (starEach es X.env)).any (·.1) = false := by rfl) : PD X CT W (.Call (.Name "gcd" p) (a :: es) [] pos) (eBlt hGcd l) :=
  pd_bltG cr_gcd ca_gcd hg hm ha (by decide) he hpl

/-! ### list, tuple -/
def hList (h : Bool) (ds : List D) (s : Sto) : R D := match ds with
  | [d] => match seqOf s d with
    | some xs => newL h xs s
    | none => .bad
  | _ => .bad
def hTuple (ds : List D) (s : Sto) : R D := match ds with
  | [d] => match seqOf s d with
    | some xs => .ok (mkT xs) s
    | none => .bad
  | _ => .bad
theorem ca_list {K : PySem.W.Frag} (h : Bool) : CaD K CT (fun xs H Q => ∃ p ys, xs = [.ref p] ∧ (SqL K H p ys ∨ SqT K H p ys) ∧ ∀ l, H l = none → Q (.ref l) (upd H l (.lst ys))) (hList h) := by
  intro W w s xs vs Q m r ok
  unfold hList at ok
  split at ok
  · split at ok
    · rename_i ds hd
      obtain ⟨v, rfl, h1⟩ := r.one
      obtain ⟨a, us, rfl, h2, h3⟩ := seqOf_rep m h1 hd
      exact ⟨a, us, rfl, h2, fun p hp => newL_ok m hp h3 ok⟩
    · exact ok.elim
  · exact ok.elim
theorem ca_tuple {K : PySem.W.Frag} : CaD K CT (fun xs H Q => ∃ p ys, xs = [.ref p] ∧ ((SqL K H p ys ∧ ∀ l, H l = none → Q (.ref l) (upd H l (.tup ys))) ∨ (SqT K H p ys ∧ Q (.ref p) H))) hTuple := by
  intro W w s xs vs Q m r ok
  unfold hTuple at ok
  split at ok
  · split at ok
    · rename_i ds hd
      obtain ⟨v, rfl, h1⟩ := r.one
      obtain ⟨a, us, rfl, h2, h3⟩ := seqOf_rep m h1 hd
      rcases h2 with h2 | h2
      · exact ⟨a, us, rfl, .inl ⟨h2, fun p hp => newT_ok m hp h3 ok⟩⟩
      · exact ⟨a, us, rfl, .inr ⟨h2, oldT_ok m h2 h3 ok⟩⟩
    · exact ok.elim
  · exact ok.elim
theorem pd_list (h : Bool) (hg : Gl X "list") (hm : X.mg "list" = none) (ha : PDA X CT W [a] l) (hv : bootBuiltins "list" = some (.type "list") := by decide +kernel) (he : starEach [a] X.env = (false, eval a X.env) :: starEach [] X.env := by rfl) : PD X CT W (.Call (.Name "list" p) [a] [] pos) (eBlt (hList h) l) :=
  pd_ty call_list_of (ca_list h) hg hm hv ha (by decide) (by decide) he rfl
theorem pd_tuple (hg : Gl X "tuple") (hm : X.mg "tuple" = none) (ha : PDA X CT W [a] l) (hv : bootBuiltins "tuple" = some (.type "tuple") := by decide +kernel) (he : starEach [a] X.env = (false, eval a X.env) :: starEach [] X.env := by rfl) : PD X CT W (.Call (.Name "tuple" p) [a] [] pos) (eBlt hTuple l) :=
  pd_ty call_tuple_of ca_tuple hg hm hv ha (by decide) (by decide) he rfl
end

/-! ### isinstance of built-in types -/
def kindD (s : Sto) : D → Option String
  | .p .none => some "NoneType"
  | .p (.bool _) => some "bool"
  | .p (.int _) => some "int"
  | .p (.str _) => some "str"
  | .p (.list _) => some "list"
  | .p (.tuple _) => some "tuple"
  | .p (.dict _) => some "dict"
  | .bag _ => some "tuple"
  | .ro _ => some "list"
  | .ref k => match s[k]? with
    | some (.lst _) => some "list"
    | _ => none
theorem kind_rep {K : PySem.W.Frag} {CT : Nat → Addr} {w : Wd} {s : Sto} {d : D} {v : V} {t : String} (m : Sim K CT w s) (r : RD K w d v) (h : kindD s d = some t) : TyX K w.H v (.type t) := by
  have tup : ∀ {a : Addr} {xs : List V}, SqT K w.H a xs → TyX K w.H (.ref a) (.type "tuple") := fun {a xs} q => by
    rcases q with (q | ⟨o, q⟩) | ⟨o, its, n, q, c, _⟩
    · exact .base (.tup q)
    · exact .fTuple q
    · exact .kTuple q c
  have lst : ∀ {a : Addr} {xs : List V}, SqR K w.H a xs → TyX K w.H (.ref a) (.type "list") := fun {a xs} q => by
    rcases q with ⟨o, q⟩ | ⟨o, its, n, q, c, _⟩
    · exact .base (.frz q)
    · exact .kList q c
  cases d with
  | p x =>
    cases x with
    | none => cases h; cases (show v = .non from r); exact .base .non
    | bool b => cases h; cases (show v = .bl b from r); exact .base (.bl b)
    | int b => cases h; cases (show v = .int b from r); exact .base (.int b)
    | str b => cases h; cases (show v = .str b from r); exact .base (.str b)
    | list xs =>
      cases h
      obtain ⟨a, vs, rfl, h1, _⟩ := r
      exact .base (.lst h1.1)
    | tuple xs =>
      cases h
      obtain ⟨a, vs, rfl, h1, _⟩ := r
      exact tup h1
    | dict xs =>
      cases h
      obtain ⟨_, a, rfl, h1, _⟩ := r
      exact .base (.dK h1)
  | bag xs =>
    cases h
    obtain ⟨a, vs, rfl, h1, _⟩ := r
    exact tup h1
  | ro xs =>
    cases h
    obtain ⟨a, vs, rfl, h1, _⟩ := r
    exact lst h1
  | ref k =>
    have h : (match s[k]? with | some (.lst _) => some "list" | _ => none) = some t := h
    obtain ⟨a, h1, rfl⟩ := r
    cases q : s[k]? with
    | none => rw [q] at h; cases h
    | some o =>
      rw [q] at h
      cases o with
      | ins _ _ => cases h
      | lst ds =>
        cases h
        obtain ⟨b, h2, vs, h3, _⟩ := m.ob k _ q
        rw [h1] at h2
        cases h2
        exact .base (.lst h3)
/-- bool is an int -/
def isTy (t : String) (k : String) : Bool := k == t || (t == "int" && k == "bool")
def eIsi (t : String) (f : EV) : EV := fun e s => (f e s).bind fun d s => match kindD s d with
  | some k => .ok (.p (.bool (isTy t k))) s
  | none => .bad
def tyOk (t : String) : Bool := ["NoneType", "bool", "int", "str", "list", "tuple", "dict"].all fun k => kitB k t == some (isTy t k)
theorem kindD_mem {s : Sto} {d : D} {k : String} (h : kindD s d = some k) : k ∈ ["NoneType", "bool", "int", "str", "list", "tuple", "dict"] := by
  cases d with
  | p x => cases x <;> (cases h; simp)
  | bag xs => cases h; simp
  | ro xs => cases h; simp
  | ref j =>
    have h : (match s[j]? with | some (.lst _) => some "list" | _ => none) = some k := h
    cases q : s[j]? with
    | none => rw [q] at h; cases h
    | some o =>
      rw [q] at h
      cases o with
      | ins _ _ => cases h
      | lst ds => cases h; simp
section
variable {X : Cx} {CT : Nat → Addr} {W : XW} {x : Str} {p p2 pos : Pos} {a : Expr} {f : EV} {t : String}
theorem pd_isi (hok : tyOk t = true) (hg : Gl X "isinstance") (hm : X.mg "isinstance" = none) (hg2 : Gl X x) (hm2 : X.mg x = none) (hv2 : bootBuiltins x = some (.type t)) (ha : PD X CT W a f) (hn : x ≠ "__name__" := by decide) (hdb : (x == ("__debug__" : Str)) = false := by decide)
    (hv : bootBuiltins "isinstance" = some (.builtin "isinstance") := by decide +kernel) (he : starEach [a, .Name x p2] X.env = (false, eval a X.env) :: starEach [.Name x p2] X.env := by rfl) (he2 : starEach [.Name x p2] X.env = (false, eval (.Name x p2) X.env) :: starEach [] X.env := by rfl) (hpl : (backTo pos (starEach [.Name x p2] X.env)).any (·.1) = false := by rfl) :
    PD X CT W (.Call (.Name "isinstance" p) [a, .Name x p2] [] pos) (eIsi t f) := by
  refine (pe_callB call_isi hg hm hv (pa_cons ha (pa_cons (pe_bltn (v := .ty t) hg2 hm2 hv2 rfl hn hdb) pa_nil he2) he) (by decide) (by decide) he hpl).imp fun σ H Q q => ?_
  obtain ⟨w, s, e, rfl, m, re, ok⟩ := q
  refine ⟨w, s, e, rfl, m, re, (Ok.bind ok).imp fun d s1 w1 e1 m1 ⟨_, _, ok1⟩ v rv => ?_⟩
  split at ok1
  · rename_i k hk
    have hb : kitB k t = some (isTy t k) := by
      unfold tyOk at hok
      have := List.all_eq_true.mp hok k (kindD_mem hk)
      exact eq_of_beq this
    exact ⟨v, .ty t, .type k, .type t, isTy t k, rfl, .ty t, kind_rep m1 rv hk, kit_ty hb, now m1 ok1 rfl⟩
  · exact ok1.elim
end

/-! ### methods of lists -/
def MeD (K : PySem.W.Frag) (CT : Nat → Addr) (r : V → List V → Hp → VK → Prop) (h : D → List D → Sto → R D) : Prop :=
  ∀ (W : Nat → PyData → Sto → Wd → Prop) (w : Wd) (s : Sto) (x : D) (xs : List D) (v : V) (vs : List V) (Q : VK), Sim K CT w s → RD K w x v → RDs K w xs vs → Ok K CT W w (h x xs s) (fun d s' w' => ∀ v, RD K w' d v → Q v w'.H) → r v vs w.H Q
/-- o.m(..), o a list -/
def eMeL (h : D → List D → Sto → R D) (f : EV) (l : AV) : EV := fun e s => (f e s).bind fun x s => match asL s x with
  | some _ => (l e s).bind fun xs s => h x xs s
  | none => .bad
def hAppend (x : D) (ys : List D) (s : Sto) : R D := match x, ys with
  | .ref k, [y] => match lstAt s k with
    | some xs => if xs.length < sizeLine then .ok (.p .none) (s.set k (.lst (xs ++ [y]))) else .bad
    | none => .bad
  | _, _ => .bad
def hPop (x : D) (ys : List D) (s : Sto) : R D := match x, ys with
  | .ref k, [] => match lstAt s k with
    | some xs => match xs[xs.length - 1]? with
      | some y => .ok y (s.set k (.lst xs.dropLast))
      | none => .bad
    | none => .bad
  | _, _ => .bad
def hInsert (x : D) (ys : List D) (s : Sto) : R D := match x, ys with
  | .ref k, [.p (.int i), y] => match lstAt s k with
    | some xs => if xs.length < sizeLine ∧ 0 ≤ i ∧ i < 2 ^ 63 then .ok (.p .none) (s.set k (.lst (xs.take i.toNat ++ [y] ++ xs.drop i.toNat))) else .bad
    | none => .bad
  | _, _ => .bad
def hExtend (x : D) (ys : List D) (s : Sto) : R D := match x, ys with
  | .ref k, [y] => match lstAt s k with
    | some xs => match asM s y with
      | some zs => if xs.length + zs.length ≤ sizeLine then .ok (.p .none) (s.set k (.lst (xs ++ zs))) else .bad
      | none => match asT y with
        | some zs => if xs.length + zs.length ≤ sizeLine then .ok (.p .none) (s.set k (.lst (xs ++ zs))) else .bad
        | none => .bad
    | none => .bad
  | _, _ => .bad
theorem ext_tup (l : Addr) (us : Array Value) (n : Nat) (b : Addr) (vs : Array Value) (n2 : Nat) (od : Option Addr) (sl : Array (Option Value)) (hs0 : ¬(!us.isEmpty && Builtin.List.listTooLong (us.size + vs.size)) = true) (hs1 : us.size ≤ sizeLine) (hs2 : us.size + vs.size ≤ sizeLine + 1) :
    Meets (Builtin.«list.extend» ⟨[.ref l, .ref b], []⟩) (fun _ R s => s.heap.get? l = some { cls := .type "list", dict := none, data := .seq us n, slots := #[] } ∧ s.heap.get? b = some { cls := .type "tuple", dict := od, data := .seq vs n2, slots := sl } ∧
      R (.ok (.ret Value.none)) { s with heap := s.heap.update l (Obj.mapSeq fun x => x ++ vs), toks := s.toks }) :=
  .of_wp fun prog w A R s h => by
    obtain ⟨hp, g, d, tk, os⟩ := s
    obtain ⟨hl, hb, h⟩ := h
    have f1 := AutoSeq1.idx_int
    have f2 := AutoSeq1.sub_tuple_tuple
    have f3 := AutoSeq1.sub_list_list
    have f4 := AutoSeq1.sub_tuple_list
    have f5 := AutoSeq1.sub_list_tuple
    have hz' : (us ++ vs).size ≤ sizeLine + 1 := by
      rw [Array.size_append]
      exact hs2
    wp_walk using (wpAny_updateSeq hl rfl (hz := hs1) (_hz' := hz')), wpAny_loadPart' hl, wpAny_loadPart' hb
    exact ⟨_, rfl, h⟩
def rExtT (K : PySem.W.Frag) : V → List V → Hp → VK → Prop := fun x vs H Q => ∃ l b xs zs, x = .ref l ∧ vs = [.ref b] ∧ H l = some (.lst xs) ∧ SqT K H b zs ∧ xs.length + zs.length ≤ sizeLine ∧ Q .non (upd H l (.lst (xs ++ zs)))
section
variable {X : Cx} {CT : Nat → Addr} {W : XW} {pos apos cpos : Pos} {o a : Expr} {es : List Expr} {f : EV} {l : AV} {name : Str} {id : String} {r : V → List V → Hp → VK → Prop} {h : D → List D → Sto → R D}
theorem mt_extT : MtM X "list.extend" (rExtT X.K) := by
  intro pins s σ H x vs v us Q I rx rv h
  obtain ⟨l, b, xs, zs, rfl, rfl, hH, hB, hz, q⟩ := h
  cases rx
  obtain ⟨u, rfl, ru⟩ := rv.one
  cases ru
  obtain ⟨z, its, n, r, hl, e⟩ := I.lstM hH
  obtain ⟨its2, r2, ⟨o2, e2, c2, n2, d2⟩, hz2⟩ := I.tuple hB
  have l2 := r2.length
  have hsz : its.toArray.size + its2.toArray.size ≤ sizeLine := by
    rw [List.size_toArray, List.size_toArray]
    omega
  have hlong : ¬ (!its.toArray.isEmpty && Builtin.List.listTooLong (its.toArray.size + its2.toArray.size)) = true := by
    rw [notLongL hsz, Bool.and_false]
    exact Bool.false_ne_true
  obtain ⟨oc, od, dt, osl⟩ := o2
  simp only at c2 d2
  subst c2 d2
  refine call_meets F.slot_list_extend ⟨_, e, rfl⟩ F.entry_list_extend (F.args_list_extend_2 _ _)
    (ext_tup l its.toArray n b its2.toArray n2 od osl hlong (by rw [List.size_toArray]; omega) (by omega)) ⟨e, e2, ?_⟩
  refine ⟨.non, _, I.lset (its' := its ++ its2) hH e (by simp) (r.append r2) ?_, rfl, q⟩
  rw [List.length_append]
  exact hz
theorem me_append {K : PySem.W.Frag} : MeD K CT rAppend hAppend := by
  intro W w s x xs v vs Q m rx rxs ok
  unfold hAppend at ok
  split at ok
  · split at ok
    · rename_i ds hd
      split at ok
      · rename_i hz
        obtain ⟨y, rfl, ry⟩ := rxs.one
        obtain ⟨a, us, rfl, h1, h2, h3⟩ := lstAt_rep m rx hd
        obtain ⟨x, m'⟩ := wr_ok m h1 h2 (h3.append (RDs.sing ry))
        exact ⟨a, us, y, rfl, rfl, h2, by rw [h3.length]; exact hz, ok.get x m' .non rfl⟩
      · exact ok.elim
    · exact ok.elim
  · exact ok.elim
theorem RDs.dropLast {K : PySem.W.Frag} {w : Wd} {xs : List D} {vs : List V} (r : RDs K w xs vs) : RDs K w xs.dropLast vs.dropLast := by
  rw [List.dropLast_eq_take, List.dropLast_eq_take, r.length]
  exact r.take _
theorem me_pop {K : PySem.W.Frag} : MeD K CT rPop hPop := by
  intro W w s x xs v vs Q m rx rxs ok
  unfold hPop at ok
  split at ok
  · split at ok
    · rename_i ds hd
      split at ok
      · rename_i y hy
        obtain ⟨a, us, rfl, h1, h2, h3⟩ := lstAt_rep m rx hd
        obtain ⟨u, h4, h5⟩ := h3.get hy
        obtain ⟨x, m'⟩ := wr_ok m h1 h2 h3.dropLast
        exact ⟨a, us, u, rfl, rxs, h2, by rw [h3.length]; exact h4, ok.get x m' u (RD.ext x _ _ h5)⟩
      · exact ok.elim
    · exact ok.elim
  · exact ok.elim
theorem me_insert {K : PySem.W.Frag} : MeD K CT (fun x vs H Q => ∃ (l : Addr) (xs : List V) (i : Int) (y : V), x = .ref l ∧ vs = [.int i, y] ∧ H l = some (.lst xs) ∧ xs.length < sizeLine ∧ 0 ≤ i ∧ i < 2 ^ 63 ∧ Q .non (upd H l (.lst (xs.take i.toNat ++ [y] ++ xs.drop i.toNat)))) hInsert := by
  intro W w s x xs v vs Q m rx rxs ok
  unfold hInsert at ok
  split at ok
  · split at ok
    · rename_i ds hd
      split at ok
      · rename_i hz
        obtain ⟨vi, y, rfl, ri, ry⟩ := rxs.two
        cases (show vi = .int _ from ri)
        obtain ⟨a, us, rfl, h1, h2, h3⟩ := lstAt_rep m rx hd
        obtain ⟨x, m'⟩ := wr_ok m h1 h2 (((h3.take _).append (RDs.sing ry)).append (h3.drop _))
        exact ⟨a, us, _, y, rfl, rfl, h2, by rw [h3.length]; exact hz.1, hz.2.1, hz.2.2, ok.get x m' .non rfl⟩
      · exact ok.elim
    · exact ok.elim
  · exact ok.elim
theorem me_extend {K : PySem.W.Frag} : MeD K CT (fun x vs H Q => rExtend x vs H Q ∨ rExtT K x vs H Q) hExtend := by
  intro W w s x xs v vs Q m rx rxs ok
  unfold hExtend at ok
  split at ok
  · split at ok
    · rename_i ds hd
      obtain ⟨y, rfl, ry⟩ := rxs.one
      obtain ⟨a, us, rfl, h1, h2, h3⟩ := lstAt_rep m rx hd
      have l3 := h3.length
      split at ok
      · rename_i zs hzs
        split at ok
        · rename_i hz
          obtain ⟨b, ws, rfl, h4, h5⟩ := asM_rep m ry hzs
          have l5 := h5.length
          obtain ⟨x, m'⟩ := wr_ok m h1 h2 (h3.append h5)
          exact .inl ⟨a, b, us, ws, rfl, rfl, h2, h4, by omega, ok.get x m' .non rfl⟩
        · exact ok.elim
      · split at ok
        · rename_i zs hzs
          split at ok
          · rename_i hz
            obtain ⟨b, ws, rfl, h4, h5⟩ := asT_rep ry hzs
            have l5 := h5.length
            obtain ⟨x, m'⟩ := wr_ok m h1 h2 (h3.append h5)
            exact .inr ⟨a, b, us, ws, rfl, rfl, h2, h4, by omega, ok.get x m' .non rfl⟩
          · exact ok.elim
        · exact ok.elim
    · exact ok.elim
  · exact ok.elim
theorem pd_meL (slot : Slot "list" name id) (hty : typeOf (.builtin id) = pure (.type "method_descriptor")) (hm : MtR X id r) (hr : MeD X.K CT r h) (ho : PD X CT W o f) (ha : PDA X CT W (a :: es) l)
    (hbase : attributeBase o name X.env (eval o X.env) = eval o X.env := by rfl)
    (hfew : ((backTo cpos (starEach (a :: es) X.env)).all (fun x => !x.1) && (backToKw cpos (keywordEach [] X.env)).all (fun x => x.1.isSome)
      && decide ((a :: es).length + ([] : List Keyword).length + (if ([] : List Keyword).isEmpty then 0 else 1) < 30)) = true := by rfl)
    (hline : (apos.endLine == cpos.line) = true := by rfl) (hs : starEach (a :: es) X.env = (false, eval a X.env) :: starEach es X.env := by rfl) (hplain : (backTo cpos (starEach es X.env)).any (·.1) = false := by rfl) :
    PD X CT W (.Call (.Attribute o name apos) (a :: es) [] cpos) (eMeL h f l) := by
  refine (pe_bm PySem.F.plainAttrs_list slot hty hm ho ha hbase hfew hline hs hplain).imp fun σ H Q q => ?_
  obtain ⟨w, s, e, rfl, m, re, ok⟩ := q
  refine ⟨w, s, e, rfl, m, re, (Ok.bind ok).imp fun d s1 w1 e1 m1 ⟨_, _, ok1⟩ v rv => ?_⟩
  split at ok1
  · rename_i ds hd
    obtain ⟨p, vs, rfl, h1, h2⟩ := asL_rep m1 rv hd
    refine ⟨.inl ⟨rfl, vs, h1⟩, w1, s1, e, rfl, m1, re.ext e1, (Ok.bind ok1).imp fun xs s2 w2 e2 m2 ⟨_, _, ok2⟩ us rus => ?_⟩
    exact hr _ w2 s2 d xs _ us Q m2 (RD.ext e2 _ _ rv) rus ok2
  · exact ok1.elim
theorem pd_meL0 (slot : Slot "list" name id) (hty : typeOf (.builtin id) = pure (.type "method_descriptor")) (hm : MtR X id r) (hr : MeD X.K CT r h) (ho : PD X CT W o f)
    (hbase : attributeBase o name X.env (eval o X.env) = eval o X.env := by rfl) (hline : (apos.endLine == cpos.line) = true := by rfl) : PD X CT W (.Call (.Attribute o name apos) [] [] cpos) (eMeL h f aNil) := by
  refine (pe_bm0 PySem.F.plainAttrs_list slot hty hm ho hbase hline).imp fun σ H Q q => ?_
  obtain ⟨w, s, e, rfl, m, re, ok⟩ := q
  refine ⟨w, s, e, rfl, m, re, (Ok.bind ok).imp fun d s1 w1 e1 m1 ⟨_, _, ok1⟩ v rv => ?_⟩
  split at ok1
  · rename_i ds hd
    obtain ⟨p, vs, rfl, h1, h2⟩ := asL_rep m1 rv hd
    exact ⟨.inl ⟨rfl, vs, h1⟩, hr _ w1 s1 d [] _ [] Q m1 rv rfl ok1⟩
  · exact ok1.elim
theorem pd_append (ho : PD X CT W o f) (ha : PDA X CT W [a] l)
    (hbase : attributeBase o "append" X.env (eval o X.env) = eval o X.env := by rfl)
    (hfew : ((backTo cpos (starEach [a] X.env)).all (fun x => !x.1) && (backToKw cpos (keywordEach [] X.env)).all (fun x => x.1.isSome)
      && decide ([a].length + ([] : List Keyword).length + (if ([] : List Keyword).isEmpty then 0 else 1) < 30)) = true := by rfl)
    (hline : (apos.endLine == cpos.line) = true := by rfl) (hs : starEach [a] X.env = (false, eval a X.env) :: starEach [] X.env := by rfl) : PD X CT W (.Call (.Attribute o "append" apos) [a] [] cpos) (eMeL hAppend f l) :=
  pd_meL PySem.F.slot_list_append PySem.F.type_list_append mt_append me_append ho ha hbase hfew hline hs rfl
theorem pd_pop (ho : PD X CT W o f) (hbase : attributeBase o "pop" X.env (eval o X.env) = eval o X.env := by rfl) (hline : (apos.endLine == cpos.line) = true := by rfl) : PD X CT W (.Call (.Attribute o "pop" apos) [] [] cpos) (eMeL hPop f aNil) :=
  pd_meL0 PySem.F.slot_list_pop PySem.F.type_list_pop mt_pop me_pop ho hbase hline
theorem pd_extend (ho : PD X CT W o f) (ha : PDA X CT W [a] l)
    (hbase : attributeBase o "extend" X.env (eval o X.env) = eval o X.env := by rfl)
    (hfew : ((backTo cpos (starEach [a] X.env)).all (fun x => !x.1) && (backToKw cpos (keywordEach [] X.env)).all (fun x => x.1.isSome)
      && decide ([a].length + ([] : List Keyword).length + (if ([] : List Keyword).isEmpty then 0 else 1) < 30)) = true := by rfl)
    (hline : (apos.endLine == cpos.line) = true := by rfl) (hs : starEach [a] X.env = (false, eval a X.env) :: starEach [] X.env := by rfl) : PD X CT W (.Call (.Attribute o "extend" apos) [a] [] cpos) (eMeL hExtend f l) :=
  pd_meL PySem.F.slot_list_extend PySem.F.type_list_extend (MtR.or mt_extend mt_extT) me_extend ho ha hbase hfew hline hs rfl
theorem pd_insert (ho : PD X CT W o f) (ha : PDA X CT W (a :: es) l)
    (hbase : attributeBase o "insert" X.env (eval o X.env) = eval o X.env := by rfl)
    (hfew : ((backTo cpos (starEach (a :: es) X.env)).all (fun x => !x.1) && (backToKw cpos (keywordEach [] X.env)).all (fun x => x.1.isSome)
      && decide ((a :: es).length + ([] : List Keyword).length + (if ([] : List Keyword).isEmpty then 0 else 1) < 30)) = true := by rfl)
    (hline : (apos.endLine == cpos.line) = true := by rfl) (hs : starEach (a :: es) X.env = (false, eval a X.env) :: starEach es X.env := by rfl) (hplain : (backTo cpos (starEach es X.env)).any (·.1) = false := by rfl) : PD X CT W (.Call (.Attribute o "insert" apos) (a :: es) [] cpos) (eMeL hInsert f l) :=
  pd_meL PySem.F.slot_list_insert PySem.F.type_list_insert mt_insert me_insert ho ha hbase hfew hline hs hplain
end
end Dl
/-! The data layer: defs of the text, the end of a law. -/
namespace Dl
open PySem PySem.Spec PyProof.Rows L2

/-- a def of the text as it stands behind the top -/
structure Df (K : PySem.W.Frag) (mg : Str → Option Value) (x : Str) (st : Stmt) (hd : Bool) (f : Addr) (fd : FuncData) : Prop where
  ex : ∃ (oc : Value) (od : Option Addr) (dV kV doc pm : Value) (an : Option Addr) (cdv ct : Value) (osl : Array (Option Value)),
    fd = PySem.W.fnOf x x (defArgs st) (defBody st) (defScope st) dV kV doc pm an cdv ct ∧ K.lookup f = some ⟨oc, od, .func fd, osl⟩ ∧ PySem.W.codeIn K cdv x = true ∧ (hd = false → dV = .none)
  kp : PySem.W.keepIn K (.ref f) = true
  gl : mg x = some (.ref f)
theorem Df.ok {P : Program} {w : World} {K : PySem.W.Frag} {mg : Str → Option Value} {base : Heap} {CT : Nat → Addr} {T : ExT} {k : Nat} {x : Str} {st : Stmt} {hd : Bool} {f : Addr} {fd : FuncData} {N ps : List Str} {b : SV}
    (F : Df K mg x st hd f fd) (S : FnScope N ps (defScope st))
    (body : ∀ (cdv : Value) (A : Around) (fr : List Env) (s : Shared) (H : Hp) (E : XK) (W : XW), Bd (cxOf (L2.CX P w) P w K mg base N x (defScope st) f cdv A fr s H E) CT T W k → PDB (cxOf (L2.CX P w) P w K mg base N x (defScope st) f cdv A fr s H E) CT W (defBody st) b) :
    FnG P w K mg base (k + 1) f fd ps (spG K CT T ps.length (runB N.length b)) := by
  obtain ⟨oc, od, dV, kV, doc, pm, an, cdv, ct, osl, rfl, lk, hcd, hz⟩ := F.ex
  exact fnG_of lk hcd S (fun w s ds Q E _ h => h) fun A fr s H E W B => body cdv A fr s H E W B
/-- the same for a def that leaves nothing behind -/
theorem Df.okL {P : Program} {w : World} {K : PySem.W.Frag} {mg : Str → Option Value} {base : Heap} {CT : Nat → Addr} {T : ExT} {k : Nat} {x : Str} {st : Stmt} {hd : Bool} {f : Addr} {fd : FuncData} {N ps : List Str} {b : SV}
    (F : Df K mg x st hd f fd) (S : FnScope N ps (defScope st))
    (body : ∀ (cdv : Value) (A : Around) (fr : List Env) (s : Shared) (H : Hp) (E : XK) (W : XW), Bd (cxOf (L2.CX P w) P w K mg base N x (defScope st) f cdv A fr s H E) CT T W k → PDB (cxOf (L2.CX P w) P w K mg base N x (defScope st) f cdv A fr s H E) CT W (defBody st) b) :
    FnG P w K mg base (k + 1) f fd ps (spG K CT T ps.length fun ds s => leave s (runB N.length b ds s)) := by
  obtain ⟨oc, od, dV, kV, doc, pm, an, cdv, ct, osl, rfl, lk, hcd, hz⟩ := F.ex
  refine fnG_of lk hcd S (fun w s ds Q E m h => leave_ok m (fun c x s1 w1 s2 w2 l hx m2 q _ cls d hE => ?_) h) fun A fr s H E W B => body cdv A fr s H E W B
  obtain ⟨e1, dd, v, e2, e3, e4⟩ := hE
  have := q m2 cls d ⟨e1, dd, v, e2, by rw [l.H]; exact e3, hx v e4⟩
  rw [l.H] at this
  exact this
/-- how its arguments bind, none left out -/
theorem Df.binds {K : PySem.W.Frag} {mg : Str → Option Value} {x : Str} {st : Stmt} {f : Addr} {fd : FuncData} {ps : List Str} (F : Df K mg x st false f fd)
    (h : ∀ (kV doc pm : Value) (an : Option Addr) (cdv ct : Value) (us : List Value), us.length = ps.length → bindArgs (PySem.W.fnOf x x (defArgs st) (defBody st) (defScope st) .none kV doc pm an cdv ct) ⟨us, []⟩ = pure (ps.zip us)) : Binds K fd ps [] := by
  obtain ⟨oc, od, dV, kV, doc, pm, an, cdv, ct, osl, rfl, lk, hcd, hz⟩ := F.ex
  cases hz rfl
  exact .all (h kV doc pm an cdv ct)

/-! ### the end -/
theorem lawG {P : Program} {w : World} {K : PySem.W.Frag} {mg mb : Str → Option Value} {k : Nat} {fa a : Addr} {fd : FuncData} {x : Str} {sp : Sp} {s1 : Shared} {vs : List Value} {ns : List Int}
    (inK : K.In s1.heap) (gm : s1.heap.Ns mainGlobals mg) (bm : s1.heap.Ns builtinsNs mb) (bb : ∀ x : Str, x ≠ "__name__" → mb x = bootBuiltins x) (lim : s1.heap.NoLimit) (gens : s1.gens = #[])
    (oa : s1.heap.get? a = some { cls := .type "list", data := .seq vs.toArray }) (ia : IntsAre vs ns) (la : ns.length ≤ sizeLine) (room : RoomG k callerA)
    (F : ∀ base : Heap, K.In base → base.Ns mainGlobals mg → FnG P w K mg base k fa fd [x] sp) (bind : ∀ (s : Shared) (u : Value), BindsTo s fd ⟨[u], []⟩ [(x, u)])
    (want : ∀ H : Hp, SqR K H a (ns.map V.int) → sp [.ref a] H (fun v _ => v = .bl true) fun _ _ _ => False) :
    codeAny (model P w) callerA (.call (.ref fa) ⟨[.ref a], []⟩) (fun r s' => r = .ok (.ret (.bool true)) ∧ OldK s1.heap s'.heap ∧ s'.os = s1.os ∧ AllBare s'.gens) s1 := by
  have rv : Vals (ns.map V.int) vs := vals_ints ia
  have lv : ns.length = vs.length := ia.length.symm
  -- the abstract heap: the script alone, where the written part does not hold it
  have key : ∀ H : Hp, SqR K H a (ns.map V.int) → (∀ b, H b = none ∨ ∃ o ys, H b = some (.frz o (.lst ys))) → (∀ b, H b ≠ none → b = a ∧ K.lookup a = none) → HOk P w H s1.heap →
      codeAny (model P w) callerA (.call (.ref fa) ⟨[.ref a], []⟩) (fun r s' => r = .ok (.ret (.bool true)) ∧ OldK s1.heap s'.heap ∧ s'.os = s1.os ∧ AllBare s'.gens) s1 := by
    intro H hS only mine hok
    have free : ∀ {b : Addr} {o : Obj}, K.lookup b = some o → H b = none := fun {b o} e => by
      cases q : H b with
      | none => rfl
      | some u =>
        obtain ⟨rfl, z⟩ := mine b (by rw [q]; exact fun z => nomatch z)
        rw [z] at e
        cases e
    have dicts : ∀ {b : Addr} {m : Str → Option Value}, s1.heap.Ns b m → (hidT s1.heap H).Ns b m := fun {b m} ⟨o, es, ep, e, d, r⟩ => by
      have hb : H b = none := by
        cases q : H b with
        | none => rfl
        | some u =>
          obtain ⟨rfl, _⟩ := mine b (by rw [q]; exact fun z => nomatch z)
          rw [oa] at e
          cases e
          cases d
      exact ⟨o, es, ep, hidT_get e hb, d, r⟩
    have hidden : K.In (hidT s1.heap H) := fun b o e => hidT_get (inK b o e) (free e)
    have md : Mod K mg (hidT s1.heap H) := ⟨hidden, dicts gm, ⟨mb, dicts bm, bb⟩, by
      obtain ⟨mc, h1, h2⟩ := lim
      exact ⟨mc, dicts h1, h2⟩⟩
    have env : Env0 P w K mg (hidT s1.heap H) callerA [] s1 H := ⟨rfl, md, fun b o e => of_hidT e, Nat.le_of_eq (hidT_size _ _), trivial, fun b hb => (List.not_mem_nil hb).elim, hok, .of_eq gens⟩
    have go := (F _ hidden (dicts gm)).run callerA [] s1 H ⟨[.ref a], []⟩ [.ref a] [.ref a] _ _ room env (bind s1 (.ref a)) (.cons rfl .nil) (want H hS)
    refine codeAny_mono go fun r s' h => ?_
    rcases r with e | (_ | _ | _ | u)
    · obtain ⟨_, _, _, _, _, _, _, _, _, _, _, _, z⟩ := h
      exact z.elim
    all_goals first | exact False.elim h | skip
    obtain ⟨v, H', os, bare, un, hok', r', q⟩ := h
    have q : v = .bl true := q
    subst q
    cases (show u = Value.bool true from r')
    refine ⟨rfl, OldK.of_keep fun b o e => ?_, os, bare⟩
    rcases only b with z | ⟨ob, ys, z⟩
    · exact un.keep b o e z (fun hm => (List.not_mem_nil hm).elim) (fun hm => (List.not_mem_nil hm).elim)
    · have z2 := un.frzs b ob _ z
      obtain ⟨e1, _⟩ := hok b _ z
      obtain ⟨e2, _⟩ := hok' b _ z2
      rw [e] at e1
      cases e1
      exact e2
  cases hk : K.lookup a with
  | some o =>
    have e := inK a o hk
    rw [oa] at e
    cases e
    exact key (fun _ => none) (.inr ⟨_, vs.toArray, _, hk, rfl, rfl, rfl, by rw [List.size_toArray, ← lv]; exact la, by simpa using rv⟩) (fun _ => .inl rfl) (fun b h => absurd rfl h) (fun b u z => by
      have z' : (none : Option HO) = some u := z
      cases z')
  | none =>
    refine key (upd (fun _ => none) a (.frz { cls := .type "list", data := .seq vs.toArray } (.lst (ns.map V.int)))) (.inl ⟨_, upd_same⟩) (fun b => ?_) (fun b h => ?_) (fun b u z => ?_)
    · by_cases hb : b = a
      · subst hb
        exact .inr ⟨_, _, upd_same⟩
      · exact .inl (by rw [upd_ne hb])
    · by_cases hb : b = a
      · exact ⟨hb, hk⟩
      · rw [upd_ne hb] at h
        exact absurd rfl h
    · by_cases hb : b = a
      · subst hb
        rw [upd_same] at z
        cases z
        exact ⟨oa, by rw [List.length_map]; exact la, vs, _, rv, oa⟩
      · rw [upd_ne hb] at z
        cases z
theorem walkG {l : PySem.W.OpenLaw} {n k : Nat} {q : Program} {loose : List Str} {XP : (Str → Option Value) → Heap → Prop} {YP : World → Heap → Prop} {d : DefRec} {K : Params → PySem.W.Frag} {sp : World → Sp} {x : Str}
    (hn : l.most = some n) (hn2 : n ≤ sizeLine) (hdf : d.params.defaults = []) (room : RoomG k callerA) (hY : ∀ (w : World) (h : Heap), YP w h → (K w.params).In h)
    (F : ∀ (w : World) (mg : Str → Option Value) (fa : Addr) (h : Heap), (K w.params).In h → h.Ns mainGlobals mg → mg d.name = some (.ref fa) →
      ∃ fd : FuncData, (∀ (s : Shared) (u : Value), BindsTo s fd ⟨[u], []⟩ [(x, u)]) ∧ ∀ base : Heap, (K w.params).In base → base.Ns mainGlobals mg → FnG l.prog w (K w.params) mg base k fa fd [x] (sp w))
    (want : ∀ (w : World) (H : Hp) (a : Addr) (ns : List Int), ns.length ≤ n → SqR (K w.params) H a (ns.map V.int) → sp w [.ref a] H (fun v _ => v = .bl true) fun _ _ _ => False) :
    PySem.W.WalkO q loose XP YP l.row.toRowW d [] (fun f vs => PySem.call f vs) := by
  refine Att.attach_call hn hdf fun w s0 s1 mg mb fa o pm cd doc a vs ns G Y ho hd hcd gl oa ia la gens => ?_
  have inK := hY w _ Y
  obtain ⟨fd, hb, hF⟩ := F w mg fa _ inK G.T.g gl
  exact lawG inK G.T.g G.T.b G.T.builtins G.T.nolimit gens oa ia (Nat.le_trans la hn2) room hF hb fun H hS => want w H a ns la hS
/-- the law's promise, by its function on data -/
theorem law_want {K : PySem.W.Frag} {CT : Nat → Addr} {T : ExT} {f : List D → Sto → R D} {H : Hp} {a : Addr} {ns : List Int} (hS : SqR K H a (ns.map V.int)) (h : ∃ s, f [.ro (ns.map PyData.int)] [] = .ok (.p (.bool true)) s) :
    spG K CT T 1 f [.ref a] H (fun v _ => v = .bl true) fun _ _ _ => False := by
  obtain ⟨s, h⟩ := h
  refine ⟨⟨[], fun _ => False, fun _ => False, H⟩, [], [.ro (ns.map PyData.int)], rfl, ⟨rfl, List.nodup_nil, fun a ha => (List.not_mem_nil ha).elim, fun _ h => h.elim, fun _ h => h.elim, fun _ h => h.elim, fun k o hk => by simp at hk⟩, ⟨_, [], rfl, ⟨a, _, rfl, hS, ?_⟩, rfl⟩, rfl, ?_⟩
  · clear h hS
    induction ns with
    | nil => rfl
    | cons n ns ih => exact ⟨.int n, _, rfl, rfl, ih⟩
  · rw [h]
    exact fun w' _ _ v rv => rv
end Dl
/-! The data layer: short words for the printer. -/
namespace Dl
open PySem PySem.Spec PyProof.Rows L2
section
variable {X : Cx} {CT : Nat → Addr} {T : ExT} {W : XW} {k : Nat} {pos : Pos} {a b c : Expr} {f g h : EV}
theorem pt_eq (B : Bd X CT T W k) (ha : PD X CT W a f) (hb : PD X CT W b g) : PDT X CT W (.Compare a [.Eq] [b] pos) (tB (eOp hEq f g)) := pt_b (op_eq.or (op_eqD (by have := B.hu; omega))) opd_eq ha hb
theorem pt_ne (B : Bd X CT T W k) (ha : PD X CT W a f) (hb : PD X CT W b g) : PDT X CT W (.Compare a [.NotEq] [b] pos) (tB (eOp hNe f g)) := pt_b (op_ne.or (op_neD (by have := B.hu; omega))) opd_ne ha hb
theorem pt_lt (ha : PD X CT W a f) (hb : PD X CT W b g) : PDT X CT W (.Compare a [.Lt] [b] pos) (tB (eOp hLt f g)) := pt_b op_lt (opd_intB _) ha hb
theorem pt_le (ha : PD X CT W a f) (hb : PD X CT W b g) : PDT X CT W (.Compare a [.LtE] [b] pos) (tB (eOp hLe f g)) := pt_b op_le (opd_intB _) ha hb
theorem pt_gt (ha : PD X CT W a f) (hb : PD X CT W b g) : PDT X CT W (.Compare a [.Gt] [b] pos) (tB (eOp hGt f g)) := pt_b op_gt (opd_intB _) ha hb
theorem pt_ge (ha : PD X CT W a f) (hb : PD X CT W b g) : PDT X CT W (.Compare a [.GtE] [b] pos) (tB (eOp hGe f g)) := pt_b op_ge (opd_intB _) ha hb
theorem pt_in (B : Bd X CT T W k) (ha : PD X CT W a f) (hb : PD X CT W b g) (hm : behindInMarks .In b = false := by rfl) : PDT X CT W (.Compare a [.In] [b] pos) (tB (eOp hIn f g)) := pt_b (op_in_str.or (op_in_seq.or (op_inD B.hu))) opd_in ha hb hm
theorem pt_notIn (B : Bd X CT T W k) (ha : PD X CT W a f) (hb : PD X CT W b g) (hm : behindInMarks .NotIn b = false := by rfl) : PDT X CT W (.Compare a [.NotIn] [b] pos) (tB (eOp hNotIn f g)) := pt_b (op_notin_str.or (op_notIn_seq.or (op_notInD B.hu))) opd_notIn ha hb hm
theorem pt_is (ha : PD X CT W a f) (hb : PD X CT W b g) : PDT X CT W (.Compare a [.Is] [b] pos) (tB (eOp hIs f g)) := pt_b (op_isN.or op_isBl) opd_is ha hb
theorem pt_isNot (ha : PD X CT W a f) (hb : PD X CT W b g) : PDT X CT W (.Compare a [.IsNot] [b] pos) (tB (eOp hIsNot f g)) := pt_b (op_notN.or op_notBl) opd_isNot ha hb
theorem pt_leLt (ha : PD X CT W a f) (hb : PD X CT W b g) (hc : PD X CT W c h) (hm : lastMarks [.LtE, .Lt] [b, c] = false := by with_unfolding_all rfl) : PDT X CT W (.Compare a [.LtE, .Lt] [b, c] pos) (tB (eChain hLe hLt f g h)) := pt_chainD op_le op_lt (opd_intB _) (opd_intB _) ha hb hc hm
theorem pt_leLe (ha : PD X CT W a f) (hb : PD X CT W b g) (hc : PD X CT W c h) (hm : lastMarks [.LtE, .LtE] [b, c] = false := by with_unfolding_all rfl) : PDT X CT W (.Compare a [.LtE, .LtE] [b, c] pos) (tB (eChain hLe hLe f g h)) := pt_chainD op_le op_le (opd_intB _) (opd_intB _) ha hb hc hm
theorem pt_w {e : Expr} {p : TV} (h : PDW X CT W e p) : PDT X CT W e p := h.pt

/-- a, b = x, y (plain local names, stored from the right) -/
def sPar (i j : Nat) (l : AV) : SV := fun e s => (l e s).toS e fun ds s => match ds with
  | [x, y] => .nx ((e.set i (some x)).set j (some y)) s
  | _ => .bad
theorem ps_parD (i j : Nat) {x y : Str} {l : AV} {px py pt : Pos} {kt k2 pt2} (B : Bd X CT T W k) (ha : PDA X CT W [a, b] l) (hij : i ≠ j := by decide) (hi : X.N[i]? = some x := by rfl) (hj : X.N[j]? = some y := by rfl)
    (hx : X.env.scope.names.lookup x = some .local := by rfl) (hy : X.env.scope.names.lookup y = some .local := by rfl)
    (hw : swappedStores [.Tuple [.Name x px, .Name y py] kt pt] (.Tuple [a, b] k2 pt2) X.env = pure (some [x, y]) := by rfl)
    (hs : swapsWithSole [.Tuple [.Name x px, .Name y py] kt pt] (.Tuple [a, b] k2 pt2) pos.line X.env = pure false := by rfl) :
    PDS X CT W (.Assign [.Tuple [.Name x px, .Name y py] kt pt] (.Tuple [a, b] k2 pt2) pos) (sPar i j l) := by
  refine (ps_par B.calm B.nd hi hj hij hx hy ha hw hs).imp fun D σ H q => ?_
  obtain ⟨w, s, e, rfl, m, re, ok⟩ := q
  refine ⟨w, s, e, rfl, m, re, (OkS.toS re ok).imp fun ds s1 w1 e1 m1 ⟨_, _, ok1⟩ vs rvs => ?_⟩
  split at ok1
  · obtain ⟨v, u, rfl, h1, h2⟩ := rvs.two
    exact ⟨v, u, rfl, ok1 w1 _ Ext.refl m1 (((re.ext e1).set i h1).set j h2)⟩
  · exact ok1.elim
/-- op= of ints, of texts -/
def hIAdd : D → D → Sto → R D
  | .p (.int i), .p (.int j), s => .ok (.p (.int (i + j))) s
  | .p (.str x), .p (.str y), s => if x.length + y.length ≤ sizeLine then .ok (.p (.str (x ++ y))) s else .bad
  | _, _, _ => .bad
theorem opd_iadd {K : PySem.W.Frag} : OpD K CT (fun x y H Q => rI0 (fun i j => .int (i + j)) x y H Q ∨ rStrAdd x y H Q) hIAdd := by
  intro W w s x y vx vy Q m rx ry ok
  unfold hIAdd at ok
  split at ok
  · exact .inl ⟨_, _, rx, ry, now m ok rfl⟩
  · split at ok
    · rename_i hz
      exact .inr ⟨_, _, rx, ry, hz, now m ok rfl⟩
    · exact ok.elim
  · exact ok.elim
theorem op_iaddD : OpR X (inplaceOp .Add) (fun x y H Q => rI0 (fun i j => .int (i + j)) x y H Q ∨ rStrAdd x y H Q) := iop_add.or iop_add_str
theorem op_isubD : OpR X (inplaceOp .Sub) (rI0 fun i j => .int (i - j)) := iop_sub
theorem opd_isub {K : PySem.W.Frag} : OpD K CT (rI0 fun i j => .int (i - j)) hSub := opd_int0 _
theorem pi_range3' {tg : Expr} {p : Pos} {f g h : EV} (hg : Gl X "range") (hm : X.mg "range" = none) (ha : PD X CT W a f) (hb : PD X CT W b g) (hc : PD X CT W c h) (hs : starEach [a, b, c] X.env = (false, eval a X.env) :: starEach [b, c] X.env := by rfl) (hs2 : starEach [b, c] X.env = (false, eval b X.env) :: starEach [c] X.env := by rfl) (hs3 : starEach [c] X.env = (false, eval c X.env) :: starEach [] X.env := by rfl) (hpl : (backTo pos (starEach [b, c] X.env)).any (·.1) = false := by rfl) :
    PDI X CT W tg (.Call (.Name "range" p) [a, b, c] [] pos) (iRange3 f g h) := pi_range3D hg hm ha hb hc (fun t ht => pi_range3 hg hm ht hs hpl) hs hs2 hs3
end
end Dl
/-! The data layer: repr. -/
namespace Dl
open PySem PySem.Spec PyProof.Rows L2
def isSq : PyData → Bool
  | .list _ => true
  | .tuple _ => true
  | _ => false
def reprOk (x : PyData) : Bool := isSq x && (x.canLay0 && (x.showable && (decide (x.depth ≤ 60) && decide (x.shown.length ≤ sizeLine))))
def hRepr : List D → Sto → R D
  | [.p .none], s => .ok (.p (.str PyData.none.shown)) s
  | [.p (.int i)], s => if i.natAbs.log2 < 1920 then .ok (.p (.str (PyData.int i).shown)) s else .bad
  | [d], s => match toP s d with
    | some x => if reprOk x then .ok (.p (.str x.shown)) s else .bad
    | none => .bad
  | _, _ => .bad
def rReprD (K : PySem.W.Frag) : List V → Hp → VK → Prop := fun xs H Q => ∃ v x, xs = [v] ∧ ((v = .non ∧ x = .none) ∨ (∃ i, v = .int i ∧ x = .int i ∧ i.natAbs.log2 < 1920) ∨ (Dp K H v x ∧ reprOk x = true)) ∧ Q (.str x.shown) H
section
variable {X : Cx} {CT : Nat → Addr} {T : ExT} {W : XW} {k : Nat} {p pos : Pos} {a : Expr} {l : AV}
theorem call_reprD (hg : X.A.guards = some []) (hu : X.A.units + 65 < cLine) : CallR X (.builtin "repr") (rReprD X.K) := by
  intro pins s σ H xs us Q I r h
  obtain ⟨v, x, rfl, ⟨rfl, rfl⟩ | ⟨i, rfl, rfl, hi⟩ | ⟨dp, ok⟩, q⟩ := h
  · obtain ⟨u, rfl, rel⟩ := vals1 r
    cases rel
    exact PySem.P.repr_of_none ⟨.str _, H, I.tok _, ⟨_, rfl⟩, q⟩
  · obtain ⟨u, rfl, t, rfl⟩ := vals1 r
    exact PySem.P.repr_of_int hi ⟨.str _, H, I.tok _, ⟨_, rfl⟩, q⟩
  obtain ⟨u, rfl, rel⟩ := vals1 r
  unfold reprOk at ok
  simp only [Bool.and_eq_true, decide_eq_true_eq] at ok
  obtain ⟨o1, o2, o3, o4, o5⟩ := ok
  obtain ⟨as, rd⟩ := Dp.reads I x v u dp rel
  have hu2 : ∃ b, u = .ref b := by
    cases rd <;> first | exact ⟨_, rfl⟩ | cases o1
  obtain ⟨b, rfl⟩ := hu2
  exact repr_of_reads' rd o3 (PyData.noDict_hsm (PyData.hasDict_of_canLay x o2)) hg (by omega) (fun _ _ h => h) (fun h' u tk hk => ⟨.str _, H, I.kept hk, ⟨_, rfl⟩, q⟩) o5
theorem ca_repr {K : PySem.W.Frag} : CaD K CT (rReprD K) hRepr := by
  intro W w s xs vs Q m r ok
  unfold hRepr at ok
  split at ok
  · obtain ⟨v, rfl, h⟩ := r.one
    exact ⟨v, .none, rfl, .inl ⟨h, rfl⟩, now m ok rfl⟩
  · split at ok
    · rename_i i hi
      obtain ⟨v, rfl, h⟩ := r.one
      exact ⟨v, .int i, rfl, .inr (.inl ⟨i, h, rfl, hi⟩), now m ok rfl⟩
    · exact ok.elim
  · split at ok
    · rename_i d x hx
      split at ok
      · rename_i hk
        obtain ⟨v, rfl, h⟩ := r.one
        have hc : x.canLay0 = true := by
          unfold reprOk at hk
          simp only [Bool.and_eq_true] at hk
          exact hk.2.1
        exact ⟨v, x, rfl, .inr (.inr ⟨toP_dp m h hx hc, hk⟩), now m ok rfl⟩
      · exact ok.elim
    · exact ok.elim
  · exact ok.elim
theorem pd_repr (B : Bd X CT T W k) (hg : Gl X "repr") (hm : X.mg "repr" = none) (ha : PDA X CT W [a] l) (hv : bootBuiltins "repr" = some (.builtin "repr") := by decide +kernel) (he : starEach [a] X.env = (false, eval a X.env) :: starEach [] X.env := by rfl) : PD X CT W (.Call (.Name "repr" p) [a] [] pos) (eBlt hRepr l) :=
  pd_blt (call_reprD B.room.gd B.hu) ca_repr hg hm hv ha (by decide) (by decide) he rfl
end
end Dl
/-! The data layer: t[::-1], the empty dict. -/
namespace Dl
open PySem PySem.Spec PyProof.Rows L2
theorem adjust_rev (n : Nat) : Builtin.Slice.sliceAdjust none none (-1) (n : Int) = ((n : Int) - 1, -1) := by
  unfold Builtin.Slice.sliceAdjust
  have h1 : ((-1 : Int) < 0) := by omega
  simp only [h1, if_true]
theorem places_rev (n : Nat) : Builtin.Slice.slicePlaces ((n : Int) - 1) (-1) (-1) = n := by
  unfold Builtin.Slice.slicePlaces
  have h1 : ¬ ((-1 : Int) > 0) := by omega
  simp only [h1, if_false]
  by_cases h : n = 0
  · subst h
    rfl
  · rw [if_pos (by omega)]
    have : (((n : Int) - 1 - -1 - 1) / (- -1) + 1) = n := by
      rw [show (- -1 : Int) = 1 by omega, Int.ediv_one]
      omega
    rw [this, Int.toNat_natCast]
theorem fm_congr {α β : Type} {f g : α → Option β} : ∀ {l : List α}, (∀ x ∈ l, f x = g x) → l.filterMap f = l.filterMap g
  | [], _ => rfl
  | x :: l, h => by rw [List.filterMap_cons, List.filterMap_cons, h x List.mem_cons_self, fm_congr fun y hy => h y (List.mem_cons_of_mem _ hy)]
theorem pick_rev (xs : Array Value) : ((List.range xs.size).filterMap fun (m : Nat) => xs[(((xs.size : Nat) : Int) - 1 + (m : Int) * (-1)).toNat]?).toArray = xs.toList.reverse.toArray := by
  congr 1
  have e : (List.range xs.size).filterMap (fun (m : Nat) => xs[(((xs.size : Nat) : Int) - 1 + (m : Int) * (-1)).toNat]?) = (List.range xs.size).filterMap fun m => xs.toList.reverse[m]? := by
    apply fm_congr
    intro m hm
    have hm : m < xs.size := List.mem_range.mp hm
    have e1 : (((xs.size : Nat) : Int) - 1 + (m : Int) * (-1)).toNat = xs.size - 1 - m := by omega
    rw [e1, List.getElem?_reverse (by simpa using hm)]
    simp
  rw [e]
  have : xs.size = xs.toList.reverse.length := by simp
  rw [this]
  generalize xs.toList.reverse = l
  clear e this
  induction l with
  | nil => rfl
  | cons a l ih =>
    rw [List.length_cons, List.range_succ_eq_map, List.filterMap_cons, List.filterMap_map]
    simp only [List.getElem?_cons_zero]
    congr 1
section
variable {prog : Program} {w : World} {A : Around} {E : Value → Shared → Prop} {s : Shared}
theorem sliceApplied_rev {sl : Addr} {u : Tok} {n : Nat} {Q : Int × Int × Nat → Shared → Prop} (hs : s.heap.IsSliceOf sl .none .none (.int (-1) u))
    (h : Q ((n : Int) - 1, -1, n) s) : wpAny (model prog w) A (Builtin.Slice.sliceApplied (.ref sl) (pure (n : Int))) Q E s := by
  obtain ⟨os, hos, hcs, hds⟩ := id hs
  unfold Builtin.Slice.sliceApplied Builtin.Slice.sliceFields
  refine wpAny_bind (wpAny_bind (wpAny_field hos hds (x := .none) rfl (wpAny_bind (wpAny_field hos hds (x := .none) rfl (wpAny_bind (wpAny_field hos hds (x := .int (-1) u) rfl (wpAny_pure ?_)))))))
  refine wpAny_bind (HT.slicePart_ (.int (-1) u) ?_)
  show wpAny _ _ (if ((-1 : Int) == 0) = true then _ else _) _ _ s
  rw [if_neg (by decide)]
  refine wpAny_bind (HT.slicePart_ .none (wpAny_bind (HT.slicePart_ .none (wpAny_bind (wpAny_pure ?_)))))
  show wpAny _ _ (match Builtin.Slice.sliceAdjust none none (-1) (n : Int) with | (lo, hi) => pure (lo, (-1 : Int), Builtin.Slice.slicePlaces lo hi (-1))) _ _ s
  rw [adjust_rev n]
  show wpAny _ _ (pure ((n : Int) - 1, (-1 : Int), Builtin.Slice.slicePlaces ((n : Int) - 1) (-1) (-1))) _ _ s
  rw [places_rev]
  exact wpAny_pure h
theorem getItem_tuple_rev {t sl : Addr} {items : Array Value} {u : Tok} {Q : Value → Shared → Prop} (ht : IsTup s.heap t items) (hs : s.heap.IsSliceOf sl .none .none (.int (-1) u))
    (h : Q (.ref s.heap.objs.size) { s with heap := s.heap.push { cls := .type "tuple", data := .seq items.toList.reverse.toArray } })
    (hsz : items.size ≤ sizeLine) : wpAny (model prog w) A (getItem (.ref t) (.ref sl)) Q E s := by
  have htake : sizeOk (.seq items.toList.reverse.toArray) := by
    show items.toList.reverse.toArray.size ≤ sizeLine
    rw [List.size_toArray, List.length_reverse, Array.length_toList]
    exact hsz
  obtain ⟨os, hos, hcs, hds⟩ := id hs
  have hTs : s.TypeIs (.ref sl) "slice" := ⟨os, hos, hcs⟩
  unfold getItem
  try with_reducible refine wpAny_holding ?_
  first | refine wpAny_bind (wpAny_pure ?_) | skip
  refine wpAny_bind (wpAny_sequenceKey ht.typeIs (by decide) ?_)
  refine wpAny_bind (wpAny_callSpecial?_slot (name := Str.ofString "__getitem__") ht.typeIs PyProof.Rows.slot_tuple_getitem
    (wpAny_call_entry PyProof.Rows.slot_tuple_getitem ht.typeIs entry_tuple_getitem ?_ (args_tuple_getitem _ _)))
  show wpAny _ _ (Builtin.Tuple.tupleItemsOf (.ref t) >>= _) _ _ s
  refine wpAny_bind (tupleItemsOf_ ht ?_)
  refine wpAny_bind (wpAny_typeOf hTs ?_)
  rw [if_pos (by decide)]
  refine wpAny_bind (sliceApplied_rev hs ?_)
  have hno : ¬ ((((items.size : Int) - 1) == 0 && (-1 : Int) == 1 && items.size == items.size) = true) := by
    intro q
    rw [Bool.and_eq_true, Bool.and_eq_true] at q
    exact absurd q.1.2 (by decide)
  show wpAny _ _ (if (((items.size : Int) - 1) == 0 && (-1 : Int) == 1 && items.size == items.size) = true then _ else _) _ _ s
  rw [if_neg hno, pick_rev]
  first
    | exact wpAny_bind (m := Builtin.Tuple.tupleExact _) (wpAny_newObj_type (wpAny_pure ⟨_, rfl, wpAny_pure h⟩) htake)
    | exact wpAny_bind (m := Builtin.Tuple.tupleExact _) (wpAny_newObj_type (wpAny_bind (wpAny_pure (wpAny_pure ⟨_, rfl, wpAny_pure h⟩))) htake)
    | exact wpAny_bind (wpAny_bind (m := Builtin.Tuple.tupleExact _) (wpAny_newObj_type (wpAny_pure (wpAny_pure ⟨_, rfl, wpAny_pure h⟩)) htake))
    | exact wpAny_bind (wpAny_bind (m := Builtin.Tuple.tupleExact _) (wpAny_newObj_type (wpAny_pure ⟨_, rfl, wpAny_pure h⟩) htake))
end
section
variable {X : Cx}
def tRevT (K : PySem.W.Frag) (te : TE) : TE := fun σ H Q => te σ H fun x H1 => ∃ a xs, x = .ref a ∧ SqT K H1 a xs ∧ ∀ p, H1 p = none → Q (.ref p) (upd H1 p (.tup xs.reverse))
theorem pe_revT {e : Expr} {te : TE} {k : Nat} {p1 p2 p3 pos : Pos} (he : PE X e te) : PE X (.Subscript e (.Slice none none (some (.UnaryOp .USub (.Constant (.int 1) k p1) p2)) p3) pos) (tRevT X.K te) := by
  refine ⟨fun pins s σ H Q I h => ?_⟩
  refine Subscript_ (thn (he.run pins s σ H _ I h) fun v s1 ⟨x, H1, I1, r1, q1⟩ => ?_)
  obtain ⟨a, xs, ex, hx, q⟩ := q1
  subst ex
  cases r1
  have hst : PO X (some (.UnaryOp .USub (.Constant (.int 1) k p1) p2)) (tPart (tUn (rU fun i => .int (-i)) (tC (.int 1)))) := po_some (pe_un un_neg pe_int)
  refine wpAny_Slice (thn (po_none.run pins s1 σ H1 (fun o H2 => o = none ∧ H2 = H1) I1 ⟨rfl, rfl⟩) fun vl s2 ⟨l, H2, I2, pl, el, e2⟩ => ?_)
  subst el e2
  refine thn (po_none.run pins s2 σ H2 (fun o H3 => o = none ∧ H3 = H2) I2 ⟨rfl, rfl⟩) fun vu s3 ⟨u, H3, I3, pu, eu, e3⟩ => ?_
  subst eu e3
  refine thn (hst.run pins s3 σ H3 (fun o H4 => o = some (-1) ∧ H4 = H3) I3 ⟨1, rfl, -1, rfl, rfl, rfl⟩) fun vs s4 ⟨o, H4, I4, ps, eo, e4⟩ => ?_
  subst eo e4
  cases pl
  cases pu
  obtain ⟨tk, rfl⟩ : ∃ tk, vs = .int (-1) tk := by
    cases ps
    exact ⟨_, rfl⟩
  have I5 : L2.Inv X pins σ H4 { s4 with heap := s4.heap.push { cls := .type "slice", data := .fields #[.none, .none, .int (-1) tk] } } := I4.kept (t' := s4.toks) fun b ob q => Heap.get?_push_of_some _ q
  obtain ⟨its, r, ht, hz⟩ := I5.tuple hx
  have hlen := r.length
  show wpAny (model X.prog X.w) X.A (subscriptTail e (.Slice none none (some (.UnaryOp .USub (.Constant (.int 1) k p1) p2)) p3) (.ref a) (.ref s4.heap.objs.size)) (EP X pins σ Q) X.xe { s4 with heap := s4.heap.push { cls := .type "slice", data := .fields #[.none, .none, .int (-1) tk] } }
  refine tail_any (ops := [.ref a, .ref s4.heap.objs.size]) ht.typeIs (PyProof.Rows.slot_tuple_getitem.lookup) ?_ (by with_unfolding_all rfl)
  refine getItem_tuple_rev ht (Heap.IsSliceOf.new _ _ _ _) ?_ (by rw [List.size_toArray]; omega)
  refine ⟨.ref _, _, I5.laid (t' := s4.toks) (o := .tup xs.reverse) (fun b ob q => Heap.get?_push_of_some _ q) (Nat.le_refl _) ?_, rfl, q _ (I5.hok.fresh (Nat.le_refl _))⟩
  exact ⟨by rw [List.length_reverse]; exact hz, _, r.reverse, IsTup.new _ _⟩
end
def hRev (x : D) (s : Sto) : R D := match asT x with
  | some xs => .ok (mkT xs.reverse) s
  | none => .bad
def eRev (f : EV) : EV := fun e s => (f e s).bind fun x s => hRev x s
theorem RDs.reverse {K : PySem.W.Frag} {w : Wd} : ∀ {xs : List D} {vs : List V}, RDs K w xs vs → RDs K w xs.reverse vs.reverse
  | [], _, h => by
    have h : _ = [] := h
    rw [h]
    rfl
  | x :: xs, _, h => by
    obtain ⟨v, r, rfl, h1, h2⟩ := h
    rw [List.reverse_cons, List.reverse_cons]
    exact (RDs.reverse h2).append ⟨v, [], rfl, h1, rfl⟩
/-- an object that stays is made -/
abbrev Wd.addG (w : Wd) (p : Addr) (o : HO) : Wd := { w with H := upd w.H p o, fz := fun a => w.fz a ∨ a = p }
section
variable {K : PySem.W.Frag} {CT : Nat → Addr} {w : Wd} {s : Sto}
theorem Sim.extG (m : Sim K CT w s) {p : Addr} {o : HO} (hp : w.H p = none) : Ext K w (w.addG p o) := Ext.fresh hp ⟨[], by simp⟩ (fun _ h => .inl h) (fun _ h => h) m.fz m.pr
theorem Sim.newG (m : Sim K CT w s) {p : Addr} {o : HO} (hp : w.H p = none) : Sim K CT (w.addG p o) s where
  len := m.len
  nd := m.nd
  dj := fun a ha => ⟨fun h => by
    rcases h with h | h
    · exact (m.dj a ha).1 h
    · subst h
      exact m.free hp ha, (m.dj a ha).2⟩
  fz := fun a h => by
    rcases h with h | h
    · obtain ⟨us, hv⟩ := m.fz a h
      exact ⟨us, by show upd w.H p _ a = _; rw [upd_ne (ne_of_none hv hp)]; exact hv⟩
    · subst h
      exact ⟨_, upd_same⟩
  fp := fun a h => by
    rcases h with h | h
    · exact m.fp a h
    · subst h
      exact m.freeP hp
  pr := fun a h => by
    obtain ⟨us, hv⟩ := m.pr a h
    exact ⟨us, by show upd w.H p _ a = _; rw [upd_ne (ne_of_none hv hp)]; exact hv⟩
  ob := fun k ob h => by
    obtain ⟨a, h1, h2⟩ := m.ob k ob h
    obtain ⟨u, hu⟩ := h2.some
    exact ⟨a, h1, h2.ext (m.extG hp).toExt0 (by show upd w.H p _ a = _; rw [upd_ne (ne_of_none hu hp)])⟩
end
section
variable {X : Cx} {CT : Nat → Addr} {W : XW} {pos : Pos} {a : Expr} {f : EV}
theorem pd_rev {k : Nat} {p1 p2 p3 : Pos} (ha : PD X CT W a f) : PD X CT W (.Subscript a (.Slice none none (some (.UnaryOp .USub (.Constant (.int 1) k p1) p2)) p3) pos) (eRev f) := by
  refine (pe_revT ha).imp fun σ H Q q => ?_
  obtain ⟨w, s, e, rfl, m, re, ok⟩ := q
  refine ⟨w, s, e, rfl, m, re, (Ok.bind ok).imp fun x s1 w1 e1 m1 ⟨_, _, ok1⟩ vx rx => ?_⟩
  unfold hRev at ok1
  split at ok1
  · rename_i xs hx
    obtain ⟨a, vs, rfl, h1, h2⟩ := asT_rep rx hx
    exact ⟨a, vs, rfl, h1, fun p hp => newT_ok m1 hp h2.reverse ok1⟩
  · exact ok1.elim
theorem pd_dict0 : PD X CT W (.Dict [] [] pos) (eC (.dict [])) := by
  refine pe_dnewK.imp fun σ H Q q => ?_
  obtain ⟨w, s, e, rfl, m, re, ok⟩ := q
  intro p hp
  exact ok.get (m.extG (o := .dK []) hp) (m.newG hp) (.ref p) ⟨rfl, p, rfl, upd_same, .inr rfl⟩
/-! tuple(range(n)), list(range(n)) -/
theorem RDs.map_int {K : PySem.W.Frag} {w : Wd} (g : Nat → Int) : ∀ l : List Nat, RDs K w (l.map fun i => D.p (.int (g i))) (l.map fun i => V.int (g i))
  | [] => rfl
  | i :: l => ⟨_, _, rfl, rfl, RDs.map_int g l⟩
theorem rds_rg {K : PySem.W.Frag} {w : Wd} (n : Int) : RDs K w (rngD 0 n.toNat) (rgV 0 n) := by
  unfold rgV rngD
  rw [Int.sub_zero]
  exact RDs.map_int (fun i => 0 + (i : Int)) _
def hRgT (d : D) (s : Sto) : R D := match d with
  | .p (.int n) => if 0 ≤ n ∧ n ≤ 100000 then .ok (mkT (rngD 0 n.toNat)) s else .bad
  | _ => .bad
def hRgL (h : Bool) (d : D) (s : Sto) : R D := match d with
  | .p (.int n) => if 0 ≤ n ∧ n ≤ 100000 then newL h (rngD 0 n.toNat) s else .bad
  | _ => .bad
def eRgT (f : EV) : EV := fun e s => (f e s).bind fun d s => hRgT d s
def eRgL (h : Bool) (f : EV) : EV := fun e s => (f e s).bind fun d s => hRgL h d s
theorem pd_tupRg {p1 p2 : Pos} (hc : X.calm = true) (hg : Gl X "tuple") (hm : X.mg "tuple" = none) (hg2 : Gl X "range") (hm2 : X.mg "range" = none) (ha : PD X CT W a f) (na : starEach [a] X.env = (false, eval a X.env) :: starEach [] X.env := by rfl)
    (nb : starEach [.Call (.Name "range" p2) [a] [] pos] X.env = (false, eval (.Call (.Name "range" p2) [a] [] pos) X.env) :: starEach [] X.env := by rfl) {p3 : Pos} : PD X CT W (.Call (.Name "tuple" p1) [.Call (.Name "range" p2) [a] [] pos] [] p3) (eRgT f) := by
  refine (pe_tupRg hc hg hm (prg_1 hg2 hm2 ha na) nb).imp fun σ H Q q => ?_
  obtain ⟨w, s, e, rfl, m, re, ok⟩ := q
  refine ⟨w, s, e, rfl, m, re, (Ok.bind ok).imp fun x s1 w1 e1 m1 ⟨_, _, ok1⟩ vx rx => ?_⟩
  unfold hRgT at ok1
  split at ok1
  · skip
    cases (show vx = .int _ from rx)
    split at ok1
    · rename_i hn
      exact ⟨_, rfl, RgOk.of_le (by omega) (by omega) (by omega) (by omega), fun p hp => newT_ok m1 hp (rds_rg _) ok1⟩
    · exact ok1.elim
  · exact ok1.elim
theorem pd_lstRg (h : Bool) {p1 p2 : Pos} (hc : X.calm = true) (hg : Gl X "list") (hm : X.mg "list" = none) (hg2 : Gl X "range") (hm2 : X.mg "range" = none) (ha : PD X CT W a f) (na : starEach [a] X.env = (false, eval a X.env) :: starEach [] X.env := by rfl)
    (nb : starEach [.Call (.Name "range" p2) [a] [] pos] X.env = (false, eval (.Call (.Name "range" p2) [a] [] pos) X.env) :: starEach [] X.env := by rfl) {p3 : Pos} : PD X CT W (.Call (.Name "list" p1) [.Call (.Name "range" p2) [a] [] pos] [] p3) (eRgL h f) := by
  refine (pe_listRg hc hg hm (prg_1 hg2 hm2 ha na) nb).imp fun σ H Q q => ?_
  obtain ⟨w, s, e, rfl, m, re, ok⟩ := q
  refine ⟨w, s, e, rfl, m, re, (Ok.bind ok).imp fun x s1 w1 e1 m1 ⟨_, _, ok1⟩ vx rx => ?_⟩
  unfold hRgL at ok1
  split at ok1
  · skip
    cases (show vx = .int _ from rx)
    split at ok1
    · rename_i hn
      exact ⟨_, rfl, RgOk.of_le (by omega) (by omega) (by omega) (by omega), fun p hp => newL_ok m1 hp (rds_rg _) ok1⟩
    · exact ok1.elim
  · exact ok1.elim
end
end Dl
/-! The data layer: an own exception whose __init__ says super().__init__(text) and keeps one field. -/
namespace Dl
open PySem PySem.Spec PyProof.Rows L2
/-- what the written part says of such a class -/
structure SupC (P : Program) (K : PySem.W.Frag) (C fI : Addr) (f pn : Str) : Prop where
  oex : OexC K C
  init : PySem.W.findIn K (.ref C) "__init__" = some (some (.ref fI))
  tyI : PySem.W.typeIn K (.ref fI) = some (.type "function")
  fn : ∃ (m : Str) (j : Nat) (p0 p1 p2 p3 p4 p5 p6 p7 p8 p9 : Pos) (params : Arguments) (scope : Scope) (dV kV doc pm ct oc : Value) (an od : Option Addr) (osl : Array (Option Value)) (cda cc : Addr) (ar : Arg) (vs : Array Value) (file : Str) (tf : Tok) (ccl cl : Value) (cdd cld : Option Addr) (ccs csl : Array (Option Value)) (nm qual : Str),
    K.lookup fI = some ⟨oc, od, .func (PySem.W.ksFn nm qual params [.Expr (.Call (.Attribute (.Call (.Name "super" p0) [] [] p1) "__init__" p2) [.Constant (.str m) j p3] [] p4) p5, .Assign [.Attribute (.Name "self" p6) f p7] (.Name pn p8) p9] scope dV kV doc pm an (.ref cda) ct cc), osl⟩ ∧
    PySem.W.codeIn K (.ref cda) qual = true ∧
    (∀ (s : Shared) (e v : Value), BindsTo s (PySem.W.ksFn nm qual params [.Expr (.Call (.Attribute (.Call (.Name "super" p0) [] [] p1) "__init__" p2) [.Constant (.str m) j p3] [] p4) p5, .Assign [.Attribute (.Name "self" p6) f p7] (.Name pn p8) p9] scope dV kV doc pm an (.ref cda) ct cc) ⟨[e, v], []⟩ [("self", e), (pn, v)]) ∧
    (params.posonlyargs ++ params.args).head? = some ar ∧ ar.arg = "self" ∧
    K.lookup cda = some ⟨ccl, cdd, .fields vs, ccs⟩ ∧ vs[2]? = some (.str file tf) ∧ ((P.main.file : Str) == file) = true ∧
    K.lookup cc = some ⟨cl, cld, .cell (some (.ref C)), csl⟩ ∧
    scope.names.lookup ("super" : Str) = some .globalImplicit ∧ scope.names.lookup ("__class__" : Str) = some .free ∧ scope.names.lookup ("self" : Str) = some .local ∧ scope.names.lookup pn = some .local ∧
    (∀ x ∈ scope.names, x.2 ≠ .cell) ∧ scope.isCoroutine = false ∧ scope.isGenerator = false ∧ scope.kind = .function ∧
    (P.main.scope.names.lookup ("super" : Str)).isSome = false ∧ (pn == ("__debug__" : Str)) = false ∧ ("self" == pn) = false ∧
    (∀ env : Env, ∃ pl : Sem Bool, eval (.Call (.Attribute (.Call (.Name "super" p0) [] [] p1) "__init__" p2) [.Constant (.str m) j p3] [] p4) env = (do
      let ov ← attributeBase (.Call (.Name "super" p0) [] [] p1) "__init__" env (eval (.Call (.Name "super" p0) [] [] p1) env)
      standAt p2.atName
      let (f, first) ← holding [ov] (getMethod ov "__init__" pl)
      callWith p4 f first (backTo p4 (starEach [.Constant (.str m) j p3] env)) [])) ∧
    (∀ env : Env, swapsWith (.Call (.Attribute (.Call (.Name "super" p0) [] [] p1) "__init__" p2) [.Constant (.str m) j p3] [] p4) none p5.line env = pure false) ∧
    (∀ env : Env, swapsWith (.Name pn p8) (some (.Attribute (.Name "self" p6) f p7)) p9.line env = pure false)
  any : PySem.W.nsIn K cStatics "thirdparty.any" = some none
  along : PySem.W.ks_superIn K C C "__init__" = some (some (.builtin "ValueError.__init__"))
  sub : PySem.W.subIn K (.ref C) (.type "ValueError") = some true
  mro : PySem.W.mroIn K C (.ref C) = some true
  exi : PySem.W.excInitIn K C [.type "ValueError", .type "Exception", .type "BaseException", .type "object"] "ValueError.__new__" = true
  fld : PySem.W.findIn K (.ref C) f = some none
theorem run_sup {P : Program} {w : World} {A : Around} {K : PySem.W.Frag} {mg : Str → Option Value} {base h : Heap} {g : Array GenState} {d : Drawn} {t : Nat} {os : OsState} {R : Result → Shared → Prop} {C fI e t0 : Addr} {f pn : Str} {v : Value}
    (S : SupC P K C fI f pn) (M : Mod K mg base) (kb : ∀ b o, base.get? b = some o → h.get? b = some o) (he : h.get? e = some (PySem.HandSPX.excO C t0)) (be : base.get? e = none) (hroom : A.depth < recursionLimit) (hms : mg "super" = none)
    (hR : ∀ h' tk' dx t1, (∀ b o, b ≠ e → h.get? b = some o → h'.get? b = some o) → h.objs.size ≤ dx → dx ≠ e → h'.get? e = some ({ cls := .ref C, dict := some dx, data := .fields #[.ref t1, .none, .none, .none, .bool false, .none] } : Obj) →
      h'.Ns1 dx (fun y => if y = f then some v else none) → R (.ok (.ret .none)) ⟨h', g, d, tk', os⟩) :
    codeAny (model P w) A (.call (.ref fI) ⟨[.ref e, v], []⟩) R ⟨h, g, d, t, os⟩ := by
  obtain ⟨m, j, p0, p1, p2, p3, p4, p5, p6, p7, p8, p9, params, scope, dV, kV, doc, pm, ct, oc, an, od, osl, cda, cc, ar, vs, file, tf, ccl, cl, cdd, cld, ccs, csl, nm, qual, lk, hcd, hbind, hp, har, hcode, hvs, hfile, hcell, nS, nC, nSelf, nP, noc, hco, hgen, hk, htop, hdp, hsp, hev, hsw1, hsw2⟩ := S.fn
  have kin : K.In h := M.kin.keeps kb
  have neB : ∀ {b : Addr} {o : Obj}, base.get? b = some o → b ≠ e := fun {b o} hb z => by
    rw [z, be] at hb
    cases hb
  obtain ⟨nmC, q, N, bs, bm, sn, sub, ab, col, dd, k0, k1, k2, k3, k5, hC, hbm⟩ := S.oex.cls
  have hcl : PySem.W.clsIn K C = some { name := nmC, bases := bs, mro := .ref C :: bm, ns := N, qualname := q, hasDict := true, slotNames := sn, subclasses := sub, abstract := ab, collection := col, hasDel := false } := by unfold PySem.W.clsIn; rw [hC] <;> rfl
  refine PySem.ks_codeAny_call_defAt (body := [.Expr (.Call (.Attribute (.Call (.Name "super" p0) [] [] p1) "__init__" p2) [.Constant (.str m) j p3] [] p4) p5, .Assign [.Attribute (.Name "self" p6) f p7] (.Name pn p8) p9]) (binds := [("self", .ref e), (pn, v)]) hroom (kin _ _ lk) rfl (M.nolimit.keeps kb) (PySem.W.codeRec_of kin hcd) rfl (hbind _ _ _) noc (fun y hy => ?_) (fun h1 hns hk1 => ?_) hco hgen hk
  · simp only [List.mem_cons, List.not_mem_nil, or_false] at hy
    rcases hy with rfl | rfl
    · exact nSelf
    · exact nP
  have hx1 := hk1 _ _ he
  have kin1 : K.In h1 := kin.keeps hk1
  have cls1 : ∃ oD, h1.get? C = some oD ∧ oD.data = .cls { name := nmC, bases := bs, mro := .ref C :: bm, ns := N, qualname := q, hasDict := true, slotNames := sn, subclasses := sub, abstract := ab, collection := col, hasDel := false } := ⟨_, kin1 _ _ hC, rfl⟩
  obtain ⟨oD, hD1, hD2⟩ := cls1
  obtain ⟨mb, hb1, hb2⟩ := M.blt
  have L0 : ∀ {b : Addr} {o : Obj}, h.get? b = some o → b ≠ h.objs.size := fun {b o} z => Nat.ne_of_lt (Heap.lt_size z)
  -- the ground: all but the exception
  have F1 : PyProof.Rows.Fr (PySem.W.hideAll h [e]) h.objs.size h1 (fun x => ([("self", .ref e), (pn, v)] : List (Str × Value)).reverse.lookup x) := ⟨hns, fun b o z => hk1 b o (PySem.W.of_hideAll _ z), Nat.le_of_eq (PySem.W.hideAll_size _ _)⟩
  have N1 : PyProof.Rows.News (PySem.W.hideAll h [e]) h.objs.size h1 [(e, PySem.HandSPX.excO C t0)] := fun p hp => by
    rw [List.mem_singleton.mp hp]
    exact ⟨hx1, L0 he, PySem.W.hideAll_none _ (by simp)⟩
  have kinG : K.In (PySem.W.hideAll h [e]) := M.kin.keeps fun b o z => PySem.W.hideAll_get _ (kb b o z) (by
    rw [List.mem_singleton]
    exact neB z)
  have ls : ([("self", .ref e), (pn, v)] : List (Str × Value)).reverse.lookup ("self" : Str) = some (.ref e) := by
    simp [List.lookup, hsp]
  have lp : ([("self", .ref e), (pn, v)] : List (Str × Value)).reverse.lookup pn = some v := by
    simp [List.lookup]
  obtain ⟨pl, hev⟩ := hev (callEnv (PySem.W.ksFn nm qual params [.Expr (.Call (.Attribute (.Call (.Name "super" p0) [] [] p1) "__init__" p2) [.Constant (.str m) j p3] [] p4) p5, .Assign [.Attribute (.Name "self" p6) f p7] (.Name pn p8) p9] scope dV kV doc pm an (.ref cda) ct cc) h.objs.size fI)
  refine PySem.ks_wpAt_execs_cons (PySem.ks_wpAt_Expr_any (PySem.ks_wpAt_MethodCall (pl := pl) ?_ hev) (by
    unfold interactive
    simp [callEnv, newEnv, hk]) (hsw1 _))
  refine PySem.ks_wpAt_super_base nS nC (by decide) rfl (kin1 _ _ lk) rfl hp rfl (kin1 _ _ hcode) rfl hvs hfile htop ?_
  refine PySem.W.ks_loadName_global hk nS (PySem.Calls.loadGlobal_builtin (M.glob.keeps fun b o z => hk1 b o (kb b o z)) hms (hb1.keeps fun b o z => hk1 b o (kb b o z)) ((hb2 _ (by decide)).trans (show bootBuiltins "super" = some (.type "super") by decide +kernel)) ⟨rfl, ?_⟩)
  refine wpAny_loadName_free hk nC rfl ⟨_, kin1 _ _ hcell, rfl⟩ ?_
  rw [har]
  refine wpAny_loadName_local hk nSelf hns ls ?_
  refine PySem.ks_wpAny_isType_cls hD1 hD2 ⟨rfl, ?_⟩
  refine PySem.ks_wpAny_call_super hD1 hD2 hx1 rfl (fun c z => by cases z) (PySem.W.looks_mroIn kin1 S.mro) (fun h2 eq2 k2 => ?_)
  obtain ⟨F2, N2, lt2⟩ := PySem.W.ks_newsPush (s := ⟨h1, g, d, t + 2, os⟩) F1 N1 rfl eq2 k2
  have I2 : PySem.W.InstAt h2 e (PySem.HandSPX.excO C t0) C none := ⟨k2 _ _ hx1, rfl, rfl, trivial⟩
  refine PySem.W.kxs_method (s := ⟨h2, g, d, _, os⟩) PySem.W.kxs_ValueError F2 kinG N2 (List.mem_cons_self ..) I2 S.any S.along S.sub (by decide) (fun u h3 F3 N3 lt3 => ?_)
  have se : h1.objs.size ≠ e := Nat.ne_of_gt (Heap.lt_size hx1)
  have ue : u ≠ e := Nat.ne_of_gt (lt3 (e, PySem.HandSPX.excO C t0) (by simp))
  refine PySem.W.kxs_callWith1 (i := "ValueError.__init__") (x := e) (u := u) N3 (List.mem_cons_self ..) (args_cons (PySem.Calls.Constant_str (args_nil ⟨PySem.W.kxs_at N3 (List.mem_cons_self ..), ?_⟩)))
  refine PySem.W.kxs_call (s := ⟨h3, g, d, _, os⟩) F3 kinG N3 F.excBase_ValueError S.exi (List.mem_cons_self ..) (.tail ue (.tail se (.head (by simp)))) (by simp [sizeLine_eq]) (fun t1 h4 F4 N4 lt4 => ?_)
  have kin4 : K.In h4 := kinG.keeps F4.keep
  have hx4 : h4.get? e = some ({ cls := .ref C, data := .fields #[.ref t1, .none, .none, .none, .bool false, .none] } : Obj) := (N4 (e, PySem.HandSPX.excO C t1) (by simp)).1
  have keep4 : ∀ b o, b ≠ e → h.get? b = some o → h4.get? b = some o := fun b o hb z => F4.keep b o (PySem.W.hideAll_get _ z (by
    rw [List.mem_singleton]
    exact hb))
  refine PySem.ks_wpAt_execs_cons (PySem.ks_wpAt_Assign_Attr (wpAt_of_wpAny (PySem.ESX.ldL F4.ns lp (PySem.ESX.ldL F4.ns ls ?_ hk nSelf) hk nP hdp)) (hsw2 _))
  refine PySem.W.set_plain kin4 (ox := { cls := .ref C, data := .fields #[.ref t1, .none, .none, .none, .bool false, .none] }) (od := none) ⟨hx4, rfl, rfl, trivial⟩ S.oex.sa ?_
  refine PySem.HandSPX.exc_osa kin4 hx4 hcl (show PySem.HandSPX.refsVE (.ref C :: bm) = true from hbm) rfl S.fld (fun h' tk' dx k dn dne hx hn => ?_)
  refine wpAt_of_wpAny (wpAny_execs_nil ?_)
  refine hR h' tk' dx t1 (fun b o hb z => k b o hb (keep4 b o hb z)) ?_ dne hx hn
  obtain ⟨oL, esL, epL, hL, _⟩ := F4.ns
  exact Nat.le_trans (Nat.le_of_lt (Heap.lt_size hL)) dn
theorem pmk_sup {X : Cx} {x : Str} {C fI : Addr} {f pn : Str} {a : Expr} {ta : TA} {p pos : Pos} (S : SupC X.prog X.K C fI f pn) (hr : X.A.depth + 5 < recursionLimit) (hg : Gl X x) (hm : X.mg x = some (.ref C)) (hms : X.mg "super" = none) (ha : PA X [a] ta)
    (hdb : (x == ("__debug__" : Str)) = false := by decide) (he : starEach [a] X.env = (false, eval a X.env) :: starEach [] X.env := by rfl) :
    PMk X (.Call (.Name x p) [a] [] pos) (fun σ H Q => ta σ H fun vs H1 => ∃ v, vs = [v] ∧ ∀ dx, H1 dx = none → Q (.ref C) (some dx) (upd H1 dx (.xd [(f, v)]))) := by
  intro pins s σ H Q I h
  obtain ⟨nm, q, N, bs, bm, sn, sub, ab, col, dd, k0, k1, k2, k3, k5, hC, hbm⟩ := S.oex.cls
  refine wpAny_Call_Name_kw (ld_glob I hg hm ?_ hdb)
  refine PySem.W.callWith_K (h₀ := X.base) I.ok.mod.kin S.oex.kC (thn (ha.run pos pins s σ H _ I h) fun us s1 ⟨vs, H1, I1, r1, q1⟩ => ⟨I1.kIn, ?_⟩) he rfl
  obtain ⟨v, rfl, q1⟩ := q1
  obtain ⟨u, rfl, rv⟩ := vals1 r1
  show wpAny _ _ (call (.ref C) [u]) _ _ _
  obtain ⟨hp, g, dr, tk, os⟩ := s1
  have hsz : hp.objs.size ≤ hp.objs.size + 1 := Nat.le_succ _
  have hn : H1 (hp.objs.size + 1) = none := I1.hok.fresh hsz
  have kk : ∀ b o, hp.get? b = some o → ((hp.push (PySem.W.kdv_tup [u])).push (PySem.HandSPX.excO C hp.objs.size)).get? b = some o := fun b o e => Heap.get?_push_of_some _ (Heap.get?_push_of_some _ e)
  have hget : ((hp.push (PySem.W.kdv_tup [u])).push (PySem.HandSPX.excO C hp.objs.size)).get? (hp.objs.size + 1) = some (PySem.HandSPX.excO C hp.objs.size) := by heap_get
  have lt : ∀ {b : Addr} {o : Obj}, hp.get? b = some o → b ≠ hp.objs.size + 1 := fun {b o} z => Nat.ne_of_lt (Nat.lt_succ_of_lt (Heap.lt_size z))
  have be : X.base.get? (hp.objs.size + 1) = none := by
    cases z : X.base.get? (hp.objs.size + 1) with
    | none => rfl
    | some o => exact absurd rfl (lt (I1.bk _ _ z))
  refine wpAny_call (PySem.HandSPX.call_own F.excBase_ValueError (fun Y => PySem.HandSPX.refsVE_contains Y bm hbm) (I1.kIn _ _ hC) (PySem.W.looks_findIn I1.kIn S.init) (fun self => PySem.W.bind_fn I1.kIn self S.tyI) (by simp [sizeLine_eq])
    (run_sup S I1.ok.mod (fun b o z => kk b o (I1.bk b o z)) hget be (by rw [make_depth]; omega) hms (fun h' tk' dx t1 k dn dne hx hns => ?_)))
  have sz2 : hp.objs.size ≤ dx := Nat.le_trans (by simp [Heap.push] <;> omega) dn
  have keep : ∀ b o, hp.get? b = some o → (PySem.W.hideAll h' [hp.objs.size + 1]).get? b = some o := fun b o z => PySem.W.hideAll_get _ (k b o (lt z) (kk b o z)) (by
    rw [List.mem_singleton]
    exact lt z)
  have hd1 : H1 dx = none := I1.hok.fresh sz2
  have J : L2.Inv X pins σ (upd H1 dx (.xd [(f, v)])) ⟨PySem.W.hideAll h' [hp.objs.size + 1], g, dr, tk', os⟩ := I1.laid (t' := tk') (a := dx) (o := .xd [(f, v)]) (h' := PySem.W.hideAll h' [hp.objs.size + 1]) keep sz2
    ⟨_, hns.at fun o y => PySem.W.hideAll_get _ y (by rw [List.mem_singleton]; exact dne), relO_put (fs := []) rv fun g => True.intro⟩
  exact ⟨rfl, hp.objs.size + 1, _, _, _, _, .ref C, some dx, rfl, J, fun b o z => PySem.W.of_hideAll _ z, PySem.W.hideAll_none _ (by simp), hx, ⟨rfl, rfl⟩, rfl, rfl, by rw [upd_ne dne.symm]; exact hn, rfl, I1.bare, raises_own S.oex.exC S.oex.tyC, q1 dx hd1⟩
end Dl
/-! The data layer: raise, try. -/
namespace Dl
open PySem PySem.Spec PyProof.Rows L2
/-! ### raise C(x) -/
def sRaise (c : Nat) (f : EV) : SV := fun e s => (f e s).toS e fun d s => match d with
  | .p x => .ex c x e s
  | _ => .bad
section
variable {X : Cx} {CT : Nat → Addr} {T : ExT} {W : XW} {k : Nat} {pos p p2 : Pos} {a : Expr} {f : EV} {x : Str} {C fI : Addr} {pn fl : Str}
theorem ps_raiseD (c : Nat) (B : Bd X CT T W k) (S : SupC X.prog X.K (T.cls c) fI fl pn) (hfl : T.fld c = fl) (hg : Gl X x) (hm : X.mg x = some (.ref (T.cls c))) (hms : X.mg "super" = none) (ha : PD X CT W a f)
    (hdb : (x == ("__debug__" : Str)) = false := by decide) (he : starEach [a] X.env = [(false, eval a X.env)] := by rfl) : PDS X CT W (.Raise (some (.Call (.Name x p) [a] [] pos)) none p2) (sRaise c f) := by
  subst hfl
  have hr : X.A.depth + 5 < recursionLimit := by
    have := B.room.dp
    omega
  refine (ps_raise B.calm B.tk (pmk_sup S hr hg hm hms (pa_cons ha pa_nil (by rw [he]; rfl)) hdb he)).imp fun D σ H q => ?_
  obtain ⟨w, s, e, rfl, m, re, ok⟩ := q
  refine ⟨w, s, e, rfl, m, re, (OkS.toS re ok).imp fun d s1 w1 e1 m1 ⟨_, _, ok1⟩ v rv => ?_⟩
  refine ⟨v, rfl, fun dx hd => ?_⟩
  cases d with
  | p y => exact ⟨c, y, s1, { w1 with H := upd w1.H dx (.xd [(T.fld c, v)]) }, rfl, m1.newT hd, ⟨rfl, dx, v, rfl, upd_same, RP.ext (m1.extT hd) _ _ rv⟩, ok1 _ σ (m1.extT hd) (m1.newT hd) (re.ext (e1.trans (m1.extT hd)))⟩
  | ref _ => exact ok1.elim
  | bag _ => exact ok1.elim
  | ro _ => exact ok1.elim
end
/-! ### try: body, except C as e: return e.f == text -/
def sTryEq (m : Nat → Bool) (i : Nat) (z : Str) (b : SV) : SV := fun e s => match b e s with
  | .ex c x e' s' => if m c then (match x with
    | .str y => if i < e'.length then .rt (.p (.bool (decide (y = z)))) s' else .bad
    | _ => .bad) else .ex c x e' s'
  | r => r
/-- what the data layer wishes of an exception, from what the hand layer wishes -/
def WofX (K : PySem.W.Frag) (T : ExT) (W : WX) : XW := fun c x σ s w => ∀ cls d, ExR K T w c x cls d → W cls d σ w.H
section
variable {X : Cx} {CT : Nat → Addr} {T : ExT} {W : XW} {k i : Nat} {pos pos' np p1 p2 p4 p5 p6 : Pos} {p3 : Nat} {body : List Stmt} {u : SV} {x n : Str} {C : Addr} {f z' z : Str} {m : Nat → Bool}
theorem Bd.tr (B : Bd X CT T W k) {W' : WX} {pn : List (Addr × Obj)} {xe : Value → Shared → Prop} (tk : Takes (X.tr pn xe) W') (po : PassesOwn (model X.prog X.w) X.A X.env xe) : Bd (X.tr pn xe) CT T (WofX X.K T W') k :=
  ⟨B.calm, B.nd, po, B.room, B.dp1, tk.imp fun cls d σ H q => by
    obtain ⟨c, x, s, w, rfl, m, r, h⟩ := q
    exact h cls d r⟩
theorem ps_tryEq (B : Bd X CT T W k) (hs : X.stack = X.env :: X.outer) (hf : X.env.frame = some X.env.locals) (i : Nat) (hc : Names X x (.ref C)) (hT : ∀ c, PySem.W.exmOne X.K (.ref (T.cls c)) (.ref C) = some (m c)) (hC : ∀ c, m c = true → T.cls c = C ∧ T.fld c = f)
    (XC : XfC X.K C) (hno : PySem.W.findIn X.K (.ref C) f = some none) (hz : z' = z)
    (hb : ∀ (W' : XW) (pn : List (Addr × Obj)) (xe : Value → Shared → Prop), Bd (X.tr pn xe) CT T W' k → PDB (X.tr pn xe) CT W' body u)
    (hi : X.N[i]? = some n := by rfl) (hln : X.env.kindOf n = some .local := by rfl) (hd : (n == ("__debug__" : Str)) = false := by decide) (hcd : (n == ("__classdict__" : Str)) = false := by decide)
    (hab : attributeBase (.Name n p1) f X.env (eval (.Name n p1) X.env) = eval (.Name n p1) X.env := by rfl)
    (hcm : behindInMarks .Eq (.Constant (.str z') p3 p4) = false := by first | exact nobehind _ (by decide) (by decide) | rfl) :
    PDS X CT W (.Try body [.ExceptHandler (some (.Name x np)) (some n) [.Return (some (.Compare (.Attribute (.Name n p1) f p2) [.Eq] [.Constant (.str z') p3 p4] p5)) p6] pos'] [] [] pos) (sTryEq m i z u) := by
  subst hz
  refine (ps_try_as (ts := fun a cls d D σ H => tOp rEq (tXf a cls d C f (tVar i)) (tC (.str z')) σ H (fun v H1 => D.rt v H1)) (tb := fun W' => tDS X.K CT (WofX X.K T W') u) hs hf B.nd hi hln hc B.tk
    (fun W' pn xe tk po => hb _ pn xe (B.tr tk po)) (fun a oe cls d pn hz hfl => pss_one (ps_ret (pe_cmpR op_eq (pe_xf XC hno hz hfl (pe_var hi (.inl hln) hd hcd) hab) pe_str hcm)))).imp fun D σ H q => ?_
  obtain ⟨w, s, e, rfl, sm, re, ok⟩ := q
  refine ⟨w, s, e, rfl, sm, re, ?_⟩
  unfold sTryEq at ok
  cases hu : u e s with
  | nx e' s' => rw [hu] at ok; exact ok
  | rt d s' => rw [hu] at ok; exact ok
  | bk e' s' => rw [hu] at ok; exact ok
  | ct e' s' => rw [hu] at ok; exact ok
  | bad => rw [hu] at ok; exact ok
  | ex c y e' s' =>
    rw [hu] at ok
    intro w' σ' x1 m1 r1 cls d xr
    refine ⟨m c, by rw [xr.1]; exact hT c, fun hm a na => ?_, fun hm => ?_⟩
    · simp only [hm, if_true] at ok
      cases y with
      | str zz =>
        obtain ⟨xc, dd, v, xd, xh, xv⟩ := xr
        have xv : v = .str zz := xv
        subst xv
        simp only [] at ok
        split at ok
        case isFalse => exact ok.elim
        rename_i il
        rw [r1.len] at il
        refine ⟨.ref a, ?_, rfl, ?_⟩
        · rw [List.getElem?_set_self il]
        · refine ⟨by rw [xc, (hC c hm).1], dd, [(T.fld c, .str zz)], .str zz, xd, xh, ?_, ?_⟩
          · rw [(hC c hm).2]
            simp [List.lookup]
          · refine ⟨rfl, ok w' _ x1 m1 ?_⟩
            show V.bl _ = V.bl _
            congr 1
            rw [Bool.eq_iff_iff]
            simp
      | _ => exact ok.elim
    · simp only [hm] at ok
      exact ⟨c, y, s', w', rfl, m1, xr, ok w' σ' x1 m1 r1⟩
end
end Dl
namespace Dl
open PySem PySem.Spec PyProof.Rows L2
/-- where the written part has a class -/
def clsAd (K : PySem.W.Frag) (x : Str) : Addr := match PySem.W.nsIn K mainGlobals x with
  | some (some (.ref a)) => a
  | _ => 0
theorem clsAd_of {K : PySem.W.Frag} {x : Str} {a : Addr} (h : PySem.W.nsIn K mainGlobals x = some (some (.ref a))) : clsAd K x = a := by
  unfold clsAd
  rw [h]
theorem supC_mk {P : Program} {K : PySem.W.Frag} {C fI N cda cc : Addr} {f pn nmC q m nm qual file : Str} {bs bm : List Value} {sn : List Str} {sub : List Value} {ab : Bool} {col : Option Bool} {dd an od cdd cld : Option Addr} {k0 k1 k2 k3 k5 : Option Value} {j : Nat} {p0 p1 p2 p3 p4 p5 p6 p7 p8 p9 : Pos} {params : Arguments} {scope : Scope} {dV kV doc pm ct oc ccl cl : Value} {osl ccs csl : Array (Option Value)} {ar : Arg} {vs : Array Value} {tf : Tok}
    (h1 : K.lookup C = some (excClassObj nmC q C N bs bm true sn sub ab col dd k0 k1 k2 k3 k5 "ValueError.__new__")) (h2 : PySem.HandSPX.refsVE bm = true)
    (h3 : PySem.W.findIn K (.ref C) "__setattr__" = some (some (.builtin "object.__setattr__"))) (h4 : PySem.W.subIn K (.ref C) (.type "BaseException") = some true) (h5 : PySem.W.typeIn K (.ref C) = some (.type "type")) (h6 : PySem.W.keepIn K (.ref C) = true)
    (h7 : PySem.W.findIn K (.ref C) "__init__" = some (some (.ref fI))) (h8 : PySem.W.typeIn K (.ref fI) = some (.type "function"))
    (h9 : K.lookup fI = some ⟨oc, od, .func (PySem.W.ksFn nm qual params [.Expr (.Call (.Attribute (.Call (.Name "super" p0) [] [] p1) "__init__" p2) [.Constant (.str m) j p3] [] p4) p5, .Assign [.Attribute (.Name "self" p6) f p7] (.Name pn p8) p9] scope dV kV doc pm an (.ref cda) ct cc), osl⟩)
    (h10 : PySem.W.codeIn K (.ref cda) qual = true)
    (h11 : ∀ (s : Shared) (e v : Value), BindsTo s (PySem.W.ksFn nm qual params [.Expr (.Call (.Attribute (.Call (.Name "super" p0) [] [] p1) "__init__" p2) [.Constant (.str m) j p3] [] p4) p5, .Assign [.Attribute (.Name "self" p6) f p7] (.Name pn p8) p9] scope dV kV doc pm an (.ref cda) ct cc) ⟨[e, v], []⟩ [("self", e), (pn, v)])
    (h12 : (params.posonlyargs ++ params.args).head? = some ar) (h13 : ar.arg = "self")
    (h14 : K.lookup cda = some ⟨ccl, cdd, .fields vs, ccs⟩) (h15 : vs[2]? = some (.str file tf)) (h16 : ((P.main.file : Str) == file) = true)
    (h17 : K.lookup cc = some ⟨cl, cld, .cell (some (.ref C)), csl⟩)
    (h18 : scope.names.lookup ("super" : Str) = some .globalImplicit) (h19 : scope.names.lookup ("__class__" : Str) = some .free) (h20 : scope.names.lookup ("self" : Str) = some .local) (h21 : scope.names.lookup pn = some .local)
    (h22 : ∀ x ∈ scope.names, x.2 ≠ .cell) (h23 : scope.isCoroutine = false) (h24 : scope.isGenerator = false) (h25 : scope.kind = .function)
    (h26 : (P.main.scope.names.lookup ("super" : Str)).isSome = false) (h27 : (pn == ("__debug__" : Str)) = false) (h28 : ("self" == pn) = false)
    (h29 : ∀ env : Env, ∃ pl : Sem Bool, eval (.Call (.Attribute (.Call (.Name "super" p0) [] [] p1) "__init__" p2) [.Constant (.str m) j p3] [] p4) env = (do
      let ov ← attributeBase (.Call (.Name "super" p0) [] [] p1) "__init__" env (eval (.Call (.Name "super" p0) [] [] p1) env)
      standAt p2.atName
      let (f, first) ← holding [ov] (getMethod ov "__init__" pl)
      callWith p4 f first (backTo p4 (starEach [.Constant (.str m) j p3] env)) []))
    (h30 : ∀ env : Env, swapsWith (.Call (.Attribute (.Call (.Name "super" p0) [] [] p1) "__init__" p2) [.Constant (.str m) j p3] [] p4) none p5.line env = pure false)
    (h31 : ∀ env : Env, swapsWith (.Name pn p8) (some (.Attribute (.Name "self" p6) f p7)) p9.line env = pure false)
    (h32 : PySem.W.nsIn K cStatics "thirdparty.any" = some none) (h33 : PySem.W.ks_superIn K C C "__init__" = some (some (.builtin "ValueError.__init__"))) (h34 : PySem.W.subIn K (.ref C) (.type "ValueError") = some true) (h35 : PySem.W.mroIn K C (.ref C) = some true)
    (h36 : PySem.W.excInitIn K C [.type "ValueError", .type "Exception", .type "BaseException", .type "object"] "ValueError.__new__" = true) (h37 : PySem.W.findIn K (.ref C) f = some none) : SupC P K C fI f pn :=
  ⟨⟨⟨_, _, _, _, _, _, _, _, _, _, _, _, _, _, _, h1, h2⟩, h3, h4, h5, h6⟩, h7, h8, ⟨_, _, _, _, _, _, _, _, _, _, _, _, _, _, _, _, _, _, _, _, _, _, _, _, _, _, _, _, _, _, _, _, _, _, _, _, _, h9, h10, h11, h12, h13, h14, h15, h16, h17, h18, h19, h20, h21, h22, h23, h24, h25, h26, h27, h28, h29, h30, h31⟩, h32, h33, h34, h35, h36, h37⟩
end Dl
/-! The data layer: instances of the text's own classes: fields, methods, making; the order of lists of ints. -/
namespace Dl
open PySem PySem.Spec PyProof.Rows L2

/-! ### fields as data -/
def putD (f : Str) (d : D) : List (Str × D) → List (Str × D)
  | [] => [(f, d)]
  | (g, x) :: r => if g = f then (g, d) :: r else (g, x) :: putD f d r
/-- the instance at a place of the store -/
def insAt (s : Sto) : D → Option (Nat × Nat × List (Str × D))
  | .ref k => match s[k]? with
    | some (.ins c fs) => some (k, c, fs)
    | _ => none
  | _ => none
section
variable {K : PySem.W.Frag} {CT : Nat → Addr} {w : Wd} {s : Sto}
theorem RF.lookup {f : Str} {d : D} : ∀ {fs : List (Str × D)} {vs : List (Str × V)}, RF K w fs vs → fs.lookup f = some d → ∃ v, vs.lookup f = some v ∧ RD K w d v
  | [], _, _, h => by simp [List.lookup] at h
  | (g, x) :: fs, _, r, h => by
    obtain ⟨v, vs, rfl, h1, h2⟩ := r
    by_cases e : f = g
    · subst e
      simp only [List.lookup_cons_self, Option.some.injEq] at h
      subst h
      exact ⟨v, by simp, h1⟩
    · have e' : (f == g) = false := by simpa using e
      simp only [List.lookup_cons, e'] at h
      obtain ⟨u, h3, h4⟩ := RF.lookup h2 h
      exact ⟨u, by simp only [List.lookup_cons, e']; exact h3, h4⟩
theorem RF.lookupN {f : Str} : ∀ {fs : List (Str × D)} {vs : List (Str × V)}, RF K w fs vs → fs.lookup f = none → vs.lookup f = none
  | [], _, r, _ => by
    have r : _ = [] := r
    subst r
    rfl
  | (g, x) :: fs, _, r, h => by
    obtain ⟨v, vs, rfl, h1, h2⟩ := r
    by_cases e : f = g
    · subst e
      simp at h
    · have e' : (f == g) = false := by simpa using e
      simp only [List.lookup_cons, e'] at h ⊢
      exact RF.lookupN h2 h
theorem RF.put {f : Str} {d : D} {v : V} (hd : RD K w d v) : ∀ {fs : List (Str × D)} {vs : List (Str × V)}, RF K w fs vs → RF K w (putD f d fs) (putF f v vs)
  | [], _, r => by
    have r : _ = [] := r
    subst r
    exact ⟨v, [], rfl, hd, rfl⟩
  | (g, x) :: fs, _, r => by
    obtain ⟨u, vs, rfl, h1, h2⟩ := r
    by_cases e : g = f
    · rw [show putD f d ((g, x) :: fs) = (g, d) :: fs by simp [putD, e], show putF f v ((g, u) :: vs) = (g, v) :: vs by simp [putF, e]]
      exact ⟨v, vs, rfl, hd, h2⟩
    · rw [show putD f d ((g, x) :: fs) = (g, x) :: putD f d fs by simp [putD, e], show putF f v ((g, u) :: vs) = (g, u) :: putF f v vs by simp [putF, e]]
      exact ⟨u, _, rfl, h1, RF.put hd h2⟩
theorem RF.length : ∀ {fs : List (Str × D)} {vs : List (Str × V)}, RF K w fs vs → vs.length = fs.length
  | [], _, r => by
    have r : _ = [] := r
    subst r
    rfl
  | (g, x) :: fs, _, r => by
    obtain ⟨u, vs, rfl, h1, h2⟩ := r
    simp [RF.length h2]
theorem insAt_rep {d : D} {v : V} {k c : Nat} {fs : List (Str × D)} (m : Sim K CT w s) (r : RD K w d v) (h : insAt s d = some (k, c, fs)) :
    d = .ref k ∧ ∃ a dx vs, v = .ref a ∧ w.mu[k]? = some a ∧ w.H a = some (.ins (CT c) dx vs) ∧ RF K w fs vs := by
  cases d with
  | ref j =>
    unfold insAt at h
    simp only at h
    split at h
    · rename_i c' fs' e
      cases h
      obtain ⟨a, h1, rfl⟩ := r
      obtain ⟨b, h2, dx, vs, h3, h4⟩ := m.ob _ _ e
      rw [h1] at h2
      cases h2
      exact ⟨rfl, a, dx, vs, rfl, h1, h3, h4⟩
    · cases h
  | p _ => cases h
  | ro _ => cases h
  | bag _ => cases h
/-- an instance gets a new value at a field -/
theorem ins_ok {k c : Nat} {a dx : Addr} {fs : List (Str × D)} {vs : List (Str × V)} {f : Str} {d : D} {v : V} (m : Sim K CT w s) (hk : w.mu[k]? = some a) (hH : w.H a = some (.ins (CT c) dx vs)) (r : RF K w fs vs) (rd : RD K w d v) :
    Ext K w { w with H := upd w.H a (.ins (CT c) dx (putF f v vs)) } ∧ Sim K CT { w with H := upd w.H a (.ins (CT c) dx (putF f v vs)) } (s.set k (.ins c (putD f d fs))) := by
  have x := m.extW (u' := .ins (CT c) dx (putF f v vs)) hk hH (fun _ z => nomatch z) (fun _ _ z => nomatch z)
  exact ⟨x, m.write hk hH (fun _ z => nomatch z) (fun _ _ z => nomatch z) ⟨dx, _, upd_same, RF.ext x _ _ (r.put rd)⟩⟩
end

/-! ### o.f, o.f = e, o.f op= e -/
def eFld (f : Str) (fo : EV) : EV := fun e s => (fo e s).bind fun o s => match insAt s o with
  | some (_, _, fs) => match fs.lookup f with
    | some d => .ok d s
    | none => .bad
  | none => .bad
def sFldD (f : Str) (fo fv : EV) : SV := fun e s => (fv e s).toS e fun y s => (fo e s).toS e fun o s => match insAt s o with
  | some (k, c, fs) => if fs.length < 1000 then .nx e (s.set k (.ins c (putD f y fs))) else .bad
  | none => .bad
def sFldAugD (f : Str) (h : D → D → Sto → R D) (fo fv : EV) : SV := fun e s => (fo e s).toS e fun o s => match insAt s o with
  | some (_, c, fs) => match fs.lookup f with
    | some x => (fv e s).toS e fun y s => (h x y s).toS e fun z s => match insAt s o with
      | some (k', c', fs') => if c' = c ∧ fs'.length < 1000 then .nx e (s.set k' (.ins c (putD f z fs'))) else .bad
      | none => .bad
    | none => .bad
  | none => .bad
section
variable {X : Cx} {CT : Nat → Addr} {T : ExT} {W : XW} {pos pos' tpos : Pos} {o a : Expr} {f : Str} {fo fv : EV}
theorem pd_fld {f' : Str} (hq : f' = f) (hc : ∀ c, Cls X.K (CT c)) (hn : ∀ c, NoAttr X.K (CT c) f') (he : PD X CT W o fo) (hb : attributeBase o f' X.env (eval o X.env) = eval o X.env := by rfl) : PD X CT W (.Attribute o f' pos) (eFld f fo) := by
  subst hq
  refine (pe_fld he hb).imp fun σ H Q q => ?_
  obtain ⟨w, s, e, rfl, m, re, ok⟩ := q
  refine ⟨w, s, e, rfl, m, re, (Ok.bind ok).imp fun d s1 w1 e1 m1 ⟨_, _, ok1⟩ v rv => ?_⟩
  split at ok1
  · rename_i k c fs hi
    obtain ⟨rfl, b, dx, vs, rfl, h1, h2, h3⟩ := insAt_rep m1 rv hi
    split at ok1
    · rename_i d hd
      obtain ⟨u, h4, h5⟩ := h3.lookup hd
      exact ⟨b, CT c, dx, vs, u, rfl, h2, hc c, hn c, h4, nowD m1 ok1 h5⟩
    · exact ok1.elim
  · exact ok1.elim
theorem ps_fldD {f' : Str} (hq : f' = f) (hc : ∀ c, Cls X.K (CT c)) (hn : ∀ c, NoAttr X.K (CT c) f') (ho : PD X CT W o fo) (hv : PD X CT W a fv) (hs : swapsWith a (some (.Attribute o f' pos')) pos.line X.env = pure false := by rfl) : PDS X CT W (.Assign [.Attribute o f' pos'] a pos) (sFldD f fo fv) := by
  subst hq
  refine (ps_fld ho hv hs).imp fun D σ H q => ?_
  obtain ⟨w, s, e, rfl, m, re, ok⟩ := q
  refine ⟨w, s, e, rfl, m, re, (OkS.toS re ok).imp fun y s1 w1 e1 m1 ⟨_, _, ok1⟩ vy ry => ?_⟩
  refine ⟨w1, s1, e, rfl, m1, re.ext e1, (OkS.toS (re.ext e1) ok1).imp fun d s2 w2 e2 m2 ⟨_, _, ok2⟩ v rv => ?_⟩
  split at ok2
  · rename_i k c fs hi
    obtain ⟨rfl, b, dx, vs, rfl, h1, h2, h3⟩ := insAt_rep m2 rv hi
    split at ok2
    · rename_i hl
      obtain ⟨x3, m3⟩ := ins_ok (f := f') m2 h1 h2 h3 (RD.ext e2 _ _ ry)
      exact ⟨b, CT c, dx, vs, rfl, h2, hc c, hn c, by rw [h3.length]; exact hl, ok2 _ σ x3 m3 (((re.ext e1).ext e2).ext x3)⟩
    · exact ok2.elim
  · exact ok2.elim
theorem ps_fldAugD {op : Operator} {r : R2} {hh : D → D → Sto → R D} {f' : Str} (hop : OpR X (inplaceOp op) r) (hr : OpD X.K CT r hh) (hq : f' = f) (hc : ∀ c, Cls X.K (CT c)) (hn : ∀ c, NoAttr X.K (CT c) f') (ho : PD X CT W o fo) (hv : PD X CT W a fv) :
    PDS X CT W (.AugAssign (.Attribute o f' tpos) op a pos) (sFldAugD f hh fo fv) := by
  subst hq
  refine (ps_fldaug (rd := r) ho hv fun pins s σ H x y u v Q I rx ry h => hop pins s σ H x y u v Q I rx ry h).imp fun D σ H q => ?_
  obtain ⟨w, s, e, rfl, m, re, ok⟩ := q
  refine ⟨w, s, e, rfl, m, re, (OkS.toS re ok).imp fun d s1 w1 e1 m1 ⟨_, _, ok1⟩ v rv => ?_⟩
  split at ok1
  · rename_i k c fs hi
    obtain ⟨rfl, b, dx, vs, rfl, h1, h2, h3⟩ := insAt_rep m1 rv hi
    split at ok1
    · rename_i x hx
      obtain ⟨u, h4, h5⟩ := h3.lookup hx
      refine ⟨b, CT c, dx, vs, u, rfl, h2, hc c, hn c, h4, w1, s1, e, rfl, m1, re.ext e1, (OkS.toS (re.ext e1) ok1).imp fun y s2 w2 e2 m2 ⟨_, _, ok2⟩ vy ry => ?_⟩
      refine hr (fun c x s' w' => W c x σ s' w') w2 s2 x y u vy _ m2 (RD.ext e2 _ _ h5) ry ((OkS.toS ((re.ext e1).ext e2) ok2).imp fun z s3 w3 e3 m3 ⟨_, _, ok3⟩ vz rz => ?_)
      split at ok3
      · rename_i k' c' fs' hi'
        split at ok3
        · rename_i hl
          obtain ⟨rfl, hl⟩ := hl
          obtain ⟨e4, b', dx', vs', e5, h6, h7, h8⟩ := insAt_rep m3 (RD.ext e3 _ _ (RD.ext e2 _ _ rv)) hi'
          cases e4
          cases e5
          obtain ⟨x4, m4⟩ := ins_ok (f := f') m3 h6 h7 h8 rz
          exact ⟨dx', vs', h7, by rw [h8.length]; exact hl, ok3 _ σ x4 m4 ((((re.ext e1).ext e2).ext e3).ext x4)⟩
        · exact ok3.elim
      · exact ok3.elim
    · exact ok1.elim
  · exact ok1.elim
end

/-! ### methods, making -/
def eMeth (m : Str) (c : Nat) (g : List D → Sto → R D) (dd : List D) (fo : EV) (l : AV) : EV := fun e s => (fo e s).bind fun o s => match insAt s o with
  | some (_, c', fs) => if c' = c ∧ fs.lookup m = none then (l e s).bind fun ds s => g (o :: (ds ++ dd)) s else .bad
  | none => .bad
def eMake (c : Nat) (g : List D → Sto → R D) (dd : List D) (l : AV) : EV := fun e s => (l e s).bind fun ds s1 => (g (.ref s1.length :: (ds ++ dd)) (s1 ++ [.ins c []])).bind fun v s2 => match v with
  | .p .none => .ok (.ref s1.length) s2
  | _ => .bad
section
variable {X : Cx} {CT : Nat → Addr} {T : ExT} {W : XW} {k n : Nat} {x m : Str} {p pos apos : Pos} {a o : Expr} {es : List Expr} {l : AV} {f : Addr} {fd : FuncData} {ps : List Str} {dvs : List V} {dvu : List Value} {dd : List D} {g : List D → Sto → R D} {fo : EV}
theorem meth_reads {σ : L2.St} {H : Hp} {Q : VK} (c : Nat) {j : Nat} (hn : n = ps.length) (hdd : ∀ w, RDs X.K w dd dvs) (hl : AV.len l j) (hmn : j + dd.length + 1 = n) (q : tD X.K CT W (eMeth m c g dd fo l) σ H Q) :
    tD X.K CT W fo σ H fun x H1 => ∃ a dx fs, x = .ref a ∧ H1 a = some (.ins (CT c) dx fs) ∧ fs.lookup m = none ∧ tDA X.K CT W l σ H1 fun vs H2 => spG X.K CT T n g (x :: (vs ++ dvs)) H2 Q (WE (WL X.K CT T W) σ) := by
  obtain ⟨w, s, e, rfl, m0, re, ok⟩ := q
  refine ⟨w, s, e, rfl, m0, re, (Ok.bind ok).imp fun d s1 w1 e1 m1 ⟨_, _, ok1⟩ v rv => ?_⟩
  split at ok1
  · rename_i k c' fs hi
    split at ok1
    · rename_i hh
      obtain ⟨rfl, hh⟩ := hh
      obtain ⟨rfl, b, dx, vs, rfl, h1, h2, h3⟩ := insAt_rep m1 rv hi
      refine ⟨b, dx, vs, rfl, h2, h3.lookupN hh, w1, s1, e, rfl, m1, re.ext e1, ?_⟩
      have ok' := Ok.bind ok1
      cases hr : l e s1 with
      | bad => rw [hr] at ok'; exact ok'
      | ex c y s' => rw [hr] at ok'; exact ok'
      | ok ds s2 =>
        rw [hr] at ok'
        intro w2 x2 m2 us rus
        obtain ⟨_, _, ok2⟩ := ok' w2 x2 m2
        refine ⟨w2, s2, .ref k :: (ds ++ dd), rfl, m2, ⟨_, _, rfl, RD.ext x2 _ _ rv, rus.append (hdd w2)⟩, by simp [hl _ _ _ _ hr]; omega, ?_⟩
        cases hg : g (.ref k :: (ds ++ dd)) s2 with
        | bad => rw [hg] at ok2; exact ok2
        | ok d s3 => rw [hg] at ok2; exact ok2
        | ex c y s3 =>
          rw [hg] at ok2
          exact fun w3 x3 m3 _ cls d hx => ⟨c, y, s3, w3, rfl, m3, hx, ok2 w3 x3 m3⟩
    · exact ok1.elim
  · exact ok1.elim
theorem pd_meth {pl : Sem Bool} {j : Nat} {m' : Str} (c : Nat) (hq : m' = m) (B : Bd X CT T W k) (F : FnG X.prog X.w X.K X.mg X.base k f fd ps (spG X.K CT T n g)) (hn : n = ps.length) (hc : Cls X.K (CT c)) (hm : Meth X.K (CT c) m' f) (hb : Binds X.K fd ps dvu) (hd : Vals dvs dvu) (hdd : ∀ w, RDs X.K w dd dvs)
    (ho : PD X CT W o fo) (ha : PDA X CT W (a :: es) l) (hl : AV.len l j) (hmn : j + dd.length + 1 = n)
    (hst : starEach (a :: es) X.env = (false, eval a X.env) :: starEach es X.env := by rfl) (hpl : (backTo pos (starEach es X.env)).any (·.1) = false := by rfl)
    (ht : eval (.Call (.Attribute o m' apos) (a :: es) [] pos) X.env = (do
      let ov ← eval o X.env
      standAt apos.atName
      let (f, first) ← holding [ov] (getMethod ov m' pl)
      callWith pos f first (backTo pos (starEach (a :: es) X.env)) (backToKw pos (keywordEach [] X.env))) := by rfl) :
    PD X CT W (.Call (.Attribute o m' apos) (a :: es) [] pos) (eMeth m c g dd fo l) := by
  subst hq
  refine ⟨fun pins s σ H Q I q => ?_⟩
  have q' := meth_reads (T := T) c hn hdd hl hmn q
  refine PySem.W.methodCall_KW (pl := pl) (thn (ho.run pins s σ H _ I q') fun u s1 ⟨x, H1, I1, rx, a, dx, fs, ex, ea, lk, q⟩ => ?_) ht
  subst ex
  obtain rfl : u = Value.ref a := rx
  refine getmeth_ok I1 ea hc hm lk ?_
  refine PySem.W.callWith_K (first := [.ref a]) (h₀ := X.base) I.ok.mod.kin hm.kp (thn (ha.run pos pins s1 σ H1 _ I1 q) fun us s2 ⟨vs, H2, I2, r, q2⟩ => ⟨I2.kIn, ?_⟩) hst hpl
  exact run_G (us := .ref a :: us) (vs := .ref a :: vs) F B.room hb hd (passAt B.tk σ) I2 (.cons rfl r) q2
theorem pd_meth0 {pl : Sem Bool} {m' : Str} (c : Nat) (hq : m' = m) (B : Bd X CT T W k) (F : FnG X.prog X.w X.K X.mg X.base k f fd ps (spG X.K CT T n g)) (hn : n = ps.length) (hc : Cls X.K (CT c)) (hm : Meth X.K (CT c) m' f) (hb : Binds X.K fd ps dvu) (hd : Vals dvs dvu) (hdd : ∀ w, RDs X.K w dd dvs)
    (ho : PD X CT W o fo) (hmn : dd.length + 1 = n)
    (ht : eval (.Call (.Attribute o m' apos) [] [] pos) X.env = (do
      let ov ← eval o X.env
      standAt apos.atName
      let (f, first) ← holding [ov] (getMethod ov m' pl)
      callWith pos f first (backTo pos (starEach [] X.env)) (backToKw pos (keywordEach [] X.env))) := by rfl) :
    PD X CT W (.Call (.Attribute o m' apos) [] [] pos) (eMeth m c g dd fo aNil) := by
  subst hq
  refine ⟨fun pins s σ H Q I q => ?_⟩
  have q' := meth_reads (T := T) (j := 0) c hn hdd len_nil (by omega) q
  refine PySem.W.methodCall_KW (pl := pl) (thn (ho.run pins s σ H _ I q') fun u s1 ⟨x, H1, I1, rx, a, dx, fs, ex, ea, lk, q⟩ => ?_) ht
  subst ex
  obtain rfl : u = Value.ref a := rx
  refine getmeth_ok I1 ea hc hm lk ?_
  obtain ⟨w, s0, e, hw, m0, re, ok⟩ := q
  have q2 := ok.get Ext.refl m0 [] rfl
  rw [hw] at q2
  exact PySem.W.callWith_K0 (first := [.ref a]) I1.kIn hm.kp (run_G (us := [.ref a]) (vs := [.ref a]) F B.room hb hd (passAt B.tk σ) I1 (.cons rfl .nil) q2)

theorem guards_make {A : Around} {C : Addr} {us : List Value} {kw : List (Str × Value)} : (A.under (.builtin "type.__call__" ⟨.ref C :: us, kw⟩)).guards = A.guards := by
  first | rfl | simp [Around.under, Code.isGuard, guardIds]
theorem make_reads {σ : L2.St} {H : Hp} {Q : VK} (c : Nat) {j : Nat} (hdd : ∀ w, RDs X.K w dd dvs) (hl : AV.len l j) (hmn : j + dd.length + 1 = n) (q : tD X.K CT W (eMake c g dd l) σ H Q) :
    tDA X.K CT W l σ H fun vs H1 => ∀ x dx, H1 x = none → H1 dx = none → dx ≠ x → spG X.K CT T n g (.ref x :: (vs ++ dvs)) (upd (upd H1 dx (.own x)) x (.ins (CT c) dx [])) (fun v H2 => v = .non ∧ Q (.ref x) H2) (WE (WL X.K CT T W) σ) := by
  obtain ⟨w, s, e, rfl, m0, re, ok⟩ := q
  refine ⟨w, s, e, rfl, m0, re, ?_⟩
  have ok' := Ok.bind ok
  cases hr : l e s with
  | bad => rw [hr] at ok'; exact ok'
  | ex c y s' => rw [hr] at ok'; exact ok'
  | ok ds s1 =>
    rw [hr] at ok'
    intro w1 x1 m1 vs rvs x dx hx hdx hne
    obtain ⟨_, _, ok1⟩ := ok' w1 x1 m1
    have e2 := m1.extT (o := .own x) hdx
    have m2 := m1.newT (o := .own x) hdx
    have hx2 : upd w1.H dx (.own x) x = none := by
      rw [upd_ne hne.symm]
      exact hx
    have e3 := m2.extO (o := .ins (CT c) dx []) hx2
    have m3 := m2.newO (u := .ins (CT c) dx []) (o := .ins c []) hx2 ⟨dx, [], upd_same, rfl⟩
    have e13 := e2.trans e3
    have rx : RD X.K (Wd.addO { w1 with H := upd w1.H dx (.own x) } x (.ins (CT c) dx [])) (.ref s1.length) (.ref x) := ⟨x, by
      show (w1.mu ++ [x])[s1.length]? = _
      rw [← m1.len]
      simp, rfl⟩
    refine ⟨_, s1 ++ [.ins c []], .ref s1.length :: (ds ++ dd), rfl, m3, ⟨_, _, rfl, rx, (RDs.ext e13 _ _ rvs).append (hdd _)⟩, by simp [hl _ _ _ _ hr]; omega, ?_⟩
    have ok2 := Ok.bind (Ok.ext e13 ok1)
    cases hg : g (.ref s1.length :: (ds ++ dd)) (s1 ++ [.ins c []]) with
    | bad => rw [hg] at ok2; exact ok2
    | ok d s3 =>
      rw [hg] at ok2
      intro w3 x3 m3' v rv
      obtain ⟨_, _, ok3⟩ := ok2 w3 x3 m3'
      cases d with
      | p y =>
        cases y with
        | none => exact ⟨rv, nowD m3' ok3 (RD.ext x3 _ _ rx)⟩
        | _ => exact ok3.elim
      | _ => exact ok3.elim
    | ex c y s3 =>
      rw [hg] at ok2
      exact fun w3 x3 m3' _ cls d hx => ⟨c, y, s3, w3, rfl, m3', hx, ok2 w3 x3 m3'⟩
theorem run_makeG {sp : Sp} {E : XK} {pins : List (Addr × Obj)} {σ : L2.St} {H : Hp} {s : Shared} {Q : VK} {us : List Value} {vs : List V} {C : Addr} (M : Mk X.K C f) (F : FnG X.prog X.w X.K X.mg X.base k f fd ps sp) (B : Bd X CT T W k) (hb : Binds X.K fd ps dvu) (hd : Vals dvs dvu)
    (hx : PassesAt (L2.CX X.prog X.w) X σ E) (I : Inv X pins σ H s) (r : Vals vs us)
    (h : ∀ x dx, H x = none → H dx = none → dx ≠ x → sp (.ref x :: (vs ++ dvs)) (upd (upd H dx (.own x)) x (.ins C dx [])) (fun v H2 => v = .non ∧ Q (.ref x) H2) E) :
    wpAny (model X.prog X.w) X.A (call (.ref C) us) (EP X pins σ Q) X.xe s := by
  have hq := h (s.heap.objs.size + 1) s.heap.objs.size (I.hok.fresh (Nat.le_succ _)) (I.hok.fresh (Nat.le_refl _)) (Nat.ne_of_lt (Nat.lt_succ_self _))
  have I2 := Inv.made (C := C) I
  have r2 : Vals (V.ref (s.heap.objs.size + 1) :: (vs ++ dvs)) (Value.ref (s.heap.objs.size + 1) :: (us ++ dvu)) := .cons rfl (r.append hd)
  have hl : (Value.ref (s.heap.objs.size + 1) :: us ++ dvu).length = ps.length := by
    have e := r2.length
    rw [F.len _ _ _ _ hq] at e
    exact e.symm
  have room : RoomG k (X.A.under (.builtin "type.__call__" ⟨.ref C :: us, []⟩)) := ⟨B.room.hd, guards_make.trans B.room.gd, by
    have := B.dp1
    rw [make_depth]
    omega, by
    have := B.dp1
    rw [make_units]
    omega⟩
  refine wpAny_call (make_map (f := f) I.kIn M.makes M.init (beq_iff_eq.mp M.fn) (codeAny_mono (F.run _ X.stack _ _ ⟨Value.ref (s.heap.objs.size + 1) :: us, []⟩ (Value.ref (s.heap.objs.size + 1) :: (us ++ dvu)) _ _ E room
    (I2.env0.make C us []) (hb _ (Value.ref (s.heap.objs.size + 1) :: us) I2.kIn hl) r2 hq) fun r s' hq' => ?_))
  rcases r with e | (_ | _ | _ | u)
  case error => exact hx pins _ _ e s' I2 hq'
  all_goals first | exact False.elim hq' | skip
  obtain ⟨v, H', I3, rv, ev, q3⟩ := I2.after hq'
  subst ev
  exact ⟨rv, ⟨V.ref (s.heap.objs.size + 1), H', I3, rfl, q3⟩⟩
theorem pd_make {j : Nat} (c : Nat) (B : Bd X CT T W k) (M : Mk X.K (CT c) f) (F : FnG X.prog X.w X.K X.mg X.base k f fd ps (spG X.K CT T n g)) (hg : Gl X x) (hm : X.mg x = some (.ref (CT c))) (hb : Binds X.K fd ps dvu) (hd : Vals dvs dvu) (hdd : ∀ w, RDs X.K w dd dvs)
    (ha : PDA X CT W (a :: es) l) (hl : AV.len l j) (hmn : j + dd.length + 1 = n)
    (hdb : (x == ("__debug__" : Str)) = false := by decide) (he : starEach (a :: es) X.env = (false, eval a X.env) :: starEach es X.env := by rfl) (hpl : (backTo pos (starEach es X.env)).any (·.1) = false := by rfl) :
    PD X CT W (.Call (.Name x p) (a :: es) [] pos) (eMake c g dd l) := by
  refine ⟨fun pins s σ H Q I q => ?_⟩
  have q' := make_reads (T := T) c hdd hl hmn q
  refine wpAny_Call_Name_kw (ld_glob I hg hm ?_ hdb)
  refine PySem.W.callWith_K (h₀ := X.base) I.ok.mod.kin M.kp (thn (ha.run pos pins s σ H _ I q') fun us s1 ⟨vs, H1, I1, r, q1⟩ => ⟨I1.kIn, ?_⟩) he hpl
  exact run_makeG M F B hb hd (passAt B.tk σ) I1 r q1
theorem pd_make0 (c : Nat) (B : Bd X CT T W k) (M : Mk X.K (CT c) f) (F : FnG X.prog X.w X.K X.mg X.base k f fd ps (spG X.K CT T n g)) (hg : Gl X x) (hm : X.mg x = some (.ref (CT c))) (hb : Binds X.K fd ps dvu) (hd : Vals dvs dvu) (hdd : ∀ w, RDs X.K w dd dvs)
    (hmn : dd.length + 1 = n) (hdb : (x == ("__debug__" : Str)) = false := by decide) : PD X CT W (.Call (.Name x p) [] [] pos) (eMake c g dd aNil) := by
  refine ⟨fun pins s σ H Q I q => ?_⟩
  have q' := make_reads (T := T) (dd := dd) (n := n) (j := 0) c hdd len_nil (by omega) q
  refine wpAny_Call_Name_kw (ld_glob I hg hm ?_ hdb)
  refine PySem.W.callWith_K0 I.kIn M.kp ?_
  obtain ⟨w, s0, e, hw, m0, re, ok⟩ := q'
  have q2 := ok.get Ext.refl m0 [] rfl
  rw [hw] at q2
  exact run_makeG (us := []) (vs := []) M F B hb hd (passAt B.tk σ) I .nil q2
end

/-! ### one list of ints before another -/
def ltI : List Int → List Int → Bool
  | [], [] => false
  | [], _ :: _ => true
  | _ :: _, [] => false
  | x :: xs, y :: ys => if x = y then ltI xs ys else decide (x < y)
theorem firstLt_map {e r : Nat → Bool} {fin : Bool} (g : Nat → Nat) : ∀ l : List Nat, SeqAt.firstLt e r fin (l.map g) = SeqAt.firstLt (fun i => e (g i)) (fun i => r (g i)) fin l
  | [] => rfl
  | j :: t => by
    simp only [List.map_cons]
    unfold SeqAt.firstLt
    rw [firstLt_map g t]
theorem firstLt_ltI : ∀ ns ms : List Int, SeqAt.firstLt (fun j => ns.getD j 0 == ms.getD j 0) (fun j => decide (ns.getD j 0 < ms.getD j 0)) (decide (ns.length < ms.length)) (List.range (min ns.length ms.length)) = ltI ns ms
  | [], [] => rfl
  | [], y :: ys => by simp [SeqAt.firstLt, ltI]
  | x :: xs, [] => by simp [SeqAt.firstLt, ltI]
  | x :: xs, y :: ys => by
    have ih := firstLt_ltI xs ys
    rw [show min (x :: xs).length (y :: ys).length = min xs.length ys.length + 1 by simp only [List.length_cons]; omega, List.range_succ_eq_map]
    unfold SeqAt.firstLt ltI
    rw [firstLt_map]
    simp only [List.getD_cons_zero, List.getD_cons_succ, beq_iff_eq, List.length_cons, Nat.add_lt_add_iff_right]
    rw [ih]
def rLtL (K : PySem.W.Frag) : R2 := fun x y H Q => ∃ a b ns ms, x = .ref a ∧ y = .ref b ∧ SqL K H a (ns.map V.int) ∧ SqL K H b (ms.map V.int) ∧ Q (.bl (ltI ns ms)) H
theorem IntsAre.at' {us : List Value} {ns : List Int} (h : IntsAre us ns) : ∀ (j : Nat) (hj : j < us.length), ∃ t, us[j] = .int (ns.getD j 0) t := by
  induction h with
  | nil => exact fun j hj => absurd hj (by simp)
  | cons a t r ih =>
    intro j hj
    cases j with
    | zero => exact ⟨t, rfl⟩
    | succ j =>
      obtain ⟨t', ht⟩ := ih j (by simpa using hj)
      exact ⟨t', by simpa using ht⟩
theorem op_ltL {X : Cx} (hu : X.A.units < cLine) : OpR X (compareOp .Lt) (rLtL X.K) := by
  intro pins s σ H x y v u Q I rx ry h
  obtain ⟨a, b, ns, ms, rfl, rfl, ha, hb, q⟩ := h
  cases rx
  cases ry
  obtain ⟨its, r1, p1, _⟩ := I.list ha
  obtain ⟨its2, r2, p2, _⟩ := I.list hb
  have i1 : IntsAre its ns := intsAre_of r1
  have i2 : IntsAre its2 ms := intsAre_of r2
  have l1 : ns.length = its.length := by simpa using r1.length
  have l2 : ms.length = its2.length := by simpa using r2.length
  refine SeqAt.RcLt.lists (e := fun j => ns.getD j 0 == ms.getD j 0) (r := fun j => decide (ns.getD j 0 < ms.getD j 0)) p1.isList p2.isList hu (fun j h1 h2 => ?_) (fun j h1 h2 _ => ?_) _ _ _ _ ⟨.bl (ltI ns ms), H, I, ?_, q⟩
  · obtain ⟨t1, e1⟩ := IntsAre.at' i1 j (by simpa using h1)
    obtain ⟨t2, e2⟩ := IntsAre.at' i2 j (by simpa using h2)
    have e1 : its.toArray[j] = .int (ns.getD j 0) t1 := by simpa using e1
    have e2 : its2.toArray[j] = .int (ms.getD j 0) t2 := by simpa using e2
    rw [e1, e2]
    exact SeqAt.EqAt.int_int _ _ _ _
  · obtain ⟨t1, e1⟩ := IntsAre.at' i1 j (by simpa using h1)
    obtain ⟨t2, e2⟩ := IntsAre.at' i2 j (by simpa using h2)
    have e1 : its.toArray[j] = .int (ns.getD j 0) t1 := by simpa using e1
    have e2 : its2.toArray[j] = .int (ms.getD j 0) t2 := by simpa using e2
    rw [e1, e2]
    exact fun prog w E Q h => PyProof.Rows.lt_int h
  · have := firstLt_ltI ns ms
    rw [l1, l2] at this
    simp only [List.size_toArray]
    exact congrArg Value.bool this
def intsD : List D → Option (List Int)
  | [] => some []
  | .p (.int i) :: r => (intsD r).map fun l => i :: l
  | _ => none
theorem intsD_some : ∀ {ds : List D} {ns : List Int}, intsD ds = some ns → ds = ns.map fun i => .p (.int i)
  | [], ns, h => by cases h; rfl
  | .p (.int i) :: r, ns, h => by
    unfold intsD at h
    cases e : intsD r with
    | none => rw [e] at h; cases h
    | some l =>
      rw [e] at h
      cases h
      rw [intsD_some e]
      rfl
  | .p .none :: _, _, h => nomatch h
  | .p (.bool _) :: _, _, h => nomatch h
  | .p (.str _) :: _, _, h => nomatch h
  | .p (.tuple _) :: _, _, h => nomatch h
  | .p (.list _) :: _, _, h => nomatch h
  | .p (.dict _) :: _, _, h => nomatch h
  | .ref _ :: _, _, h => nomatch h
  | .bag _ :: _, _, h => nomatch h
  | .ro _ :: _, _, h => nomatch h
theorem intsD_map (ns : List Int) : intsD (ns.map fun i => .p (.int i)) = some ns := by
  induction ns with
  | nil => rfl
  | cons n ns ih => simp [intsD, ih]
theorem RDs.ints {K : PySem.W.Frag} {w : Wd} : ∀ {ns : List Int} {vs : List V}, RDs K w (ns.map fun i => .p (.int i)) vs → vs = ns.map V.int
  | [], _, h => h
  | n :: ns, _, h => by
    obtain ⟨v, r, rfl, h1, h2⟩ := h
    rw [RDs.ints h2, show v = V.int n from h1]
    rfl
def hLtL : D → D → Sto → R D := fun x y s => match asL s x, asL s y with
  | some xs, some ys => match intsD xs, intsD ys with
    | some ns, some ms => .ok (.p (.bool (ltI ns ms))) s
    | _, _ => .bad
  | _, _ => .bad
theorem opd_ltL {K : PySem.W.Frag} {CT : Nat → Addr} : OpD K CT (rLtL K) hLtL := by
  intro W w s x y vx vy Q m rx ry ok
  unfold hLtL at ok
  split at ok
  · rename_i xs ys e1 e2
    split at ok
    · rename_i ns ms e3 e4
      obtain ⟨a, vs, rfl, h1, h2⟩ := asL_rep m rx e1
      obtain ⟨b, us, rfl, h3, h4⟩ := asL_rep m ry e2
      rw [intsD_some e3] at h2
      rw [intsD_some e4] at h4
      rw [RDs.ints h2] at h1
      rw [RDs.ints h4] at h3
      exact ⟨a, b, ns, ms, rfl, rfl, h1, h3, now m ok rfl⟩
    · exact ok.elim
  · exact ok.elim
section
variable {X : Cx} {CT : Nat → Addr} {T : ExT} {W : XW} {k : Nat} {pos : Pos} {a b : Expr} {f g : EV}
theorem pd_ltL (hu : X.A.units + 65 < cLine) (ha : PD X CT W a f) (hb : PD X CT W b g) : PD X CT W (.Compare a [.Lt] [b] pos) (eOp hLtL f g) := pd_cmp (op_ltL (by omega)) opd_ltL ha hb
end

/-! ### try: body, except C as e: return g if e.f == text else h -/
def sTryIf (m : Nat → Bool) (i : Nat) (z : Str) (b : SV) (g h : EV) : SV := fun e s => match b e s with
  | .ex c x e' s' => if m c then (match x with
    | .str y => if i < e'.length then (match (if y = z then g (e'.set i none) s' else h (e'.set i none) s') with
      | .ok d s2 => .rt d s2
      | _ => .bad) else .bad
    | _ => .bad) else .ex c x e' s'
  | r => r
theorem RE.hide {K : PySem.W.Frag} {w : Wd} {e : En} {σ : L2.St} (r : RE K w e σ) (i : Nat) (o : Option V) : RE K w (e.set i none) (σ.set i o) := ⟨by simp [r.len], fun j d hj => by
  by_cases hij : i = j
  · subst hij
    obtain ⟨hl, hv⟩ := List.getElem?_eq_some_iff.mp hj
    rw [List.getElem_set_self] at hv
    cases hv
  · rw [List.getElem?_set_ne hij] at hj
    obtain ⟨u, h1, h2⟩ := r.at' j d hj
    exact ⟨u, by rw [List.getElem?_set_ne hij]; exact h1, h2⟩⟩
section
variable {X : Cx} {CT : Nat → Addr} {T : ExT} {W : XW} {k i : Nat} {pos pos' np p1 p2 p4 p5 p6 p7 p8 : Pos} {p3 : Nat} {body : List Stmt} {u : SV} {x n : Str} {C : Addr} {f z' z : Str} {m : Nat → Bool} {ga ha : Expr} {g h : EV}
theorem ps_tryIf (B : Bd X CT T W k) (hs : X.stack = X.env :: X.outer) (hf : X.env.frame = some X.env.locals) (i : Nat) (hc : Names X x (.ref C)) (hT : ∀ c, PySem.W.exmOne X.K (.ref (T.cls c)) (.ref C) = some (m c)) (hC : ∀ c, m c = true → T.cls c = C ∧ T.fld c = f)
    (XC : XfC X.K C) (hno : PySem.W.findIn X.K (.ref C) f = some none) (hz : z' = z)
    (hb : ∀ (W' : XW) (pn : List (Addr × Obj)) (xe : Value → Shared → Prop), Bd (X.tr pn xe) CT T W' k → PDB (X.tr pn xe) CT W' body u)
    (hg : ∀ (a : Addr) (pn : List (Addr × Obj)), PD (X.suite a pn) CT W0 ga g) (hh : ∀ (a : Addr) (pn : List (Addr × Obj)), PD (X.suite a pn) CT W0 ha h)
    (hi : X.N[i]? = some n := by rfl) (hln : X.env.kindOf n = some .local := by rfl) (hd : (n == ("__debug__" : Str)) = false := by decide) (hcd : (n == ("__classdict__" : Str)) = false := by decide)
    (hab : attributeBase (.Name n p1) f X.env (eval (.Name n p1) X.env) = eval (.Name n p1) X.env := by rfl)
    (hcm : behindInMarks .Eq (.Constant (.str z') p3 p4) = false := by first | exact nobehind _ (by decide) (by decide) | rfl) :
    PDS X CT W (.Try body [.ExceptHandler (some (.Name x np)) (some n) [.Return (some (.IfExp (.Compare (.Attribute (.Name n p1) f p2) [.Eq] [.Constant (.str z') p3 p4] p5) ga ha p7)) p6] pos'] [] [] pos) (sTryIf m i z u g h) := by
  subst hz
  refine (ps_try_as (ts := fun a cls d D σ H => tIf (tTest (tOp rEq (tXf a cls d C f (tVar i)) (tC (.str z')))) (tD X.K CT W0 g) (tD X.K CT W0 h) σ H (fun v H1 => D.rt v H1)) (tb := fun W' => tDS X.K CT (WofX X.K T W') u) hs hf B.nd hi hln hc B.tk
    (fun W' pn xe tk po => hb _ pn xe (B.tr tk po)) (fun a oe cls d pn hz hfl => pss_one (ps_ret (pe_ifExp (pt_cmpR op_eq (pe_xf XC hno hz hfl (pe_var hi (.inl hln) hd hcd) hab) pe_str hcm) (hg a ((a, oe) :: pn)) (hh a ((a, oe) :: pn)))))).imp fun D σ H q => ?_
  obtain ⟨w, s, e, rfl, sm, re, ok⟩ := q
  refine ⟨w, s, e, rfl, sm, re, ?_⟩
  unfold sTryIf at ok
  cases hu : u e s with
  | nx e' s' => rw [hu] at ok; exact ok
  | rt d s' => rw [hu] at ok; exact ok
  | bk e' s' => rw [hu] at ok; exact ok
  | ct e' s' => rw [hu] at ok; exact ok
  | bad => rw [hu] at ok; exact ok
  | ex c y e' s' =>
    rw [hu] at ok
    intro w' σ' x1 m1 r1 cls d xr
    refine ⟨m c, by rw [xr.1]; exact hT c, fun hm a na => ?_, fun hm => ?_⟩
    · simp only [hm, if_true] at ok
      cases y with
      | str zz =>
        obtain ⟨xc, dd, v, xd, xh, xv⟩ := xr
        have xv : v = .str zz := xv
        subst xv
        simp only [] at ok
        split at ok
        case isFalse => exact ok.elim
        rename_i il
        rw [r1.len] at il
        refine ⟨.ref a, ?_, rfl, ?_⟩
        · rw [List.getElem?_set_self il]
        · refine ⟨by rw [xc, (hC c hm).1], dd, [(T.fld c, .str zz)], .str zz, xd, xh, ?_, ?_⟩
          · rw [(hC c hm).2]
            simp [List.lookup]
          · refine ⟨rfl, decide (V.str zz = V.str z'), rfl, ?_⟩
            have r2 : RE X.K w' (e'.set i none) (σ'.set i (some (.ref a))) := r1.hide i _
            by_cases ez : zz = z'
            · simp only [ez, if_true] at ok
              show (if decide (V.str zz = V.str z') = true then _ else _)
              rw [if_pos (by simp [ez])]
              refine ⟨w', s', _, rfl, m1, r2, ?_⟩
              cases hg2 : g (e'.set i none) s' with
              | ok d2 s2 =>
                rw [hg2] at ok
                exact fun w2 x2 m2 v rv => ok w2 v (x1.trans x2) m2 rv
              | ex _ _ _ => rw [hg2] at ok; exact ok.elim
              | bad => rw [hg2] at ok; exact ok.elim
            · simp only [ez, if_false] at ok
              show (if decide (V.str zz = V.str z') = true then _ else _)
              rw [if_neg (by simp [ez])]
              refine ⟨w', s', _, rfl, m1, r2, ?_⟩
              cases hg2 : h (e'.set i none) s' with
              | ok d2 s2 =>
                rw [hg2] at ok
                exact fun w2 x2 m2 v rv => ok w2 v (x1.trans x2) m2 rv
              | ex _ _ _ => rw [hg2] at ok; exact ok.elim
              | bad => rw [hg2] at ok; exact ok.elim
      | _ => exact ok.elim
    · simp only [hm] at ok
      exact ⟨c, y, s', w', rfl, m1, xr, ok w' σ' x1 m1 r1⟩
end

/-! ### defs of the text: of the module, of a class -/
def clsS (st : Stmt) (j : Nat) : Stmt := match st with
  | .ClassDef _ _ _ body _ _ _ _ _ _ _ => body.getD j (.Pass ⟨0, 0, 0, 0⟩)
  | s => s
structure DfQ (K : PySem.W.Frag) (mg : Str → Option Value) (nm ql : Str) (gn : Bool) (st : Stmt) (hd : Bool) (f : Addr) (fd : FuncData) : Prop where
  ex : ∃ (oc : Value) (od : Option Addr) (dV kV doc pm : Value) (an : Option Addr) (cdv ct : Value) (osl : Array (Option Value)),
    fd = PySem.W.fnOf nm ql (defArgs st) (defBody st) (defScope st) dV kV doc pm an cdv ct ∧ K.lookup f = some ⟨oc, od, .func fd, osl⟩ ∧ PySem.W.codeIn K cdv ql = true ∧ (hd = false → dV = .none)
  kp : PySem.W.keepIn K (.ref f) = true
  gl : gn = true → mg nm = some (.ref f)
theorem DfQ.ok {P : Program} {w : World} {K : PySem.W.Frag} {mg : Str → Option Value} {base : Heap} {CT : Nat → Addr} {T : ExT} {k : Nat} {nm ql : Str} {gn : Bool} {st : Stmt} {hd : Bool} {f : Addr} {fd : FuncData} {N ps : List Str} {b : SV}
    (F : DfQ K mg nm ql gn st hd f fd) (S : FnScope N ps (defScope st))
    (body : ∀ (cdv : Value) (A : Around) (fr : List Env) (s : Shared) (H : Hp) (E : XK) (W : XW), Bd (cxOf (L2.CX P w) P w K mg base N ql (defScope st) f cdv A fr s H E) CT T W k → PDB (cxOf (L2.CX P w) P w K mg base N ql (defScope st) f cdv A fr s H E) CT W (defBody st) b) :
    FnG P w K mg base (k + 1) f fd ps (spG K CT T ps.length (runB N.length b)) := by
  obtain ⟨oc, od, dV, kV, doc, pm, an, cdv, ct, osl, rfl, lk, hcd, hz⟩ := F.ex
  exact fnG_of lk hcd S (fun w s ds Q E _ h => h) fun A fr s H E W B => body cdv A fr s H E W B
theorem DfQ.okL {P : Program} {w : World} {K : PySem.W.Frag} {mg : Str → Option Value} {base : Heap} {CT : Nat → Addr} {T : ExT} {k : Nat} {nm ql : Str} {gn : Bool} {st : Stmt} {hd : Bool} {f : Addr} {fd : FuncData} {N ps : List Str} {b : SV}
    (F : DfQ K mg nm ql gn st hd f fd) (S : FnScope N ps (defScope st))
    (body : ∀ (cdv : Value) (A : Around) (fr : List Env) (s : Shared) (H : Hp) (E : XK) (W : XW), Bd (cxOf (L2.CX P w) P w K mg base N ql (defScope st) f cdv A fr s H E) CT T W k → PDB (cxOf (L2.CX P w) P w K mg base N ql (defScope st) f cdv A fr s H E) CT W (defBody st) b) :
    FnG P w K mg base (k + 1) f fd ps (spG K CT T ps.length fun ds s => leave s (runB N.length b ds s)) := by
  obtain ⟨oc, od, dV, kV, doc, pm, an, cdv, ct, osl, rfl, lk, hcd, hz⟩ := F.ex
  refine fnG_of lk hcd S (fun w s ds Q E m h => leave_ok m (fun c x s1 w1 s2 w2 l hx m2 q _ cls d hE => ?_) h) fun A fr s H E W B => body cdv A fr s H E W B
  obtain ⟨e1, dd, v, e2, e3, e4⟩ := hE
  have := q m2 cls d ⟨e1, dd, v, e2, by rw [l.H]; exact e3, hx v e4⟩
  rw [l.H] at this
  exact this
theorem DfQ.binds {K : PySem.W.Frag} {mg : Str → Option Value} {nm ql : Str} {gn : Bool} {st : Stmt} {f : Addr} {fd : FuncData} {ps : List Str} (F : DfQ K mg nm ql gn st false f fd)
    (h : ∀ (kV doc pm : Value) (an : Option Addr) (cdv ct : Value) (us : List Value), us.length = ps.length → bindArgs (PySem.W.fnOf nm ql (defArgs st) (defBody st) (defScope st) .none kV doc pm an cdv ct) ⟨us, []⟩ = pure (ps.zip us)) : Binds K fd ps [] := by
  obtain ⟨oc, od, dV, kV, doc, pm, an, cdv, ct, osl, rfl, lk, hcd, hz⟩ := F.ex
  cases hz rfl
  exact .all (h kV doc pm an cdv ct)
end Dl
/-! law_k04_terms_and_near_things: the defs as functions on data (printed by gen.py). -/
namespace Lk04
open PySem Dl
inductive Fn where
  | c_is_value
  | c_is_test
  | c_is_integer
  | c_is_operation
  | c_is_name
  | c_is_pair
  | c_parts_of
  | c_is_flat
  | c_is_shaped
  | c_is_open_term
  | c_is_term
  | c_checked
  | law_stream
  | law_take
  | law_value
  | law_test
  | law_operation
  | law_leaf
  | law_term
  | law_faults
  | law_count
  | law_parts
  | law_put
  | law_inside_grow
  | c_law
abbrev Cs := Fn → List D → Sto → R D
def wN : Nat := 100000000
def q_even : Str := ⟨#[101, 118, 101, 110]⟩
theorem e_even : Str.ofString "even" = q_even := by rfl
def q_rising : Str := ⟨#[114, 105, 115, 105, 110, 103]⟩
theorem e_rising : Str.ofString "rising" = q_rising := by rfl
def q_equals : Str := ⟨#[101, 113, 117, 97, 108, 115]⟩
theorem e_equals : Str.ofString "equals" = q_equals := by rfl
def q_less : Str := ⟨#[108, 101, 115, 115]⟩
theorem e_less : Str.ofString "less" = q_less := by rfl
def q_size : Str := ⟨#[115, 105, 122, 101]⟩
theorem e_size : Str.ofString "size" = q_size := by rfl
def q_not : Str := ⟨#[110, 111, 116]⟩
theorem e_not : Str.ofString "not" = q_not := by rfl
def q_all : Str := ⟨#[97, 108, 108]⟩
theorem e_all : Str.ofString "all" = q_all := by rfl
def q_any : Str := ⟨#[97, 110, 121]⟩
theorem e_any : Str.ofString "any" = q_any := by rfl
def q_both : Str := ⟨#[98, 111, 116, 104]⟩
theorem e_both : Str.ofString "both" = q_both := by rfl
def q_either : Str := ⟨#[101, 105, 116, 104, 101, 114]⟩
theorem e_either : Str.ofString "either" = q_either := by rfl
def q_mod : Str := ⟨#[109, 111, 100]⟩
theorem e_mod : Str.ofString "mod" = q_mod := by rfl
def q_mul : Str := ⟨#[109, 117, 108]⟩
theorem e_mul : Str.ofString "mul" = q_mul := by rfl
def q_add : Str := ⟨#[97, 100, 100]⟩
theorem e_add : Str.ofString "add" = q_add := by rfl
def q_abcdefghijklmnopqrstuvwxyz : Str := ⟨#[97, 98, 99, 100, 101, 102, 103, 104, 105, 106, 107, 108, 109, 110, 111, 112, 113, 114, 115, 116, 117, 118, 119, 120, 121, 122]⟩
theorem e_abcdefghijklmnopqrstuvwxyz : Str.ofString "abcdefghijklmnopqrstuvwxyz" = q_abcdefghijklmnopqrstuvwxyz := by rfl
def q_pick : Str := ⟨#[112, 105, 99, 107]⟩
theorem e_pick : Str.ofString "pick" = q_pick := by rfl
def q_tuple : Str := ⟨#[116, 117, 112, 108, 101]⟩
theorem e_tuple : Str.ofString "tuple" = q_tuple := by rfl
def q_weigh : Str := ⟨#[119, 101, 105, 103, 104]⟩
theorem e_weigh : Str.ofString "weigh" = q_weigh := by rfl
def q_list : Str := ⟨#[108, 105, 115, 116]⟩
theorem e_list : Str.ofString "list" = q_list := by rfl
def q_keep : Str := ⟨#[107, 101, 101, 112]⟩
theorem e_keep : Str.ofString "keep" = q_keep := by rfl
def q_map : Str := ⟨#[109, 97, 112]⟩
theorem e_map : Str.ofString "map" = q_map := by rfl
def q_let : Str := ⟨#[108, 101, 116]⟩
theorem e_let : Str.ofString "let" = q_let := by rfl
def q_grow : Str := ⟨#[103, 114, 111, 119]⟩
theorem e_grow : Str.ofString "grow" = q_grow := by rfl
def q_discard : Str := ⟨#[100, 105, 115, 99, 97, 114, 100]⟩
theorem e_discard : Str.ofString "discard" = q_discard := by rfl
def q_self : Str := ⟨#[115, 101, 108, 102]⟩
theorem e_self : Str.ofString "self" = q_self := by rfl
def q_const : Str := ⟨#[99, 111, 110, 115, 116]⟩
theorem e_const : Str.ofString "const" = q_const := by rfl
def q_var : Str := ⟨#[118, 97, 114]⟩
theorem e_var : Str.ofString "var" = q_var := by rfl
def q_upto : Str := ⟨#[117, 112, 116, 111]⟩
theorem e_upto : Str.ofString "upto" = q_upto := by rfl
def q_range : Str := ⟨#[114, 97, 110, 103, 101]⟩
theorem e_range : Str.ofString "range" = q_range := by rfl
def q_shuffle : Str := ⟨#[115, 104, 117, 102, 102, 108, 101]⟩
theorem e_shuffle : Str.ofString "shuffle" = q_shuffle := by rfl
def q_term : Str := ⟨#[116, 101, 114, 109]⟩
theorem e_term : Str.ofString "term" = q_term := by rfl
def q_flat : Str := ⟨#[102, 108, 97, 116]⟩
theorem e_flat : Str.ofString "flat" = q_flat := by rfl
def q_reverse : Str := ⟨#[114, 101, 118, 101, 114, 115, 101]⟩
theorem e_reverse : Str.ofString "reverse" = q_reverse := by rfl
def q_sort : Str := ⟨#[115, 111, 114, 116]⟩
theorem e_sort : Str.ofString "sort" = q_sort := by rfl
def q_sum : Str := ⟨#[115, 117, 109]⟩
theorem e_sum : Str.ofString "sum" = q_sum := by rfl
def q_abc : Str := ⟨#[97, 98, 99]⟩
theorem e_abc : Str.ofString "abc" = q_abc := by rfl
def q_y : Str := ⟨#[121]⟩
theorem e_y : Str.ofString "y" = q_y := by rfl
def q_x : Str := ⟨#[120]⟩
theorem e_x : Str.ofString "x" = q_x := by rfl
def q_zz : Str := ⟨#[122, 122]⟩
theorem e_zz : Str.ofString "zz" = q_zz := by rfl
def q_odd : Str := ⟨#[111, 100, 100]⟩
theorem e_odd : Str.ofString "odd" = q_odd := by rfl
def q_X : Str := ⟨#[88]⟩
theorem e_X : Str.ofString "X" = q_X := by rfl
def q_dice : Str := ⟨#[100, 105, 99, 101]⟩
theorem e_dice : Str.ofString "dice" = q_dice := by rfl
def k_MAX_WEIGHT : PyData := (.int 1000000000000000)
def k_MAX_TRIES : PyData := (.int 4)
def k_MAX_SPAN : PyData := (.int 64)
def k_MAX_PARTS : PyData := (.int 64)
def k_MAX_LIST : PyData := (.int 6)
def k_MAX_GROW : PyData := (.int 4)
def k_MAX_DEPTH : PyData := (.int 24)
def k_LONE : PyData := (.tuple [(.str q_sum), (.str q_size), (.str q_sort), (.str q_reverse), (.str q_flat)])
def m_Invalid (c : Nat) : Bool := c == 0
def b_c_is_value (C : Cs) : SV :=
  (sSeq (sIf (tTru (eIsi "bool" (eVar 0)))
  (sRet (eC (.bool false)))
  sNil)
  (sSeq (sIf (tTru (eIsi "int" (eVar 0)))
  (sRet (eC (.bool true)))
  sNil)
  (sSeq (sIf (tOr (tNot (tTru (eIsi "tuple" (eVar 0)))) (tOr (tB (eOp hEq (eVar 1) (eC (.int 0)))) (tB (eOp hGt (eBlt hLen (aCons (eVar 0) aNil)) (eC (.int 64))))))
  (sRet (eC (.bool false)))
  sNil)
  (sRet (eBlt hAll (aCons (eLc false [2] (iSeq (eVar 0)) (gSet 2) tYes (eCall (C .c_is_value) [] (aCons (eVar 2) (aCons (eOp hSub (eVar 1) (eC (.int 1))) aNil)))) aNil))))))
def b_c_is_test (C : Cs) : SV :=
  (sSeq (sIf (tOr (tNot (tTru (eIsi "tuple" (eVar 0)))) (tOr (tB (eOp hEq (eBlt hLen (aCons (eVar 0) aNil)) (eC (.int 0)))) (tB (eOp hEq (eVar 1) (eC (.int 0))))))
  (sRet (eC (.bool false)))
  sNil)
  (sSeq (sSet 2 (eOp hIx (eVar 0) (eC (.int 0))))
  (sSeq (sIf (tOr (tB (eOp hEq (eVar 2) (eC (.str q_even)))) (tB (eOp hEq (eVar 2) (eC (.str q_rising)))))
  (sRet (eOp hEq (eBlt hLen (aCons (eVar 0) aNil)) (eC (.int 1))))
  sNil)
  (sSeq (sIf (tB (eOp hLt (eBlt hLen (aCons (eVar 0) aNil)) (eC (.int 2))))
  (sRet (eC (.bool false)))
  sNil)
  (sSeq (sIf (tB (eOp hEq (eVar 2) (eC (.str q_equals))))
  (sRet (eAnd (eOp hEq (eBlt hLen (aCons (eVar 0) aNil)) (eC (.int 2))) (eCall (C .c_is_value) [.p (.int 8)] (aCons (eOp hIx (eVar 0) (eC (.int 1))) aNil))))
  sNil)
  (sSeq (sIf (tOr (tB (eOp hEq (eVar 2) (eC (.str q_less)))) (tB (eOp hEq (eVar 2) (eC (.str q_size)))))
  (sRet (eAnd (eOp hEq (eBlt hLen (aCons (eVar 0) aNil)) (eC (.int 2))) (eAnd (eIsi "int" (eOp hIx (eVar 0) (eC (.int 1)))) (eNot (eIsi "bool" (eOp hIx (eVar 0) (eC (.int 1))))))))
  sNil)
  (sSeq (sIf (tOr (tB (eOp hEq (eVar 2) (eC (.str q_not)))) (tOr (tB (eOp hEq (eVar 2) (eC (.str q_all)))) (tB (eOp hEq (eVar 2) (eC (.str q_any))))))
  (sRet (eAnd (eOp hEq (eBlt hLen (aCons (eVar 0) aNil)) (eC (.int 2))) (eCall (C .c_is_test) [] (aCons (eOp hIx (eVar 0) (eC (.int 1))) (aCons (eOp hSub (eVar 1) (eC (.int 1))) aNil)))))
  sNil)
  (sSeq (sIf (tOr (tB (eOp hEq (eVar 2) (eC (.str q_both)))) (tB (eOp hEq (eVar 2) (eC (.str q_either)))))
  (sRet (eAnd (eOp hEq (eBlt hLen (aCons (eVar 0) aNil)) (eC (.int 3))) (eAnd (eCall (C .c_is_test) [] (aCons (eOp hIx (eVar 0) (eC (.int 1))) (aCons (eOp hSub (eVar 1) (eC (.int 1))) aNil))) (eCall (C .c_is_test) [] (aCons (eOp hIx (eVar 0) (eC (.int 2))) (aCons (eOp hSub (eVar 1) (eC (.int 1))) aNil))))))
  sNil)
  (sRet (eC (.bool false)))))))))))
def b_c_is_integer (C : Cs) : SV :=
  (sRet (eAnd (eIsi "int" (eVar 0)) (eAnd (eNot (eIsi "bool" (eVar 0))) (eChain hLe hLe (eVar 1) (eVar 0) (eVar 2)))))
def b_c_is_operation (C : Cs) : SV :=
  (sSeq (sIf (tOr (tNot (tTru (eIsi "tuple" (eVar 0)))) (tOr (tB (eOp hEq (eBlt hLen (aCons (eVar 0) aNil)) (eC (.int 0)))) (tNot (tTru (eIsi "str" (eOp hIx (eVar 0) (eC (.int 0))))))))
  (sRet (eC (.bool false)))
  sNil)
  (sSeq (sIf (tB (eOp hIn (eOp hIx (eVar 0) (eC (.int 0))) (eC k_LONE)))
  (sRet (eOp hEq (eBlt hLen (aCons (eVar 0) aNil)) (eC (.int 1))))
  sNil)
  (sSeq (sIf (tB (eOp hNe (eBlt hLen (aCons (eVar 0) aNil)) (eC (.int 2))))
  (sRet (eC (.bool false)))
  sNil)
  (sSeq (sIf (tB (eOp hEq (eOp hIx (eVar 0) (eC (.int 0))) (eC (.str q_mod))))
  (sRet (eCall (C .c_is_integer) [] (aCons (eOp hIx (eVar 0) (eC (.int 1))) (aCons (eC (.int 1)) (aCons (eC (.int 1000)) aNil)))))
  sNil)
  (sRet (eAnd (eOp hIn (eOp hIx (eVar 0) (eC (.int 0))) (eTup (aCons (eC (.str q_add)) (aCons (eC (.str q_mul)) aNil)))) (eCall (C .c_is_integer) [] (aCons (eOp hIx (eVar 0) (eC (.int 1))) (aCons (eNeg (eC (.int 1000))) (aCons (eC (.int 1000)) aNil))))))))))
def b_c_is_name (C : Cs) : SV :=
  (sSeq (sIf (tOr (tNot (tTru (eIsi "str" (eVar 0)))) (tOr (tB (eOp hLt (eBlt hLen (aCons (eVar 0) aNil)) (eC (.int 1)))) (tB (eOp hGt (eBlt hLen (aCons (eVar 0) aNil)) (eC (.int 12))))))
  (sRet (eC (.bool false)))
  sNil)
  (sRet (eBlt hAll (aCons (eLc false [1] (iSeq (eVar 0)) (gSet 1) tYes (eOp hIn (eVar 1) (eC (.str q_abcdefghijklmnopqrstuvwxyz)))) aNil))))
def b_c_is_pair (C : Cs) : SV :=
  (sRet (eAnd (eIsi "tuple" (eVar 0)) (eAnd (eOp hEq (eBlt hLen (aCons (eVar 0) aNil)) (eC (.int 2))) (eCall (C .c_is_integer) [] (aCons (eOp hIx (eVar 0) (eC (.int 0))) (aCons (eC (.int 1)) (aCons (eC k_MAX_WEIGHT) aNil)))))))
def b_c_parts_of (C : Cs) : SV :=
  (sSeq (sSet 1 (eOp hIx (eVar 0) (eC (.int 0))))
  (sSeq (sIf (tOr (tB (eOp hEq (eVar 1) (eC (.str q_pick)))) (tB (eOp hEq (eVar 1) (eC (.str q_tuple)))))
  (sRet (eBlt (hList false) (aCons (eOp hIx (eVar 0) (eC (.int 1))) aNil)))
  sNil)
  (sSeq (sIf (tB (eOp hEq (eVar 1) (eC (.str q_weigh))))
  (sRet (eLc false [2] (iSeq (eOp hIx (eVar 0) (eC (.int 1)))) (gSet 2) tYes (eOp hIx (eVar 2) (eC (.int 1)))))
  sNil)
  (sSeq (sIf (tOr (tB (eOp hEq (eVar 1) (eC (.str q_list)))) (tB (eOp hEq (eVar 1) (eC (.str q_keep)))))
  (sRet (eLst false (aCons (eOp hIx (eVar 0) (eC (.int 3))) aNil)))
  sNil)
  (sSeq (sIf (tB (eOp hEq (eVar 1) (eC (.str q_map))))
  (sRet (eLst false (aCons (eOp hIx (eVar 0) (eC (.int 2))) aNil)))
  sNil)
  (sSeq (sIf (tOr (tB (eOp hEq (eVar 1) (eC (.str q_let)))) (tB (eOp hEq (eVar 1) (eC (.str q_grow)))))
  (sRet (eLst false (aCons (eOp hIx (eVar 0) (eC (.int 2))) (aCons (eOp hIx (eVar 0) (eC (.int 3))) aNil))))
  sNil)
  (sRet (eLst false aNil))))))))
def b_c_is_flat (C : Cs) : SV :=
  (sSeq (sSet 1 (eOp hIx (eVar 0) (eC (.int 0))))
  (sSeq (sIf (tOr (tB (eOp hEq (eVar 1) (eC (.str q_discard)))) (tB (eOp hEq (eVar 1) (eC (.str q_self)))))
  (sRet (eOp hEq (eBlt hLen (aCons (eVar 0) aNil)) (eC (.int 1))))
  sNil)
  (sSeq (sIf (tB (eOp hEq (eVar 1) (eC (.str q_const))))
  (sRet (eAnd (eOp hEq (eBlt hLen (aCons (eVar 0) aNil)) (eC (.int 2))) (eCall (C .c_is_value) [.p (.int 8)] (aCons (eOp hIx (eVar 0) (eC (.int 1))) aNil))))
  sNil)
  (sSeq (sIf (tOr (tB (eOp hEq (eVar 1) (eC (.str q_var)))) (tB (eOp hEq (eVar 1) (eC (.str q_upto)))))
  (sRet (eAnd (eOp hEq (eBlt hLen (aCons (eVar 0) aNil)) (eC (.int 2))) (eCall (C .c_is_name) [] (aCons (eOp hIx (eVar 0) (eC (.int 1))) aNil))))
  sNil)
  (sSeq (sIf (tB (eOp hEq (eVar 1) (eC (.str q_range))))
  (sSeq (sIf (tOr (tB (eOp hNe (eBlt hLen (aCons (eVar 0) aNil)) (eC (.int 3)))) (tNot (tTru (eCall (C .c_is_integer) [] (aCons (eOp hIx (eVar 0) (eC (.int 1))) (aCons (eNeg (eC (.int 1000))) (aCons (eC (.int 1000)) aNil)))))))
  (sRet (eC (.bool false)))
  sNil)
  (sRet (eCall (C .c_is_integer) [] (aCons (eOp hIx (eVar 0) (eC (.int 2))) (aCons (eOp hIx (eVar 0) (eC (.int 1))) (aCons (eOp hSub (eOp hAdd (eOp hIx (eVar 0) (eC (.int 1))) (eC k_MAX_SPAN)) (eC (.int 1))) aNil))))))
  sNil)
  (sSeq (sIf (tB (eOp hEq (eVar 1) (eC (.str q_shuffle))))
  (sRet (eAnd (eOp hEq (eBlt hLen (aCons (eVar 0) aNil)) (eC (.int 2))) (eAnd (eIsi "tuple" (eOp hIx (eVar 0) (eC (.int 1)))) (eAnd (eOp hLe (eBlt hLen (aCons (eOp hIx (eVar 0) (eC (.int 1))) aNil)) (eC (.int 4))) (eCall (C .c_is_value) [.p (.int 8)] (aCons (eOp hIx (eVar 0) (eC (.int 1))) aNil))))))
  sNil)
  (sRet (eC (.bool false)))))))))
def b_c_is_shaped (C : Cs) : SV :=
  (sSeq (sSet 1 (eOp hIx (eVar 0) (eC (.int 0))))
  (sSeq (sIf (tOr (tB (eOp hEq (eVar 1) (eC (.str q_pick)))) (tB (eOp hEq (eVar 1) (eC (.str q_tuple)))))
  (sSeq (sSet 2 (eIf (tB (eOp hEq (eVar 1) (eC (.str q_pick)))) (eC (.int 1)) (eC (.int 0))))
  (sRet (eAnd (eOp hEq (eBlt hLen (aCons (eVar 0) aNil)) (eC (.int 2))) (eAnd (eIsi "tuple" (eOp hIx (eVar 0) (eC (.int 1)))) (eChain hLe hLe (eVar 2) (eBlt hLen (aCons (eOp hIx (eVar 0) (eC (.int 1))) aNil)) (eC k_MAX_PARTS))))))
  sNil)
  (sSeq (sIf (tB (eOp hEq (eVar 1) (eC (.str q_weigh))))
  (sSeq (sIf (tOr (tB (eOp hNe (eBlt hLen (aCons (eVar 0) aNil)) (eC (.int 2)))) (tOr (tNot (tTru (eIsi "tuple" (eOp hIx (eVar 0) (eC (.int 1)))))) (tNot (tB (eChain hLe hLe (eC (.int 1)) (eBlt hLen (aCons (eOp hIx (eVar 0) (eC (.int 1))) aNil)) (eC k_MAX_PARTS))))))
  (sRet (eC (.bool false)))
  sNil)
  (sRet (eBlt hAll (aCons (eLc false [3] (iSeq (eOp hIx (eVar 0) (eC (.int 1)))) (gSet 3) tYes (eCall (C .c_is_pair) [] (aCons (eVar 3) aNil))) aNil))))
  sNil)
  (sSeq (sIf (tB (eOp hEq (eVar 1) (eC (.str q_list))))
  (sRet (eAnd (eOp hEq (eBlt hLen (aCons (eVar 0) aNil)) (eC (.int 4))) (eAnd (eCall (C .c_is_integer) [] (aCons (eOp hIx (eVar 0) (eC (.int 1))) (aCons (eC (.int 0)) (aCons (eC k_MAX_LIST) aNil)))) (eCall (C .c_is_integer) [] (aCons (eOp hIx (eVar 0) (eC (.int 2))) (aCons (eOp hIx (eVar 0) (eC (.int 1))) (aCons (eC k_MAX_LIST) aNil)))))))
  sNil)
  (sSeq (sIf (tB (eOp hEq (eVar 1) (eC (.str q_map))))
  (sRet (eAnd (eOp hEq (eBlt hLen (aCons (eVar 0) aNil)) (eC (.int 3))) (eCall (C .c_is_operation) [] (aCons (eOp hIx (eVar 0) (eC (.int 1))) aNil))))
  sNil)
  (sSeq (sIf (tB (eOp hEq (eVar 1) (eC (.str q_keep))))
  (sRet (eAnd (eOp hEq (eBlt hLen (aCons (eVar 0) aNil)) (eC (.int 4))) (eAnd (eCall (C .c_is_test) [.p (.int 6)] (aCons (eOp hIx (eVar 0) (eC (.int 1))) aNil)) (eCall (C .c_is_integer) [] (aCons (eOp hIx (eVar 0) (eC (.int 2))) (aCons (eC (.int 1)) (aCons (eC k_MAX_TRIES) aNil)))))))
  sNil)
  (sSeq (sIf (tB (eOp hEq (eVar 1) (eC (.str q_let))))
  (sRet (eAnd (eOp hEq (eBlt hLen (aCons (eVar 0) aNil)) (eC (.int 4))) (eCall (C .c_is_name) [] (aCons (eOp hIx (eVar 0) (eC (.int 1))) aNil))))
  sNil)
  (sSeq (sIf (tB (eOp hEq (eVar 1) (eC (.str q_grow))))
  (sRet (eAnd (eOp hEq (eBlt hLen (aCons (eVar 0) aNil)) (eC (.int 4))) (eCall (C .c_is_integer) [] (aCons (eOp hIx (eVar 0) (eC (.int 1))) (aCons (eC (.int 0)) (aCons (eC k_MAX_GROW) aNil))))))
  sNil)
  (sRet (eC (.bool false)))))))))))
def b_c_is_open_term (C : Cs) : SV :=
  (sSeq (sIf (tOr (tNot (tTru (eIsi "tuple" (eVar 0)))) (tOr (tB (eOp hEq (eBlt hLen (aCons (eVar 0) aNil)) (eC (.int 0)))) (tOr (tNot (tTru (eIsi "str" (eOp hIx (eVar 0) (eC (.int 0)))))) (tB (eOp hEq (eVar 3) (eC (.int 0)))))))
  (sRet (eC (.bool false)))
  sNil)
  (sSeq (sSet 4 (eOp hIx (eVar 0) (eC (.int 0))))
  (sSeq (sIf (tTru (eCall (C .c_is_flat) [] (aCons (eVar 0) aNil)))
  (sSeq (sIf (tB (eOp hEq (eVar 4) (eC (.str q_self))))
  (sRet (eVar 2))
  sNil)
  (sRet (eOr (eOp hNotIn (eVar 4) (eTup (aCons (eC (.str q_var)) (aCons (eC (.str q_upto)) aNil)))) (eOp hIn (eOp hIx (eVar 0) (eC (.int 1))) (eVar 1)))))
  sNil)
  (sSeq (sIf (tNot (tTru (eCall (C .c_is_shaped) [] (aCons (eVar 0) aNil))))
  (sRet (eC (.bool false)))
  sNil)
  (sSeq (sIf (tB (eOp hEq (eVar 4) (eC (.str q_let))))
  (sSeq (sIf (tNot (tTru (eCall (C .c_is_open_term) [] (aCons (eOp hIx (eVar 0) (eC (.int 2))) (aCons (eVar 1) (aCons (eVar 2) (aCons (eOp hSub (eVar 3) (eC (.int 1))) aNil)))))))
  (sRet (eC (.bool false)))
  sNil)
  (sRet (eCall (C .c_is_open_term) [] (aCons (eOp hIx (eVar 0) (eC (.int 3))) (aCons (eOp hAdd (eVar 1) (eTup (aCons (eOp hIx (eVar 0) (eC (.int 1))) aNil))) (aCons (eVar 2) (aCons (eOp hSub (eVar 3) (eC (.int 1))) aNil)))))))
  sNil)
  (sSeq (sIf (tB (eOp hEq (eVar 4) (eC (.str q_grow))))
  (sRet (eAnd (eCall (C .c_is_open_term) [] (aCons (eOp hIx (eVar 0) (eC (.int 2))) (aCons (eVar 1) (aCons (eVar 2) (aCons (eOp hSub (eVar 3) (eC (.int 1))) aNil))))) (eCall (C .c_is_open_term) [] (aCons (eOp hIx (eVar 0) (eC (.int 3))) (aCons (eVar 1) (aCons (eC (.bool true)) (aCons (eOp hSub (eVar 3) (eC (.int 1))) aNil)))))))
  sNil)
  (sRet (eBlt hAll (aCons (eLc false [5] (iSeq (eCall (C .c_parts_of) [] (aCons (eVar 0) aNil))) (gSet 5) tYes (eCall (C .c_is_open_term) [] (aCons (eVar 5) (aCons (eVar 1) (aCons (eVar 2) (aCons (eOp hSub (eVar 3) (eC (.int 1))) aNil)))))) aNil)))))))))
def b_c_is_term (C : Cs) : SV :=
  (sRet (eCall (C .c_is_open_term) [] (aCons (eVar 0) (aCons (eTup aNil) (aCons (eC (.bool false)) (aCons (eC k_MAX_DEPTH) aNil))))))
def b_c_checked (C : Cs) : SV :=
  (sSeq (sIf (tNot (tTru (eCall (C .c_is_term) [] (aCons (eVar 0) aNil))))
  (sRaise 0 (eC (.str q_term)))
  sNil)
  (sRet (eVar 0)))
def b_law_stream (C : Cs) : SV :=
  (sSeq (sSet 1 (eLst true (aCons (eC (.int 1)) aNil)))
  (sSeq (sFor (iSeq (eCut false (eVar 0) oNone (oSome (eC (.int 63))))) (gSet 2)
  (sSeq (sSet 3 (eBlt hAbs (aCons (eBlt hInt (aCons (eVar 2) aNil)) aNil)))
  (sFor (iRange1 (eC (.int 60))) (gSet 4)
  (sSeq (sExpr (eMeL hAppend (eVar 1) (aCons (eOp hMod (eVar 3) (eC (.int 59))) aNil)))
  (sSeq (sSet 3 (eOp hDiv (eVar 3) (eC (.int 59))))
  (sIf (tB (eOp hEq (eVar 3) (eC (.int 0))))
  sBreak
  sNil))))))
  (sSeq (sSet 5 (eC (.int 7)))
  (sSeq (sFor (iSeq (eCut false (eVar 0) oNone (oSome (eC (.int 63))))) (gSet 2)
  (sSet 5 (eOp hMod (eBlt hInt (aCons (eOp hAdd (eOp hAdd (eOp hMul (eVar 5) (eC (.int 131))) (eVar 2)) (eC (.int 17))) aNil)) (eC (.int 1000003)))))
  (sSeq (sFor (iRange1 (eC (.int 150))) (gSet 4)
  (sSeq (sSet 5 (eOp hMod (eBlt hInt (aCons (eOp hAdd (eOp hAdd (eOp hMul (eVar 5) (eC (.int 48271))) (eOp hMul (eVar 4) (eC (.int 69621)))) (eC (.int 11))) aNil)) (eC (.int 2147483647))))
  (sExpr (eMeL hAppend (eVar 1) (aCons (eOp hMod (eOp hDiv (eVar 5) (eC (.int 1009))) (eC (.int 59))) aNil)))))
  (sRet (eVar 1)))))))
def b_law_take (C : Cs) : SV :=
  (sSeq (sIf (tB (eOp hLt (eOp hIx (eVar 0) (eC (.int 0))) (eBlt hLen (aCons (eVar 0) aNil))))
  (sSeq (sAsg (eOp hAdd (eOp hIx (eVar 0) (eC (.int 0))) (eC (.int 1))) (gIx (eVar 0) (eC (.int 0))))
  (sRet (eOp hMod (eBlt hInt (aCons (eOp hIx (eVar 0) (eOp hSub (eOp hIx (eVar 0) (eC (.int 0))) (eC (.int 1)))) aNil)) (eVar 1))))
  sNil)
  (sRet (eC (.int 0))))
def b_law_value (C : Cs) : SV :=
  (sSeq (sIf (tOr (tB (eOp hEq (eVar 1) (eC (.int 0)))) (tB (eOp hGt (eCall (C .law_take) [] (aCons (eVar 0) (aCons (eC (.int 3)) aNil))) (eC (.int 0)))))
  (sRet (eOp hSub (eCall (C .law_take) [] (aCons (eVar 0) (aCons (eC (.int 5)) aNil))) (eC (.int 1))))
  sNil)
  (sRet (eBlt hTuple (aCons (eLc false [2] (iRange1 (eCall (C .law_take) [] (aCons (eVar 0) (aCons (eC (.int 4)) aNil)))) (gSet 2) tYes (eCall (C .law_value) [] (aCons (eVar 0) (aCons (eOp hSub (eVar 1) (eC (.int 1))) aNil)))) aNil))))
def b_law_test (C : Cs) : SV :=
  (sSeq (sSet 2 (eCall (C .law_take) [] (aCons (eVar 0) (aCons (eC (.int 9)) aNil))))
  (sSeq (sIf (tAnd (tB (eOp hGt (eVar 1) (eC (.int 0)))) (tB (eOp hLt (eVar 2) (eC (.int 3)))))
  (sRet (eTup (aCons (eOp hIx (eLst false (aCons (eC (.str q_not)) (aCons (eC (.str q_all)) (aCons (eC (.str q_any)) aNil)))) (eVar 2)) (aCons (eCall (C .law_test) [] (aCons (eVar 0) (aCons (eOp hSub (eVar 1) (eC (.int 1))) aNil))) aNil))))
  sNil)
  (sSeq (sIf (tAnd (tB (eOp hGt (eVar 1) (eC (.int 0)))) (tB (eOp hLt (eVar 2) (eC (.int 5)))))
  (sRet (eTup (aCons (eOp hIx (eLst false (aCons (eC (.str q_both)) (aCons (eC (.str q_either)) aNil))) (eOp hSub (eVar 2) (eC (.int 3)))) (aCons (eCall (C .law_test) [] (aCons (eVar 0) (aCons (eOp hSub (eVar 1) (eC (.int 1))) aNil))) (aCons (eCall (C .law_test) [] (aCons (eVar 0) (aCons (eOp hSub (eVar 1) (eC (.int 1))) aNil))) aNil)))))
  sNil)
  (sSeq (sIf (tB (eOp hEq (eVar 2) (eC (.int 5))))
  (sRet (eTup (aCons (eC (.str q_equals)) (aCons (eCall (C .law_value) [] (aCons (eVar 0) (aCons (eC (.int 1)) aNil))) aNil))))
  sNil)
  (sSeq (sIf (tB (eOp hEq (eVar 2) (eC (.int 6))))
  (sRet (eTup (aCons (eC (.str q_size)) (aCons (eCall (C .law_take) [] (aCons (eVar 0) (aCons (eC (.int 4)) aNil))) aNil))))
  sNil)
  (sSeq (sIf (tB (eOp hEq (eVar 2) (eC (.int 7))))
  (sRet (eOp hIx (eLst false (aCons (eTup (aCons (eC (.str q_even)) aNil)) (aCons (eTup (aCons (eC (.str q_rising)) aNil)) aNil))) (eCall (C .law_take) [] (aCons (eVar 0) (aCons (eC (.int 2)) aNil)))))
  sNil)
  (sRet (eTup (aCons (eC (.str q_less)) (aCons (eCall (C .law_take) [] (aCons (eVar 0) (aCons (eC (.int 6)) aNil))) aNil))))))))))
def b_law_operation (C : Cs) : SV :=
  (sSeq (sSet 1 (eCall (C .law_take) [] (aCons (eVar 0) (aCons (eC (.int 7)) aNil))))
  (sSeq (sIf (tB (eOp hLt (eVar 1) (eC (.int 3))))
  (sRet (eTup (aCons (eOp hIx (eLst false (aCons (eC (.str q_add)) (aCons (eC (.str q_mul)) (aCons (eC (.str q_mod)) aNil)))) (eVar 1)) (aCons (eOp hAdd (eC (.int 1)) (eCall (C .law_take) [] (aCons (eVar 0) (aCons (eC (.int 3)) aNil)))) aNil))))
  sNil)
  (sRet (eTup (aCons (eOp hIx (eLst false (aCons (eC (.str q_sum)) (aCons (eC (.str q_size)) (aCons (eC (.str q_sort)) (aCons (eC (.str q_reverse)) (aCons (eC (.str q_flat)) aNil)))))) (eCall (C .law_take) [] (aCons (eVar 0) (aCons (eC (.int 5)) aNil)))) aNil)))))
def b_law_leaf (C : Cs) : SV :=
  (sSeq (sSet 3 (eCall (C .law_take) [] (aCons (eVar 0) (aCons (eC (.int 7)) aNil))))
  (sSeq (sIf (tAnd (tB (eOp hEq (eVar 3) (eC (.int 0)))) (tTru (eVar 2)))
  (sRet (eTup (aCons (eC (.str q_self)) aNil)))
  sNil)
  (sSeq (sIf (tAnd (tB (eOp hEq (eVar 3) (eC (.int 1)))) (tB (eOp hGt (eBlt hLen (aCons (eVar 1) aNil)) (eC (.int 0)))))
  (sRet (eTup (aCons (eOp hIx (eLst false (aCons (eC (.str q_var)) (aCons (eC (.str q_upto)) aNil))) (eCall (C .law_take) [] (aCons (eVar 0) (aCons (eC (.int 2)) aNil)))) (aCons (eOp hIx (eVar 1) (eCall (C .law_take) [] (aCons (eVar 0) (aCons (eBlt hLen (aCons (eVar 1) aNil)) aNil)))) aNil))))
  sNil)
  (sSeq (sIf (tB (eOp hEq (eVar 3) (eC (.int 2))))
  (sSeq (sSet 4 (eOp hSub (eCall (C .law_take) [] (aCons (eVar 0) (aCons (eC (.int 4)) aNil))) (eC (.int 1))))
  (sRet (eTup (aCons (eC (.str q_range)) (aCons (eVar 4) (aCons (eOp hAdd (eVar 4) (eCall (C .law_take) [] (aCons (eVar 0) (aCons (eC (.int 3)) aNil)))) aNil))))))
  sNil)
  (sSeq (sIf (tB (eOp hEq (eVar 3) (eC (.int 3))))
  (sRet (eTup (aCons (eC (.str q_shuffle)) (aCons (eBlt hTuple (aCons (eLc false [5] (iRange1 (eCall (C .law_take) [] (aCons (eVar 0) (aCons (eC (.int 5)) aNil)))) (gSet 5) tYes (eCall (C .law_take) [] (aCons (eVar 0) (aCons (eC (.int 3)) aNil)))) aNil)) aNil))))
  sNil)
  (sSeq (sIf (tAnd (tB (eOp hEq (eVar 3) (eC (.int 4)))) (tB (eOp hEq (eCall (C .law_take) [] (aCons (eVar 0) (aCons (eC (.int 3)) aNil))) (eC (.int 0)))))
  (sRet (eTup (aCons (eC (.str q_discard)) aNil)))
  sNil)
  (sRet (eTup (aCons (eC (.str q_const)) (aCons (eCall (C .law_value) [] (aCons (eVar 0) (aCons (eC (.int 1)) aNil))) aNil))))))))))
def b_law_term (C : Cs) : SV :=
  (sSeq (sSet 4 (eCall (C .law_take) [] (aCons (eVar 0) (aCons (eC (.int 10)) aNil))))
  (sSeq (sIf (tOr (tB (eOp hEq (eVar 1) (eC (.int 0)))) (tB (eOp hLt (eVar 4) (eC (.int 2)))))
  (sRet (eCall (C .law_leaf) [] (aCons (eVar 0) (aCons (eVar 2) (aCons (eVar 3) aNil)))))
  sNil)
  (sSeq (sSet 5 (eCall (C .law_term) [] (aCons (eVar 0) (aCons (eOp hSub (eVar 1) (eC (.int 1))) (aCons (eVar 2) (aCons (eVar 3) aNil))))))
  (sSeq (sIf (tB (eOp hEq (eVar 4) (eC (.int 2))))
  (sRet (eTup (aCons (eC (.str q_map)) (aCons (eCall (C .law_operation) [] (aCons (eVar 0) aNil)) (aCons (eVar 5) aNil)))))
  sNil)
  (sSeq (sIf (tB (eOp hEq (eVar 4) (eC (.int 3))))
  (sRet (eTup (aCons (eC (.str q_keep)) (aCons (eCall (C .law_test) [] (aCons (eVar 0) (aCons (eC (.int 1)) aNil))) (aCons (eOp hAdd (eC (.int 1)) (eCall (C .law_take) [] (aCons (eVar 0) (aCons (eC (.int 3)) aNil)))) (aCons (eVar 5) aNil))))))
  sNil)
  (sSeq (sIf (tB (eOp hEq (eVar 4) (eC (.int 4))))
  (sSeq (sSet 6 (eCall (C .law_take) [] (aCons (eVar 0) (aCons (eC (.int 2)) aNil))))
  (sRet (eTup (aCons (eC (.str q_list)) (aCons (eVar 6) (aCons (eOp hAdd (eVar 6) (eCall (C .law_take) [] (aCons (eVar 0) (aCons (eC (.int 3)) aNil)))) (aCons (eVar 5) aNil)))))))
  sNil)
  (sSeq (sIf (tB (eOp hEq (eVar 4) (eC (.int 5))))
  (sSeq (sSet 7 (eOp hIx (eLst false (aCons (eC (.str q_x)) (aCons (eC (.str q_y)) (aCons (eC (.str q_abc)) aNil)))) (eCall (C .law_take) [] (aCons (eVar 0) (aCons (eC (.int 3)) aNil)))))
  (sRet (eTup (aCons (eC (.str q_let)) (aCons (eVar 7) (aCons (eVar 5) (aCons (eCall (C .law_term) [] (aCons (eVar 0) (aCons (eOp hSub (eVar 1) (eC (.int 1))) (aCons (eOp hAdd (eVar 2) (eLst false (aCons (eVar 7) aNil))) (aCons (eVar 3) aNil))))) aNil)))))))
  sNil)
  (sSeq (sIf (tB (eOp hEq (eVar 4) (eC (.int 6))))
  (sRet (eTup (aCons (eC (.str q_grow)) (aCons (eCall (C .law_take) [] (aCons (eVar 0) (aCons (eC (.int 4)) aNil))) (aCons (eVar 5) (aCons (eCall (C .law_term) [] (aCons (eVar 0) (aCons (eOp hSub (eVar 1) (eC (.int 1))) (aCons (eVar 2) (aCons (eC (.bool true)) aNil))))) aNil))))))
  sNil)
  (sSeq (sSet 8 (eCall (C .law_term) [] (aCons (eVar 0) (aCons (eOp hSub (eVar 1) (eC (.int 1))) (aCons (eVar 2) (aCons (eVar 3) aNil))))))
  (sSeq (sIf (tB (eOp hEq (eVar 4) (eC (.int 7))))
  (sRet (eTup (aCons (eC (.str q_pick)) (aCons (eCut false (eTup (aCons (eVar 5) (aCons (eVar 8) (aCons (eVar 5) aNil)))) oNone (oSome (eOp hAdd (eC (.int 1)) (eCall (C .law_take) [] (aCons (eVar 0) (aCons (eC (.int 3)) aNil)))))) aNil))))
  sNil)
  (sSeq (sIf (tB (eOp hEq (eVar 4) (eC (.int 8))))
  (sSeq (sSet 9 (eTup (aCons (eTup (aCons (eOp hAdd (eC (.int 1)) (eCall (C .law_take) [] (aCons (eVar 0) (aCons (eC (.int 3)) aNil)))) (aCons (eVar 5) aNil))) (aCons (eTup (aCons (eOp hAdd (eC (.int 1)) (eCall (C .law_take) [] (aCons (eVar 0) (aCons (eC (.int 3)) aNil)))) (aCons (eVar 8) aNil))) (aCons (eTup (aCons (eOp hAdd (eC (.int 1)) (eCall (C .law_take) [] (aCons (eVar 0) (aCons (eC (.int 2)) aNil)))) (aCons (eVar 5) aNil))) aNil)))))
  (sRet (eTup (aCons (eC (.str q_weigh)) (aCons (eCut false (eVar 9) oNone (oSome (eOp hAdd (eC (.int 1)) (eCall (C .law_take) [] (aCons (eVar 0) (aCons (eC (.int 3)) aNil)))))) aNil)))))
  sNil)
  (sRet (eTup (aCons (eC (.str q_tuple)) (aCons (eCut false (eTup (aCons (eVar 5) (aCons (eVar 8) (aCons (eVar 5) aNil)))) oNone (oSome (eCall (C .law_take) [] (aCons (eVar 0) (aCons (eC (.int 4)) aNil))))) aNil)))))))))))))))
def b_law_faults (C : Cs) : SV :=
  (sSeq (sSet 0 (eLst false (aCons (eTup (aCons (eC (.str q_var)) (aCons (eC (.str q_zz)) aNil))) (aCons (eTup (aCons (eC (.str q_upto)) (aCons (eC (.str q_zz)) aNil))) (aCons (eTup (aCons (eC (.str q_self)) aNil)) (aCons (eTup (aCons (eC (.str q_const)) aNil)) (aCons (eTup (aCons (eC (.str q_const)) (aCons (eLst false (aCons (eC (.int 1)) aNil)) aNil))) (aCons (eTup (aCons (eC (.str q_const)) (aCons (eC (.bool true)) aNil))) (aCons (eTup (aCons (eC (.str q_range)) (aCons (eC (.int 2)) (aCons (eC (.int 1)) aNil)))) aNil)))))))))
  (sSeq (sSet 0 (eOp hAdd (eVar 0) (eLst false (aCons (eTup (aCons (eC (.str q_range)) (aCons (eC (.int 0)) (aCons (eC (.int 64)) aNil)))) (aCons (eTup (aCons (eC (.str q_range)) (aCons (eC (.int 0)) aNil))) (aCons (eTup (aCons (eC (.str q_range)) (aCons (eC (.int 0)) (aCons (eC (.int 1)) (aCons (eC (.int 2)) aNil))))) (aCons (eTup (aCons (eC (.str q_range)) (aCons (eC (.int 0)) (aCons (eC .none) aNil)))) (aCons (eTup (aCons (eC (.str q_pick)) (aCons (eTup aNil) aNil))) (aCons (eTup (aCons (eC (.str q_weigh)) (aCons (eTup aNil) aNil))) aNil)))))))))
  (sSeq (sSet 0 (eOp hAdd (eVar 0) (eLst false (aCons (eTup (aCons (eC (.str q_weigh)) (aCons (eTup (aCons (eTup (aCons (eC (.int 0)) (aCons (eTup (aCons (eC (.str q_const)) (aCons (eC (.int 1)) aNil))) aNil))) aNil)) aNil))) (aCons (eTup (aCons (eC (.str q_weigh)) (aCons (eTup (aCons (eTup (aCons (eC (.int 1)) aNil)) aNil)) aNil))) (aCons (eTup (aCons (eC (.str q_list)) (aCons (eC (.int 1)) (aCons (eC (.int 0)) (aCons (eTup (aCons (eC (.str q_const)) (aCons (eC (.int 1)) aNil))) aNil))))) (aCons (eTup (aCons (eC (.str q_discard)) (aCons (eC (.int 1)) aNil))) aNil)))))))
  (sSeq (sSet 0 (eOp hAdd (eVar 0) (eLst false (aCons (eTup (aCons (eC (.str q_list)) (aCons (eC (.int 0)) (aCons (eC (.int 7)) (aCons (eTup (aCons (eC (.str q_const)) (aCons (eC (.int 1)) aNil))) aNil))))) (aCons (eTup (aCons (eC (.str q_map)) (aCons (eTup (aCons (eC (.str q_sum)) (aCons (eC (.int 1)) aNil))) (aCons (eTup (aCons (eC (.str q_const)) (aCons (eC (.int 1)) aNil))) aNil)))) (aCons (eTup (aCons (eC (.str q_map)) (aCons (eTup (aCons (eC (.str q_mod)) (aCons (eC (.int 0)) aNil))) (aCons (eTup (aCons (eC (.str q_const)) (aCons (eC (.int 1)) aNil))) aNil)))) aNil))))))
  (sSeq (sSet 0 (eOp hAdd (eVar 0) (eLst false (aCons (eTup (aCons (eC (.str q_map)) (aCons (eTup (aCons (eC (.str q_add)) aNil)) (aCons (eTup (aCons (eC (.str q_const)) (aCons (eC (.int 1)) aNil))) aNil)))) (aCons (eTup (aCons (eC (.str q_keep)) (aCons (eTup (aCons (eC (.str q_odd)) aNil)) (aCons (eC (.int 1)) (aCons (eTup (aCons (eC (.str q_const)) (aCons (eC (.int 1)) aNil))) aNil))))) (aCons (eTup (aCons (eC (.str q_keep)) (aCons (eTup (aCons (eC (.str q_even)) aNil)) (aCons (eC (.int 0)) (aCons (eTup (aCons (eC (.str q_const)) (aCons (eC (.int 1)) aNil))) aNil))))) aNil))))))
  (sSeq (sSet 0 (eOp hAdd (eVar 0) (eLst false (aCons (eTup (aCons (eC (.str q_keep)) (aCons (eTup (aCons (eC (.str q_even)) aNil)) (aCons (eC (.int 5)) (aCons (eTup (aCons (eC (.str q_const)) (aCons (eC (.int 1)) aNil))) aNil))))) (aCons (eTup (aCons (eC (.str q_let)) (aCons (eC (.str q_X)) (aCons (eTup (aCons (eC (.str q_const)) (aCons (eC (.int 1)) aNil))) (aCons (eTup (aCons (eC (.str q_const)) (aCons (eC (.int 1)) aNil))) aNil))))) (aCons (eTup (aCons (eC (.str q_tuple)) (aCons (eLst false (aCons (eTup (aCons (eC (.str q_const)) (aCons (eC (.int 1)) aNil))) aNil)) aNil))) aNil))))))
  (sSeq (sSet 0 (eOp hAdd (eVar 0) (eLst false (aCons (eTup (aCons (eC (.str q_grow)) (aCons (eC (.int 5)) (aCons (eTup (aCons (eC (.str q_const)) (aCons (eC (.int 1)) aNil))) (aCons (eTup (aCons (eC (.str q_self)) aNil)) aNil))))) (aCons (eTup (aCons (eC (.str q_grow)) (aCons (eC (.int 1)) (aCons (eTup (aCons (eC (.str q_self)) aNil)) (aCons (eTup (aCons (eC (.str q_const)) (aCons (eC (.int 1)) aNil))) aNil))))) (aCons (eTup (aCons (eC (.str q_shuffle)) (aCons (eTup (aCons (eC (.int 1)) (aCons (eC (.int 2)) (aCons (eC (.int 3)) (aCons (eC (.int 4)) (aCons (eC (.int 5)) aNil)))))) aNil))) aNil))))))
  (sRet (eOp hAdd (eVar 0) (eLst false (aCons (eTup (aCons (eC (.str q_shuffle)) (aCons (eC (.int 3)) aNil))) (aCons (eTup (aCons (eC (.str q_dice)) (aCons (eC (.int 6)) aNil))) (aCons (eTup aNil) (aCons (eC .none) (aCons (eC (.int 5)) (aCons (eLst false (aCons (eC (.str q_const)) (aCons (eC (.int 1)) aNil))) (aCons (eTup (aCons (eC (.str q_let)) (aCons (eC (.str q_zz)) (aCons (eTup (aCons (eC (.str q_var)) (aCons (eC (.str q_zz)) aNil))) (aCons (eTup (aCons (eC (.str q_const)) (aCons (eC (.int 1)) aNil))) aNil))))) (aCons (eTup (aCons (eC (.int 3)) (aCons (eC (.int 4)) aNil))) aNil))))))))))))))))))
def b_law_count (C : Cs) : SV :=
  (sRet (eOp hAdd (eC (.int 1)) (eBlt hSum (aCons (eLc false [1] (iSeq (eCall (C .law_parts) [] (aCons (eVar 0) aNil))) (gSet 1) tYes (eCall (C .law_count) [] (aCons (eVar 1) aNil))) aNil))))
def b_law_parts (C : Cs) : SV :=
  (sSeq (sIf (tOr (tB (eOp hEq (eOp hIx (eVar 0) (eC (.int 0))) (eC (.str q_pick)))) (tB (eOp hEq (eOp hIx (eVar 0) (eC (.int 0))) (eC (.str q_tuple)))))
  (sRet (eBlt (hList false) (aCons (eOp hIx (eVar 0) (eC (.int 1))) aNil)))
  sNil)
  (sSeq (sIf (tB (eOp hEq (eOp hIx (eVar 0) (eC (.int 0))) (eC (.str q_weigh))))
  (sRet (eLc false [1] (iSeq (eOp hIx (eVar 0) (eC (.int 1)))) (gSet 1) tYes (eOp hIx (eVar 1) (eC (.int 1)))))
  sNil)
  (sSeq (sIf (tB (eOp hIn (eOp hIx (eVar 0) (eC (.int 0))) (eTup (aCons (eC (.str q_list)) (aCons (eC (.str q_keep)) (aCons (eC (.str q_map)) aNil))))))
  (sRet (eLst false (aCons (eOp hIx (eVar 0) (eNeg (eC (.int 1)))) aNil)))
  sNil)
  (sSeq (sIf (tOr (tB (eOp hEq (eOp hIx (eVar 0) (eC (.int 0))) (eC (.str q_let)))) (tB (eOp hEq (eOp hIx (eVar 0) (eC (.int 0))) (eC (.str q_grow)))))
  (sRet (eLst false (aCons (eOp hIx (eVar 0) (eC (.int 2))) (aCons (eOp hIx (eVar 0) (eC (.int 3))) aNil))))
  sNil)
  (sRet (eLst false aNil))))))
def b_law_put (C : Cs) : SV :=
  (sSeq (sIf (tB (eOp hEq (eVar 1) (eC (.int 0))))
  (sRet (eVar 2))
  sNil)
  (sSeq (sSet 1 (eOp hSub (eVar 1) (eC (.int 1))))
  (sSeq (sSet 3 (eCall (C .law_parts) [] (aCons (eVar 0) aNil)))
  (sSeq (sFor (iRange1 (eBlt hLen (aCons (eVar 3) aNil))) (gSet 4)
  (sSeq (sSet 5 (eCall (C .law_count) [] (aCons (eOp hIx (eVar 3) (eVar 4)) aNil)))
  (sSeq (sIf (tB (eOp hLt (eVar 1) (eVar 5)))
  (sSeq (sSet 6 (eCall (C .law_put) [] (aCons (eOp hIx (eVar 3) (eVar 4)) (aCons (eVar 1) (aCons (eVar 2) aNil)))))
  (sSeq (sIf (tOr (tB (eOp hEq (eOp hIx (eVar 0) (eC (.int 0))) (eC (.str q_pick)))) (tB (eOp hEq (eOp hIx (eVar 0) (eC (.int 0))) (eC (.str q_tuple)))))
  (sRet (eTup (aCons (eOp hIx (eVar 0) (eC (.int 0))) (aCons (eOp hAdd (eOp hAdd (eCut false (eOp hIx (eVar 0) (eC (.int 1))) oNone (oSome (eVar 4))) (eTup (aCons (eVar 6) aNil))) (eCut false (eOp hIx (eVar 0) (eC (.int 1))) (oSome (eOp hAdd (eVar 4) (eC (.int 1)))) oNone)) aNil))))
  sNil)
  (sSeq (sIf (tB (eOp hEq (eOp hIx (eVar 0) (eC (.int 0))) (eC (.str q_weigh))))
  (sRet (eTup (aCons (eOp hIx (eVar 0) (eC (.int 0))) (aCons (eOp hAdd (eOp hAdd (eCut false (eOp hIx (eVar 0) (eC (.int 1))) oNone (oSome (eVar 4))) (eTup (aCons (eTup (aCons (eOp hIx (eOp hIx (eOp hIx (eVar 0) (eC (.int 1))) (eVar 4)) (eC (.int 0))) (aCons (eVar 6) aNil))) aNil))) (eCut false (eOp hIx (eVar 0) (eC (.int 1))) (oSome (eOp hAdd (eVar 4) (eC (.int 1)))) oNone)) aNil))))
  sNil)
  (sSeq (sIf (tOr (tB (eOp hEq (eOp hIx (eVar 0) (eC (.int 0))) (eC (.str q_let)))) (tB (eOp hEq (eOp hIx (eVar 0) (eC (.int 0))) (eC (.str q_grow)))))
  (sRet (eOp hAdd (eOp hAdd (eCut false (eVar 0) oNone (oSome (eOp hAdd (eC (.int 2)) (eVar 4)))) (eTup (aCons (eVar 6) aNil))) (eCut false (eVar 0) (oSome (eOp hAdd (eC (.int 3)) (eVar 4))) oNone)))
  sNil)
  (sRet (eOp hAdd (eCut false (eVar 0) oNone (oSome (eNeg (eC (.int 1))))) (eTup (aCons (eVar 6) aNil))))))))
  sNil)
  (sSet 1 (eOp hSub (eVar 1) (eVar 5))))))
  (sRet (eVar 2))))))
def b_law_inside_grow (C : Cs) : SV :=
  (sSeq (sSet 2 (eCall (C .law_parts) [] (aCons (eVar 0) aNil)))
  (sSeq (sIf (tB (eOp hEq (eVar 1) (eC (.int 0))))
  (sRet (eC (.bool false)))
  sNil)
  (sSeq (sSet 1 (eOp hSub (eVar 1) (eC (.int 1))))
  (sSeq (sFor (iRange1 (eBlt hLen (aCons (eVar 2) aNil))) (gSet 3)
  (sSeq (sSet 4 (eCall (C .law_count) [] (aCons (eOp hIx (eVar 2) (eVar 3)) aNil)))
  (sSeq (sIf (tB (eOp hLt (eVar 1) (eVar 4)))
  (sRet (eOr (eAnd (eOp hEq (eOp hIx (eVar 0) (eC (.int 0))) (eC (.str q_grow))) (eOp hEq (eVar 3) (eC (.int 1)))) (eCall (C .law_inside_grow) [] (aCons (eOp hIx (eVar 2) (eVar 3)) (aCons (eVar 1) aNil)))))
  sNil)
  (sSet 1 (eOp hSub (eVar 1) (eVar 4))))))
  (sRet (eC (.bool false)))))))
def b_c_law (C : Cs) : SV :=
  (sSeq (sSet 1 (eCall (C .law_stream) [] (aCons (eVar 0) aNil)))
  (sSeq (sSet 2 (eCall (C .law_term) [] (aCons (eVar 1) (aCons (eOp hAdd (eC (.int 1)) (eCall (C .law_take) [] (aCons (eVar 1) (aCons (eC (.int 4)) aNil)))) (aCons (eLst false aNil) (aCons (eC (.bool false)) aNil))))))
  (sSeq (sIf (tOr (tB (eOp hIsNot (eCall (C .c_is_term) [] (aCons (eVar 2) aNil)) (eC (.bool true)))) (tB (eOp hNe (eCall (C .c_checked) [] (aCons (eVar 2) aNil)) (eVar 2))))
  (sRet (eC (.bool false)))
  sNil)
  (sSeq (sSet 3 (eCall (C .law_faults) [] aNil))
  (sSeq (sSet 4 (eOp hIx (eVar 3) (eCall (C .law_take) [] (aCons (eVar 1) (aCons (eBlt hLen (aCons (eVar 3) aNil)) aNil)))))
  (sSeq (sSet 5 (eCall (C .law_take) [] (aCons (eVar 1) (aCons (eCall (C .law_count) [] (aCons (eVar 2) aNil)) aNil))))
  (sSeq (sIf (tAnd (tTru (eCall (C .law_inside_grow) [] (aCons (eVar 2) (aCons (eVar 5) aNil)))) (tB (eOp hIn (eVar 4) (eLst false (aCons (eTup (aCons (eC (.str q_self)) aNil)) (aCons (eTup (aCons (eC (.str q_grow)) (aCons (eC (.int 1)) (aCons (eTup (aCons (eC (.str q_self)) aNil)) (aCons (eTup (aCons (eC (.str q_const)) (aCons (eC (.int 1)) aNil))) aNil))))) aNil))))))
  (sRet (eC (.bool true)))
  sNil)
  (sSeq (sSet 6 (eCall (C .law_put) [] (aCons (eVar 2) (aCons (eVar 5) (aCons (eVar 4) aNil)))))
  (sSeq (sSet 7 (eBlt hRepr (aCons (eVar 6) aNil)))
  (sSeq (sIf (tOr (tB (eOp hIsNot (eCall (C .c_is_term) [] (aCons (eVar 6) aNil)) (eC (.bool false)))) (tB (eOp hNe (eBlt hRepr (aCons (eVar 6) aNil)) (eVar 7))))
  (sRet (eC (.bool false)))
  sNil)
  (sSeq (sTryEq m_Invalid 8 q_term (sExpr (eCall (C .c_checked) [] (aCons (eVar 6) aNil))))
  (sRet (eC (.bool false))))))))))))))
noncomputable def fnk : Nat → Cs
  | 0 => fun _ _ _ => .bad
  | k + 1 => fun i => match i with
    | .c_is_value => runB 3 (b_c_is_value (fnk k))
    | .c_is_test => runB 3 (b_c_is_test (fnk k))
    | .c_is_integer => runB 3 (b_c_is_integer (fnk k))
    | .c_is_operation => runB 1 (b_c_is_operation (fnk k))
    | .c_is_name => runB 2 (b_c_is_name (fnk k))
    | .c_is_pair => runB 1 (b_c_is_pair (fnk k))
    | .c_parts_of => runB 3 (b_c_parts_of (fnk k))
    | .c_is_flat => runB 2 (b_c_is_flat (fnk k))
    | .c_is_shaped => runB 4 (b_c_is_shaped (fnk k))
    | .c_is_open_term => runB 6 (b_c_is_open_term (fnk k))
    | .c_is_term => runB 1 (b_c_is_term (fnk k))
    | .c_checked => runB 1 (b_c_checked (fnk k))
    | .law_stream => runB 6 (b_law_stream (fnk k))
    | .law_take => runB 2 (b_law_take (fnk k))
    | .law_value => runB 3 (b_law_value (fnk k))
    | .law_test => runB 3 (b_law_test (fnk k))
    | .law_operation => runB 2 (b_law_operation (fnk k))
    | .law_leaf => runB 6 (b_law_leaf (fnk k))
    | .law_term => runB 10 (b_law_term (fnk k))
    | .law_faults => runB 1 (b_law_faults (fnk k))
    | .law_count => runB 2 (b_law_count (fnk k))
    | .law_parts => runB 2 (b_law_parts (fnk k))
    | .law_put => runB 7 (b_law_put (fnk k))
    | .law_inside_grow => runB 5 (b_law_inside_grow (fnk k))
    | .c_law => runB 9 (b_c_law (fnk k))
theorem fnk_c_is_value (k : Nat) (ds : List D) (s : Sto) : fnk (k + 1) .c_is_value ds s = runB 3 (b_c_is_value (fnk k)) ds s := rfl
theorem fnk_c_is_test (k : Nat) (ds : List D) (s : Sto) : fnk (k + 1) .c_is_test ds s = runB 3 (b_c_is_test (fnk k)) ds s := rfl
theorem fnk_c_is_integer (k : Nat) (ds : List D) (s : Sto) : fnk (k + 1) .c_is_integer ds s = runB 3 (b_c_is_integer (fnk k)) ds s := rfl
theorem fnk_c_is_operation (k : Nat) (ds : List D) (s : Sto) : fnk (k + 1) .c_is_operation ds s = runB 1 (b_c_is_operation (fnk k)) ds s := rfl
theorem fnk_c_is_name (k : Nat) (ds : List D) (s : Sto) : fnk (k + 1) .c_is_name ds s = runB 2 (b_c_is_name (fnk k)) ds s := rfl
theorem fnk_c_is_pair (k : Nat) (ds : List D) (s : Sto) : fnk (k + 1) .c_is_pair ds s = runB 1 (b_c_is_pair (fnk k)) ds s := rfl
theorem fnk_c_parts_of (k : Nat) (ds : List D) (s : Sto) : fnk (k + 1) .c_parts_of ds s = runB 3 (b_c_parts_of (fnk k)) ds s := rfl
theorem fnk_c_is_flat (k : Nat) (ds : List D) (s : Sto) : fnk (k + 1) .c_is_flat ds s = runB 2 (b_c_is_flat (fnk k)) ds s := rfl
theorem fnk_c_is_shaped (k : Nat) (ds : List D) (s : Sto) : fnk (k + 1) .c_is_shaped ds s = runB 4 (b_c_is_shaped (fnk k)) ds s := rfl
theorem fnk_c_is_open_term (k : Nat) (ds : List D) (s : Sto) : fnk (k + 1) .c_is_open_term ds s = runB 6 (b_c_is_open_term (fnk k)) ds s := rfl
theorem fnk_c_is_term (k : Nat) (ds : List D) (s : Sto) : fnk (k + 1) .c_is_term ds s = runB 1 (b_c_is_term (fnk k)) ds s := rfl
theorem fnk_c_checked (k : Nat) (ds : List D) (s : Sto) : fnk (k + 1) .c_checked ds s = runB 1 (b_c_checked (fnk k)) ds s := rfl
theorem fnk_law_stream (k : Nat) (ds : List D) (s : Sto) : fnk (k + 1) .law_stream ds s = runB 6 (b_law_stream (fnk k)) ds s := rfl
theorem fnk_law_take (k : Nat) (ds : List D) (s : Sto) : fnk (k + 1) .law_take ds s = runB 2 (b_law_take (fnk k)) ds s := rfl
theorem fnk_law_value (k : Nat) (ds : List D) (s : Sto) : fnk (k + 1) .law_value ds s = runB 3 (b_law_value (fnk k)) ds s := rfl
theorem fnk_law_test (k : Nat) (ds : List D) (s : Sto) : fnk (k + 1) .law_test ds s = runB 3 (b_law_test (fnk k)) ds s := rfl
theorem fnk_law_operation (k : Nat) (ds : List D) (s : Sto) : fnk (k + 1) .law_operation ds s = runB 2 (b_law_operation (fnk k)) ds s := rfl
theorem fnk_law_leaf (k : Nat) (ds : List D) (s : Sto) : fnk (k + 1) .law_leaf ds s = runB 6 (b_law_leaf (fnk k)) ds s := rfl
theorem fnk_law_term (k : Nat) (ds : List D) (s : Sto) : fnk (k + 1) .law_term ds s = runB 10 (b_law_term (fnk k)) ds s := rfl
theorem fnk_law_faults (k : Nat) (ds : List D) (s : Sto) : fnk (k + 1) .law_faults ds s = runB 1 (b_law_faults (fnk k)) ds s := rfl
theorem fnk_law_count (k : Nat) (ds : List D) (s : Sto) : fnk (k + 1) .law_count ds s = runB 2 (b_law_count (fnk k)) ds s := rfl
theorem fnk_law_parts (k : Nat) (ds : List D) (s : Sto) : fnk (k + 1) .law_parts ds s = runB 2 (b_law_parts (fnk k)) ds s := rfl
theorem fnk_law_put (k : Nat) (ds : List D) (s : Sto) : fnk (k + 1) .law_put ds s = runB 7 (b_law_put (fnk k)) ds s := rfl
theorem fnk_law_inside_grow (k : Nat) (ds : List D) (s : Sto) : fnk (k + 1) .law_inside_grow ds s = runB 5 (b_law_inside_grow (fnk k)) ds s := rfl
theorem fnk_c_law (k : Nat) (ds : List D) (s : Sto) : fnk (k + 1) .c_law ds s = runB 9 (b_c_law (fnk k)) ds s := rfl
end Lk04
/-! law_k04_terms_and_near_things: each def keeps its function (printed by gen.py). -/
namespace Lk04
open PySem PySem.Spec PyProof.Rows L2 Dl
def topS (i : Nat) : Stmt := PySem.Challenge.pw_chance_k04_terms_and_near_things.main.body.getD i (.Pass ⟨0, 0, 0, 0⟩)
abbrev s_c_is_value : Stmt := topS 1
abbrev s_c_is_test : Stmt := topS 3
abbrev s_c_is_integer : Stmt := topS 16
abbrev s_c_is_operation : Stmt := topS 17
abbrev s_c_is_name : Stmt := topS 18
abbrev s_c_is_pair : Stmt := topS 19
abbrev s_c_parts_of : Stmt := topS 20
abbrev s_c_is_flat : Stmt := topS 21
abbrev s_c_is_shaped : Stmt := topS 22
abbrev s_c_is_open_term : Stmt := topS 23
abbrev s_c_is_term : Stmt := topS 24
abbrev s_c_checked : Stmt := topS 25
abbrev s_law_stream : Stmt := topS 27
abbrev s_law_take : Stmt := topS 28
abbrev s_law_value : Stmt := topS 29
abbrev s_law_test : Stmt := topS 30
abbrev s_law_operation : Stmt := topS 31
abbrev s_law_leaf : Stmt := topS 32
abbrev s_law_term : Stmt := topS 33
abbrev s_law_faults : Stmt := topS 34
abbrev s_law_count : Stmt := topS 35
abbrev s_law_parts : Stmt := topS 36
abbrev s_law_put : Stmt := topS 37
abbrev s_law_inside_grow : Stmt := topS 38
abbrev s_c_law : Stmt := topS 39
abbrev N_c_is_value : List Str := ["thing", "deep", "part"]
abbrev p_c_is_value : List Str := ["thing", "deep"]
theorem sc_c_is_value : FnScope N_c_is_value p_c_is_value (defScope s_c_is_value) := ⟨rfl, rfl, rfl, by decide +kernel, rfl, by decide +kernel, by decide +kernel⟩
abbrev N_c_is_test : List Str := ["thing", "deep", "head"]
abbrev p_c_is_test : List Str := ["thing", "deep"]
theorem sc_c_is_test : FnScope N_c_is_test p_c_is_test (defScope s_c_is_test) := ⟨rfl, rfl, rfl, by decide +kernel, rfl, by decide +kernel, by decide +kernel⟩
abbrev N_c_is_integer : List Str := ["thing", "low", "high"]
abbrev p_c_is_integer : List Str := ["thing", "low", "high"]
theorem sc_c_is_integer : FnScope N_c_is_integer p_c_is_integer (defScope s_c_is_integer) := ⟨rfl, rfl, rfl, by decide +kernel, rfl, by decide +kernel, by decide +kernel⟩
abbrev N_c_is_operation : List Str := ["thing"]
abbrev p_c_is_operation : List Str := ["thing"]
theorem sc_c_is_operation : FnScope N_c_is_operation p_c_is_operation (defScope s_c_is_operation) := ⟨rfl, rfl, rfl, by decide +kernel, rfl, by decide +kernel, by decide +kernel⟩
abbrev N_c_is_name : List Str := ["thing", "char"]
abbrev p_c_is_name : List Str := ["thing"]
theorem sc_c_is_name : FnScope N_c_is_name p_c_is_name (defScope s_c_is_name) := ⟨rfl, rfl, rfl, by decide +kernel, rfl, by decide +kernel, by decide +kernel⟩
abbrev N_c_is_pair : List Str := ["thing"]
abbrev p_c_is_pair : List Str := ["thing"]
theorem sc_c_is_pair : FnScope N_c_is_pair p_c_is_pair (defScope s_c_is_pair) := ⟨rfl, rfl, rfl, by decide +kernel, rfl, by decide +kernel, by decide +kernel⟩
abbrev N_c_parts_of : List Str := ["term", "head", "pair"]
abbrev p_c_parts_of : List Str := ["term"]
theorem sc_c_parts_of : FnScope N_c_parts_of p_c_parts_of (defScope s_c_parts_of) := ⟨rfl, rfl, rfl, by decide +kernel, rfl, by decide +kernel, by decide +kernel⟩
abbrev N_c_is_flat : List Str := ["term", "head"]
abbrev p_c_is_flat : List Str := ["term"]
theorem sc_c_is_flat : FnScope N_c_is_flat p_c_is_flat (defScope s_c_is_flat) := ⟨rfl, rfl, rfl, by decide +kernel, rfl, by decide +kernel, by decide +kernel⟩
abbrev N_c_is_shaped : List Str := ["term", "head", "least", "pair"]
abbrev p_c_is_shaped : List Str := ["term"]
theorem sc_c_is_shaped : FnScope N_c_is_shaped p_c_is_shaped (defScope s_c_is_shaped) := ⟨rfl, rfl, rfl, by decide +kernel, rfl, by decide +kernel, by decide +kernel⟩
abbrev N_c_is_open_term : List Str := ["thing", "names", "inside", "deep", "head", "part"]
abbrev p_c_is_open_term : List Str := ["thing", "names", "inside", "deep"]
theorem sc_c_is_open_term : FnScope N_c_is_open_term p_c_is_open_term (defScope s_c_is_open_term) := ⟨rfl, rfl, rfl, by decide +kernel, rfl, by decide +kernel, by decide +kernel⟩
abbrev N_c_is_term : List Str := ["thing"]
abbrev p_c_is_term : List Str := ["thing"]
theorem sc_c_is_term : FnScope N_c_is_term p_c_is_term (defScope s_c_is_term) := ⟨rfl, rfl, rfl, by decide +kernel, rfl, by decide +kernel, by decide +kernel⟩
abbrev N_c_checked : List Str := ["thing"]
abbrev p_c_checked : List Str := ["thing"]
theorem sc_c_checked : FnScope N_c_checked p_c_checked (defScope s_c_checked) := ⟨rfl, rfl, rfl, by decide +kernel, rfl, by decide +kernel, by decide +kernel⟩
abbrev N_law_stream : List Str := ["script", "row", "cell", "left", "k", "seed"]
abbrev p_law_stream : List Str := ["script"]
theorem sc_law_stream : FnScope N_law_stream p_law_stream (defScope s_law_stream) := ⟨rfl, rfl, rfl, by decide +kernel, rfl, by decide +kernel, by decide +kernel⟩
abbrev N_law_take : List Str := ["row", "many"]
abbrev p_law_take : List Str := ["row", "many"]
theorem sc_law_take : FnScope N_law_take p_law_take (defScope s_law_take) := ⟨rfl, rfl, rfl, by decide +kernel, rfl, by decide +kernel, by decide +kernel⟩
abbrev N_law_value : List Str := ["row", "depth", "k"]
abbrev p_law_value : List Str := ["row", "depth"]
theorem sc_law_value : FnScope N_law_value p_law_value (defScope s_law_value) := ⟨rfl, rfl, rfl, by decide +kernel, rfl, by decide +kernel, by decide +kernel⟩
abbrev N_law_test : List Str := ["row", "depth", "kind"]
abbrev p_law_test : List Str := ["row", "depth"]
theorem sc_law_test : FnScope N_law_test p_law_test (defScope s_law_test) := ⟨rfl, rfl, rfl, by decide +kernel, rfl, by decide +kernel, by decide +kernel⟩
abbrev N_law_operation : List Str := ["row", "kind"]
abbrev p_law_operation : List Str := ["row"]
theorem sc_law_operation : FnScope N_law_operation p_law_operation (defScope s_law_operation) := ⟨rfl, rfl, rfl, by decide +kernel, rfl, by decide +kernel, by decide +kernel⟩
abbrev N_law_leaf : List Str := ["row", "names", "inside", "kind", "low", "k"]
abbrev p_law_leaf : List Str := ["row", "names", "inside"]
theorem sc_law_leaf : FnScope N_law_leaf p_law_leaf (defScope s_law_leaf) := ⟨rfl, rfl, rfl, by decide +kernel, rfl, by decide +kernel, by decide +kernel⟩
abbrev N_law_term : List Str := ["row", "depth", "names", "inside", "kind", "one", "low", "name", "two", "pairs"]
abbrev p_law_term : List Str := ["row", "depth", "names", "inside"]
theorem sc_law_term : FnScope N_law_term p_law_term (defScope s_law_term) := ⟨rfl, rfl, rfl, by decide +kernel, rfl, by decide +kernel, by decide +kernel⟩
abbrev N_law_faults : List Str := ["faults"]
abbrev p_law_faults : List Str := []
theorem sc_law_faults : FnScope N_law_faults p_law_faults (defScope s_law_faults) := ⟨rfl, rfl, rfl, by decide +kernel, rfl, by decide +kernel, by decide +kernel⟩
abbrev N_law_count : List Str := ["term", "part"]
abbrev p_law_count : List Str := ["term"]
theorem sc_law_count : FnScope N_law_count p_law_count (defScope s_law_count) := ⟨rfl, rfl, rfl, by decide +kernel, rfl, by decide +kernel, by decide +kernel⟩
abbrev N_law_parts : List Str := ["term", "pair"]
abbrev p_law_parts : List Str := ["term"]
theorem sc_law_parts : FnScope N_law_parts p_law_parts (defScope s_law_parts) := ⟨rfl, rfl, rfl, by decide +kernel, rfl, by decide +kernel, by decide +kernel⟩
abbrev N_law_put : List Str := ["term", "at", "other", "parts", "k", "size", "inner"]
abbrev p_law_put : List Str := ["term", "at", "other"]
theorem sc_law_put : FnScope N_law_put p_law_put (defScope s_law_put) := ⟨rfl, rfl, rfl, by decide +kernel, rfl, by decide +kernel, by decide +kernel⟩
abbrev N_law_inside_grow : List Str := ["term", "at", "parts", "k", "size"]
abbrev p_law_inside_grow : List Str := ["term", "at"]
theorem sc_law_inside_grow : FnScope N_law_inside_grow p_law_inside_grow (defScope s_law_inside_grow) := ⟨rfl, rfl, rfl, by decide +kernel, rfl, by decide +kernel, by decide +kernel⟩
abbrev N_c_law : List Str := ["script", "row", "term", "faults", "fault", "at", "wrong", "kept", "e"]
abbrev p_c_law : List Str := ["script"]
theorem sc_c_law : FnScope N_c_law p_c_law (defScope s_c_law) := ⟨rfl, rfl, rfl, by decide +kernel, rfl, by decide +kernel, by decide +kernel⟩
def nameOf : Fn → Str
  | .c_is_value => "is_value"
  | .c_is_test => "is_test"
  | .c_is_integer => "is_integer"
  | .c_is_operation => "is_operation"
  | .c_is_name => "is_name"
  | .c_is_pair => "is_pair"
  | .c_parts_of => "parts_of"
  | .c_is_flat => "is_flat"
  | .c_is_shaped => "is_shaped"
  | .c_is_open_term => "is_open_term"
  | .c_is_term => "is_term"
  | .c_checked => "checked"
  | .law_stream => "_law_stream"
  | .law_take => "_law_take"
  | .law_value => "_law_value"
  | .law_test => "_law_test"
  | .law_operation => "_law_operation"
  | .law_leaf => "_law_leaf"
  | .law_term => "_law_term"
  | .law_faults => "_law_faults"
  | .law_count => "_law_count"
  | .law_parts => "_law_parts"
  | .law_put => "_law_put"
  | .law_inside_grow => "_law_inside_grow"
  | .c_law => "law"
def qualOf : Fn → Str
  | .c_is_value => "is_value"
  | .c_is_test => "is_test"
  | .c_is_integer => "is_integer"
  | .c_is_operation => "is_operation"
  | .c_is_name => "is_name"
  | .c_is_pair => "is_pair"
  | .c_parts_of => "parts_of"
  | .c_is_flat => "is_flat"
  | .c_is_shaped => "is_shaped"
  | .c_is_open_term => "is_open_term"
  | .c_is_term => "is_term"
  | .c_checked => "checked"
  | .law_stream => "_law_stream"
  | .law_take => "_law_take"
  | .law_value => "_law_value"
  | .law_test => "_law_test"
  | .law_operation => "_law_operation"
  | .law_leaf => "_law_leaf"
  | .law_term => "_law_term"
  | .law_faults => "_law_faults"
  | .law_count => "_law_count"
  | .law_parts => "_law_parts"
  | .law_put => "_law_put"
  | .law_inside_grow => "_law_inside_grow"
  | .c_law => "law"
def gloOf : Fn → Bool
  | .c_is_value => true
  | .c_is_test => true
  | .c_is_integer => true
  | .c_is_operation => true
  | .c_is_name => true
  | .c_is_pair => true
  | .c_parts_of => true
  | .c_is_flat => true
  | .c_is_shaped => true
  | .c_is_open_term => true
  | .c_is_term => true
  | .c_checked => true
  | .law_stream => true
  | .law_take => true
  | .law_value => true
  | .law_test => true
  | .law_operation => true
  | .law_leaf => true
  | .law_term => true
  | .law_faults => true
  | .law_count => true
  | .law_parts => true
  | .law_put => true
  | .law_inside_grow => true
  | .c_law => true
def stOf : Fn → Stmt
  | .c_is_value => s_c_is_value
  | .c_is_test => s_c_is_test
  | .c_is_integer => s_c_is_integer
  | .c_is_operation => s_c_is_operation
  | .c_is_name => s_c_is_name
  | .c_is_pair => s_c_is_pair
  | .c_parts_of => s_c_parts_of
  | .c_is_flat => s_c_is_flat
  | .c_is_shaped => s_c_is_shaped
  | .c_is_open_term => s_c_is_open_term
  | .c_is_term => s_c_is_term
  | .c_checked => s_c_checked
  | .law_stream => s_law_stream
  | .law_take => s_law_take
  | .law_value => s_law_value
  | .law_test => s_law_test
  | .law_operation => s_law_operation
  | .law_leaf => s_law_leaf
  | .law_term => s_law_term
  | .law_faults => s_law_faults
  | .law_count => s_law_count
  | .law_parts => s_law_parts
  | .law_put => s_law_put
  | .law_inside_grow => s_law_inside_grow
  | .c_law => s_c_law
def psOf : Fn → List Str
  | .c_is_value => p_c_is_value
  | .c_is_test => p_c_is_test
  | .c_is_integer => p_c_is_integer
  | .c_is_operation => p_c_is_operation
  | .c_is_name => p_c_is_name
  | .c_is_pair => p_c_is_pair
  | .c_parts_of => p_c_parts_of
  | .c_is_flat => p_c_is_flat
  | .c_is_shaped => p_c_is_shaped
  | .c_is_open_term => p_c_is_open_term
  | .c_is_term => p_c_is_term
  | .c_checked => p_c_checked
  | .law_stream => p_law_stream
  | .law_take => p_law_take
  | .law_value => p_law_value
  | .law_test => p_law_test
  | .law_operation => p_law_operation
  | .law_leaf => p_law_leaf
  | .law_term => p_law_term
  | .law_faults => p_law_faults
  | .law_count => p_law_count
  | .law_parts => p_law_parts
  | .law_put => p_law_put
  | .law_inside_grow => p_law_inside_grow
  | .c_law => p_c_law
def hasD : Fn → Bool
  | .c_is_value => true
  | .c_is_test => true
  | .c_is_integer => false
  | .c_is_operation => false
  | .c_is_name => false
  | .c_is_pair => false
  | .c_parts_of => false
  | .c_is_flat => false
  | .c_is_shaped => false
  | .c_is_open_term => false
  | .c_is_term => false
  | .c_checked => false
  | .law_stream => false
  | .law_take => false
  | .law_value => false
  | .law_test => false
  | .law_operation => false
  | .law_leaf => false
  | .law_term => false
  | .law_faults => false
  | .law_count => false
  | .law_parts => false
  | .law_put => false
  | .law_inside_grow => false
  | .c_law => false
structure Fx (P : Program) (K : PySem.W.Frag) (mg : Str → Option Value) (T : ExT) (ad : Fn → Addr) (fd : Fn → FuncData) (fI_Invalid : Addr) : Prop where
  df : ∀ i, DfQ K mg (nameOf i) (qualOf i) (gloOf i) (stOf i) (hasD i) (ad i) (fd i)
  n_abs : mg "abs" = none
  n_all : mg "all" = none
  n_bool : mg "bool" = none
  n_int : mg "int" = none
  n_isinstance : mg "isinstance" = none
  n_len : mg "len" = none
  n_list : mg "list" = none
  n_range : mg "range" = none
  n_repr : mg "repr" = none
  n_str : mg "str" = none
  n_sum : mg "sum" = none
  n_super : mg "super" = none
  n_tuple : mg "tuple" = none
  kk_LONE : ∃ u v, mg "LONE" = some u ∧ RelV v u ∧ ∀ w, RP K w k_LONE v
  kk_MAX_DEPTH : ∃ u v, mg "MAX_DEPTH" = some u ∧ RelV v u ∧ ∀ w, RP K w k_MAX_DEPTH v
  kk_MAX_GROW : ∃ u v, mg "MAX_GROW" = some u ∧ RelV v u ∧ ∀ w, RP K w k_MAX_GROW v
  kk_MAX_LIST : ∃ u v, mg "MAX_LIST" = some u ∧ RelV v u ∧ ∀ w, RP K w k_MAX_LIST v
  kk_MAX_PARTS : ∃ u v, mg "MAX_PARTS" = some u ∧ RelV v u ∧ ∀ w, RP K w k_MAX_PARTS v
  kk_MAX_SPAN : ∃ u v, mg "MAX_SPAN" = some u ∧ RelV v u ∧ ∀ w, RP K w k_MAX_SPAN v
  kk_MAX_TRIES : ∃ u v, mg "MAX_TRIES" = some u ∧ RelV v u ∧ ∀ w, RP K w k_MAX_TRIES v
  kk_MAX_WEIGHT : ∃ u v, mg "MAX_WEIGHT" = some u ∧ RelV v u ∧ ∀ w, RP K w k_MAX_WEIGHT v
  dd_c_is_value_1 : ∃ (dvs : List V) (dvu : List Value), Vals dvs dvu ∧ Binds K (fd .c_is_value) p_c_is_value dvu ∧ ∀ w, RDs K w [.p (.int 8)] dvs
  dd_c_is_value_2 : ∃ (dvs : List V) (dvu : List Value), Vals dvs dvu ∧ Binds K (fd .c_is_value) p_c_is_value dvu ∧ ∀ w, RDs K w [] dvs
  dd_c_is_test_1 : ∃ (dvs : List V) (dvu : List Value), Vals dvs dvu ∧ Binds K (fd .c_is_test) p_c_is_test dvu ∧ ∀ w, RDs K w [.p (.int 6)] dvs
  dd_c_is_test_2 : ∃ (dvs : List V) (dvu : List Value), Vals dvs dvu ∧ Binds K (fd .c_is_test) p_c_is_test dvu ∧ ∀ w, RDs K w [] dvs
  x_Invalid : SupC P K (T.cls 0) fI_Invalid "name" "name"
  tf_Invalid : T.fld 0 = "name"
  gx_Invalid : mg "Invalid" = some (.ref (T.cls 0))
  xm_Invalid : ∀ c, PySem.W.exmOne K (.ref (T.cls c)) (.ref (T.cls 0)) = some (m_Invalid c)
  xf_Invalid : XfC K (T.cls 0)
section
variable {P : Program} {w : World} {K : PySem.W.Frag} {mg : Str → Option Value} {base : Heap} {ad : Fn → Addr} {fd : Fn → FuncData} {CT : Nat → Addr} {T : ExT} {k : Nat} {fI_Invalid : Addr}
theorem mof_Invalid (hf : T.fld 0 = "name") : ∀ c, m_Invalid c = true → T.cls c = T.cls 0 ∧ T.fld c = "name" := fun c h => by
  have h : c = 0 := eq_of_beq h
  subst h
  exact ⟨rfl, hf⟩
theorem Fx.pk_LONE {X : Cx} {W : XW} {pos : Pos} (M : Fx X.prog X.K X.mg T ad fd fI_Invalid) (hg : Gl X "LONE") : PD X CT W (.Name "LONE" pos) (eC k_LONE) := by
  obtain ⟨u, v, h1, h2, h3⟩ := M.kk_LONE
  exact pd_glob hg h1 h2 h3
theorem Fx.pk_MAX_DEPTH {X : Cx} {W : XW} {pos : Pos} (M : Fx X.prog X.K X.mg T ad fd fI_Invalid) (hg : Gl X "MAX_DEPTH") : PD X CT W (.Name "MAX_DEPTH" pos) (eC k_MAX_DEPTH) := by
  obtain ⟨u, v, h1, h2, h3⟩ := M.kk_MAX_DEPTH
  exact pd_glob hg h1 h2 h3
theorem Fx.pk_MAX_GROW {X : Cx} {W : XW} {pos : Pos} (M : Fx X.prog X.K X.mg T ad fd fI_Invalid) (hg : Gl X "MAX_GROW") : PD X CT W (.Name "MAX_GROW" pos) (eC k_MAX_GROW) := by
  obtain ⟨u, v, h1, h2, h3⟩ := M.kk_MAX_GROW
  exact pd_glob hg h1 h2 h3
theorem Fx.pk_MAX_LIST {X : Cx} {W : XW} {pos : Pos} (M : Fx X.prog X.K X.mg T ad fd fI_Invalid) (hg : Gl X "MAX_LIST") : PD X CT W (.Name "MAX_LIST" pos) (eC k_MAX_LIST) := by
  obtain ⟨u, v, h1, h2, h3⟩ := M.kk_MAX_LIST
  exact pd_glob hg h1 h2 h3
theorem Fx.pk_MAX_PARTS {X : Cx} {W : XW} {pos : Pos} (M : Fx X.prog X.K X.mg T ad fd fI_Invalid) (hg : Gl X "MAX_PARTS") : PD X CT W (.Name "MAX_PARTS" pos) (eC k_MAX_PARTS) := by
  obtain ⟨u, v, h1, h2, h3⟩ := M.kk_MAX_PARTS
  exact pd_glob hg h1 h2 h3
theorem Fx.pk_MAX_SPAN {X : Cx} {W : XW} {pos : Pos} (M : Fx X.prog X.K X.mg T ad fd fI_Invalid) (hg : Gl X "MAX_SPAN") : PD X CT W (.Name "MAX_SPAN" pos) (eC k_MAX_SPAN) := by
  obtain ⟨u, v, h1, h2, h3⟩ := M.kk_MAX_SPAN
  exact pd_glob hg h1 h2 h3
theorem Fx.pk_MAX_TRIES {X : Cx} {W : XW} {pos : Pos} (M : Fx X.prog X.K X.mg T ad fd fI_Invalid) (hg : Gl X "MAX_TRIES") : PD X CT W (.Name "MAX_TRIES" pos) (eC k_MAX_TRIES) := by
  obtain ⟨u, v, h1, h2, h3⟩ := M.kk_MAX_TRIES
  exact pd_glob hg h1 h2 h3
theorem Fx.pk_MAX_WEIGHT {X : Cx} {W : XW} {pos : Pos} (M : Fx X.prog X.K X.mg T ad fd fI_Invalid) (hg : Gl X "MAX_WEIGHT") : PD X CT W (.Name "MAX_WEIGHT" pos) (eC k_MAX_WEIGHT) := by
  obtain ⟨u, v, h1, h2, h3⟩ := M.kk_MAX_WEIGHT
  exact pd_glob hg h1 h2 h3
theorem ty_bool : tyOk "bool" = true := by decide +kernel
theorem bt_bool : bootBuiltins "bool" = some (.type "bool") := by decide +kernel
theorem ty_int : tyOk "int" = true := by decide +kernel
theorem bt_int : bootBuiltins "int" = some (.type "int") := by decide +kernel
theorem ty_str : tyOk "str" = true := by decide +kernel
theorem bt_str : bootBuiltins "str" = some (.type "str") := by decide +kernel
theorem ty_list : tyOk "list" = true := by decide +kernel
theorem bt_list : bootBuiltins "list" = some (.type "list") := by decide +kernel
theorem ty_tuple : tyOk "tuple" = true := by decide +kernel
theorem bt_tuple : bootBuiltins "tuple" = some (.type "tuple") := by decide +kernel
theorem bd_c_is_integer (M : Fx P K mg T ad fd fI_Invalid) : Binds K (fd .c_is_integer) p_c_is_integer [] := (M.df .c_is_integer).binds fun _ _ _ _ _ _ us hl => match us, hl with | [_, _, _], _ => rfl
theorem bd_c_is_operation (M : Fx P K mg T ad fd fI_Invalid) : Binds K (fd .c_is_operation) p_c_is_operation [] := (M.df .c_is_operation).binds fun _ _ _ _ _ _ us hl => match us, hl with | [_], _ => rfl
theorem bd_c_is_name (M : Fx P K mg T ad fd fI_Invalid) : Binds K (fd .c_is_name) p_c_is_name [] := (M.df .c_is_name).binds fun _ _ _ _ _ _ us hl => match us, hl with | [_], _ => rfl
theorem bd_c_is_pair (M : Fx P K mg T ad fd fI_Invalid) : Binds K (fd .c_is_pair) p_c_is_pair [] := (M.df .c_is_pair).binds fun _ _ _ _ _ _ us hl => match us, hl with | [_], _ => rfl
theorem bd_c_parts_of (M : Fx P K mg T ad fd fI_Invalid) : Binds K (fd .c_parts_of) p_c_parts_of [] := (M.df .c_parts_of).binds fun _ _ _ _ _ _ us hl => match us, hl with | [_], _ => rfl
theorem bd_c_is_flat (M : Fx P K mg T ad fd fI_Invalid) : Binds K (fd .c_is_flat) p_c_is_flat [] := (M.df .c_is_flat).binds fun _ _ _ _ _ _ us hl => match us, hl with | [_], _ => rfl
theorem bd_c_is_shaped (M : Fx P K mg T ad fd fI_Invalid) : Binds K (fd .c_is_shaped) p_c_is_shaped [] := (M.df .c_is_shaped).binds fun _ _ _ _ _ _ us hl => match us, hl with | [_], _ => rfl
theorem bd_c_is_open_term (M : Fx P K mg T ad fd fI_Invalid) : Binds K (fd .c_is_open_term) p_c_is_open_term [] := (M.df .c_is_open_term).binds fun _ _ _ _ _ _ us hl => match us, hl with | [_, _, _, _], _ => rfl
theorem bd_c_is_term (M : Fx P K mg T ad fd fI_Invalid) : Binds K (fd .c_is_term) p_c_is_term [] := (M.df .c_is_term).binds fun _ _ _ _ _ _ us hl => match us, hl with | [_], _ => rfl
theorem bd_c_checked (M : Fx P K mg T ad fd fI_Invalid) : Binds K (fd .c_checked) p_c_checked [] := (M.df .c_checked).binds fun _ _ _ _ _ _ us hl => match us, hl with | [_], _ => rfl
theorem bd_law_stream (M : Fx P K mg T ad fd fI_Invalid) : Binds K (fd .law_stream) p_law_stream [] := (M.df .law_stream).binds fun _ _ _ _ _ _ us hl => match us, hl with | [_], _ => rfl
theorem bd_law_take (M : Fx P K mg T ad fd fI_Invalid) : Binds K (fd .law_take) p_law_take [] := (M.df .law_take).binds fun _ _ _ _ _ _ us hl => match us, hl with | [_, _], _ => rfl
theorem bd_law_value (M : Fx P K mg T ad fd fI_Invalid) : Binds K (fd .law_value) p_law_value [] := (M.df .law_value).binds fun _ _ _ _ _ _ us hl => match us, hl with | [_, _], _ => rfl
theorem bd_law_test (M : Fx P K mg T ad fd fI_Invalid) : Binds K (fd .law_test) p_law_test [] := (M.df .law_test).binds fun _ _ _ _ _ _ us hl => match us, hl with | [_, _], _ => rfl
theorem bd_law_operation (M : Fx P K mg T ad fd fI_Invalid) : Binds K (fd .law_operation) p_law_operation [] := (M.df .law_operation).binds fun _ _ _ _ _ _ us hl => match us, hl with | [_], _ => rfl
theorem bd_law_leaf (M : Fx P K mg T ad fd fI_Invalid) : Binds K (fd .law_leaf) p_law_leaf [] := (M.df .law_leaf).binds fun _ _ _ _ _ _ us hl => match us, hl with | [_, _, _], _ => rfl
theorem bd_law_term (M : Fx P K mg T ad fd fI_Invalid) : Binds K (fd .law_term) p_law_term [] := (M.df .law_term).binds fun _ _ _ _ _ _ us hl => match us, hl with | [_, _, _, _], _ => rfl
theorem bd_law_faults (M : Fx P K mg T ad fd fI_Invalid) : Binds K (fd .law_faults) p_law_faults [] := (M.df .law_faults).binds fun _ _ _ _ _ _ us hl => match us, hl with | [], _ => rfl
theorem bd_law_count (M : Fx P K mg T ad fd fI_Invalid) : Binds K (fd .law_count) p_law_count [] := (M.df .law_count).binds fun _ _ _ _ _ _ us hl => match us, hl with | [_], _ => rfl
theorem bd_law_parts (M : Fx P K mg T ad fd fI_Invalid) : Binds K (fd .law_parts) p_law_parts [] := (M.df .law_parts).binds fun _ _ _ _ _ _ us hl => match us, hl with | [_], _ => rfl
theorem bd_law_put (M : Fx P K mg T ad fd fI_Invalid) : Binds K (fd .law_put) p_law_put [] := (M.df .law_put).binds fun _ _ _ _ _ _ us hl => match us, hl with | [_, _, _], _ => rfl
theorem bd_law_inside_grow (M : Fx P K mg T ad fd fI_Invalid) : Binds K (fd .law_inside_grow) p_law_inside_grow [] := (M.df .law_inside_grow).binds fun _ _ _ _ _ _ us hl => match us, hl with | [_, _], _ => rfl
theorem bd_c_law (M : Fx P K mg T ad fd fI_Invalid) : Binds K (fd .c_law) p_c_law [] := (M.df .c_law).binds fun _ _ _ _ _ _ us hl => match us, hl with | [_], _ => rfl
def exT (K : PySem.W.Frag) : ExT := ⟨fun c => match c with
  | 0 => clsAd K "Invalid"
  | _ => clsAd K "Refused", fun c => match c with
  | 0 => "name"
  | _ => ""⟩
def Ih (P : Program) (w : World) (K : PySem.W.Frag) (mg : Str → Option Value) (base : Heap) (ad : Fn → Addr) (fd : Fn → FuncData) (CT : Nat → Addr) (T : ExT) (k : Nat) : Prop := ∀ i, FnG P w K mg base k (ad i) (fd i) (psOf i) (spG K CT T (psOf i).length (fnk k i))
theorem ok_c_is_value (M : Fx P K mg T ad fd fI_Invalid) (ih : Ih P w K mg base ad fd CT T k) : FnG P w K mg base (k + 1) (ad .c_is_value) (fd .c_is_value) p_c_is_value (spG K CT T 2 (fnk (k + 1) .c_is_value)) := by
  obtain ⟨dv_c_is_value_2, du_c_is_value_2, hv_c_is_value_2, hb_c_is_value_2, hr_c_is_value_2⟩ := M.dd_c_is_value_2
  exact (M.df .c_is_value).ok (N := N_c_is_value) (ps := p_c_is_value) sc_c_is_value (b := b_c_is_value (fnk k)) fun cdv A fr s H E W B =>
  (pb_cons (ps_ifD (pt_tru (pd_isi (t := "bool") ty_bool (by rfl) M.n_isinstance (by rfl) M.n_bool bt_bool (pd_var 0))) (pb_one (ps_retD pd_bl)) pb_nil)
  (pb_cons (ps_ifD (pt_tru (pd_isi (t := "int") ty_int (by rfl) M.n_isinstance (by rfl) M.n_int bt_int (pd_var 0))) (pb_one (ps_retD pd_bl)) pb_nil)
  (pb_cons (ps_ifD (pt_w (pw_orD (pt_notD (pt_tru (pd_isi (t := "tuple") ty_tuple (by rfl) M.n_isinstance (by rfl) M.n_tuple bt_tuple (pd_var 0)))) (pw_orD (pt_eq B (pd_var 1) pd_int) (pw_or1D (pt_gt (pd_len (by rfl) M.n_len (pa_consD (pd_var 0) pa_nilD)) pd_int))))) (pb_one (ps_retD pd_bl)) pb_nil)
  (pb_one (ps_retD (pd_all B.calm (by rfl) M.n_all (pa_consD (pd_lc false B [("part", 2)] (pi_seq (pd_var 0)) (blkOk_by (N := N_c_is_value) (sc := (defScope s_c_is_value)) (by decide +kernel)) (by decide) (fun _ _ _ _ _ => (pg_set 2 B.nd)) (fun _ _ _ _ _ B1 => pts_nilD) (fun _ _ _ _ _ B1 => (pd_call B1 (ih .c_is_value) rfl (by rfl) ((M.df .c_is_value).gl rfl) (M.df .c_is_value).kp hb_c_is_value_2 hv_c_is_value_2 hr_c_is_value_2 (pa_consD (pd_var 2) (pa_consD (pd_sub (pd_var 1) pd_int) pa_nilD)) (len_cons (len_cons len_nil)) rfl))) pa_nilD)))))))
theorem ok_c_is_test (M : Fx P K mg T ad fd fI_Invalid) (ih : Ih P w K mg base ad fd CT T k) : FnG P w K mg base (k + 1) (ad .c_is_test) (fd .c_is_test) p_c_is_test (spG K CT T 2 (fnk (k + 1) .c_is_test)) := by
  obtain ⟨dv_c_is_value_1, du_c_is_value_1, hv_c_is_value_1, hb_c_is_value_1, hr_c_is_value_1⟩ := M.dd_c_is_value_1
  obtain ⟨dv_c_is_test_2, du_c_is_test_2, hv_c_is_test_2, hb_c_is_test_2, hr_c_is_test_2⟩ := M.dd_c_is_test_2
  exact (M.df .c_is_test).ok (N := N_c_is_test) (ps := p_c_is_test) sc_c_is_test (b := b_c_is_test (fnk k)) fun cdv A fr s H E W B =>
  (pb_cons (ps_ifD (pt_w (pw_orD (pt_notD (pt_tru (pd_isi (t := "tuple") ty_tuple (by rfl) M.n_isinstance (by rfl) M.n_tuple bt_tuple (pd_var 0)))) (pw_orD (pt_eq B (pd_len (by rfl) M.n_len (pa_consD (pd_var 0) pa_nilD)) pd_int) (pw_or1D (pt_eq B (pd_var 1) pd_int))))) (pb_one (ps_retD pd_bl)) pb_nil)
  (pb_cons (ps_setD 2 B.nd (pd_ix (pd_var 0) pd_int))
  (pb_cons (ps_ifD (pt_w (pw_orD (pt_eq B (pd_var 2) (pd_str e_even)) (pw_or1D (pt_eq B (pd_var 2) (pd_str e_rising))))) (pb_one (ps_retD (pd_eq B.hu (pd_len (by rfl) M.n_len (pa_consD (pd_var 0) pa_nilD)) pd_int))) pb_nil)
  (pb_cons (ps_ifD (pt_lt (pd_len (by rfl) M.n_len (pa_consD (pd_var 0) pa_nilD)) pd_int) (pb_one (ps_retD pd_bl)) pb_nil)
  (pb_cons (ps_ifD (pt_eq B (pd_var 2) (pd_str e_equals)) (pb_one (ps_retD (pd_and (pd_eq B.hu (pd_len (by rfl) M.n_len (pa_consD (pd_var 0) pa_nilD)) pd_int) (pd_one (pd_call B (ih .c_is_value) rfl (by rfl) ((M.df .c_is_value).gl rfl) (M.df .c_is_value).kp hb_c_is_value_1 hv_c_is_value_1 hr_c_is_value_1 (pa_consD (pd_ix (pd_var 0) pd_int) pa_nilD) (len_cons len_nil) rfl))))) pb_nil)
  (pb_cons (ps_ifD (pt_w (pw_orD (pt_eq B (pd_var 2) (pd_str e_less)) (pw_or1D (pt_eq B (pd_var 2) (pd_str e_size))))) (pb_one (ps_retD (pd_and (pd_eq B.hu (pd_len (by rfl) M.n_len (pa_consD (pd_var 0) pa_nilD)) pd_int) (pd_and (pd_isi (t := "int") ty_int (by rfl) M.n_isinstance (by rfl) M.n_int bt_int (pd_ix (pd_var 0) pd_int)) (pd_one (pd_not (pd_isi (t := "bool") ty_bool (by rfl) M.n_isinstance (by rfl) M.n_bool bt_bool (pd_ix (pd_var 0) pd_int)))))))) pb_nil)
  (pb_cons (ps_ifD (pt_w (pw_orD (pt_eq B (pd_var 2) (pd_str e_not)) (pw_orD (pt_eq B (pd_var 2) (pd_str e_all)) (pw_or1D (pt_eq B (pd_var 2) (pd_str e_any)))))) (pb_one (ps_retD (pd_and (pd_eq B.hu (pd_len (by rfl) M.n_len (pa_consD (pd_var 0) pa_nilD)) pd_int) (pd_one (pd_call B (ih .c_is_test) rfl (by rfl) ((M.df .c_is_test).gl rfl) (M.df .c_is_test).kp hb_c_is_test_2 hv_c_is_test_2 hr_c_is_test_2 (pa_consD (pd_ix (pd_var 0) pd_int) (pa_consD (pd_sub (pd_var 1) pd_int) pa_nilD)) (len_cons (len_cons len_nil)) rfl))))) pb_nil)
  (pb_cons (ps_ifD (pt_w (pw_orD (pt_eq B (pd_var 2) (pd_str e_both)) (pw_or1D (pt_eq B (pd_var 2) (pd_str e_either))))) (pb_one (ps_retD (pd_and (pd_eq B.hu (pd_len (by rfl) M.n_len (pa_consD (pd_var 0) pa_nilD)) pd_int) (pd_and (pd_call B (ih .c_is_test) rfl (by rfl) ((M.df .c_is_test).gl rfl) (M.df .c_is_test).kp hb_c_is_test_2 hv_c_is_test_2 hr_c_is_test_2 (pa_consD (pd_ix (pd_var 0) pd_int) (pa_consD (pd_sub (pd_var 1) pd_int) pa_nilD)) (len_cons (len_cons len_nil)) rfl) (pd_one (pd_call B (ih .c_is_test) rfl (by rfl) ((M.df .c_is_test).gl rfl) (M.df .c_is_test).kp hb_c_is_test_2 hv_c_is_test_2 hr_c_is_test_2 (pa_consD (pd_ix (pd_var 0) pd_int) (pa_consD (pd_sub (pd_var 1) pd_int) pa_nilD)) (len_cons (len_cons len_nil)) rfl)))))) pb_nil)
  (pb_one (ps_retD pd_bl))))))))))
theorem ok_c_is_integer (M : Fx P K mg T ad fd fI_Invalid) (ih : Ih P w K mg base ad fd CT T k) : FnG P w K mg base (k + 1) (ad .c_is_integer) (fd .c_is_integer) p_c_is_integer (spG K CT T 3 (fnk (k + 1) .c_is_integer)) := by
  exact (M.df .c_is_integer).ok (N := N_c_is_integer) (ps := p_c_is_integer) sc_c_is_integer (b := b_c_is_integer (fnk k)) fun cdv A fr s H E W B =>
  (pb_one (ps_retD (pd_and (pd_isi (t := "int") ty_int (by rfl) M.n_isinstance (by rfl) M.n_int bt_int (pd_var 0)) (pd_and (pd_not (pd_isi (t := "bool") ty_bool (by rfl) M.n_isinstance (by rfl) M.n_bool bt_bool (pd_var 0))) (pd_one (pd_leLe (pd_var 1) (pd_var 0) (pd_var 2)))))))
theorem ok_c_is_operation (M : Fx P K mg T ad fd fI_Invalid) (ih : Ih P w K mg base ad fd CT T k) : FnG P w K mg base (k + 1) (ad .c_is_operation) (fd .c_is_operation) p_c_is_operation (spG K CT T 1 (fnk (k + 1) .c_is_operation)) := by
  exact (M.df .c_is_operation).ok (N := N_c_is_operation) (ps := p_c_is_operation) sc_c_is_operation (b := b_c_is_operation (fnk k)) fun cdv A fr s H E W B =>
  (pb_cons (ps_ifD (pt_w (pw_orD (pt_notD (pt_tru (pd_isi (t := "tuple") ty_tuple (by rfl) M.n_isinstance (by rfl) M.n_tuple bt_tuple (pd_var 0)))) (pw_orD (pt_eq B (pd_len (by rfl) M.n_len (pa_consD (pd_var 0) pa_nilD)) pd_int) (pw_or1D (pt_notD (pt_tru (pd_isi (t := "str") ty_str (by rfl) M.n_isinstance (by rfl) M.n_str bt_str (pd_ix (pd_var 0) pd_int)))))))) (pb_one (ps_retD pd_bl)) pb_nil)
  (pb_cons (ps_ifD (pt_in B (pd_ix (pd_var 0) pd_int) (M.pk_LONE (by rfl))) (pb_one (ps_retD (pd_eq B.hu (pd_len (by rfl) M.n_len (pa_consD (pd_var 0) pa_nilD)) pd_int))) pb_nil)
  (pb_cons (ps_ifD (pt_ne B (pd_len (by rfl) M.n_len (pa_consD (pd_var 0) pa_nilD)) pd_int) (pb_one (ps_retD pd_bl)) pb_nil)
  (pb_cons (ps_ifD (pt_eq B (pd_ix (pd_var 0) pd_int) (pd_str e_mod)) (pb_one (ps_retD (pd_call B (ih .c_is_integer) rfl (by rfl) ((M.df .c_is_integer).gl rfl) (M.df .c_is_integer).kp (bd_c_is_integer M) .nil (fun _ => rfl) (pa_consD (pd_ix (pd_var 0) pd_int) (pa_consD pd_int (pa_consD pd_int pa_nilD))) (len_cons (len_cons (len_cons len_nil))) rfl))) pb_nil)
  (pb_one (ps_retD (pd_and (pd_in B.hu (pd_ix (pd_var 0) pd_int) (pd_tup (pa_consD (pd_str e_add) (pa_consD (pd_str e_mul) pa_nilD)))) (pd_one (pd_call B (ih .c_is_integer) rfl (by rfl) ((M.df .c_is_integer).gl rfl) (M.df .c_is_integer).kp (bd_c_is_integer M) .nil (fun _ => rfl) (pa_consD (pd_ix (pd_var 0) pd_int) (pa_consD (pd_neg pd_int) (pa_consD pd_int pa_nilD))) (len_cons (len_cons (len_cons len_nil))) rfl)))))))))
theorem ok_c_is_name (M : Fx P K mg T ad fd fI_Invalid) (ih : Ih P w K mg base ad fd CT T k) : FnG P w K mg base (k + 1) (ad .c_is_name) (fd .c_is_name) p_c_is_name (spG K CT T 1 (fnk (k + 1) .c_is_name)) := by
  exact (M.df .c_is_name).ok (N := N_c_is_name) (ps := p_c_is_name) sc_c_is_name (b := b_c_is_name (fnk k)) fun cdv A fr s H E W B =>
  (pb_cons (ps_ifD (pt_w (pw_orD (pt_notD (pt_tru (pd_isi (t := "str") ty_str (by rfl) M.n_isinstance (by rfl) M.n_str bt_str (pd_var 0)))) (pw_orD (pt_lt (pd_len (by rfl) M.n_len (pa_consD (pd_var 0) pa_nilD)) pd_int) (pw_or1D (pt_gt (pd_len (by rfl) M.n_len (pa_consD (pd_var 0) pa_nilD)) pd_int))))) (pb_one (ps_retD pd_bl)) pb_nil)
  (pb_one (ps_retD (pd_all B.calm (by rfl) M.n_all (pa_consD (pd_lc false B [("char", 1)] (pi_seq (pd_var 0)) (blkOk_by (N := N_c_is_name) (sc := (defScope s_c_is_name)) (by decide +kernel)) (by decide) (fun _ _ _ _ _ => (pg_set 1 B.nd)) (fun _ _ _ _ _ B1 => pts_nilD) (fun _ _ _ _ _ B1 => (pd_in B1.hu (pd_var 1) (pd_str e_abcdefghijklmnopqrstuvwxyz)))) pa_nilD)))))
theorem ok_c_is_pair (M : Fx P K mg T ad fd fI_Invalid) (ih : Ih P w K mg base ad fd CT T k) : FnG P w K mg base (k + 1) (ad .c_is_pair) (fd .c_is_pair) p_c_is_pair (spG K CT T 1 (fnk (k + 1) .c_is_pair)) := by
  exact (M.df .c_is_pair).ok (N := N_c_is_pair) (ps := p_c_is_pair) sc_c_is_pair (b := b_c_is_pair (fnk k)) fun cdv A fr s H E W B =>
  (pb_one (ps_retD (pd_and (pd_isi (t := "tuple") ty_tuple (by rfl) M.n_isinstance (by rfl) M.n_tuple bt_tuple (pd_var 0)) (pd_and (pd_eq B.hu (pd_len (by rfl) M.n_len (pa_consD (pd_var 0) pa_nilD)) pd_int) (pd_one (pd_call B (ih .c_is_integer) rfl (by rfl) ((M.df .c_is_integer).gl rfl) (M.df .c_is_integer).kp (bd_c_is_integer M) .nil (fun _ => rfl) (pa_consD (pd_ix (pd_var 0) pd_int) (pa_consD pd_int (pa_consD (M.pk_MAX_WEIGHT (by rfl)) pa_nilD))) (len_cons (len_cons (len_cons len_nil))) rfl))))))
theorem ok_c_parts_of (M : Fx P K mg T ad fd fI_Invalid) (ih : Ih P w K mg base ad fd CT T k) : FnG P w K mg base (k + 1) (ad .c_parts_of) (fd .c_parts_of) p_c_parts_of (spG K CT T 1 (fnk (k + 1) .c_parts_of)) := by
  exact (M.df .c_parts_of).ok (N := N_c_parts_of) (ps := p_c_parts_of) sc_c_parts_of (b := b_c_parts_of (fnk k)) fun cdv A fr s H E W B =>
  (pb_cons (ps_setD 1 B.nd (pd_ix (pd_var 0) pd_int))
  (pb_cons (ps_ifD (pt_w (pw_orD (pt_eq B (pd_var 1) (pd_str e_pick)) (pw_or1D (pt_eq B (pd_var 1) (pd_str e_tuple))))) (pb_one (ps_retD (pd_list false (by rfl) M.n_list (pa_consD (pd_ix (pd_var 0) pd_int) pa_nilD)))) pb_nil)
  (pb_cons (ps_ifD (pt_eq B (pd_var 1) (pd_str e_weigh)) (pb_one (ps_retD (pd_lc false B [("pair", 2)] (pi_seq (pd_ix (pd_var 0) pd_int)) (blkOk_by (N := N_c_parts_of) (sc := (defScope s_c_parts_of)) (by decide +kernel)) (by decide) (fun _ _ _ _ _ => (pg_set 2 B.nd)) (fun _ _ _ _ _ B1 => pts_nilD) (fun _ _ _ _ _ B1 => (pd_ix (pd_var 2) pd_int))))) pb_nil)
  (pb_cons (ps_ifD (pt_w (pw_orD (pt_eq B (pd_var 1) (pd_str e_list)) (pw_or1D (pt_eq B (pd_var 1) (pd_str e_keep))))) (pb_one (ps_retD (pd_lst false (pa_consD (pd_ix (pd_var 0) pd_int) pa_nilD)))) pb_nil)
  (pb_cons (ps_ifD (pt_eq B (pd_var 1) (pd_str e_map)) (pb_one (ps_retD (pd_lst false (pa_consD (pd_ix (pd_var 0) pd_int) pa_nilD)))) pb_nil)
  (pb_cons (ps_ifD (pt_w (pw_orD (pt_eq B (pd_var 1) (pd_str e_let)) (pw_or1D (pt_eq B (pd_var 1) (pd_str e_grow))))) (pb_one (ps_retD (pd_lst false (pa_consD (pd_ix (pd_var 0) pd_int) (pa_consD (pd_ix (pd_var 0) pd_int) pa_nilD))))) pb_nil)
  (pb_one (ps_retD (pd_lst false pa_nilD)))))))))
theorem ok_c_is_flat (M : Fx P K mg T ad fd fI_Invalid) (ih : Ih P w K mg base ad fd CT T k) : FnG P w K mg base (k + 1) (ad .c_is_flat) (fd .c_is_flat) p_c_is_flat (spG K CT T 1 (fnk (k + 1) .c_is_flat)) := by
  obtain ⟨dv_c_is_value_1, du_c_is_value_1, hv_c_is_value_1, hb_c_is_value_1, hr_c_is_value_1⟩ := M.dd_c_is_value_1
  exact (M.df .c_is_flat).ok (N := N_c_is_flat) (ps := p_c_is_flat) sc_c_is_flat (b := b_c_is_flat (fnk k)) fun cdv A fr s H E W B =>
  (pb_cons (ps_setD 1 B.nd (pd_ix (pd_var 0) pd_int))
  (pb_cons (ps_ifD (pt_w (pw_orD (pt_eq B (pd_var 1) (pd_str e_discard)) (pw_or1D (pt_eq B (pd_var 1) (pd_str e_self))))) (pb_one (ps_retD (pd_eq B.hu (pd_len (by rfl) M.n_len (pa_consD (pd_var 0) pa_nilD)) pd_int))) pb_nil)
  (pb_cons (ps_ifD (pt_eq B (pd_var 1) (pd_str e_const)) (pb_one (ps_retD (pd_and (pd_eq B.hu (pd_len (by rfl) M.n_len (pa_consD (pd_var 0) pa_nilD)) pd_int) (pd_one (pd_call B (ih .c_is_value) rfl (by rfl) ((M.df .c_is_value).gl rfl) (M.df .c_is_value).kp hb_c_is_value_1 hv_c_is_value_1 hr_c_is_value_1 (pa_consD (pd_ix (pd_var 0) pd_int) pa_nilD) (len_cons len_nil) rfl))))) pb_nil)
  (pb_cons (ps_ifD (pt_w (pw_orD (pt_eq B (pd_var 1) (pd_str e_var)) (pw_or1D (pt_eq B (pd_var 1) (pd_str e_upto))))) (pb_one (ps_retD (pd_and (pd_eq B.hu (pd_len (by rfl) M.n_len (pa_consD (pd_var 0) pa_nilD)) pd_int) (pd_one (pd_call B (ih .c_is_name) rfl (by rfl) ((M.df .c_is_name).gl rfl) (M.df .c_is_name).kp (bd_c_is_name M) .nil (fun _ => rfl) (pa_consD (pd_ix (pd_var 0) pd_int) pa_nilD) (len_cons len_nil) rfl))))) pb_nil)
  (pb_cons (ps_ifD (pt_eq B (pd_var 1) (pd_str e_range)) (pb_cons (ps_ifD (pt_w (pw_orD (pt_ne B (pd_len (by rfl) M.n_len (pa_consD (pd_var 0) pa_nilD)) pd_int) (pw_or1D (pt_notD (pt_tru (pd_call B (ih .c_is_integer) rfl (by rfl) ((M.df .c_is_integer).gl rfl) (M.df .c_is_integer).kp (bd_c_is_integer M) .nil (fun _ => rfl) (pa_consD (pd_ix (pd_var 0) pd_int) (pa_consD (pd_neg pd_int) (pa_consD pd_int pa_nilD))) (len_cons (len_cons (len_cons len_nil))) rfl)))))) (pb_one (ps_retD pd_bl)) pb_nil)
  (pb_one (ps_retD (pd_call B (ih .c_is_integer) rfl (by rfl) ((M.df .c_is_integer).gl rfl) (M.df .c_is_integer).kp (bd_c_is_integer M) .nil (fun _ => rfl) (pa_consD (pd_ix (pd_var 0) pd_int) (pa_consD (pd_ix (pd_var 0) pd_int) (pa_consD (pd_sub (pd_add (pd_ix (pd_var 0) pd_int) (M.pk_MAX_SPAN (by rfl))) pd_int) pa_nilD))) (len_cons (len_cons (len_cons len_nil))) rfl)))) pb_nil)
  (pb_cons (ps_ifD (pt_eq B (pd_var 1) (pd_str e_shuffle)) (pb_one (ps_retD (pd_and (pd_eq B.hu (pd_len (by rfl) M.n_len (pa_consD (pd_var 0) pa_nilD)) pd_int) (pd_and (pd_isi (t := "tuple") ty_tuple (by rfl) M.n_isinstance (by rfl) M.n_tuple bt_tuple (pd_ix (pd_var 0) pd_int)) (pd_and (pd_le (pd_len (by rfl) M.n_len (pa_consD (pd_ix (pd_var 0) pd_int) pa_nilD)) pd_int) (pd_one (pd_call B (ih .c_is_value) rfl (by rfl) ((M.df .c_is_value).gl rfl) (M.df .c_is_value).kp hb_c_is_value_1 hv_c_is_value_1 hr_c_is_value_1 (pa_consD (pd_ix (pd_var 0) pd_int) pa_nilD) (len_cons len_nil) rfl))))))) pb_nil)
  (pb_one (ps_retD pd_bl))))))))
theorem ok_c_is_shaped (M : Fx P K mg T ad fd fI_Invalid) (ih : Ih P w K mg base ad fd CT T k) : FnG P w K mg base (k + 1) (ad .c_is_shaped) (fd .c_is_shaped) p_c_is_shaped (spG K CT T 1 (fnk (k + 1) .c_is_shaped)) := by
  obtain ⟨dv_c_is_test_1, du_c_is_test_1, hv_c_is_test_1, hb_c_is_test_1, hr_c_is_test_1⟩ := M.dd_c_is_test_1
  exact (M.df .c_is_shaped).ok (N := N_c_is_shaped) (ps := p_c_is_shaped) sc_c_is_shaped (b := b_c_is_shaped (fnk k)) fun cdv A fr s H E W B =>
  (pb_cons (ps_setD 1 B.nd (pd_ix (pd_var 0) pd_int))
  (pb_cons (ps_ifD (pt_w (pw_orD (pt_eq B (pd_var 1) (pd_str e_pick)) (pw_or1D (pt_eq B (pd_var 1) (pd_str e_tuple))))) (pb_cons (ps_setD 2 B.nd (pd_if (pt_eq B (pd_var 1) (pd_str e_pick)) pd_int pd_int))
  (pb_one (ps_retD (pd_and (pd_eq B.hu (pd_len (by rfl) M.n_len (pa_consD (pd_var 0) pa_nilD)) pd_int) (pd_and (pd_isi (t := "tuple") ty_tuple (by rfl) M.n_isinstance (by rfl) M.n_tuple bt_tuple (pd_ix (pd_var 0) pd_int)) (pd_one (pd_leLe (pd_var 2) (pd_len (by rfl) M.n_len (pa_consD (pd_ix (pd_var 0) pd_int) pa_nilD)) (M.pk_MAX_PARTS (by rfl))))))))) pb_nil)
  (pb_cons (ps_ifD (pt_eq B (pd_var 1) (pd_str e_weigh)) (pb_cons (ps_ifD (pt_w (pw_orD (pt_ne B (pd_len (by rfl) M.n_len (pa_consD (pd_var 0) pa_nilD)) pd_int) (pw_orD (pt_notD (pt_tru (pd_isi (t := "tuple") ty_tuple (by rfl) M.n_isinstance (by rfl) M.n_tuple bt_tuple (pd_ix (pd_var 0) pd_int)))) (pw_or1D (pt_notD (pt_leLe pd_int (pd_len (by rfl) M.n_len (pa_consD (pd_ix (pd_var 0) pd_int) pa_nilD)) (M.pk_MAX_PARTS (by rfl)))))))) (pb_one (ps_retD pd_bl)) pb_nil)
  (pb_one (ps_retD (pd_all B.calm (by rfl) M.n_all (pa_consD (pd_lc false B [("pair", 3)] (pi_seq (pd_ix (pd_var 0) pd_int)) (blkOk_by (N := N_c_is_shaped) (sc := (defScope s_c_is_shaped)) (by decide +kernel)) (by decide) (fun _ _ _ _ _ => (pg_set 3 B.nd)) (fun _ _ _ _ _ B1 => pts_nilD) (fun _ _ _ _ _ B1 => (pd_call B1 (ih .c_is_pair) rfl (by rfl) ((M.df .c_is_pair).gl rfl) (M.df .c_is_pair).kp (bd_c_is_pair M) .nil (fun _ => rfl) (pa_consD (pd_var 3) pa_nilD) (len_cons len_nil) rfl))) pa_nilD))))) pb_nil)
  (pb_cons (ps_ifD (pt_eq B (pd_var 1) (pd_str e_list)) (pb_one (ps_retD (pd_and (pd_eq B.hu (pd_len (by rfl) M.n_len (pa_consD (pd_var 0) pa_nilD)) pd_int) (pd_and (pd_call B (ih .c_is_integer) rfl (by rfl) ((M.df .c_is_integer).gl rfl) (M.df .c_is_integer).kp (bd_c_is_integer M) .nil (fun _ => rfl) (pa_consD (pd_ix (pd_var 0) pd_int) (pa_consD pd_int (pa_consD (M.pk_MAX_LIST (by rfl)) pa_nilD))) (len_cons (len_cons (len_cons len_nil))) rfl) (pd_one (pd_call B (ih .c_is_integer) rfl (by rfl) ((M.df .c_is_integer).gl rfl) (M.df .c_is_integer).kp (bd_c_is_integer M) .nil (fun _ => rfl) (pa_consD (pd_ix (pd_var 0) pd_int) (pa_consD (pd_ix (pd_var 0) pd_int) (pa_consD (M.pk_MAX_LIST (by rfl)) pa_nilD))) (len_cons (len_cons (len_cons len_nil))) rfl)))))) pb_nil)
  (pb_cons (ps_ifD (pt_eq B (pd_var 1) (pd_str e_map)) (pb_one (ps_retD (pd_and (pd_eq B.hu (pd_len (by rfl) M.n_len (pa_consD (pd_var 0) pa_nilD)) pd_int) (pd_one (pd_call B (ih .c_is_operation) rfl (by rfl) ((M.df .c_is_operation).gl rfl) (M.df .c_is_operation).kp (bd_c_is_operation M) .nil (fun _ => rfl) (pa_consD (pd_ix (pd_var 0) pd_int) pa_nilD) (len_cons len_nil) rfl))))) pb_nil)
  (pb_cons (ps_ifD (pt_eq B (pd_var 1) (pd_str e_keep)) (pb_one (ps_retD (pd_and (pd_eq B.hu (pd_len (by rfl) M.n_len (pa_consD (pd_var 0) pa_nilD)) pd_int) (pd_and (pd_call B (ih .c_is_test) rfl (by rfl) ((M.df .c_is_test).gl rfl) (M.df .c_is_test).kp hb_c_is_test_1 hv_c_is_test_1 hr_c_is_test_1 (pa_consD (pd_ix (pd_var 0) pd_int) pa_nilD) (len_cons len_nil) rfl) (pd_one (pd_call B (ih .c_is_integer) rfl (by rfl) ((M.df .c_is_integer).gl rfl) (M.df .c_is_integer).kp (bd_c_is_integer M) .nil (fun _ => rfl) (pa_consD (pd_ix (pd_var 0) pd_int) (pa_consD pd_int (pa_consD (M.pk_MAX_TRIES (by rfl)) pa_nilD))) (len_cons (len_cons (len_cons len_nil))) rfl)))))) pb_nil)
  (pb_cons (ps_ifD (pt_eq B (pd_var 1) (pd_str e_let)) (pb_one (ps_retD (pd_and (pd_eq B.hu (pd_len (by rfl) M.n_len (pa_consD (pd_var 0) pa_nilD)) pd_int) (pd_one (pd_call B (ih .c_is_name) rfl (by rfl) ((M.df .c_is_name).gl rfl) (M.df .c_is_name).kp (bd_c_is_name M) .nil (fun _ => rfl) (pa_consD (pd_ix (pd_var 0) pd_int) pa_nilD) (len_cons len_nil) rfl))))) pb_nil)
  (pb_cons (ps_ifD (pt_eq B (pd_var 1) (pd_str e_grow)) (pb_one (ps_retD (pd_and (pd_eq B.hu (pd_len (by rfl) M.n_len (pa_consD (pd_var 0) pa_nilD)) pd_int) (pd_one (pd_call B (ih .c_is_integer) rfl (by rfl) ((M.df .c_is_integer).gl rfl) (M.df .c_is_integer).kp (bd_c_is_integer M) .nil (fun _ => rfl) (pa_consD (pd_ix (pd_var 0) pd_int) (pa_consD pd_int (pa_consD (M.pk_MAX_GROW (by rfl)) pa_nilD))) (len_cons (len_cons (len_cons len_nil))) rfl))))) pb_nil)
  (pb_one (ps_retD pd_bl))))))))))
theorem ok_c_is_open_term (M : Fx P K mg T ad fd fI_Invalid) (ih : Ih P w K mg base ad fd CT T k) : FnG P w K mg base (k + 1) (ad .c_is_open_term) (fd .c_is_open_term) p_c_is_open_term (spG K CT T 4 (fnk (k + 1) .c_is_open_term)) := by
  exact (M.df .c_is_open_term).ok (N := N_c_is_open_term) (ps := p_c_is_open_term) sc_c_is_open_term (b := b_c_is_open_term (fnk k)) fun cdv A fr s H E W B =>
  (pb_cons (ps_ifD (pt_w (pw_orD (pt_notD (pt_tru (pd_isi (t := "tuple") ty_tuple (by rfl) M.n_isinstance (by rfl) M.n_tuple bt_tuple (pd_var 0)))) (pw_orD (pt_eq B (pd_len (by rfl) M.n_len (pa_consD (pd_var 0) pa_nilD)) pd_int) (pw_orD (pt_notD (pt_tru (pd_isi (t := "str") ty_str (by rfl) M.n_isinstance (by rfl) M.n_str bt_str (pd_ix (pd_var 0) pd_int)))) (pw_or1D (pt_eq B (pd_var 3) pd_int)))))) (pb_one (ps_retD pd_bl)) pb_nil)
  (pb_cons (ps_setD 4 B.nd (pd_ix (pd_var 0) pd_int))
  (pb_cons (ps_ifD (pt_tru (pd_call B (ih .c_is_flat) rfl (by rfl) ((M.df .c_is_flat).gl rfl) (M.df .c_is_flat).kp (bd_c_is_flat M) .nil (fun _ => rfl) (pa_consD (pd_var 0) pa_nilD) (len_cons len_nil) rfl)) (pb_cons (ps_ifD (pt_eq B (pd_var 4) (pd_str e_self)) (pb_one (ps_retD (pd_var 2))) pb_nil)
  (pb_one (ps_retD (pd_or (pd_notIn B.hu (pd_var 4) (pd_tup (pa_consD (pd_str e_var) (pa_consD (pd_str e_upto) pa_nilD)))) (pd_one (pd_in B.hu (pd_ix (pd_var 0) pd_int) (pd_var 1))))))) pb_nil)
  (pb_cons (ps_ifD (pt_notD (pt_tru (pd_call B (ih .c_is_shaped) rfl (by rfl) ((M.df .c_is_shaped).gl rfl) (M.df .c_is_shaped).kp (bd_c_is_shaped M) .nil (fun _ => rfl) (pa_consD (pd_var 0) pa_nilD) (len_cons len_nil) rfl))) (pb_one (ps_retD pd_bl)) pb_nil)
  (pb_cons (ps_ifD (pt_eq B (pd_var 4) (pd_str e_let)) (pb_cons (ps_ifD (pt_notD (pt_tru (pd_call B (ih .c_is_open_term) rfl (by rfl) ((M.df .c_is_open_term).gl rfl) (M.df .c_is_open_term).kp (bd_c_is_open_term M) .nil (fun _ => rfl) (pa_consD (pd_ix (pd_var 0) pd_int) (pa_consD (pd_var 1) (pa_consD (pd_var 2) (pa_consD (pd_sub (pd_var 3) pd_int) pa_nilD)))) (len_cons (len_cons (len_cons (len_cons len_nil)))) rfl))) (pb_one (ps_retD pd_bl)) pb_nil)
  (pb_one (ps_retD (pd_call B (ih .c_is_open_term) rfl (by rfl) ((M.df .c_is_open_term).gl rfl) (M.df .c_is_open_term).kp (bd_c_is_open_term M) .nil (fun _ => rfl) (pa_consD (pd_ix (pd_var 0) pd_int) (pa_consD (pd_add (pd_var 1) (pd_tup (pa_consD (pd_ix (pd_var 0) pd_int) pa_nilD))) (pa_consD (pd_var 2) (pa_consD (pd_sub (pd_var 3) pd_int) pa_nilD)))) (len_cons (len_cons (len_cons (len_cons len_nil)))) rfl)))) pb_nil)
  (pb_cons (ps_ifD (pt_eq B (pd_var 4) (pd_str e_grow)) (pb_one (ps_retD (pd_and (pd_call B (ih .c_is_open_term) rfl (by rfl) ((M.df .c_is_open_term).gl rfl) (M.df .c_is_open_term).kp (bd_c_is_open_term M) .nil (fun _ => rfl) (pa_consD (pd_ix (pd_var 0) pd_int) (pa_consD (pd_var 1) (pa_consD (pd_var 2) (pa_consD (pd_sub (pd_var 3) pd_int) pa_nilD)))) (len_cons (len_cons (len_cons (len_cons len_nil)))) rfl) (pd_one (pd_call B (ih .c_is_open_term) rfl (by rfl) ((M.df .c_is_open_term).gl rfl) (M.df .c_is_open_term).kp (bd_c_is_open_term M) .nil (fun _ => rfl) (pa_consD (pd_ix (pd_var 0) pd_int) (pa_consD (pd_var 1) (pa_consD pd_bl (pa_consD (pd_sub (pd_var 3) pd_int) pa_nilD)))) (len_cons (len_cons (len_cons (len_cons len_nil)))) rfl))))) pb_nil)
  (pb_one (ps_retD (pd_all B.calm (by rfl) M.n_all (pa_consD (pd_lc false B [("part", 5)] (pi_seq (pd_call B (ih .c_parts_of) rfl (by rfl) ((M.df .c_parts_of).gl rfl) (M.df .c_parts_of).kp (bd_c_parts_of M) .nil (fun _ => rfl) (pa_consD (pd_var 0) pa_nilD) (len_cons len_nil) rfl)) (blkOk_by (N := N_c_is_open_term) (sc := (defScope s_c_is_open_term)) (by decide +kernel)) (by decide) (fun _ _ _ _ _ => (pg_set 5 B.nd)) (fun _ _ _ _ _ B1 => pts_nilD) (fun _ _ _ _ _ B1 => (pd_call B1 (ih .c_is_open_term) rfl (by rfl) ((M.df .c_is_open_term).gl rfl) (M.df .c_is_open_term).kp (bd_c_is_open_term M) .nil (fun _ => rfl) (pa_consD (pd_var 5) (pa_consD (pd_var 1) (pa_consD (pd_var 2) (pa_consD (pd_sub (pd_var 3) pd_int) pa_nilD)))) (len_cons (len_cons (len_cons (len_cons len_nil)))) rfl))) pa_nilD))))))))))
theorem ok_c_is_term (M : Fx P K mg T ad fd fI_Invalid) (ih : Ih P w K mg base ad fd CT T k) : FnG P w K mg base (k + 1) (ad .c_is_term) (fd .c_is_term) p_c_is_term (spG K CT T 1 (fnk (k + 1) .c_is_term)) := by
  exact (M.df .c_is_term).ok (N := N_c_is_term) (ps := p_c_is_term) sc_c_is_term (b := b_c_is_term (fnk k)) fun cdv A fr s H E W B =>
  (pb_one (ps_retD (pd_call B (ih .c_is_open_term) rfl (by rfl) ((M.df .c_is_open_term).gl rfl) (M.df .c_is_open_term).kp (bd_c_is_open_term M) .nil (fun _ => rfl) (pa_consD (pd_var 0) (pa_consD (pd_tup pa_nilD) (pa_consD pd_bl (pa_consD (M.pk_MAX_DEPTH (by rfl)) pa_nilD)))) (len_cons (len_cons (len_cons (len_cons len_nil)))) rfl)))
theorem ok_c_checked (M : Fx P K mg T ad fd fI_Invalid) (ih : Ih P w K mg base ad fd CT T k) : FnG P w K mg base (k + 1) (ad .c_checked) (fd .c_checked) p_c_checked (spG K CT T 1 (fnk (k + 1) .c_checked)) := by
  exact (M.df .c_checked).ok (N := N_c_checked) (ps := p_c_checked) sc_c_checked (b := b_c_checked (fnk k)) fun cdv A fr s H E W B =>
  (pb_cons (ps_ifD (pt_notD (pt_tru (pd_call B (ih .c_is_term) rfl (by rfl) ((M.df .c_is_term).gl rfl) (M.df .c_is_term).kp (bd_c_is_term M) .nil (fun _ => rfl) (pa_consD (pd_var 0) pa_nilD) (len_cons len_nil) rfl))) (pb_one (ps_raiseD 0 B M.x_Invalid M.tf_Invalid (by rfl) M.gx_Invalid M.n_super (pd_str e_term))) pb_nil)
  (pb_one (ps_retD (pd_var 0))))
theorem ok_law_stream (M : Fx P K mg T ad fd fI_Invalid) (ih : Ih P w K mg base ad fd CT T k) : FnG P w K mg base (k + 1) (ad .law_stream) (fd .law_stream) p_law_stream (spG K CT T 1 (fnk (k + 1) .law_stream)) := by
  exact (M.df .law_stream).ok (N := N_law_stream) (ps := p_law_stream) sc_law_stream (b := b_law_stream (fnk k)) fun cdv A fr s H E W B =>
  (pb_cons (ps_setD 1 B.nd (pd_lst true (pa_consD pd_int pa_nilD)))
  (pb_cons (ps_forD B (pi_seq (pd_cut false (pd_var 0) po_noneD (po_someD pd_int))) (pg_set 2 B.nd) (pb_cons (ps_setD 3 B.nd (pd_abs (by rfl) M.n_abs (pa_consD (pd_intc (by rfl) M.n_int (pa_consD (pd_var 2) pa_nilD)) pa_nilD)))
  (pb_one (ps_forD B (pi_range1D (by rfl) M.n_range pd_int) (pg_set 4 B.nd) (pb_cons (ps_exprD (pd_append (pd_var 1) (pa_consD (pd_mod (pd_var 3) pd_int) pa_nilD)))
  (pb_cons (ps_setD 3 B.nd (pd_div (pd_var 3) pd_int))
  (pb_one (ps_ifD (pt_eq B (pd_var 3) pd_int) (pb_one ps_breakD) pb_nil))))))))
  (pb_cons (ps_setD 5 B.nd pd_int)
  (pb_cons (ps_forD B (pi_seq (pd_cut false (pd_var 0) po_noneD (po_someD pd_int))) (pg_set 2 B.nd) (pb_one (ps_setD 5 B.nd (pd_mod (pd_intc (by rfl) M.n_int (pa_consD (pd_add (pd_add (pd_mul (pd_var 5) pd_int) (pd_var 2)) pd_int) pa_nilD)) pd_int))))
  (pb_cons (ps_forD B (pi_range1D (by rfl) M.n_range pd_int) (pg_set 4 B.nd) (pb_cons (ps_setD 5 B.nd (pd_mod (pd_intc (by rfl) M.n_int (pa_consD (pd_add (pd_add (pd_mul (pd_var 5) pd_int) (pd_mul (pd_var 4) pd_int)) pd_int) pa_nilD)) pd_int))
  (pb_one (ps_exprD (pd_append (pd_var 1) (pa_consD (pd_mod (pd_div (pd_var 5) pd_int) pd_int) pa_nilD))))))
  (pb_one (ps_retD (pd_var 1))))))))
theorem ok_law_take (M : Fx P K mg T ad fd fI_Invalid) (ih : Ih P w K mg base ad fd CT T k) : FnG P w K mg base (k + 1) (ad .law_take) (fd .law_take) p_law_take (spG K CT T 2 (fnk (k + 1) .law_take)) := by
  exact (M.df .law_take).ok (N := N_law_take) (ps := p_law_take) sc_law_take (b := b_law_take (fnk k)) fun cdv A fr s H E W B =>
  (pb_cons (ps_ifD (pt_lt (pd_ix (pd_var 0) pd_int) (pd_len (by rfl) M.n_len (pa_consD (pd_var 0) pa_nilD))) (pb_cons (ps_asgD (pd_add (pd_ix (pd_var 0) pd_int) pd_int) (pg_ix (pd_var 0) pd_int))
  (pb_one (ps_retD (pd_mod (pd_intc (by rfl) M.n_int (pa_consD (pd_ix (pd_var 0) (pd_sub (pd_ix (pd_var 0) pd_int) pd_int)) pa_nilD)) (pd_var 1))))) pb_nil)
  (pb_one (ps_retD pd_int)))
theorem ok_law_value (M : Fx P K mg T ad fd fI_Invalid) (ih : Ih P w K mg base ad fd CT T k) : FnG P w K mg base (k + 1) (ad .law_value) (fd .law_value) p_law_value (spG K CT T 2 (fnk (k + 1) .law_value)) := by
  exact (M.df .law_value).ok (N := N_law_value) (ps := p_law_value) sc_law_value (b := b_law_value (fnk k)) fun cdv A fr s H E W B =>
  (pb_cons (ps_ifD (pt_w (pw_orD (pt_eq B (pd_var 1) pd_int) (pw_or1D (pt_gt (pd_call B (ih .law_take) rfl (by rfl) ((M.df .law_take).gl rfl) (M.df .law_take).kp (bd_law_take M) .nil (fun _ => rfl) (pa_consD (pd_var 0) (pa_consD pd_int pa_nilD)) (len_cons (len_cons len_nil)) rfl) pd_int)))) (pb_one (ps_retD (pd_sub (pd_call B (ih .law_take) rfl (by rfl) ((M.df .law_take).gl rfl) (M.df .law_take).kp (bd_law_take M) .nil (fun _ => rfl) (pa_consD (pd_var 0) (pa_consD pd_int pa_nilD)) (len_cons (len_cons len_nil)) rfl) pd_int))) pb_nil)
  (pb_one (ps_retD (pd_tuple (by rfl) M.n_tuple (pa_consD (pd_lc false B [("k", 2)] (pi_range1D (by rfl) M.n_range (pd_call B (ih .law_take) rfl (by rfl) ((M.df .law_take).gl rfl) (M.df .law_take).kp (bd_law_take M) .nil (fun _ => rfl) (pa_consD (pd_var 0) (pa_consD pd_int pa_nilD)) (len_cons (len_cons len_nil)) rfl)) (blkOk_by (N := N_law_value) (sc := (defScope s_law_value)) (by decide +kernel)) (by decide) (fun _ _ _ _ _ => (pg_set 2 B.nd)) (fun _ _ _ _ _ B1 => pts_nilD) (fun _ _ _ _ _ B1 => (pd_call B1 (ih .law_value) rfl (by rfl) ((M.df .law_value).gl rfl) (M.df .law_value).kp (bd_law_value M) .nil (fun _ => rfl) (pa_consD (pd_var 0) (pa_consD (pd_sub (pd_var 1) pd_int) pa_nilD)) (len_cons (len_cons len_nil)) rfl))) pa_nilD)))))
theorem ok_law_test (M : Fx P K mg T ad fd fI_Invalid) (ih : Ih P w K mg base ad fd CT T k) : FnG P w K mg base (k + 1) (ad .law_test) (fd .law_test) p_law_test (spG K CT T 2 (fnk (k + 1) .law_test)) := by
  exact (M.df .law_test).ok (N := N_law_test) (ps := p_law_test) sc_law_test (b := b_law_test (fnk k)) fun cdv A fr s H E W B =>
  (pb_cons (ps_setD 2 B.nd (pd_call B (ih .law_take) rfl (by rfl) ((M.df .law_take).gl rfl) (M.df .law_take).kp (bd_law_take M) .nil (fun _ => rfl) (pa_consD (pd_var 0) (pa_consD pd_int pa_nilD)) (len_cons (len_cons len_nil)) rfl))
  (pb_cons (ps_ifD (pt_w (pw_andD (pt_gt (pd_var 1) pd_int) (pw_and1D (pt_lt (pd_var 2) pd_int)))) (pb_one (ps_retD (pd_tup (pa_consD (pd_ix (pd_lst false (pa_consD (pd_str e_not) (pa_consD (pd_str e_all) (pa_consD (pd_str e_any) pa_nilD)))) (pd_var 2)) (pa_consD (pd_call B (ih .law_test) rfl (by rfl) ((M.df .law_test).gl rfl) (M.df .law_test).kp (bd_law_test M) .nil (fun _ => rfl) (pa_consD (pd_var 0) (pa_consD (pd_sub (pd_var 1) pd_int) pa_nilD)) (len_cons (len_cons len_nil)) rfl) pa_nilD))))) pb_nil)
  (pb_cons (ps_ifD (pt_w (pw_andD (pt_gt (pd_var 1) pd_int) (pw_and1D (pt_lt (pd_var 2) pd_int)))) (pb_one (ps_retD (pd_tup (pa_consD (pd_ix (pd_lst false (pa_consD (pd_str e_both) (pa_consD (pd_str e_either) pa_nilD))) (pd_sub (pd_var 2) pd_int)) (pa_consD (pd_call B (ih .law_test) rfl (by rfl) ((M.df .law_test).gl rfl) (M.df .law_test).kp (bd_law_test M) .nil (fun _ => rfl) (pa_consD (pd_var 0) (pa_consD (pd_sub (pd_var 1) pd_int) pa_nilD)) (len_cons (len_cons len_nil)) rfl) (pa_consD (pd_call B (ih .law_test) rfl (by rfl) ((M.df .law_test).gl rfl) (M.df .law_test).kp (bd_law_test M) .nil (fun _ => rfl) (pa_consD (pd_var 0) (pa_consD (pd_sub (pd_var 1) pd_int) pa_nilD)) (len_cons (len_cons len_nil)) rfl) pa_nilD)))))) pb_nil)
  (pb_cons (ps_ifD (pt_eq B (pd_var 2) pd_int) (pb_one (ps_retD (pd_tup (pa_consD (pd_str e_equals) (pa_consD (pd_call B (ih .law_value) rfl (by rfl) ((M.df .law_value).gl rfl) (M.df .law_value).kp (bd_law_value M) .nil (fun _ => rfl) (pa_consD (pd_var 0) (pa_consD pd_int pa_nilD)) (len_cons (len_cons len_nil)) rfl) pa_nilD))))) pb_nil)
  (pb_cons (ps_ifD (pt_eq B (pd_var 2) pd_int) (pb_one (ps_retD (pd_tup (pa_consD (pd_str e_size) (pa_consD (pd_call B (ih .law_take) rfl (by rfl) ((M.df .law_take).gl rfl) (M.df .law_take).kp (bd_law_take M) .nil (fun _ => rfl) (pa_consD (pd_var 0) (pa_consD pd_int pa_nilD)) (len_cons (len_cons len_nil)) rfl) pa_nilD))))) pb_nil)
  (pb_cons (ps_ifD (pt_eq B (pd_var 2) pd_int) (pb_one (ps_retD (pd_ix (pd_lst false (pa_consD (pd_tup (pa_consD (pd_str e_even) pa_nilD)) (pa_consD (pd_tup (pa_consD (pd_str e_rising) pa_nilD)) pa_nilD))) (pd_call B (ih .law_take) rfl (by rfl) ((M.df .law_take).gl rfl) (M.df .law_take).kp (bd_law_take M) .nil (fun _ => rfl) (pa_consD (pd_var 0) (pa_consD pd_int pa_nilD)) (len_cons (len_cons len_nil)) rfl)))) pb_nil)
  (pb_one (ps_retD (pd_tup (pa_consD (pd_str e_less) (pa_consD (pd_call B (ih .law_take) rfl (by rfl) ((M.df .law_take).gl rfl) (M.df .law_take).kp (bd_law_take M) .nil (fun _ => rfl) (pa_consD (pd_var 0) (pa_consD pd_int pa_nilD)) (len_cons (len_cons len_nil)) rfl) pa_nilD)))))))))))
theorem ok_law_operation (M : Fx P K mg T ad fd fI_Invalid) (ih : Ih P w K mg base ad fd CT T k) : FnG P w K mg base (k + 1) (ad .law_operation) (fd .law_operation) p_law_operation (spG K CT T 1 (fnk (k + 1) .law_operation)) := by
  exact (M.df .law_operation).ok (N := N_law_operation) (ps := p_law_operation) sc_law_operation (b := b_law_operation (fnk k)) fun cdv A fr s H E W B =>
  (pb_cons (ps_setD 1 B.nd (pd_call B (ih .law_take) rfl (by rfl) ((M.df .law_take).gl rfl) (M.df .law_take).kp (bd_law_take M) .nil (fun _ => rfl) (pa_consD (pd_var 0) (pa_consD pd_int pa_nilD)) (len_cons (len_cons len_nil)) rfl))
  (pb_cons (ps_ifD (pt_lt (pd_var 1) pd_int) (pb_one (ps_retD (pd_tup (pa_consD (pd_ix (pd_lst false (pa_consD (pd_str e_add) (pa_consD (pd_str e_mul) (pa_consD (pd_str e_mod) pa_nilD)))) (pd_var 1)) (pa_consD (pd_add pd_int (pd_call B (ih .law_take) rfl (by rfl) ((M.df .law_take).gl rfl) (M.df .law_take).kp (bd_law_take M) .nil (fun _ => rfl) (pa_consD (pd_var 0) (pa_consD pd_int pa_nilD)) (len_cons (len_cons len_nil)) rfl)) pa_nilD))))) pb_nil)
  (pb_one (ps_retD (pd_tup (pa_consD (pd_ix (pd_lst false (pa_consD (pd_str e_sum) (pa_consD (pd_str e_size) (pa_consD (pd_str e_sort) (pa_consD (pd_str e_reverse) (pa_consD (pd_str e_flat) pa_nilD)))))) (pd_call B (ih .law_take) rfl (by rfl) ((M.df .law_take).gl rfl) (M.df .law_take).kp (bd_law_take M) .nil (fun _ => rfl) (pa_consD (pd_var 0) (pa_consD pd_int pa_nilD)) (len_cons (len_cons len_nil)) rfl)) pa_nilD))))))
theorem ok_law_leaf (M : Fx P K mg T ad fd fI_Invalid) (ih : Ih P w K mg base ad fd CT T k) : FnG P w K mg base (k + 1) (ad .law_leaf) (fd .law_leaf) p_law_leaf (spG K CT T 3 (fnk (k + 1) .law_leaf)) := by
  exact (M.df .law_leaf).ok (N := N_law_leaf) (ps := p_law_leaf) sc_law_leaf (b := b_law_leaf (fnk k)) fun cdv A fr s H E W B =>
  (pb_cons (ps_setD 3 B.nd (pd_call B (ih .law_take) rfl (by rfl) ((M.df .law_take).gl rfl) (M.df .law_take).kp (bd_law_take M) .nil (fun _ => rfl) (pa_consD (pd_var 0) (pa_consD pd_int pa_nilD)) (len_cons (len_cons len_nil)) rfl))
  (pb_cons (ps_ifD (pt_w (pw_andD (pt_eq B (pd_var 3) pd_int) (pw_and1D (pt_tru (pd_var 2))))) (pb_one (ps_retD (pd_tup (pa_consD (pd_str e_self) pa_nilD)))) pb_nil)
  (pb_cons (ps_ifD (pt_w (pw_andD (pt_eq B (pd_var 3) pd_int) (pw_and1D (pt_gt (pd_len (by rfl) M.n_len (pa_consD (pd_var 1) pa_nilD)) pd_int)))) (pb_one (ps_retD (pd_tup (pa_consD (pd_ix (pd_lst false (pa_consD (pd_str e_var) (pa_consD (pd_str e_upto) pa_nilD))) (pd_call B (ih .law_take) rfl (by rfl) ((M.df .law_take).gl rfl) (M.df .law_take).kp (bd_law_take M) .nil (fun _ => rfl) (pa_consD (pd_var 0) (pa_consD pd_int pa_nilD)) (len_cons (len_cons len_nil)) rfl)) (pa_consD (pd_ix (pd_var 1) (pd_call B (ih .law_take) rfl (by rfl) ((M.df .law_take).gl rfl) (M.df .law_take).kp (bd_law_take M) .nil (fun _ => rfl) (pa_consD (pd_var 0) (pa_consD (pd_len (by rfl) M.n_len (pa_consD (pd_var 1) pa_nilD)) pa_nilD)) (len_cons (len_cons len_nil)) rfl)) pa_nilD))))) pb_nil)
  (pb_cons (ps_ifD (pt_eq B (pd_var 3) pd_int) (pb_cons (ps_setD 4 B.nd (pd_sub (pd_call B (ih .law_take) rfl (by rfl) ((M.df .law_take).gl rfl) (M.df .law_take).kp (bd_law_take M) .nil (fun _ => rfl) (pa_consD (pd_var 0) (pa_consD pd_int pa_nilD)) (len_cons (len_cons len_nil)) rfl) pd_int))
  (pb_one (ps_retD (pd_tup (pa_consD (pd_str e_range) (pa_consD (pd_var 4) (pa_consD (pd_add (pd_var 4) (pd_call B (ih .law_take) rfl (by rfl) ((M.df .law_take).gl rfl) (M.df .law_take).kp (bd_law_take M) .nil (fun _ => rfl) (pa_consD (pd_var 0) (pa_consD pd_int pa_nilD)) (len_cons (len_cons len_nil)) rfl)) pa_nilD))))))) pb_nil)
  (pb_cons (ps_ifD (pt_eq B (pd_var 3) pd_int) (pb_one (ps_retD (pd_tup (pa_consD (pd_str e_shuffle) (pa_consD (pd_tuple (by rfl) M.n_tuple (pa_consD (pd_lc false B [("k", 5)] (pi_range1D (by rfl) M.n_range (pd_call B (ih .law_take) rfl (by rfl) ((M.df .law_take).gl rfl) (M.df .law_take).kp (bd_law_take M) .nil (fun _ => rfl) (pa_consD (pd_var 0) (pa_consD pd_int pa_nilD)) (len_cons (len_cons len_nil)) rfl)) (blkOk_by (N := N_law_leaf) (sc := (defScope s_law_leaf)) (by decide +kernel)) (by decide) (fun _ _ _ _ _ => (pg_set 5 B.nd)) (fun _ _ _ _ _ B1 => pts_nilD) (fun _ _ _ _ _ B1 => (pd_call B1 (ih .law_take) rfl (by rfl) ((M.df .law_take).gl rfl) (M.df .law_take).kp (bd_law_take M) .nil (fun _ => rfl) (pa_consD (pd_var 0) (pa_consD pd_int pa_nilD)) (len_cons (len_cons len_nil)) rfl))) pa_nilD)) pa_nilD))))) pb_nil)
  (pb_cons (ps_ifD (pt_w (pw_andD (pt_eq B (pd_var 3) pd_int) (pw_and1D (pt_eq B (pd_call B (ih .law_take) rfl (by rfl) ((M.df .law_take).gl rfl) (M.df .law_take).kp (bd_law_take M) .nil (fun _ => rfl) (pa_consD (pd_var 0) (pa_consD pd_int pa_nilD)) (len_cons (len_cons len_nil)) rfl) pd_int)))) (pb_one (ps_retD (pd_tup (pa_consD (pd_str e_discard) pa_nilD)))) pb_nil)
  (pb_one (ps_retD (pd_tup (pa_consD (pd_str e_const) (pa_consD (pd_call B (ih .law_value) rfl (by rfl) ((M.df .law_value).gl rfl) (M.df .law_value).kp (bd_law_value M) .nil (fun _ => rfl) (pa_consD (pd_var 0) (pa_consD pd_int pa_nilD)) (len_cons (len_cons len_nil)) rfl) pa_nilD)))))))))))
theorem ok_law_term (M : Fx P K mg T ad fd fI_Invalid) (ih : Ih P w K mg base ad fd CT T k) : FnG P w K mg base (k + 1) (ad .law_term) (fd .law_term) p_law_term (spG K CT T 4 (fnk (k + 1) .law_term)) := by
  exact (M.df .law_term).ok (N := N_law_term) (ps := p_law_term) sc_law_term (b := b_law_term (fnk k)) fun cdv A fr s H E W B =>
  (pb_cons (ps_setD 4 B.nd (pd_call B (ih .law_take) rfl (by rfl) ((M.df .law_take).gl rfl) (M.df .law_take).kp (bd_law_take M) .nil (fun _ => rfl) (pa_consD (pd_var 0) (pa_consD pd_int pa_nilD)) (len_cons (len_cons len_nil)) rfl))
  (pb_cons (ps_ifD (pt_w (pw_orD (pt_eq B (pd_var 1) pd_int) (pw_or1D (pt_lt (pd_var 4) pd_int)))) (pb_one (ps_retD (pd_call B (ih .law_leaf) rfl (by rfl) ((M.df .law_leaf).gl rfl) (M.df .law_leaf).kp (bd_law_leaf M) .nil (fun _ => rfl) (pa_consD (pd_var 0) (pa_consD (pd_var 2) (pa_consD (pd_var 3) pa_nilD))) (len_cons (len_cons (len_cons len_nil))) rfl))) pb_nil)
  (pb_cons (ps_setD 5 B.nd (pd_call B (ih .law_term) rfl (by rfl) ((M.df .law_term).gl rfl) (M.df .law_term).kp (bd_law_term M) .nil (fun _ => rfl) (pa_consD (pd_var 0) (pa_consD (pd_sub (pd_var 1) pd_int) (pa_consD (pd_var 2) (pa_consD (pd_var 3) pa_nilD)))) (len_cons (len_cons (len_cons (len_cons len_nil)))) rfl))
  (pb_cons (ps_ifD (pt_eq B (pd_var 4) pd_int) (pb_one (ps_retD (pd_tup (pa_consD (pd_str e_map) (pa_consD (pd_call B (ih .law_operation) rfl (by rfl) ((M.df .law_operation).gl rfl) (M.df .law_operation).kp (bd_law_operation M) .nil (fun _ => rfl) (pa_consD (pd_var 0) pa_nilD) (len_cons len_nil) rfl) (pa_consD (pd_var 5) pa_nilD)))))) pb_nil)
  (pb_cons (ps_ifD (pt_eq B (pd_var 4) pd_int) (pb_one (ps_retD (pd_tup (pa_consD (pd_str e_keep) (pa_consD (pd_call B (ih .law_test) rfl (by rfl) ((M.df .law_test).gl rfl) (M.df .law_test).kp (bd_law_test M) .nil (fun _ => rfl) (pa_consD (pd_var 0) (pa_consD pd_int pa_nilD)) (len_cons (len_cons len_nil)) rfl) (pa_consD (pd_add pd_int (pd_call B (ih .law_take) rfl (by rfl) ((M.df .law_take).gl rfl) (M.df .law_take).kp (bd_law_take M) .nil (fun _ => rfl) (pa_consD (pd_var 0) (pa_consD pd_int pa_nilD)) (len_cons (len_cons len_nil)) rfl)) (pa_consD (pd_var 5) pa_nilD))))))) pb_nil)
  (pb_cons (ps_ifD (pt_eq B (pd_var 4) pd_int) (pb_cons (ps_setD 6 B.nd (pd_call B (ih .law_take) rfl (by rfl) ((M.df .law_take).gl rfl) (M.df .law_take).kp (bd_law_take M) .nil (fun _ => rfl) (pa_consD (pd_var 0) (pa_consD pd_int pa_nilD)) (len_cons (len_cons len_nil)) rfl))
  (pb_one (ps_retD (pd_tup (pa_consD (pd_str e_list) (pa_consD (pd_var 6) (pa_consD (pd_add (pd_var 6) (pd_call B (ih .law_take) rfl (by rfl) ((M.df .law_take).gl rfl) (M.df .law_take).kp (bd_law_take M) .nil (fun _ => rfl) (pa_consD (pd_var 0) (pa_consD pd_int pa_nilD)) (len_cons (len_cons len_nil)) rfl)) (pa_consD (pd_var 5) pa_nilD)))))))) pb_nil)
  (pb_cons (ps_ifD (pt_eq B (pd_var 4) pd_int) (pb_cons (ps_setD 7 B.nd (pd_ix (pd_lst false (pa_consD (pd_str e_x) (pa_consD (pd_str e_y) (pa_consD (pd_str e_abc) pa_nilD)))) (pd_call B (ih .law_take) rfl (by rfl) ((M.df .law_take).gl rfl) (M.df .law_take).kp (bd_law_take M) .nil (fun _ => rfl) (pa_consD (pd_var 0) (pa_consD pd_int pa_nilD)) (len_cons (len_cons len_nil)) rfl)))
  (pb_one (ps_retD (pd_tup (pa_consD (pd_str e_let) (pa_consD (pd_var 7) (pa_consD (pd_var 5) (pa_consD (pd_call B (ih .law_term) rfl (by rfl) ((M.df .law_term).gl rfl) (M.df .law_term).kp (bd_law_term M) .nil (fun _ => rfl) (pa_consD (pd_var 0) (pa_consD (pd_sub (pd_var 1) pd_int) (pa_consD (pd_add (pd_var 2) (pd_lst false (pa_consD (pd_var 7) pa_nilD))) (pa_consD (pd_var 3) pa_nilD)))) (len_cons (len_cons (len_cons (len_cons len_nil)))) rfl) pa_nilD)))))))) pb_nil)
  (pb_cons (ps_ifD (pt_eq B (pd_var 4) pd_int) (pb_one (ps_retD (pd_tup (pa_consD (pd_str e_grow) (pa_consD (pd_call B (ih .law_take) rfl (by rfl) ((M.df .law_take).gl rfl) (M.df .law_take).kp (bd_law_take M) .nil (fun _ => rfl) (pa_consD (pd_var 0) (pa_consD pd_int pa_nilD)) (len_cons (len_cons len_nil)) rfl) (pa_consD (pd_var 5) (pa_consD (pd_call B (ih .law_term) rfl (by rfl) ((M.df .law_term).gl rfl) (M.df .law_term).kp (bd_law_term M) .nil (fun _ => rfl) (pa_consD (pd_var 0) (pa_consD (pd_sub (pd_var 1) pd_int) (pa_consD (pd_var 2) (pa_consD pd_bl pa_nilD)))) (len_cons (len_cons (len_cons (len_cons len_nil)))) rfl) pa_nilD))))))) pb_nil)
  (pb_cons (ps_setD 8 B.nd (pd_call B (ih .law_term) rfl (by rfl) ((M.df .law_term).gl rfl) (M.df .law_term).kp (bd_law_term M) .nil (fun _ => rfl) (pa_consD (pd_var 0) (pa_consD (pd_sub (pd_var 1) pd_int) (pa_consD (pd_var 2) (pa_consD (pd_var 3) pa_nilD)))) (len_cons (len_cons (len_cons (len_cons len_nil)))) rfl))
  (pb_cons (ps_ifD (pt_eq B (pd_var 4) pd_int) (pb_one (ps_retD (pd_tup (pa_consD (pd_str e_pick) (pa_consD (pd_cut false (pd_tup (pa_consD (pd_var 5) (pa_consD (pd_var 8) (pa_consD (pd_var 5) pa_nilD)))) po_noneD (po_someD (pd_add pd_int (pd_call B (ih .law_take) rfl (by rfl) ((M.df .law_take).gl rfl) (M.df .law_take).kp (bd_law_take M) .nil (fun _ => rfl) (pa_consD (pd_var 0) (pa_consD pd_int pa_nilD)) (len_cons (len_cons len_nil)) rfl)))) pa_nilD))))) pb_nil)
  (pb_cons (ps_ifD (pt_eq B (pd_var 4) pd_int) (pb_cons (ps_setD 9 B.nd (pd_tup (pa_consD (pd_tup (pa_consD (pd_add pd_int (pd_call B (ih .law_take) rfl (by rfl) ((M.df .law_take).gl rfl) (M.df .law_take).kp (bd_law_take M) .nil (fun _ => rfl) (pa_consD (pd_var 0) (pa_consD pd_int pa_nilD)) (len_cons (len_cons len_nil)) rfl)) (pa_consD (pd_var 5) pa_nilD))) (pa_consD (pd_tup (pa_consD (pd_add pd_int (pd_call B (ih .law_take) rfl (by rfl) ((M.df .law_take).gl rfl) (M.df .law_take).kp (bd_law_take M) .nil (fun _ => rfl) (pa_consD (pd_var 0) (pa_consD pd_int pa_nilD)) (len_cons (len_cons len_nil)) rfl)) (pa_consD (pd_var 8) pa_nilD))) (pa_consD (pd_tup (pa_consD (pd_add pd_int (pd_call B (ih .law_take) rfl (by rfl) ((M.df .law_take).gl rfl) (M.df .law_take).kp (bd_law_take M) .nil (fun _ => rfl) (pa_consD (pd_var 0) (pa_consD pd_int pa_nilD)) (len_cons (len_cons len_nil)) rfl)) (pa_consD (pd_var 5) pa_nilD))) pa_nilD)))))
  (pb_one (ps_retD (pd_tup (pa_consD (pd_str e_weigh) (pa_consD (pd_cut false (pd_var 9) po_noneD (po_someD (pd_add pd_int (pd_call B (ih .law_take) rfl (by rfl) ((M.df .law_take).gl rfl) (M.df .law_take).kp (bd_law_take M) .nil (fun _ => rfl) (pa_consD (pd_var 0) (pa_consD pd_int pa_nilD)) (len_cons (len_cons len_nil)) rfl)))) pa_nilD)))))) pb_nil)
  (pb_one (ps_retD (pd_tup (pa_consD (pd_str e_tuple) (pa_consD (pd_cut false (pd_tup (pa_consD (pd_var 5) (pa_consD (pd_var 8) (pa_consD (pd_var 5) pa_nilD)))) po_noneD (po_someD (pd_call B (ih .law_take) rfl (by rfl) ((M.df .law_take).gl rfl) (M.df .law_take).kp (bd_law_take M) .nil (fun _ => rfl) (pa_consD (pd_var 0) (pa_consD pd_int pa_nilD)) (len_cons (len_cons len_nil)) rfl))) pa_nilD))))))))))))))))
theorem ok_law_faults (M : Fx P K mg T ad fd fI_Invalid) (ih : Ih P w K mg base ad fd CT T k) : FnG P w K mg base (k + 1) (ad .law_faults) (fd .law_faults) p_law_faults (spG K CT T 0 (fnk (k + 1) .law_faults)) := by
  exact (M.df .law_faults).ok (N := N_law_faults) (ps := p_law_faults) sc_law_faults (b := b_law_faults (fnk k)) fun cdv A fr s H E W B =>
  (pb_cons (ps_setD 0 B.nd (pd_lst false (pa_consD (pd_tup (pa_consD (pd_str e_var) (pa_consD (pd_str e_zz) pa_nilD))) (pa_consD (pd_tup (pa_consD (pd_str e_upto) (pa_consD (pd_str e_zz) pa_nilD))) (pa_consD (pd_tup (pa_consD (pd_str e_self) pa_nilD)) (pa_consD (pd_tup (pa_consD (pd_str e_const) pa_nilD)) (pa_consD (pd_tup (pa_consD (pd_str e_const) (pa_consD (pd_lst false (pa_consD pd_int pa_nilD)) pa_nilD))) (pa_consD (pd_tup (pa_consD (pd_str e_const) (pa_consD pd_bl pa_nilD))) (pa_consD (pd_tup (pa_consD (pd_str e_range) (pa_consD pd_int (pa_consD pd_int pa_nilD)))) pa_nilD)))))))))
  (pb_cons (ps_setD 0 B.nd (pd_add (pd_var 0) (pd_lst false (pa_consD (pd_tup (pa_consD (pd_str e_range) (pa_consD pd_int (pa_consD pd_int pa_nilD)))) (pa_consD (pd_tup (pa_consD (pd_str e_range) (pa_consD pd_int pa_nilD))) (pa_consD (pd_tup (pa_consD (pd_str e_range) (pa_consD pd_int (pa_consD pd_int (pa_consD pd_int pa_nilD))))) (pa_consD (pd_tup (pa_consD (pd_str e_range) (pa_consD pd_int (pa_consD pd_non pa_nilD)))) (pa_consD (pd_tup (pa_consD (pd_str e_pick) (pa_consD (pd_tup pa_nilD) pa_nilD))) (pa_consD (pd_tup (pa_consD (pd_str e_weigh) (pa_consD (pd_tup pa_nilD) pa_nilD))) pa_nilD)))))))))
  (pb_cons (ps_setD 0 B.nd (pd_add (pd_var 0) (pd_lst false (pa_consD (pd_tup (pa_consD (pd_str e_weigh) (pa_consD (pd_tup (pa_consD (pd_tup (pa_consD pd_int (pa_consD (pd_tup (pa_consD (pd_str e_const) (pa_consD pd_int pa_nilD))) pa_nilD))) pa_nilD)) pa_nilD))) (pa_consD (pd_tup (pa_consD (pd_str e_weigh) (pa_consD (pd_tup (pa_consD (pd_tup (pa_consD pd_int pa_nilD)) pa_nilD)) pa_nilD))) (pa_consD (pd_tup (pa_consD (pd_str e_list) (pa_consD pd_int (pa_consD pd_int (pa_consD (pd_tup (pa_consD (pd_str e_const) (pa_consD pd_int pa_nilD))) pa_nilD))))) (pa_consD (pd_tup (pa_consD (pd_str e_discard) (pa_consD pd_int pa_nilD))) pa_nilD)))))))
  (pb_cons (ps_setD 0 B.nd (pd_add (pd_var 0) (pd_lst false (pa_consD (pd_tup (pa_consD (pd_str e_list) (pa_consD pd_int (pa_consD pd_int (pa_consD (pd_tup (pa_consD (pd_str e_const) (pa_consD pd_int pa_nilD))) pa_nilD))))) (pa_consD (pd_tup (pa_consD (pd_str e_map) (pa_consD (pd_tup (pa_consD (pd_str e_sum) (pa_consD pd_int pa_nilD))) (pa_consD (pd_tup (pa_consD (pd_str e_const) (pa_consD pd_int pa_nilD))) pa_nilD)))) (pa_consD (pd_tup (pa_consD (pd_str e_map) (pa_consD (pd_tup (pa_consD (pd_str e_mod) (pa_consD pd_int pa_nilD))) (pa_consD (pd_tup (pa_consD (pd_str e_const) (pa_consD pd_int pa_nilD))) pa_nilD)))) pa_nilD))))))
  (pb_cons (ps_setD 0 B.nd (pd_add (pd_var 0) (pd_lst false (pa_consD (pd_tup (pa_consD (pd_str e_map) (pa_consD (pd_tup (pa_consD (pd_str e_add) pa_nilD)) (pa_consD (pd_tup (pa_consD (pd_str e_const) (pa_consD pd_int pa_nilD))) pa_nilD)))) (pa_consD (pd_tup (pa_consD (pd_str e_keep) (pa_consD (pd_tup (pa_consD (pd_str e_odd) pa_nilD)) (pa_consD pd_int (pa_consD (pd_tup (pa_consD (pd_str e_const) (pa_consD pd_int pa_nilD))) pa_nilD))))) (pa_consD (pd_tup (pa_consD (pd_str e_keep) (pa_consD (pd_tup (pa_consD (pd_str e_even) pa_nilD)) (pa_consD pd_int (pa_consD (pd_tup (pa_consD (pd_str e_const) (pa_consD pd_int pa_nilD))) pa_nilD))))) pa_nilD))))))
  (pb_cons (ps_setD 0 B.nd (pd_add (pd_var 0) (pd_lst false (pa_consD (pd_tup (pa_consD (pd_str e_keep) (pa_consD (pd_tup (pa_consD (pd_str e_even) pa_nilD)) (pa_consD pd_int (pa_consD (pd_tup (pa_consD (pd_str e_const) (pa_consD pd_int pa_nilD))) pa_nilD))))) (pa_consD (pd_tup (pa_consD (pd_str e_let) (pa_consD (pd_str e_X) (pa_consD (pd_tup (pa_consD (pd_str e_const) (pa_consD pd_int pa_nilD))) (pa_consD (pd_tup (pa_consD (pd_str e_const) (pa_consD pd_int pa_nilD))) pa_nilD))))) (pa_consD (pd_tup (pa_consD (pd_str e_tuple) (pa_consD (pd_lst false (pa_consD (pd_tup (pa_consD (pd_str e_const) (pa_consD pd_int pa_nilD))) pa_nilD)) pa_nilD))) pa_nilD))))))
  (pb_cons (ps_setD 0 B.nd (pd_add (pd_var 0) (pd_lst false (pa_consD (pd_tup (pa_consD (pd_str e_grow) (pa_consD pd_int (pa_consD (pd_tup (pa_consD (pd_str e_const) (pa_consD pd_int pa_nilD))) (pa_consD (pd_tup (pa_consD (pd_str e_self) pa_nilD)) pa_nilD))))) (pa_consD (pd_tup (pa_consD (pd_str e_grow) (pa_consD pd_int (pa_consD (pd_tup (pa_consD (pd_str e_self) pa_nilD)) (pa_consD (pd_tup (pa_consD (pd_str e_const) (pa_consD pd_int pa_nilD))) pa_nilD))))) (pa_consD (pd_tup (pa_consD (pd_str e_shuffle) (pa_consD (pd_tup (pa_consD pd_int (pa_consD pd_int (pa_consD pd_int (pa_consD pd_int (pa_consD pd_int pa_nilD)))))) pa_nilD))) pa_nilD))))))
  (pb_one (ps_retD (pd_add (pd_var 0) (pd_lst false (pa_consD (pd_tup (pa_consD (pd_str e_shuffle) (pa_consD pd_int pa_nilD))) (pa_consD (pd_tup (pa_consD (pd_str e_dice) (pa_consD pd_int pa_nilD))) (pa_consD (pd_tup pa_nilD) (pa_consD pd_non (pa_consD pd_int (pa_consD (pd_lst false (pa_consD (pd_str e_const) (pa_consD pd_int pa_nilD))) (pa_consD (pd_tup (pa_consD (pd_str e_let) (pa_consD (pd_str e_zz) (pa_consD (pd_tup (pa_consD (pd_str e_var) (pa_consD (pd_str e_zz) pa_nilD))) (pa_consD (pd_tup (pa_consD (pd_str e_const) (pa_consD pd_int pa_nilD))) pa_nilD))))) (pa_consD (pd_tup (pa_consD pd_int (pa_consD pd_int pa_nilD))) pa_nilD)))))))))))))))))))
theorem ok_law_count (M : Fx P K mg T ad fd fI_Invalid) (ih : Ih P w K mg base ad fd CT T k) : FnG P w K mg base (k + 1) (ad .law_count) (fd .law_count) p_law_count (spG K CT T 1 (fnk (k + 1) .law_count)) := by
  exact (M.df .law_count).ok (N := N_law_count) (ps := p_law_count) sc_law_count (b := b_law_count (fnk k)) fun cdv A fr s H E W B =>
  (pb_one (ps_retD (pd_add pd_int (pd_sum B.calm (by rfl) M.n_sum (pa_consD (pd_lc false B [("part", 1)] (pi_seq (pd_call B (ih .law_parts) rfl (by rfl) ((M.df .law_parts).gl rfl) (M.df .law_parts).kp (bd_law_parts M) .nil (fun _ => rfl) (pa_consD (pd_var 0) pa_nilD) (len_cons len_nil) rfl)) (blkOk_by (N := N_law_count) (sc := (defScope s_law_count)) (by decide +kernel)) (by decide) (fun _ _ _ _ _ => (pg_set 1 B.nd)) (fun _ _ _ _ _ B1 => pts_nilD) (fun _ _ _ _ _ B1 => (pd_call B1 (ih .law_count) rfl (by rfl) ((M.df .law_count).gl rfl) (M.df .law_count).kp (bd_law_count M) .nil (fun _ => rfl) (pa_consD (pd_var 1) pa_nilD) (len_cons len_nil) rfl))) pa_nilD)))))
theorem ok_law_parts (M : Fx P K mg T ad fd fI_Invalid) (ih : Ih P w K mg base ad fd CT T k) : FnG P w K mg base (k + 1) (ad .law_parts) (fd .law_parts) p_law_parts (spG K CT T 1 (fnk (k + 1) .law_parts)) := by
  exact (M.df .law_parts).ok (N := N_law_parts) (ps := p_law_parts) sc_law_parts (b := b_law_parts (fnk k)) fun cdv A fr s H E W B =>
  (pb_cons (ps_ifD (pt_w (pw_orD (pt_eq B (pd_ix (pd_var 0) pd_int) (pd_str e_pick)) (pw_or1D (pt_eq B (pd_ix (pd_var 0) pd_int) (pd_str e_tuple))))) (pb_one (ps_retD (pd_list false (by rfl) M.n_list (pa_consD (pd_ix (pd_var 0) pd_int) pa_nilD)))) pb_nil)
  (pb_cons (ps_ifD (pt_eq B (pd_ix (pd_var 0) pd_int) (pd_str e_weigh)) (pb_one (ps_retD (pd_lc false B [("pair", 1)] (pi_seq (pd_ix (pd_var 0) pd_int)) (blkOk_by (N := N_law_parts) (sc := (defScope s_law_parts)) (by decide +kernel)) (by decide) (fun _ _ _ _ _ => (pg_set 1 B.nd)) (fun _ _ _ _ _ B1 => pts_nilD) (fun _ _ _ _ _ B1 => (pd_ix (pd_var 1) pd_int))))) pb_nil)
  (pb_cons (ps_ifD (pt_in B (pd_ix (pd_var 0) pd_int) (pd_tup (pa_consD (pd_str e_list) (pa_consD (pd_str e_keep) (pa_consD (pd_str e_map) pa_nilD))))) (pb_one (ps_retD (pd_lst false (pa_consD (pd_ix (pd_var 0) (pd_neg pd_int)) pa_nilD)))) pb_nil)
  (pb_cons (ps_ifD (pt_w (pw_orD (pt_eq B (pd_ix (pd_var 0) pd_int) (pd_str e_let)) (pw_or1D (pt_eq B (pd_ix (pd_var 0) pd_int) (pd_str e_grow))))) (pb_one (ps_retD (pd_lst false (pa_consD (pd_ix (pd_var 0) pd_int) (pa_consD (pd_ix (pd_var 0) pd_int) pa_nilD))))) pb_nil)
  (pb_one (ps_retD (pd_lst false pa_nilD)))))))
theorem ok_law_put (M : Fx P K mg T ad fd fI_Invalid) (ih : Ih P w K mg base ad fd CT T k) : FnG P w K mg base (k + 1) (ad .law_put) (fd .law_put) p_law_put (spG K CT T 3 (fnk (k + 1) .law_put)) := by
  exact (M.df .law_put).ok (N := N_law_put) (ps := p_law_put) sc_law_put (b := b_law_put (fnk k)) fun cdv A fr s H E W B =>
  (pb_cons (ps_ifD (pt_eq B (pd_var 1) pd_int) (pb_one (ps_retD (pd_var 2))) pb_nil)
  (pb_cons (ps_setD 1 B.nd (pd_sub (pd_var 1) pd_int))
  (pb_cons (ps_setD 3 B.nd (pd_call B (ih .law_parts) rfl (by rfl) ((M.df .law_parts).gl rfl) (M.df .law_parts).kp (bd_law_parts M) .nil (fun _ => rfl) (pa_consD (pd_var 0) pa_nilD) (len_cons len_nil) rfl))
  (pb_cons (ps_forD B (pi_range1D (by rfl) M.n_range (pd_len (by rfl) M.n_len (pa_consD (pd_var 3) pa_nilD))) (pg_set 4 B.nd) (pb_cons (ps_setD 5 B.nd (pd_call B (ih .law_count) rfl (by rfl) ((M.df .law_count).gl rfl) (M.df .law_count).kp (bd_law_count M) .nil (fun _ => rfl) (pa_consD (pd_ix (pd_var 3) (pd_var 4)) pa_nilD) (len_cons len_nil) rfl))
  (pb_cons (ps_ifD (pt_lt (pd_var 1) (pd_var 5)) (pb_cons (ps_setD 6 B.nd (pd_call B (ih .law_put) rfl (by rfl) ((M.df .law_put).gl rfl) (M.df .law_put).kp (bd_law_put M) .nil (fun _ => rfl) (pa_consD (pd_ix (pd_var 3) (pd_var 4)) (pa_consD (pd_var 1) (pa_consD (pd_var 2) pa_nilD))) (len_cons (len_cons (len_cons len_nil))) rfl))
  (pb_cons (ps_ifD (pt_w (pw_orD (pt_eq B (pd_ix (pd_var 0) pd_int) (pd_str e_pick)) (pw_or1D (pt_eq B (pd_ix (pd_var 0) pd_int) (pd_str e_tuple))))) (pb_one (ps_retD (pd_tup (pa_consD (pd_ix (pd_var 0) pd_int) (pa_consD (pd_add (pd_add (pd_cut false (pd_ix (pd_var 0) pd_int) po_noneD (po_someD (pd_var 4))) (pd_tup (pa_consD (pd_var 6) pa_nilD))) (pd_cut false (pd_ix (pd_var 0) pd_int) (po_someD (pd_add (pd_var 4) pd_int)) po_noneD)) pa_nilD))))) pb_nil)
  (pb_cons (ps_ifD (pt_eq B (pd_ix (pd_var 0) pd_int) (pd_str e_weigh)) (pb_one (ps_retD (pd_tup (pa_consD (pd_ix (pd_var 0) pd_int) (pa_consD (pd_add (pd_add (pd_cut false (pd_ix (pd_var 0) pd_int) po_noneD (po_someD (pd_var 4))) (pd_tup (pa_consD (pd_tup (pa_consD (pd_ix (pd_ix (pd_ix (pd_var 0) pd_int) (pd_var 4)) pd_int) (pa_consD (pd_var 6) pa_nilD))) pa_nilD))) (pd_cut false (pd_ix (pd_var 0) pd_int) (po_someD (pd_add (pd_var 4) pd_int)) po_noneD)) pa_nilD))))) pb_nil)
  (pb_cons (ps_ifD (pt_w (pw_orD (pt_eq B (pd_ix (pd_var 0) pd_int) (pd_str e_let)) (pw_or1D (pt_eq B (pd_ix (pd_var 0) pd_int) (pd_str e_grow))))) (pb_one (ps_retD (pd_add (pd_add (pd_cut false (pd_var 0) po_noneD (po_someD (pd_add pd_int (pd_var 4)))) (pd_tup (pa_consD (pd_var 6) pa_nilD))) (pd_cut false (pd_var 0) (po_someD (pd_add pd_int (pd_var 4))) po_noneD)))) pb_nil)
  (pb_one (ps_retD (pd_add (pd_cut false (pd_var 0) po_noneD (po_someD (pd_neg pd_int))) (pd_tup (pa_consD (pd_var 6) pa_nilD))))))))) pb_nil)
  (pb_one (ps_setD 1 B.nd (pd_sub (pd_var 1) (pd_var 5)))))))
  (pb_one (ps_retD (pd_var 2)))))))
theorem ok_law_inside_grow (M : Fx P K mg T ad fd fI_Invalid) (ih : Ih P w K mg base ad fd CT T k) : FnG P w K mg base (k + 1) (ad .law_inside_grow) (fd .law_inside_grow) p_law_inside_grow (spG K CT T 2 (fnk (k + 1) .law_inside_grow)) := by
  exact (M.df .law_inside_grow).ok (N := N_law_inside_grow) (ps := p_law_inside_grow) sc_law_inside_grow (b := b_law_inside_grow (fnk k)) fun cdv A fr s H E W B =>
  (pb_cons (ps_setD 2 B.nd (pd_call B (ih .law_parts) rfl (by rfl) ((M.df .law_parts).gl rfl) (M.df .law_parts).kp (bd_law_parts M) .nil (fun _ => rfl) (pa_consD (pd_var 0) pa_nilD) (len_cons len_nil) rfl))
  (pb_cons (ps_ifD (pt_eq B (pd_var 1) pd_int) (pb_one (ps_retD pd_bl)) pb_nil)
  (pb_cons (ps_setD 1 B.nd (pd_sub (pd_var 1) pd_int))
  (pb_cons (ps_forD B (pi_range1D (by rfl) M.n_range (pd_len (by rfl) M.n_len (pa_consD (pd_var 2) pa_nilD))) (pg_set 3 B.nd) (pb_cons (ps_setD 4 B.nd (pd_call B (ih .law_count) rfl (by rfl) ((M.df .law_count).gl rfl) (M.df .law_count).kp (bd_law_count M) .nil (fun _ => rfl) (pa_consD (pd_ix (pd_var 2) (pd_var 3)) pa_nilD) (len_cons len_nil) rfl))
  (pb_cons (ps_ifD (pt_lt (pd_var 1) (pd_var 4)) (pb_one (ps_retD (pd_or (pd_and (pd_eq B.hu (pd_ix (pd_var 0) pd_int) (pd_str e_grow)) (pd_one (pd_eq B.hu (pd_var 3) pd_int))) (pd_one (pd_call B (ih .law_inside_grow) rfl (by rfl) ((M.df .law_inside_grow).gl rfl) (M.df .law_inside_grow).kp (bd_law_inside_grow M) .nil (fun _ => rfl) (pa_consD (pd_ix (pd_var 2) (pd_var 3)) (pa_consD (pd_var 1) pa_nilD)) (len_cons (len_cons len_nil)) rfl))))) pb_nil)
  (pb_one (ps_setD 1 B.nd (pd_sub (pd_var 1) (pd_var 4)))))))
  (pb_one (ps_retD pd_bl))))))
theorem ok_c_law (M : Fx P K mg T ad fd fI_Invalid) (ih : Ih P w K mg base ad fd CT T k) : FnG P w K mg base (k + 1) (ad .c_law) (fd .c_law) p_c_law (spG K CT T 1 (fnk (k + 1) .c_law)) := by
  exact (M.df .c_law).ok (N := N_c_law) (ps := p_c_law) sc_c_law (b := b_c_law (fnk k)) fun cdv A fr s H E W B =>
  (pb_cons (ps_setD 1 B.nd (pd_call B (ih .law_stream) rfl (by rfl) ((M.df .law_stream).gl rfl) (M.df .law_stream).kp (bd_law_stream M) .nil (fun _ => rfl) (pa_consD (pd_var 0) pa_nilD) (len_cons len_nil) rfl))
  (pb_cons (ps_setD 2 B.nd (pd_call B (ih .law_term) rfl (by rfl) ((M.df .law_term).gl rfl) (M.df .law_term).kp (bd_law_term M) .nil (fun _ => rfl) (pa_consD (pd_var 1) (pa_consD (pd_add pd_int (pd_call B (ih .law_take) rfl (by rfl) ((M.df .law_take).gl rfl) (M.df .law_take).kp (bd_law_take M) .nil (fun _ => rfl) (pa_consD (pd_var 1) (pa_consD pd_int pa_nilD)) (len_cons (len_cons len_nil)) rfl)) (pa_consD (pd_lst false pa_nilD) (pa_consD pd_bl pa_nilD)))) (len_cons (len_cons (len_cons (len_cons len_nil)))) rfl))
  (pb_cons (ps_ifD (pt_w (pw_orD (pt_isNot (pd_call B (ih .c_is_term) rfl (by rfl) ((M.df .c_is_term).gl rfl) (M.df .c_is_term).kp (bd_c_is_term M) .nil (fun _ => rfl) (pa_consD (pd_var 2) pa_nilD) (len_cons len_nil) rfl) pd_bl) (pw_or1D (pt_ne B (pd_call B (ih .c_checked) rfl (by rfl) ((M.df .c_checked).gl rfl) (M.df .c_checked).kp (bd_c_checked M) .nil (fun _ => rfl) (pa_consD (pd_var 2) pa_nilD) (len_cons len_nil) rfl) (pd_var 2))))) (pb_one (ps_retD pd_bl)) pb_nil)
  (pb_cons (ps_setD 3 B.nd (pd_call0 B (ih .law_faults) rfl (by rfl) ((M.df .law_faults).gl rfl) (M.df .law_faults).kp (bd_law_faults M) .nil (fun _ => rfl) rfl))
  (pb_cons (ps_setD 4 B.nd (pd_ix (pd_var 3) (pd_call B (ih .law_take) rfl (by rfl) ((M.df .law_take).gl rfl) (M.df .law_take).kp (bd_law_take M) .nil (fun _ => rfl) (pa_consD (pd_var 1) (pa_consD (pd_len (by rfl) M.n_len (pa_consD (pd_var 3) pa_nilD)) pa_nilD)) (len_cons (len_cons len_nil)) rfl)))
  (pb_cons (ps_setD 5 B.nd (pd_call B (ih .law_take) rfl (by rfl) ((M.df .law_take).gl rfl) (M.df .law_take).kp (bd_law_take M) .nil (fun _ => rfl) (pa_consD (pd_var 1) (pa_consD (pd_call B (ih .law_count) rfl (by rfl) ((M.df .law_count).gl rfl) (M.df .law_count).kp (bd_law_count M) .nil (fun _ => rfl) (pa_consD (pd_var 2) pa_nilD) (len_cons len_nil) rfl) pa_nilD)) (len_cons (len_cons len_nil)) rfl))
  (pb_cons (ps_ifD (pt_w (pw_andD (pt_tru (pd_call B (ih .law_inside_grow) rfl (by rfl) ((M.df .law_inside_grow).gl rfl) (M.df .law_inside_grow).kp (bd_law_inside_grow M) .nil (fun _ => rfl) (pa_consD (pd_var 2) (pa_consD (pd_var 5) pa_nilD)) (len_cons (len_cons len_nil)) rfl)) (pw_and1D (pt_in B (pd_var 4) (pd_lst false (pa_consD (pd_tup (pa_consD (pd_str e_self) pa_nilD)) (pa_consD (pd_tup (pa_consD (pd_str e_grow) (pa_consD pd_int (pa_consD (pd_tup (pa_consD (pd_str e_self) pa_nilD)) (pa_consD (pd_tup (pa_consD (pd_str e_const) (pa_consD pd_int pa_nilD))) pa_nilD))))) pa_nilD))))))) (pb_one (ps_retD pd_bl)) pb_nil)
  (pb_cons (ps_setD 6 B.nd (pd_call B (ih .law_put) rfl (by rfl) ((M.df .law_put).gl rfl) (M.df .law_put).kp (bd_law_put M) .nil (fun _ => rfl) (pa_consD (pd_var 2) (pa_consD (pd_var 5) (pa_consD (pd_var 4) pa_nilD))) (len_cons (len_cons (len_cons len_nil))) rfl))
  (pb_cons (ps_setD 7 B.nd (pd_repr B (by rfl) M.n_repr (pa_consD (pd_var 6) pa_nilD)))
  (pb_cons (ps_ifD (pt_w (pw_orD (pt_isNot (pd_call B (ih .c_is_term) rfl (by rfl) ((M.df .c_is_term).gl rfl) (M.df .c_is_term).kp (bd_c_is_term M) .nil (fun _ => rfl) (pa_consD (pd_var 6) pa_nilD) (len_cons len_nil) rfl) pd_bl) (pw_or1D (pt_ne B (pd_repr B (by rfl) M.n_repr (pa_consD (pd_var 6) pa_nilD)) (pd_var 7))))) (pb_one (ps_retD pd_bl)) pb_nil)
  (pb_cons (ps_tryEq (u := (sExpr (eCall (fnk k .c_checked) [] (aCons (eVar 6) aNil)))) B rfl rfl 8 ⟨by rfl, by decide, .inl M.gx_Invalid⟩ M.xm_Invalid (mof_Invalid M.tf_Invalid) M.xf_Invalid M.x_Invalid.fld e_term (fun W pn xe Bt => (pb_one (ps_exprD (pd_call Bt (ih .c_checked) rfl (by rfl) ((M.df .c_checked).gl rfl) (M.df .c_checked).kp (bd_c_checked M) .nil (fun _ => rfl) (pa_consD (pd_var 6) pa_nilD) (len_cons len_nil) rfl)))))
  (pb_one (ps_retD pd_bl)))))))))))))
theorem ok_all (M : Fx P K mg T ad fd fI_Invalid) : ∀ k, Ih P w K mg base ad fd CT T k
  | 0, _ => ⟨fun vs H Q E h => by obtain ⟨w, s, ds, _, _, r, hl, _⟩ := h; exact r.length.trans hl, fun A fr s H ar us vs Q E _ _ _ _ h => by obtain ⟨w, s, ds, _, _, _, _, z⟩ := h; exact z.elim⟩
  | k + 1, .c_is_value => ok_c_is_value M (ok_all M k)
  | k + 1, .c_is_test => ok_c_is_test M (ok_all M k)
  | k + 1, .c_is_integer => ok_c_is_integer M (ok_all M k)
  | k + 1, .c_is_operation => ok_c_is_operation M (ok_all M k)
  | k + 1, .c_is_name => ok_c_is_name M (ok_all M k)
  | k + 1, .c_is_pair => ok_c_is_pair M (ok_all M k)
  | k + 1, .c_parts_of => ok_c_parts_of M (ok_all M k)
  | k + 1, .c_is_flat => ok_c_is_flat M (ok_all M k)
  | k + 1, .c_is_shaped => ok_c_is_shaped M (ok_all M k)
  | k + 1, .c_is_open_term => ok_c_is_open_term M (ok_all M k)
  | k + 1, .c_is_term => ok_c_is_term M (ok_all M k)
  | k + 1, .c_checked => ok_c_checked M (ok_all M k)
  | k + 1, .law_stream => ok_law_stream M (ok_all M k)
  | k + 1, .law_take => ok_law_take M (ok_all M k)
  | k + 1, .law_value => ok_law_value M (ok_all M k)
  | k + 1, .law_test => ok_law_test M (ok_all M k)
  | k + 1, .law_operation => ok_law_operation M (ok_all M k)
  | k + 1, .law_leaf => ok_law_leaf M (ok_all M k)
  | k + 1, .law_term => ok_law_term M (ok_all M k)
  | k + 1, .law_faults => ok_law_faults M (ok_all M k)
  | k + 1, .law_count => ok_law_count M (ok_all M k)
  | k + 1, .law_parts => ok_law_parts M (ok_all M k)
  | k + 1, .law_put => ok_law_put M (ok_all M k)
  | k + 1, .law_inside_grow => ok_law_inside_grow M (ok_all M k)
  | k + 1, .c_law => ok_c_law M (ok_all M k)
end
end Lk04
/-! The data layer: how its functions are reckoned (plain Lean, no program). -/
namespace Dl
open PySem

/-! ### one step each -/
section
variable {e : En} {s : Sto} {f g h : EV} {p q : TV} {u v : SV} {l : AV} {i j : Nat}
@[simp] theorem eVar_eq : eVar i e s = match e[i]? with
  | some (some d) => .ok d s
  | _ => .bad := id rfl
@[simp] theorem eC_eq {x : PyData} : eC x e s = .ok (.p x) s := id rfl
@[simp] theorem eOp_eq {o : D → D → Sto → R D} : eOp o f g e s = (f e s).bind fun x s => (g e s).bind fun y s => o x y s := id rfl
@[simp] theorem eChain_eq {o o' : D → D → Sto → R D} : eChain o o' f g h e s = (f e s).bind fun x s => (g e s).bind fun y s => (o x y s).bind fun z s => match z with
  | .p (.bool true) => (h e s).bind fun u s => o' y u s
  | .p (.bool false) => .ok (.p (.bool false)) s
  | _ => .bad := id rfl
@[simp] theorem tTru_eq : tTru f e s = (f e s).bind fun d s => match truB s d with
  | some b => .ok b s
  | none => .bad := id rfl
@[simp] theorem tAnd_eq : tAnd p q e s = (p e s).bind fun b s => if b then q e s else .ok false s := id rfl
@[simp] theorem tOr_eq : tOr p q e s = (p e s).bind fun b s => if b then .ok true s else q e s := id rfl
@[simp] theorem tNot_eq : tNot p e s = (p e s).bind fun b s => .ok (!b) s := id rfl
@[simp] theorem tB_eq : tB f e s = (f e s).bind fun d s => match d with
  | .p (.bool b) => .ok b s
  | _ => .bad := id rfl
@[simp] theorem tYes_eq : tYes e s = .ok true s := id rfl
@[simp] theorem eAnd_eq : eAnd f g e s = (f e s).bind fun x s => match truB s x with
  | some true => g e s
  | some false => .ok x s
  | none => .bad := id rfl
@[simp] theorem eOr_eq : eOr f g e s = (f e s).bind fun x s => match truB s x with
  | some true => .ok x s
  | some false => g e s
  | none => .bad := id rfl
@[simp] theorem eNot_eq : eNot f e s = (f e s).bind fun x s => match truB s x with
  | some b => .ok (.p (.bool !b)) s
  | none => .bad := id rfl
@[simp] theorem eIf_eq : eIf p f g e s = (p e s).bind fun b s => if b then f e s else g e s := id rfl
@[simp] theorem eNeg_eq : eNeg f e s = (f e s).bind fun x s => match x with
  | .p (.int i) => .ok (.p (.int (-i))) s
  | _ => .bad := id rfl
@[simp] theorem aNil_eq : aNil e s = .ok [] s := id rfl
@[simp] theorem aCons_eq : aCons f l e s = (f e s).bind fun x s => (l e s).bind fun r s => .ok (x :: r) s := id rfl
@[simp] theorem eTup_eq : eTup l e s = (l e s).bind fun ds s => if ds.length ≤ sizeLine then .ok (mkT ds) s else .bad := id rfl
@[simp] theorem eLst_eq {b : Bool} : eLst b l e s = (l e s).bind fun ds s => if ds.length ≤ sizeLine then newL b ds s else .bad := id rfl
@[simp] theorem oNone_eq : oNone e s = .ok none s := id rfl
@[simp] theorem oSome_eq : oSome f e s = (f e s).bind fun d s => match d with
  | .p (.int i) => .ok (some i) s
  | _ => .bad := id rfl
@[simp] theorem eCut_eq {b : Bool} {lo hi : OV} : eCut b f lo hi e s = (f e s).bind fun x s => (lo e s).bind fun l s => (hi e s).bind fun u s => hCut b x l u s := id rfl
@[simp] theorem eCall_eq {c : List D → Sto → R D} {dd : List D} : eCall c dd l e s = (l e s).bind fun ds s => c (ds ++ dd) s := id rfl
@[simp] theorem eBlt_eq {c : List D → Sto → R D} : eBlt c l e s = (l e s).bind fun ds s => c ds s := id rfl
@[simp] theorem eIsi_eq {t : String} : eIsi t f e s = (f e s).bind fun d s => match kindD s d with
  | some k => .ok (.p (.bool (isTy t k))) s
  | none => .bad := id rfl
@[simp] theorem eMeL_eq {c : D → List D → Sto → R D} : eMeL c f l e s = (f e s).bind fun x s => match asL s x with
  | some _ => (l e s).bind fun xs s => c x xs s
  | none => .bad := id rfl
@[simp] theorem sNil_eq : sNil e s = .nx e s := id rfl
@[simp] theorem sSeq_eq : sSeq u v e s = (u e s).seq v := id rfl
@[simp] theorem sPass_eq : sPass e s = .nx e s := id rfl
@[simp] theorem sBreak_eq : sBreak e s = .bk e s := id rfl
@[simp] theorem sCont_eq : sCont e s = .ct e s := id rfl
@[simp] theorem sExpr_eq : sExpr f e s = (f e s).toS e fun _ s => .nx e s := id rfl
@[simp] theorem sRet_eq : sRet f e s = (f e s).toS e fun d s => .rt d s := id rfl
@[simp] theorem sRetN_eq : sRetN e s = .rt (.p .none) s := id rfl
@[simp] theorem sSet_eq : sSet i f e s = (f e s).toS e fun d s => .nx (e.set i (some d)) s := id rfl
@[simp] theorem sIf_eq : sIf p u v e s = (p e s).toS e fun b s => if b then u e s else v e s := id rfl
@[simp] theorem gSet_eq {d : D} : gSet i d e s = .ok (e.set i (some d)) s := id rfl
@[simp] theorem gsNil_eq : gsNil [] e s = .ok e s := id rfl
@[simp] theorem gsCons_eq {k : GV} {k' : GsV} {d : D} {r : List D} : gsCons k k' (d :: r) e s = (k d e s).bind fun e s => k' r e s := id rfl
@[simp] theorem noX_ok {α : Type} {a : α} : (R.ok a s).noX = .ok a s := id rfl
@[simp] theorem gTup_eq {n : Nat} {k : GsV} {d : D} : gTup n k d e s = match seqOf s d with
  | some ds => if ds.length = n then (k ds e s).noX else .bad
  | none => .bad := id rfl
@[simp] theorem gIx_eq {d : D} : gIx f g d e s = (f e s).bind fun o s => (g e s).bind fun i s => (setIx o i d s).bind fun _ s => .ok e s := id rfl
@[simp] theorem sAsg_eq {k : GV} : sAsg f k e s = (f e s).toS e fun d s => (k d e s).toS e fun e' s => .nx e' s := id rfl
@[simp] theorem sAug_eq {o : D → D → Sto → R D} : sAug i o f e s = match e[i]? with
  | some (some x) => (f e s).toS e fun y s => (o x y s).toS e fun z s => .nx (e.set i (some z)) s
  | _ => .bad := id rfl
@[simp] theorem sAugIx_eq {o : D → D → Sto → R D} : sAugIx f g o h e s = (f e s).toS e fun x s => (g e s).toS e fun i s => (hIxL x i s).toS e fun d s => (h e s).toS e fun y s => (o d y s).toS e fun z s => (setIx x i z s).toS e fun _ s => .nx e s := id rfl
@[simp] theorem sPar_eq : sPar i j l e s = (l e s).toS e fun ds s => match ds with
  | [x, y] => .nx ((e.set i (some x)).set j (some y)) s
  | _ => .bad := id rfl
@[simp] theorem iRange1_eq : iRange1 f e s = (f e s).bind fun d s => match d with
  | .p (.int j) => if -(2 ^ 62) ≤ j ∧ j < 2 ^ 62 then .ok (itS (rngD 0 j.toNat)) s else .bad
  | _ => .bad := id rfl
@[simp] theorem iRange2_eq : iRange2 f g e s = (f e s).bind fun a s => (g e s).bind fun b s => match a, b with
  | .p (.int i), .p (.int j) => if -(2 ^ 62) ≤ i ∧ i < 2 ^ 62 ∧ -(2 ^ 62) ≤ j ∧ j < 2 ^ 62 then .ok (itS (rngD i (j - i).toNat)) s else .bad
  | _, _ => .bad := id rfl
end

/-! ### operators at ints, texts, tuples -/
section
variable {s : Sto} {a b : Int} {x y : Str} {xs ys : List PyData}
@[simp] theorem hAdd_int : hAdd (.p (.int a)) (.p (.int b)) s = .ok (.p (.int (a + b))) s := id rfl
@[simp] theorem hAdd_str : hAdd (.p (.str x)) (.p (.str y)) s = if x.length + y.length ≤ sizeLine then .ok (.p (.str (x ++ y))) s else .bad := id rfl
theorem mkT_map (xs : List PyData) : mkT (xs.map D.p) = .p (.tuple xs) := by
  unfold mkT
  rw [allP_map]
@[simp] theorem mkT_nil : mkT [] = .p (.tuple []) := id rfl
@[simp] theorem mkT_1 {a : PyData} : mkT [.p a] = .p (.tuple [a]) := id rfl
@[simp] theorem mkT_2 {a b : PyData} : mkT [.p a, .p b] = .p (.tuple [a, b]) := id rfl
@[simp] theorem mkT_3 {a b c : PyData} : mkT [.p a, .p b, .p c] = .p (.tuple [a, b, c]) := id rfl
@[simp] theorem mkT_4 {a b c d : PyData} : mkT [.p a, .p b, .p c, .p d] = .p (.tuple [a, b, c, d]) := id rfl
theorem hAdd_tup (h : xs.length + ys.length ≤ sizeLine) : hAdd (.p (.tuple xs)) (.p (.tuple ys)) s = .ok (.p (.tuple (xs ++ ys))) s := by
  show (if _ then _ else _) = _
  rw [if_pos (by simpa using h), ← List.map_append, mkT_map]
@[simp] theorem hInt2_int {k : Int → Int → Option PyData} : hInt2 k (.p (.int a)) (.p (.int b)) s = match k a b with
  | some x => .ok (.p x) s
  | none => .bad := id rfl
@[simp] theorem hMul_int : hMul (.p (.int a)) (.p (.int b)) s = if mulOk a b then .ok (.p (.int (a * b))) s else .bad := id rfl
theorem mulOk_of {m n : Nat} (ha : a.natAbs < 2 ^ m) (hb : b.natAbs < 2 ^ n) (h : m + n ≤ 1000000 := by decide) : mulOk a b = true := by
  unfold mulOk
  rw [decide_eq_true_eq]
  have l : ∀ (c k : Nat), c < 2 ^ k → c.log2 ≤ k - 1 ∧ (k = 0 → c = 0) := fun c k hk => by
    refine ⟨?_, fun e => by subst e; simpa using hk⟩
    by_cases hc : c = 0
    · subst hc
      simp
    · have := (Nat.log2_lt hc).mpr hk
      omega
  have h1 := l _ _ ha
  have h2 := l _ _ hb
  have z : ∀ c : Nat, c = 0 → c.log2 = 0 := fun c e => by subst e; rfl
  by_cases hm : m = 0
  · have := z _ (h1.2 hm)
    by_cases hn : n = 0
    · have := z _ (h2.2 hn)
      omega
    · omega
  · by_cases hn : n = 0
    · have := z _ (h2.2 hn)
      omega
    · omega
theorem divOk_of {n : Nat} (h0 : 0 < b) (hb : b.natAbs < 2 ^ n) (h : n ≤ 9000 := by decide) : divOk a b = true := by
  unfold divOk
  rw [Bool.and_eq_true, decide_eq_true_eq, Bool.or_eq_true, decide_eq_true_eq]
  refine ⟨h0, .inl ?_⟩
  have hc : b.natAbs ≠ 0 := by omega
  have := (Nat.log2_lt hc).mpr hb
  omega
@[simp] theorem hEq_int : hEq (.p (.int a)) (.p (.int b)) s = .ok (.p (.bool (decide (a = b)))) s := id rfl
@[simp] theorem hNe_int : hNe (.p (.int a)) (.p (.int b)) s = .ok (.p (.bool (!decide (a = b)))) s := id rfl
@[simp] theorem hEq_str : hEq (.p (.str x)) (.p (.str y)) s = .ok (.p (.bool (decide (x = y)))) s := id rfl
@[simp] theorem hNe_str : hNe (.p (.str x)) (.p (.str y)) s = .ok (.p (.bool (!decide (x = y)))) s := id rfl
@[simp] theorem hEq_bool {a b : Bool} : hEq (.p (.bool a)) (.p (.bool b)) s = .ok (.p (.bool (decide (a = b)))) s := id rfl
@[simp] theorem hNe_bool {a b : Bool} : hNe (.p (.bool a)) (.p (.bool b)) s = .ok (.p (.bool (!decide (a = b)))) s := id rfl
theorem hEq_shaped {x y : D} {p q : PyData} (hx : toP s x = some p) (hy : toP s y = some q) (h1 : PySem.SeqAt.shaped p = true) (h2 : PySem.SeqAt.shaped q = true) (n1 : ∀ i j, ¬ (x = .p (.int i) ∧ y = .p (.int j))) (n2 : ∀ i j, ¬ (x = .p (.str i) ∧ y = .p (.str j))) (n3 : ∀ i j, ¬ (x = .p (.bool i) ∧ y = .p (.bool j))) :
    hEq x y s = .ok (.p (.bool (PyData.eqv p q))) s := by
  have e : hEqB s x y = some (PyData.eqv p q) := by
    unfold hEqB
    split
    · exact (n1 _ _ ⟨rfl, rfl⟩).elim
    · exact (n2 _ _ ⟨rfl, rfl⟩).elim
    · exact (n3 _ _ ⟨rfl, rfl⟩).elim
    · rw [hx, hy]
      simp [h1, h2]
  unfold hEq
  rw [e]
@[simp] theorem hIs_none : hIs (.p .none) (.p .none) s = .ok (.p (.bool true)) s := id rfl
@[simp] theorem hIs_bool {a b : Bool} : hIs (.p (.bool a)) (.p (.bool b)) s = .ok (.p (.bool (decide (a = b)))) s := id rfl
@[simp] theorem hIsNot_bool {a b : Bool} : hIsNot (.p (.bool a)) (.p (.bool b)) s = .ok (.p (.bool (!decide (a = b)))) s := id rfl
@[simp] theorem truB_none : truB s (.p .none) = some false := id rfl
@[simp] theorem truB_bool {b : Bool} : truB s (.p (.bool b)) = some b := id rfl
@[simp] theorem truB_int : truB s (.p (.int a)) = some (a != 0) := id rfl
@[simp] theorem truB_list : truB s (.p (.list xs)) = some !xs.isEmpty := by
  show some (!(xs.map D.p).isEmpty) = _
  cases xs <;> rfl
@[simp] theorem truB_tuple : truB s (.p (.tuple xs)) = some !xs.isEmpty := by
  show some (!(xs.map D.p).isEmpty) = _
  cases xs <;> rfl
@[simp] theorem seqOf_tuple : seqOf s (.p (.tuple xs)) = some (xs.map D.p) := id rfl
@[simp] theorem seqOf_list : seqOf s (.p (.list xs)) = some (xs.map D.p) := id rfl
@[simp] theorem asL_list : asL s (.p (.list xs)) = some (xs.map D.p) := id rfl
@[simp] theorem asL_ro : asL s (.ro xs) = some (xs.map D.p) := id rfl
@[simp] theorem asM_list : asM s (.p (.list xs)) = some (xs.map D.p) := id rfl
@[simp] theorem asT_tuple : asT (.p (.tuple xs)) = some (xs.map D.p) := id rfl
theorem asL_ref {k : Nat} : asL s (.ref k) = lstAt s k := rfl
@[simp] theorem asT_ref {k : Nat} : asT (.ref k) = none := id rfl
@[simp] theorem asT_ro : asT (.ro xs) = none := id rfl
@[simp] theorem asT_list : asT (.p (.list xs)) = none := id rfl
@[simp] theorem asT_int : asT (.p (.int a)) = none := id rfl
@[simp] theorem lstAt_zero {ds : List D} {r : Sto} : lstAt (.lst ds :: r) 0 = some ds := id rfl
@[simp] theorem lstAt_succ {o : O} {k : Nat} {r : Sto} : lstAt (o :: r) (k + 1) = lstAt r k := id rfl
theorem hLen_seq {d : D} {ds : List D} (h : seqOf s d = some ds) (n : ∀ z, d ≠ .p (.str z)) : hLen [d] s = .ok (.p (.int ds.length)) s := by
  unfold hLen
  split
  · rename_i e
    cases e
    exact (n _ rfl).elim
  · rename_i e
    cases e
    rw [h]
  · rename_i n1 n2
    exact (n2 d rfl).elim
@[simp] theorem hLen_tuple : hLen [.p (.tuple xs)] s = .ok (.p (.int xs.length)) s := by
  rw [hLen_seq seqOf_tuple (fun _ h => by cases h), List.length_map]
@[simp] theorem hLen_list : hLen [.p (.list xs)] s = .ok (.p (.int xs.length)) s := by
  rw [hLen_seq seqOf_list (fun _ h => by cases h), List.length_map]
@[simp] theorem hLen_ro : hLen [.ro xs] s = .ok (.p (.int xs.length)) s := by
  rw [hLen_seq (ds := xs.map D.p) rfl (fun _ h => by cases h), List.length_map]
theorem hLen_ref {k : Nat} {ds : List D} (h : lstAt s k = some ds) : hLen [.ref k] s = .ok (.p (.int ds.length)) s := hLen_seq (by show asL s (.ref k) = _; rw [asL_ref]; exact h) (fun _ h => by cases h)
@[simp] theorem hAbs_int : hAbs [.p (.int a)] s = .ok (.p (.int (if a < 0 then -a else a))) s := id rfl
@[simp] theorem hInt_int : hInt [.p (.int a)] s = .ok (.p (.int a)) s := id rfl
@[simp] theorem hInt_bool {b : Bool} : hInt [.p (.bool b)] s = .ok (.p (.int (if b then 1 else 0))) s := id rfl
@[simp] theorem hGcd_int : hGcd [.p (.int a), .p (.int b)] s = .ok (.p (.int ((Nat.gcd a.natAbs b.natAbs : Nat) : Int))) s := id rfl
@[simp] theorem hTuple_list : hTuple [.p (.list xs)] s = .ok (.p (.tuple xs)) s := by
  show R.ok (mkT (xs.map D.p)) s = _
  rw [mkT_map]
@[simp] theorem hTuple_tuple : hTuple [.p (.tuple xs)] s = .ok (.p (.tuple xs)) s := by
  show R.ok (mkT (xs.map D.p)) s = _
  rw [mkT_map]
theorem newL_false (xs : List PyData) : newL false (xs.map D.p) s = .ok (.p (.list xs)) s := by
  unfold newL
  rw [allP_map]
  rfl
@[simp] theorem newL_true (ds : List D) : newL true ds s = .ok (.ref s.length) (s ++ [.lst ds]) := id rfl
@[simp] theorem newL_nil : newL false [] s = .ok (.p (.list [])) s := id rfl
@[simp] theorem newL_1 {a : PyData} : newL false [.p a] s = .ok (.p (.list [a])) s := id rfl
@[simp] theorem newL_2 {a b : PyData} : newL false [.p a, .p b] s = .ok (.p (.list [a, b])) s := id rfl
@[simp] theorem hList_list : hList false [.p (.list xs)] s = .ok (.p (.list xs)) s := newL_false xs
@[simp] theorem hList_tuple : hList false [.p (.tuple xs)] s = .ok (.p (.list xs)) s := newL_false xs
theorem asL_ints (ns : List Int) : (hL1 s [.p (.list (ns.map PyData.int))]).bind intsOf = some ns := by
  show intsOf ((ns.map PyData.int).map D.p) = _
  rw [List.map_map]
  exact intsOf_map ns
@[simp] theorem hSum_ints (ns : List Int) : hSum [.p (.list (ns.map PyData.int))] s = .ok (.p (.int ns.sum)) s := by
  unfold hSum
  rw [asL_ints]
theorem asL_bools (ns : List Bool) : (hL1 s [.p (.list (ns.map PyData.bool))]).bind boolsOf = some ns := by
  show boolsOf ((ns.map PyData.bool).map D.p) = _
  rw [List.map_map]
  exact boolsOf_map ns
@[simp] theorem hAll_bools (ns : List Bool) : hAll [.p (.list (ns.map PyData.bool))] s = .ok (.p (.bool (ns.all _root_.id))) s := by
  unfold hAll
  rw [asL_bools]
@[simp] theorem hAny_bools (ns : List Bool) : hAny [.p (.list (ns.map PyData.bool))] s = .ok (.p (.bool (ns.any _root_.id))) s := by
  unfold hAny
  rw [asL_bools]
end

/-! ### items -/
theorem atI_nat {α : Type} (xs : List α) (i : Nat) : L2.atI xs (i : Int) = xs[i]? := by
  unfold L2.atI L2.ixN
  rw [if_pos (by omega)]
  by_cases h : i < xs.length
  · rw [if_pos (by omega)]
    rfl
  · rw [if_neg (by omega), List.getElem?_eq_none (by omega)]
    rfl
theorem ixN_nat {n i : Nat} (h : i < n) : L2.ixN n (i : Int) = some i := by
  unfold L2.ixN
  rw [if_pos (by omega), if_pos (by omega)]
  rfl
section
variable {s : Sto} {xs : List PyData} {d : D} {x : PyData} {i : Nat}
theorem hIx_tuple {a : Int} (h : L2.atI xs a = some x) : hIx (.p (.tuple xs)) (.p (.int a)) s = .ok (.p x) s := by
  have : L2.atI (xs.map D.p) a = some (.p x) := by
    unfold L2.atI at h ⊢
    rw [List.length_map]
    cases q : L2.ixN xs.length a with
    | none => rw [q] at h; cases h
    | some j =>
      rw [q] at h
      have h : xs[j]? = some x := h
      show (xs.map D.p)[j]? = _
      rw [List.getElem?_map, h]
      rfl
  show (match L2.atI (xs.map D.p) a with | some d => R.ok d s | none => R.bad) = _
  rw [this]
theorem hIx_list {a : Int} (h : L2.atI xs a = some x) : hIx (.p (.list xs)) (.p (.int a)) s = .ok (.p x) s := hIx_tuple (s := s) h
@[simp] theorem hIx_t0 {a : PyData} {r : List PyData} : hIx (.p (.tuple (a :: r))) (.p (.int 0)) s = .ok (.p a) s := hIx_tuple (by rw [show (0 : Int) = ((0 : Nat) : Int) from rfl, atI_nat]; rfl)
@[simp] theorem hIx_t1 {a b : PyData} {r : List PyData} : hIx (.p (.tuple (a :: b :: r))) (.p (.int 1)) s = .ok (.p b) s := hIx_tuple (by rw [show (1 : Int) = ((1 : Nat) : Int) from rfl, atI_nat]; rfl)
@[simp] theorem hIx_t2 {a b c : PyData} {r : List PyData} : hIx (.p (.tuple (a :: b :: c :: r))) (.p (.int 2)) s = .ok (.p c) s := hIx_tuple (by rw [show (2 : Int) = ((2 : Nat) : Int) from rfl, atI_nat]; rfl)
@[simp] theorem hIx_t3 {a b c d : PyData} {r : List PyData} : hIx (.p (.tuple (a :: b :: c :: d :: r))) (.p (.int 3)) s = .ok (.p d) s := hIx_tuple (by rw [show (3 : Int) = ((3 : Nat) : Int) from rfl, atI_nat]; rfl)
theorem hIx_ref {k : Nat} {ds : List D} {a : Int} (h : lstAt s k = some ds) (h2 : L2.atI ds a = some d) : hIx (.ref k) (.p (.int a)) s = .ok d s := by
  show (match asL s (.ref k) with | some xs => (match L2.atI xs a with | some d => R.ok d s | none => R.bad) | none => R.bad) = _
  rw [asL_ref, h]
  show (match L2.atI ds a with | some d => R.ok d s | none => R.bad) = _
  rw [h2]
theorem setIx_ref {k j : Nat} {ds : List D} {a : Int} (h : lstAt s k = some ds) (h2 : L2.ixN ds.length a = some j) : setIx (.ref k) (.p (.int a)) d s = .ok () (s.set k (.lst (ds.set j d))) := by
  unfold setIx
  simp only [h, h2]
theorem hAppend_ref {k : Nat} {ds : List D} (h : lstAt s k = some ds) (hz : ds.length < sizeLine) : hAppend (.ref k) [d] s = .ok (.p .none) (s.set k (.lst (ds ++ [d]))) := by
  unfold hAppend
  simp only [h, if_pos hz]
end
theorem lstAt_set {s : Sto} {k : Nat} {o : O} (h : k < s.length) : (s.set k o)[k]? = some o := by rw [List.getElem?_set_self h]
theorem lstAt_lt {s : Sto} {k : Nat} {ds : List D} (h : lstAt s k = some ds) : k < s.length := by
  unfold lstAt at h
  cases q : s[k]? with
  | none => rw [q] at h; cases h
  | some o => exact (List.getElem?_eq_some_iff.mp q).1
theorem lstAt_set_self {s : Sto} {k : Nat} {ds es : List D} (h : lstAt s k = some ds) : lstAt (s.set k (.lst es)) k = some es := by
  unfold lstAt
  rw [lstAt_set (lstAt_lt h)]
theorem lstAt_set_ne {s : Sto} {k j : Nat} {o : O} (h : k ≠ j) : lstAt (s.set k o) j = lstAt s j := by
  unfold lstAt
  rw [List.getElem?_set_ne h]

/-! ### loops -/
def forL (g : GV) (b : SV) : List D → En → Sto → RS
  | [], e, s => .nx e s
  | d :: r, e, s => (g d e s).toS e fun e' s => (b e' s).loop (forL g b r)
theorem foGo_eq (g : GV) (b : SV) (xs : List D) : ∀ (m i : Nat) (e : En) (s : Sto), xs.length - i ≤ m → foGo g b (itS xs) m i e s = forL g b (xs.drop i) e s
  | 0, i, e, s, h => by
    have hd : xs.drop i = [] := List.drop_eq_nil_of_le (by omega)
    have hn : xs[i]? = none := List.getElem?_eq_none (by omega)
    rw [hd]
    unfold foGo
    show (match (some xs[i]? : Option (Option D)) with | some none => RS.nx e s | _ => RS.bad) = _
    rw [hn]
    rfl
  | m + 1, i, e, s, h => by
    unfold foGo
    show (match (some xs[i]? : Option (Option D)) with | some none => RS.nx e s | some (some d) => _ | none => RS.bad) = _
    by_cases hi : i < xs.length
    · rw [List.getElem?_eq_getElem hi, List.drop_eq_getElem_cons hi]
      show (g xs[i] e s).toS e _ = (g xs[i] e s).toS e _
      congr 1
      funext e' s'
      congr 1
      funext e2 s2
      exact foGo_eq g b xs m (i + 1) e2 s2 (by omega)
    · rw [List.getElem?_eq_none (by omega), List.drop_eq_nil_of_le (by omega)]
      rfl
theorem foGo_S (g : GV) (b : SV) (xs : List D) (e : En) (s : Sto) : foGo g b (itS xs) (itS xs).n 0 e s = forL g b xs e s := by
  rw [foGo_eq g b xs _ 0 e s (by show xs.length - 0 ≤ xs.length; omega), List.drop_zero]
@[simp] theorem sFor_eq {fi : IV} {g : GV} {b : SV} {e : En} {s : Sto} : sFor fi g b e s = (fi e s).toS e fun it s => foGo g b it it.n 0 e s := id rfl
theorem itL_p (xs : List PyData) : itL (.p (.list xs)) xs.length = itS (xs.map D.p) := by
  unfold itL itS
  simp
theorem itL_ro (xs : List PyData) : itL (.ro xs) xs.length = itS (xs.map D.p) := by
  unfold itL itS
  simp
def iSeqD (d : D) (s' : Sto) : R IT := match d with
  | .p (.str z) => .ok (itS (z.cps.toList.map fun c => D.p (.str ⟨#[c]⟩))) s'
  | d => match asT d with
    | some xs => .ok (itS xs) s'
    | none => match asL s' d with
      | some xs => .ok (itL d xs.length) s'
      | none => .bad
@[simp] theorem iSeq_eq {f : EV} {e : En} {s : Sto} : iSeq f e s = (f e s).bind fun d s => iSeqD d s := id rfl
@[simp] theorem iSeqD_list {s : Sto} {xs : List PyData} : iSeqD (.p (.list xs)) s = .ok (itS (xs.map D.p)) s := by
  show R.ok (itL (.p (.list xs)) (xs.map D.p).length) s = _
  rw [List.length_map, itL_p]
@[simp] theorem iSeqD_ro {s : Sto} {xs : List PyData} : iSeqD (.ro xs) s = .ok (itS (xs.map D.p)) s := by
  show R.ok (itL (.ro xs) (xs.map D.p).length) s = _
  rw [List.length_map, itL_ro]
@[simp] theorem iSeqD_tuple {s : Sto} {xs : List PyData} : iSeqD (.p (.tuple xs)) s = .ok (itS (xs.map D.p)) s := id rfl
@[simp] theorem iSeqD_str {s : Sto} {z : Str} : iSeqD (.p (.str z)) s = .ok (itS (z.cps.toList.map fun c => D.p (.str ⟨#[c]⟩))) s := id rfl

/-- what is wanted behind a loop's body: I of the next turn; Q of the loop's own end -/
def RS.wp (r : RS) (I : En → Sto → Prop) (Q : RS → Prop) : Prop := match r with
  | .nx e s => I e s
  | .ct e s => I e s
  | .bk e s => Q (.nx e s)
  | r => Q r
@[simp] theorem wp_nx {e : En} {s : Sto} {I : En → Sto → Prop} {Q : RS → Prop} : (RS.nx e s).wp I Q = I e s := id rfl
@[simp] theorem wp_ct {e : En} {s : Sto} {I : En → Sto → Prop} {Q : RS → Prop} : (RS.ct e s).wp I Q = I e s := id rfl
@[simp] theorem wp_bk {e : En} {s : Sto} {I : En → Sto → Prop} {Q : RS → Prop} : (RS.bk e s).wp I Q = Q (.nx e s) := id rfl
@[simp] theorem wp_rt {d : D} {s : Sto} {I : En → Sto → Prop} {Q : RS → Prop} : (RS.rt d s).wp I Q = Q (.rt d s) := id rfl
@[simp] theorem wp_ex {c : Nat} {x : PyData} {e : En} {s : Sto} {I : En → Sto → Prop} {Q : RS → Prop} : (RS.ex c x e s).wp I Q = Q (.ex c x e s) := id rfl
@[simp] theorem wp_bad {I : En → Sto → Prop} {Q : RS → Prop} : RS.bad.wp I Q = Q .bad := id rfl
theorem loop_wp {r : RS} {k : En → Sto → RS} {I : En → Sto → Prop} {Q : RS → Prop} (h : r.wp I Q) (hk : ∀ e s, I e s → Q (k e s)) : Q (r.loop k) := by
  cases r with
  | nx e s => exact hk e s h
  | ct e s => exact hk e s h
  | bk e s => exact h
  | rt d s => exact h
  | ex c x e s => exact h
  | bad => exact h
theorem forL_run {g : GV} {b : SV} {Q : RS → Prop} (I : List D → En → Sto → Prop) (hn : ∀ e s, I [] e s → Q (.nx e s)) (hs : ∀ d r e s, I (d :: r) e s → ((g d e s).toS e b).wp (I r) Q) : ∀ (xs : List D) (e : En) (s : Sto), I xs e s → Q (forL g b xs e s)
  | [], e, s, h => hn e s h
  | d :: r, e, s, h => by
    have q := hs d r e s h
    unfold forL
    cases hg : g d e s with
    | ok e' s' =>
      rw [hg] at q
      exact loop_wp q fun e2 s2 i2 => forL_run I hn hs r e2 s2 i2
    | ex c x s' => rw [hg] at q; exact q
    | bad => rw [hg] at q; exact q
/-- .. over a row whose items are known by their place -/
theorem while_run {c : TV} {b : SV} {Q : RS → Prop} (I : Nat → En → Sto → Prop) (hs : ∀ m e s, I m e s → ((c e s).toS e fun t s => if t then b e s else .bk e s).wp (fun e' s' => ∃ m', m' < m ∧ I m' e' s') Q) : ∀ (n m : Nat) (e : En) (s : Sto), m < n → I m e s → Q (whGo c b n e s)
  | 0, m, e, s, h, _ => absurd h (Nat.not_lt_zero m)
  | n + 1, m, e, s, h, i => by
    have q := hs m e s i
    unfold whGo
    cases hc : c e s with
    | bad => rw [hc] at q; exact q
    | ex k x s' => rw [hc] at q; exact q
    | ok t s' =>
      rw [hc] at q
      cases t with
      | false => exact q
      | true => exact loop_wp q fun e2 s2 ⟨m', hm, i2⟩ => while_run I hs n m' e2 s2 (by omega) i2
@[simp] theorem sWhile_eq {n : Nat} {c : TV} {b : SV} {e : En} {s : Sto} : sWhile n c b e s = whGo c b n e s := id rfl

/-! ### comprehensions -/
def lcL (g : GV) (p : TV) (f : EV) (e0 : En) : List D → List D → Sto → R (List D)
  | [], acc, s => .ok acc s
  | d :: r, acc, s => (g d e0 s).bind fun e1 s => (p e1 s).bind fun b s => if b then (f e1 s).bind fun y s => if acc.length < sizeLine then lcL g p f e0 r (acc ++ [y]) s else .bad
      else lcL g p f e0 r acc s
theorem lcGo_eq (g : GV) (p : TV) (f : EV) (e0 : En) (xs : List D) : ∀ (m i : Nat) (acc : List D) (s : Sto), xs.length - i ≤ m → lcGo g p f e0 (itS xs) m i acc s = lcL g p f e0 (xs.drop i) acc s
  | 0, i, acc, s, h => by
    have hd : xs.drop i = [] := List.drop_eq_nil_of_le (by omega)
    have hn : xs[i]? = none := List.getElem?_eq_none (by omega)
    rw [hd]
    unfold lcGo
    show (match (some xs[i]? : Option (Option D)) with | some none => R.ok acc s | _ => R.bad) = _
    rw [hn]
    rfl
  | m + 1, i, acc, s, h => by
    unfold lcGo
    show (match (some xs[i]? : Option (Option D)) with | some none => R.ok acc s | some (some d) => _ | none => R.bad) = _
    by_cases hi : i < xs.length
    · rw [List.getElem?_eq_getElem hi, List.drop_eq_getElem_cons hi]
      show R.bind (g xs[i] e0 s) _ = R.bind (g xs[i] e0 s) _
      have ih := fun acc s => lcGo_eq g p f e0 xs m (i + 1) acc s (by omega)
      congr 1
      funext e1 s1
      congr 1
      funext b s2
      simp only [ih]
    · rw [List.getElem?_eq_none (by omega), List.drop_eq_nil_of_le (by omega)]
      rfl
theorem lcGo_S (g : GV) (p : TV) (f : EV) (e0 : En) (xs : List D) (s : Sto) : lcGo g p f e0 (itS xs) (itS xs).n 0 [] s = lcL g p f e0 xs [] s := by
  rw [lcGo_eq g p f e0 xs _ 0 [] s (by show xs.length - 0 ≤ xs.length; omega), List.drop_zero]
theorem eLc_of {h : Bool} {vs : List Nat} {fi : IV} {g : GV} {p : TV} {f : EV} {e : En} {s s' : Sto} {xs : List D} (hi : fi e s = .ok (itS xs) s') : eLc h vs fi g p f e s = (lcL g p f (wipeE e vs) xs [] s').noX.bind fun ds s => newL h ds s := by
  unfold eLc
  rw [hi]
  show ((lcGo g p f (wipeE e vs) (itS xs) (itS xs).n 0 [] s').noX).bind _ = _
  rw [lcGo_S]
/-- every item made by h -/
theorem lcL_map {g : GV} {f : EV} {e0 : En} {s : Sto} (h : D → D) : ∀ (xs acc : List D), (∀ d ∈ xs, ((g d e0 s).bind fun e1 s => f e1 s) = .ok (h d) s) → acc.length + xs.length ≤ sizeLine → lcL g tYes f e0 xs acc s = .ok (acc ++ xs.map h) s
  | [], acc, _, _ => by simp [lcL]
  | d :: r, acc, hd, hz => by
    have q := hd d List.mem_cons_self
    rw [List.length_cons] at hz
    unfold lcL
    cases hg : g d e0 s with
    | bad => rw [hg] at q; cases q
    | ex c x s' => rw [hg] at q; cases q
    | ok e1 s1 =>
      rw [hg] at q
      have q : f e1 s1 = .ok (h d) s := q
      simp only [R.bind_ok, tYes_eq, if_true, q]
      rw [if_pos (by omega), lcL_map h r (acc ++ [h d]) (fun x hx => hd x (List.mem_cons_of_mem _ hx)) (by rw [List.length_append, List.length_singleton]; omega)]
      simp
/-- .. where the store changes on the way: I of the items left, those made, the store -/
theorem lcL_run {g : GV} {p : TV} {f : EV} {e0 : En} {Q : R (List D) → Prop} (I : List D → List D → Sto → Prop) (hn : ∀ acc s, I [] acc s → Q (.ok acc s))
    (hs : ∀ d r acc s, I (d :: r) acc s → ∃ e1 s1 b s2, g d e0 s = .ok e1 s1 ∧ p e1 s1 = .ok b s2 ∧ (b = false → I r acc s2) ∧ (b = true → ∃ y s3, f e1 s2 = .ok y s3 ∧ acc.length < sizeLine ∧ I r (acc ++ [y]) s3)) :
    ∀ (xs acc : List D) (s : Sto), I xs acc s → Q (lcL g p f e0 xs acc s)
  | [], acc, s, h => hn acc s h
  | d :: r, acc, s, h => by
    obtain ⟨e1, s1, b, s2, h1, h2, h3, h4⟩ := hs d r acc s h
    unfold lcL
    rw [h1]
    simp only [R.bind_ok, h2]
    cases b with
    | false => exact lcL_run I hn hs r acc s2 (h3 rfl)
    | true =>
      obtain ⟨y, s3, h5, h6, h7⟩ := h4 rfl
      simp only [if_true, h5, R.bind_ok, if_pos h6]
      exact lcL_run I hn hs r (acc ++ [y]) s3 h7

/-! ### a body's value -/
def rsOut : RS → R D
  | .rt d s' => .ok d s'
  | .nx _ s' => .ok (.p .none) s'
  | .ex c x _ s' => .ex c x s'
  | _ => .bad
@[simp] theorem rsOut_rt {d : D} {s : Sto} : rsOut (.rt d s) = .ok d s := id rfl
@[simp] theorem rsOut_nx {e : En} {s : Sto} : rsOut (.nx e s) = .ok (.p .none) s := id rfl
@[simp] theorem rsOut_ex {c : Nat} {x : PyData} {e : En} {s : Sto} : rsOut (.ex c x e s) = .ex c x s := id rfl
theorem runB_eq {n : Nat} {b : SV} {ds : List D} {s : Sto} : runB n b ds s = rsOut (b (ds.map some ++ List.replicate (n - ds.length) none) s) := by
  unfold runB
  generalize b _ s = r
  cases r <;> rfl
end Dl
/-! The data layer: the stream of a law and its drawing (plain Lean). -/
namespace Dl
open PySem

def encN (n : Int) : D := .p (.int n)
def encRow (l : List Int) : List D := l.map encN
@[simp] theorem encRow_length {l : List Int} : (encRow l).length = l.length := List.length_map _
theorem encRow_cons {a : Int} {l : List Int} : encRow (a :: l) = .p (.int a) :: encRow l := rfl
theorem encRow_app {l : List Int} {n : Int} : encRow l ++ [D.p (.int n)] = encRow (l ++ [n]) := by
  simp [encRow, encN]
theorem divOk_s {a b : Int} (h0 : 0 < b) (hb : b < 18446744073709551616) : divOk a b = true := divOk_of (n := 64) h0 (by omega)
theorem mulOk_s {a b : Int} (h0 : a.natAbs < 2 ^ 200) (hb : b.natAbs < 2 ^ 200) : mulOk a b = true := mulOk_of (m := 200) (n := 200) h0 hb
def tmStream : SV :=
  (sSeq (sSet 1 (eLst true (aCons (eC (.int 1)) aNil)))
  (sSeq (sFor (iSeq (eCut false (eVar 0) oNone (oSome (eC (.int 63))))) (gSet 2)
  (sSeq (sSet 3 (eBlt hAbs (aCons (eBlt hInt (aCons (eVar 2) aNil)) aNil)))
  (sFor (iRange1 (eC (.int 60))) (gSet 4)
  (sSeq (sExpr (eMeL hAppend (eVar 1) (aCons (eOp hMod (eVar 3) (eC (.int 59))) aNil)))
  (sSeq (sSet 3 (eOp hDiv (eVar 3) (eC (.int 59))))
  (sIf (tB (eOp hEq (eVar 3) (eC (.int 0))))
  sBreak
  sNil))))))
  (sSeq (sSet 5 (eC (.int 7)))
  (sSeq (sFor (iSeq (eCut false (eVar 0) oNone (oSome (eC (.int 63))))) (gSet 2)
  (sSet 5 (eOp hMod (eBlt hInt (aCons (eOp hAdd (eOp hAdd (eOp hMul (eVar 5) (eC (.int 131))) (eVar 2)) (eC (.int 17))) aNil)) (eC (.int 1000003)))))
  (sSeq (sFor (iRange1 (eC (.int 150))) (gSet 4)
  (sSeq (sSet 5 (eOp hMod (eBlt hInt (aCons (eOp hAdd (eOp hAdd (eOp hMul (eVar 5) (eC (.int 48271))) (eOp hMul (eVar 4) (eC (.int 69621)))) (eC (.int 11))) aNil)) (eC (.int 2147483647))))
  (sExpr (eMeL hAppend (eVar 1) (aCons (eOp hMod (eOp hDiv (eVar 5) (eC (.int 1009))) (eC (.int 59))) aNil)))))
  (sRet (eVar 1)))))))
def tmTake : SV :=
  (sSeq (sIf (tB (eOp hLt (eOp hIx (eVar 0) (eC (.int 0))) (eBlt hLen (aCons (eVar 0) aNil))))
  (sSeq (sAsg (eOp hAdd (eOp hIx (eVar 0) (eC (.int 0))) (eC (.int 1))) (gIx (eVar 0) (eC (.int 0))))
  (sRet (eOp hMod (eBlt hInt (aCons (eOp hIx (eVar 0) (eOp hSub (eOp hIx (eVar 0) (eC (.int 0))) (eC (.int 1)))) aNil)) (eVar 1))))
  sNil)
  (sRet (eC (.int 0))))

section
variable {s : Sto} {k : Nat} {a : Int} {d : D}
@[simp] theorem hIx_rf : hIx (.ref k) (.p (.int a)) s = match lstAt s k with
  | some ds => (match L2.atI ds a with
    | some d => R.ok d s
    | none => R.bad)
  | none => R.bad := id rfl
@[simp] theorem setIx_rf : setIx (.ref k) (.p (.int a)) d s = match lstAt s k with
  | some xs => (match L2.ixN xs.length a with
    | some j => .ok () (s.set k (.lst (xs.set j d)))
    | none => .bad)
  | none => .bad := id rfl
@[simp] theorem hLen_rf : hLen [.ref k] s = match lstAt s k with
  | some xs => .ok (.p (.int xs.length)) s
  | none => .bad := id rfl
@[simp] theorem hAppend_rf : hAppend (.ref k) [d] s = match lstAt s k with
  | some xs => if xs.length < sizeLine then .ok (.p .none) (s.set k (.lst (xs ++ [d]))) else .bad
  | none => .bad := id rfl
@[simp] theorem asL_rf : asL s (.ref k) = lstAt s k := id rfl
@[simp] theorem seqOf_rf : seqOf s (.ref k) = lstAt s k := id rfl
end
@[simp] theorem atI_0 {α : Type} {x : α} {r : List α} : L2.atI (x :: r) 0 = some x := by
  have := atI_nat (x :: r) 0
  simpa using this
@[simp] theorem ixN_0 {n : Nat} : L2.ixN (n + 1) 0 = some 0 := by
  have := ixN_nat (n := n + 1) (i := 0) (by omega)
  simpa using this
theorem atI_succ {α : Type} (xs : List α) (i : Nat) : L2.atI xs ((i : Int) + 1) = xs[i + 1]? := by
  have := atI_nat xs (i + 1)
  simpa using this
section
variable {s : Sto} {xs ys : List PyData} {b : Bool} {i : Int} {z : Str} {k : Nat}
theorem shaped_tup : SeqAt.shaped (.tuple xs) = (PyData.canLayAll0 xs && decide (PyData.depthAll xs ≤ 63)) := by
  unfold SeqAt.shaped PyData.canLay0 PyData.depth
  simp
theorem shaped_lst : SeqAt.shaped (.list xs) = (PyData.canLayAll0 xs && decide (PyData.depthAll xs ≤ 63)) := by
  unfold SeqAt.shaped PyData.canLay0 PyData.depth
  simp
@[simp] theorem hEq_tt : hEq (.p (.tuple xs)) (.p (.tuple ys)) s = if SeqAt.shaped (.tuple xs) && SeqAt.shaped (.tuple ys) then .ok (.p (.bool (PyData.eqvAll xs ys))) s else .bad := by
  unfold hEq hEqB toP
  simp only []
  cases SeqAt.shaped (.tuple xs) && SeqAt.shaped (.tuple ys) <;> simp [PyData.eqv]
@[simp] theorem hEq_ll : hEq (.p (.list xs)) (.p (.list ys)) s = if SeqAt.shaped (.list xs) && SeqAt.shaped (.list ys) then .ok (.p (.bool (PyData.eqvAll xs ys))) s else .bad := by
  unfold hEq hEqB toP
  simp only []
  cases SeqAt.shaped (.list xs) && SeqAt.shaped (.list ys) <;> simp [PyData.eqv]
@[simp] theorem hNe_tt : hNe (.p (.tuple xs)) (.p (.tuple ys)) s = if SeqAt.shaped (.tuple xs) && SeqAt.shaped (.tuple ys) then .ok (.p (.bool (!PyData.eqvAll xs ys))) s else .bad := by
  unfold hNe hEqB toP
  simp only []
  cases SeqAt.shaped (.tuple xs) && SeqAt.shaped (.tuple ys) <;> simp [PyData.eqv]
@[simp] theorem hNe_ll : hNe (.p (.list xs)) (.p (.list ys)) s = if SeqAt.shaped (.list xs) && SeqAt.shaped (.list ys) then .ok (.p (.bool (!PyData.eqvAll xs ys))) s else .bad := by
  unfold hNe hEqB toP
  simp only []
  cases SeqAt.shaped (.list xs) && SeqAt.shaped (.list ys) <;> simp [PyData.eqv]
@[simp] theorem kindD_none : kindD s (.p .none) = some "NoneType" := id rfl
@[simp] theorem kindD_bool : kindD s (.p (.bool b)) = some "bool" := id rfl
@[simp] theorem kindD_int : kindD s (.p (.int i)) = some "int" := id rfl
@[simp] theorem kindD_str : kindD s (.p (.str z)) = some "str" := id rfl
@[simp] theorem kindD_list : kindD s (.p (.list xs)) = some "list" := id rfl
@[simp] theorem kindD_tuple : kindD s (.p (.tuple xs)) = some "tuple" := id rfl
@[simp] theorem kindD_ro : kindD s (.ro xs) = some "list" := id rfl
end
/-- a row to draw from: its place, its numbers -/
def Row (o : O) : Prop := ∃ (c : Nat) (vs : List Int), o = .lst (.p (.int ((c : Int) + 1)) :: encRow vs) ∧ vs.length < 20000
theorem take_run {o : O} {r : Sto} {m : Int} (h : Row o) (hm : 0 < m) : ∃ (t : Nat) (o' : O), (t : Int) < m ∧ Row o' ∧ runB 2 tmTake [.ref 0, .p (.int m)] (o :: r) = .ok (.p (.int t)) (o' :: r) := by
  obtain ⟨c, vs, rfl, hl⟩ := h
  by_cases hc : c < vs.length
  · have h1 := Int.emod_nonneg vs[c] (b := m) (by omega)
    have h2 := Int.emod_lt_of_pos vs[c] hm
    refine ⟨(vs[c] % m).toNat, .lst (.p (.int ((c + 1 : Nat) + 1)) :: encRow vs), by omega, ⟨c + 1, vs, rfl, hl⟩, ?_⟩
    have e3 : L2.atI (D.p (.int ((c : Int) + 1 + 1)) :: encRow vs) ((c : Int) + 1) = some (encN vs[c]) := by
      rw [atI_succ]
      simp [hc, encRow]
    rw [runB_eq]
    unfold tmTake
    simp [hc]
    simp [e3, hm, encN, h1]
    omega
  · refine ⟨0, _, hm, ⟨c, vs, rfl, hl⟩, ?_⟩
    rw [runB_eq]
    unfold tmTake
    simp [hc]
theorem cutD_all {xs : List D} {n : Nat} (h : xs.length ≤ n) : cutD xs none (some (n : Int)) = xs := by
  unfold cutD HT.sIx
  simp only []
  rw [List.take_of_length_le]
  · simp
  · simp only [List.length_drop]
    rw [if_neg (by omega)]
    omega
def isI (xs : List D) : Prop := ∀ d ∈ xs, ∃ i : Int, d = .p (.int i)
theorem isI_map (ns : List Int) : isI (ns.map fun i => .p (.int i)) := fun d h => by
  obtain ⟨i, _, rfl⟩ := List.mem_map.mp h
  exact ⟨i, rfl⟩
theorem isI_rng (a : Int) (n : Nat) : isI (rngD a n) := fun d h => by
  obtain ⟨i, _, rfl⟩ := List.mem_map.mp h
  exact ⟨_, rfl⟩
theorem rng_mem {a : Int} {n : Nat} {d : D} (h : d ∈ rngD a n) : ∃ i : Nat, i < n ∧ d = .p (.int (a + i)) := by
  obtain ⟨i, hi, rfl⟩ := List.mem_map.mp h
  exact ⟨i, List.mem_range.mp hi, rfl⟩
@[simp] theorem rngD_length {a : Int} {n : Nat} : (rngD a n).length = n := by simp [rngD]

section
variable {g : GV} {b : SV} {c : TV} {k : En → Sto → RS} {P : RS → Prop} {J : En → Sto → Prop} {xs : List D} {e : En} {s : Sto} {n : Nat}
theorem forP (I : List D → En → Sto → Prop) (h0 : I xs e s) (hn : ∀ e s, I [] e s → P (.nx e s)) (hs : ∀ d r e s, I (d :: r) e s → ((g d e s).toS e b).wp (I r) P) : P (forL g b xs e s) := forL_run I hn hs xs e s h0
theorem forPS (I : List D → En → Sto → Prop) (h0 : I xs e s) (hn : ∀ e s, I [] e s → P (k e s)) (hs : ∀ d r e s, I (d :: r) e s → ((g d e s).toS e b).wp (I r) fun r => P (r.seq k)) : P ((forL g b xs e s).seq k) := forL_run (Q := fun r => P (r.seq k)) I hn hs xs e s h0
theorem forW (I : List D → En → Sto → Prop) (h0 : I xs e s) (hn : ∀ e s, I [] e s → J e s) (hs : ∀ d r e s, I (d :: r) e s → ((g d e s).toS e b).wp (I r) fun r => r.wp J P) : (forL g b xs e s).wp J P := forL_run (Q := fun r => r.wp J P) I hn hs xs e s h0
theorem forWS (I : List D → En → Sto → Prop) (h0 : I xs e s) (hn : ∀ e s, I [] e s → (k e s).wp J P) (hs : ∀ d r e s, I (d :: r) e s → ((g d e s).toS e b).wp (I r) fun r => (r.seq k).wp J P) : ((forL g b xs e s).seq k).wp J P := forL_run (Q := fun r => (r.seq k).wp J P) I hn hs xs e s h0
theorem whP (I : Nat → En → Sto → Prop) (m : Nat) (hm : m < n) (h0 : I m e s) (hs : ∀ m e s, I m e s → ((c e s).toS e fun t s => if t then b e s else .bk e s).wp (fun e' s' => ∃ m', m' < m ∧ I m' e' s') P) : P (whGo c b n e s) := while_run I hs n m e s hm h0
theorem whPS (I : Nat → En → Sto → Prop) (m : Nat) (hm : m < n) (h0 : I m e s) (hs : ∀ m e s, I m e s → ((c e s).toS e fun t s => if t then b e s else .bk e s).wp (fun e' s' => ∃ m', m' < m ∧ I m' e' s') fun r => P (r.seq k)) : P ((whGo c b n e s).seq k) := while_run (Q := fun r => P (r.seq k)) I hs n m e s hm h0
theorem whW (I : Nat → En → Sto → Prop) (m : Nat) (hm : m < n) (h0 : I m e s) (hs : ∀ m e s, I m e s → ((c e s).toS e fun t s => if t then b e s else .bk e s).wp (fun e' s' => ∃ m', m' < m ∧ I m' e' s') fun r => r.wp J P) : (whGo c b n e s).wp J P := while_run (Q := fun r => r.wp J P) I hs n m e s hm h0
theorem whWS (I : Nat → En → Sto → Prop) (m : Nat) (hm : m < n) (h0 : I m e s) (hs : ∀ m e s, I m e s → ((c e s).toS e fun t s => if t then b e s else .bk e s).wp (fun e' s' => ∃ m', m' < m ∧ I m' e' s') fun r => (r.seq k).wp J P) : ((whGo c b n e s).seq k).wp J P := while_run (Q := fun r => (r.seq k).wp J P) I hs n m e s hm h0
end
/-- what a body's outcome gives back -/
theorem runB_P {n : Nat} {b : SV} {ds : List D} {s : Sto} {P : R D → Prop} (h : ∀ Q : RS → Prop, (∀ r, P (rsOut r) → Q r) → Q (b (ds.map some ++ List.replicate (n - ds.length) none) s)) : P (runB n b ds s) := by
  rw [runB_eq]
  exact h (fun r => P (rsOut r)) fun r q => q

inductive StA (ro : List PyData) : List D → En → Sto → Prop
  | mk (xs x2 x3 x4 l) (h1 : isI xs) (h2 : l.length + 60 * xs.length ≤ 3780) : StA ro xs [some (.ro ro), some (.ref 0), x2, x3, x4, none] [.lst (.p (.int 1) :: encRow l)]
inductive StB (ro : List PyData) (n : Nat) : List D → En → Sto → Prop
  | mk (xs x2 v x4 l) (h2 : l.length + xs.length + 60 * n ≤ 3780) : StB ro n xs [some (.ro ro), some (.ref 0), x2, some (.p (.int v)), x4, none] [.lst (.p (.int 1) :: encRow l)]
inductive StC (ro : List PyData) (l : List Int) : List D → En → Sto → Prop
  | mk (xs x2 x3 x4 v) (h1 : isI xs) (h2 : 0 ≤ v) (h3 : v < 1000003) : StC ro l xs [some (.ro ro), some (.ref 0), x2, x3, x4, some (.p (.int v))] [.lst (.p (.int 1) :: encRow l)]
inductive StD (ro : List PyData) : List D → En → Sto → Prop
  | mk (xs x2 x3 x4 v l) (h1 : ∀ d ∈ xs, ∃ i : Nat, i < 150 ∧ d = .p (.int i)) (h2 : 0 ≤ v) (h3 : v < 2147483647) (h4 : l.length + xs.length ≤ 10000) : StD ro xs [some (.ro ro), some (.ref 0), x2, x3, x4, some (.p (.int v))] [.lst (.p (.int 1) :: encRow l)]
theorem stream_run (ns : List Int) (h : ns.length ≤ 63) : ∃ o, Row o ∧ runB 6 tmStream [.ro (ns.map PyData.int)] [] = .ok (.ref 0) [o] := by
  refine runB_P (P := fun r => ∃ o, Row o ∧ r = .ok (.ref 0) [o]) fun P hP => ?_
  replace hP : ∀ o, Row o → P (.rt (.ref 0) [o]) := fun o ho => hP _ ⟨o, ho, rfl⟩
  unfold tmStream
  have hc : cutD ((ns.map PyData.int).map D.p) none (some 63) = (ns.map PyData.int).map D.p := cutD_all (n := 63) (by simpa using h)
  have hi : isI ((ns.map PyData.int).map D.p) := by
    rw [List.map_map]
    exact isI_map ns
  have hl : ((ns.map PyData.int).map D.p).length ≤ 63 := by simpa using h
  have hn : newL false ((ns.map PyData.int).map D.p) = fun s => .ok (.p (.list (ns.map PyData.int))) s := funext fun s => newL_false _
  generalize hro : ns.map PyData.int = ro at *
  simp only [sSeq_eq, sSet_eq, eLst_eq, aCons_eq, eC_eq, aNil_eq, R.bind_ok, sizeLine_eq, newL_true, R.toS_ok, RS.seq_nx, List.map_cons, List.map_nil, List.length_cons, List.length_nil, List.nil_append, List.cons_append, List.replicate, List.set, sFor_eq]
  simp [hCut, hc, hn, foGo_S]
  refine forPS (StA ro) (.mk _ _ _ _ [] hi (by simp at hl ⊢; omega)) ?_ ?_
  · rintro e s ⟨x2, x3, x4, l, _, hl2⟩
    simp [hCut, hc, hn, foGo_S]
    refine forPS (StC ro l) (.mk _ _ _ _ _ hi (by omega) (by omega)) ?_ ?_
    · rintro e s ⟨x2, x3, x4, v, _, hv0, hv⟩
      simp [foGo_S]
      refine forPS (StD ro) (.mk _ _ _ _ _ _ ?_ hv0 (by omega) ?_) ?_ ?_
      · intro d hd
        obtain ⟨i, h1, h2⟩ := rng_mem hd
        exact ⟨i, h1, by rw [h2]; simp⟩
      · simp at hl2 ⊢
        omega
      · rintro e s ⟨x2, x3, x4, v, l, _, _, hv, hl⟩
        simp
        exact hP _ ⟨0, l, rfl, by simp at hl; omega⟩
      · rintro d r e s ⟨x2, x3, x4, v, l, hd, hv0, hv, hl⟩
        obtain ⟨i, hi, rfl⟩ := hd d List.mem_cons_self
        simp at hl
        have m1 : mulOk v 48271 = true := mulOk_s (by omega) (by omega)
        have m2 : mulOk (i : Int) 69621 = true := mulOk_s (by omega) (by omega)
        have m3 : l.length + 1 < sizeLine := by rw [sizeLine_eq]; omega
        simp [m1, m2, m3, divOk_s, encRow_app]
        exact .mk _ _ _ _ _ _ (fun d h => hd d (List.mem_cons_of_mem _ h)) (by omega) (by omega) (by simp; omega)
    · rintro d r e s ⟨x2, x3, x4, v, hd, hv0, hv⟩
      obtain ⟨i, rfl⟩ := hd d List.mem_cons_self
      have m1 : mulOk v 131 = true := mulOk_s (by omega) (by omega)
      simp [m1]
      exact .mk _ _ _ _ _ (fun d h => hd d (List.mem_cons_of_mem _ h)) (by omega) (by omega)
  · rintro d r e s ⟨x2, x3, x4, l, hd, hl⟩
    obtain ⟨i, rfl⟩ := hd d List.mem_cons_self
    simp [foGo_S]
    refine forW (StB ro r.length) (.mk _ _ _ _ l (by simp at hl ⊢; omega)) ?_ ?_
    · rintro e s ⟨x2, x4, v, l, hl⟩
      exact .mk _ _ _ _ l (fun d h => hd d (List.mem_cons_of_mem _ h)) (by simp at hl; omega)
    · rintro d r2 e s ⟨x2, v, x4, l, hl⟩
      simp at hl
      have m3 : l.length + 1 < sizeLine := by rw [sizeLine_eq]; omega
      simp [divOk_s, m3, encRow_app]
      split
      · simp
        exact .mk _ _ _ _ _ (fun d h => hd d (List.mem_cons_of_mem _ h)) (by simp; omega)
      · simp
        exact .mk _ _ _ _ _ (by simp; omega)

/-! ### two roads joined -/
section
variable {p : Prop} [Decidable p]
theorem ite_nx {e e' : En} {s : Sto} : (if p then RS.nx e s else RS.nx e' s) = RS.nx (if p then e else e') s := by split <;> rfl
theorem ite_cons' {α : Type} {a b : α} {l m : List α} : (if p then a :: l else b :: m) = (if p then a else b) :: (if p then l else m) := by split <;> rfl
theorem ite_some' {α : Type} {a b : α} : (if p then some a else some b) = some (if p then a else b) := by split <;> rfl
theorem ite_dp {a b : PyData} : (if p then D.p a else D.p b) = D.p (if p then a else b) := by split <;> rfl
theorem ite_int {a b : Int} : (if p then PyData.int a else PyData.int b) = PyData.int (if p then a else b) := by split <;> rfl
end

/-! ### comprehensions that draw -/
theorem lc_draw_go {g : GV} {f : EV} {r : Sto} (Pp : D → PyData → Prop) (E : En → Prop) : ∀ (xs : List D), (∀ d ∈ xs, ∀ o, Row o → ∃ y o', Row o' ∧ Pp d y ∧ ∀ e, E e → ((g d e (o :: r)).bind fun e1 s => f e1 s) = .ok (.p y) (o' :: r)) → ∀ o, Row o →
    ∃ (ys : List PyData) (o' : O), Row o' ∧ ys.length = xs.length ∧ (∀ y ∈ ys, ∃ d ∈ xs, Pp d y) ∧ ∀ acc e, E e → acc.length + xs.length ≤ sizeLine → lcL g tYes f e xs acc (o :: r) = .ok (acc ++ ys.map D.p) (o' :: r)
  | [], _, o, ho => ⟨[], o, ho, rfl, fun _ h => (List.not_mem_nil h).elim, fun acc e _ _ => by simp [lcL]⟩
  | d :: xs, h, o, ho => by
    obtain ⟨y, o1, h1, h2, h3⟩ := h d List.mem_cons_self o ho
    obtain ⟨ys, o2, h4, h5, h6, h7⟩ := lc_draw_go Pp E xs (fun d hd => h d (List.mem_cons_of_mem _ hd)) o1 h1
    refine ⟨y :: ys, o2, h4, by simp [h5], fun z hz => ?_, fun acc e he hz => ?_⟩
    · rcases List.mem_cons.mp hz with q | q
      · exact ⟨d, List.mem_cons_self, q ▸ h2⟩
      · obtain ⟨d', hd', q'⟩ := h6 z q
        exact ⟨d', List.mem_cons_of_mem _ hd', q'⟩
    · rw [List.length_cons] at hz
      have q := h3 e he
      unfold lcL
      cases hg : g d e (o :: r) with
      | bad => rw [hg] at q; cases q
      | ex c x s' => rw [hg] at q; cases q
      | ok e1 s1 =>
        rw [hg] at q
        have q : f e1 s1 = .ok (.p y) (o1 :: r) := q
        simp only [R.bind_ok, tYes_eq, if_true, q]
        rw [if_pos (by omega), h7 _ _ he (by rw [List.length_append, List.length_singleton]; omega)]
        simp
theorem lc_draw {g : GV} {f : EV} {r : Sto} (Pp : D → PyData → Prop) (E : En → Prop) (xs : List D) (h : ∀ d ∈ xs, ∀ o, Row o → ∃ y o', Row o' ∧ Pp d y ∧ ∀ e, E e → ((g d e (o :: r)).bind fun e1 s => f e1 s) = .ok (.p y) (o' :: r)) (hz : xs.length ≤ sizeLine) (o : O) (ho : Row o) :
    ∃ (ys : List PyData) (o' : O), Row o' ∧ ys.length = xs.length ∧ (∀ y ∈ ys, ∃ d ∈ xs, Pp d y) ∧ ∀ e, E e → (lcL g tYes f e xs [] (o :: r)).noX.bind (fun ds s => newL false ds s) = .ok (.p (.list ys)) (o' :: r) := by
  obtain ⟨ys, o', h1, h2, h3, h4⟩ := lc_draw_go Pp E xs h o ho
  refine ⟨ys, o', h1, h2, h3, fun e he => ?_⟩
  rw [h4 [] e he (by simpa using hz)]
  simp [newL_false]
theorem eLc_eq {h : Bool} {vs : List Nat} {fi : IV} {g : GV} {p : TV} {f : EV} {e : En} {s : Sto} : eLc h vs fi g p f e s = (fi e s).bind fun it s => ((lcGo g p f (wipeE e vs) it it.n 0 [] s).noX).bind fun ds s => newL h ds s := rfl
theorem lcL_zip {g : GV} {f : EV} {e0 : En} {s : Sto} : ∀ (xs ys acc : List D) (hl : xs.length = ys.length) (hs : ∀ i (h1 : i < xs.length) (h2 : i < ys.length), ((g xs[i] e0 s).bind fun e1 s => f e1 s) = .ok ys[i] s) (hz : acc.length + xs.length ≤ sizeLine), lcL g tYes f e0 xs acc s = .ok (acc ++ ys) s
  | [], [], acc, _, _, _ => by simp [lcL]
  | x :: xs, y :: ys, acc, hl, hs, hz => by
    have q := hs 0 (by simp) (by simp)
    simp only [List.getElem_cons_zero] at q
    rw [List.length_cons] at hz
    unfold lcL
    cases hg : g x e0 s with
    | bad => rw [hg] at q; cases q
    | ex c x s' => rw [hg] at q; cases q
    | ok e1 s1 =>
      rw [hg] at q
      have q : f e1 s1 = .ok y s := q
      simp only [R.bind_ok, tYes_eq, if_true, q]
      rw [if_pos (by omega), lcL_zip xs ys (acc ++ [y]) (by simpa using hl) (fun i h1 h2 => by
        have := hs (i + 1) (by simpa using h1) (by simpa using h2)
        simpa using this) (by rw [List.length_append, List.length_singleton]; omega)]
      simp
  | [], _ :: _, _, hl, _, _ => by cases hl
  | _ :: _, [], _, hl, _, _ => by cases hl
theorem lcL_rng {g : GV} {f : EV} {e0 : En} {s : Sto} {n : Nat} (ys : List D) (hl : ys.length = n) (hs : ∀ i (h2 : i < ys.length), ((g (.p (.int i)) e0 s).bind fun e1 s => f e1 s) = .ok ys[i] s) (hz : n ≤ sizeLine) : lcL g tYes f e0 (rngD 0 n) [] s = .ok ys s := by
  have := lcL_zip (g := g) (f := f) (e0 := e0) (s := s) (rngD 0 n) ys [] (by rw [rngD_length, hl]) (fun i h1 h2 => by
    have e : (rngD 0 n)[i] = .p (.int i) := by simp [rngD]
    rw [e]
    exact hs i h2) (by simpa using hz)
  simpa using this
theorem iteL {α : Type} {p : Prop} [Decidable p] {a b : α} (h : ¬ p → b = a) : (if p then a else b) = a := by
  split
  · rfl
  · exact h ‹_›

/-! ### loops by place -/
theorem at_run {g : GV} {b : SV} {Q : RS → Prop} {xs : List D} (J : Nat → En → Sto → Prop) (hn : ∀ e s, J xs.length e s → Q (.nx e s)) (hs : ∀ k (h : k < xs.length) e s, J k e s → ((g xs[k] e s).toS e b).wp (J (k + 1)) Q) {e : En} {s : Sto} (h0 : J 0 e s) : Q (forL g b xs e s) :=
  forL_run (Q := Q) (fun r e s => ∃ k, r = xs.drop k ∧ k ≤ xs.length ∧ J k e s) (fun e s ⟨k, h1, h2, h3⟩ => by
    have : xs.length ≤ k := List.drop_eq_nil_iff.mp h1.symm
    have : k = xs.length := by omega
    subst this
    exact hn e s h3) (fun d r e s ⟨k, h1, h2, h3⟩ => by
    by_cases hk : k < xs.length
    · rw [List.drop_eq_getElem_cons hk] at h1
      injection h1 with h4 h5
      subst h4 h5
      have q := hs k hk e s h3
      unfold RS.wp at q ⊢
      split
      · rename_i h
        rw [h] at q
        exact ⟨k + 1, rfl, by omega, q⟩
      · rename_i h
        rw [h] at q
        exact ⟨k + 1, rfl, by omega, q⟩
      · rename_i h
        rw [h] at q
        exact q
      · rename_i n1 n2 n3
        split at q
        · exact (n1 _ _ ‹_›).elim
        · exact (n2 _ _ ‹_›).elim
        · exact (n3 _ _ ‹_›).elim
        · exact q
    · rw [List.drop_eq_nil_of_le (by omega)] at h1
      cases h1) xs e s ⟨0, rfl, by omega, h0⟩
section
variable {g : GV} {b : SV} {k : En → Sto → RS} {P : RS → Prop} {I : En → Sto → Prop} {xs : List D} {e : En} {s : Sto} {n : Nat}
theorem atP (J : Nat → En → Sto → Prop) (h0 : J 0 e s) (hn : ∀ e s, J xs.length e s → P (.nx e s)) (hs : ∀ i (h : i < xs.length) e s, J i e s → ((g xs[i] e s).toS e b).wp (J (i + 1)) P) : P (forL g b xs e s) := at_run J hn hs h0
theorem atPS (J : Nat → En → Sto → Prop) (h0 : J 0 e s) (hn : ∀ e s, J xs.length e s → P (k e s)) (hs : ∀ i (h : i < xs.length) e s, J i e s → ((g xs[i] e s).toS e b).wp (J (i + 1)) fun r => P (r.seq k)) : P ((forL g b xs e s).seq k) := at_run (Q := fun r => P (r.seq k)) J hn hs h0
theorem atW (J : Nat → En → Sto → Prop) (h0 : J 0 e s) (hn : ∀ e s, J xs.length e s → I e s) (hs : ∀ i (h : i < xs.length) e s, J i e s → ((g xs[i] e s).toS e b).wp (J (i + 1)) fun r => r.wp I P) : (forL g b xs e s).wp I P := at_run (Q := fun r => r.wp I P) J hn hs h0
theorem atWS (J : Nat → En → Sto → Prop) (h0 : J 0 e s) (hn : ∀ e s, J xs.length e s → (k e s).wp I P) (hs : ∀ i (h : i < xs.length) e s, J i e s → ((g xs[i] e s).toS e b).wp (J (i + 1)) fun r => (r.seq k).wp I P) : ((forL g b xs e s).seq k).wp I P := at_run (Q := fun r => (r.seq k).wp I P) J hn hs h0
theorem rng_run {Q : RS → Prop} (J : Nat → En → Sto → Prop) (hn : ∀ e s, J n e s → Q (.nx e s)) (hs : ∀ i e s, i < n → J i e s → ((g (.p (.int i)) e s).toS e b).wp (J (i + 1)) Q) {e : En} {s : Sto} (h0 : J 0 e s) : Q (forL g b (rngD 0 n) e s) := at_run (xs := rngD 0 n) J (by rw [rngD_length]; exact hn) (fun i h e s j => by
  have e1 : (rngD 0 n)[i] = .p (.int i) := by simp [rngD]
  rw [e1]
  exact hs i e s (by simpa using h) j) h0
theorem rngP (J : Nat → En → Sto → Prop) (h0 : J 0 e s) (hn : ∀ e s, J n e s → P (.nx e s)) (hs : ∀ i e s, i < n → J i e s → ((g (.p (.int i)) e s).toS e b).wp (J (i + 1)) P) : P (forL g b (rngD 0 n) e s) := rng_run J hn hs h0
theorem rngPS (J : Nat → En → Sto → Prop) (h0 : J 0 e s) (hn : ∀ e s, J n e s → P (k e s)) (hs : ∀ i e s, i < n → J i e s → ((g (.p (.int i)) e s).toS e b).wp (J (i + 1)) fun r => P (r.seq k)) : P ((forL g b (rngD 0 n) e s).seq k) := rng_run (Q := fun r => P (r.seq k)) J hn hs h0
theorem rngW (J : Nat → En → Sto → Prop) (h0 : J 0 e s) (hn : ∀ e s, J n e s → I e s) (hs : ∀ i e s, i < n → J i e s → ((g (.p (.int i)) e s).toS e b).wp (J (i + 1)) fun r => r.wp I P) : (forL g b (rngD 0 n) e s).wp I P := rng_run (Q := fun r => r.wp I P) J hn hs h0
theorem rngWS (J : Nat → En → Sto → Prop) (h0 : J 0 e s) (hn : ∀ e s, J n e s → (k e s).wp I P) (hs : ∀ i e s, i < n → J i e s → ((g (.p (.int i)) e s).toS e b).wp (J (i + 1)) fun r => (r.seq k).wp I P) : ((forL g b (rngD 0 n) e s).seq k).wp I P := rng_run (Q := fun r => (r.seq k).wp I P) J hn hs h0
end

/-! ### objects behind a store -/
section
variable {s r : Sto} {ds es : List D} {o a c : O} {x : PyData} {xs : List PyData}
@[simp] theorem lstAt_app0 : lstAt (s ++ .lst ds :: r) s.length = some ds := by
  unfold lstAt
  simp
@[simp] theorem lstAt_app1 : lstAt (s ++ o :: .lst ds :: r) (s.length + 1) = some ds := by
  unfold lstAt
  simp
@[simp] theorem lstAt_app2 : lstAt (s ++ a :: o :: .lst ds :: r) (s.length + 1 + 1) = some ds := by
  unfold lstAt
  simp [Nat.add_assoc]
@[simp] theorem set_app0 : (s ++ o :: r).set s.length a = s ++ a :: r := by simp
@[simp] theorem set_app1 : (s ++ o :: c :: r).set (s.length + 1) a = s ++ o :: a :: r := by simp
theorem keeps_app : Keeps s (s ++ r) := .inl (by simp)
theorem leave_p : leave s (.ok (.p x) (s ++ r)) = .ok (.p x) s := by
  rw [leave_yes (d' := .p x) keeps_app rfl]
  simp
theorem leave_p0 : leave s (.ok (.p x) s) = .ok (.p x) s := by
  have := leave_p (s := s) (r := []) (x := x)
  simpa using this
theorem calm_ref {k : Nat} (h : lstAt r k = some (xs.map D.p)) : calm s.length (s ++ r) (.ref (s.length + k)) = some (.p (.list xs)) := by
  unfold calm
  simp only []
  unfold calm1
  simp only []
  rw [if_neg (by omega)]
  unfold lstAt at h
  rw [List.getElem?_append_right (by omega), show s.length + k - s.length = k by omega]
  cases q : r[k]? with
  | none => rw [q] at h; cases h
  | some o =>
    rw [q] at h
    cases o with
    | lst ds =>
      simp only [Option.some.injEq] at h
      subst h
      simp [allP_map]
    | ins => cases h
theorem leave_ref {k : Nat} (h : lstAt r k = some (xs.map D.p)) : leave s (.ok (.ref (s.length + k)) (s ++ r)) = .ok (.p (.list xs)) s := by
  rw [leave_yes keeps_app (calm_ref h)]
  simp
end

/-! ### slices, ends, joins -/
theorem cutD_take (xs : List D) (n : Nat) : cutD xs none (some (n : Int)) = xs.take n := by
  unfold cutD
  rw [HT.sIx_nat]
  simp only [HT.sIx]
  rw [List.drop_zero, Nat.sub_zero]
  by_cases h : n ≤ xs.length
  · rw [Nat.min_eq_left h]
  · rw [Nat.min_eq_right (by omega), List.take_length, List.take_of_length_le (by omega)]
theorem cutD_drop (xs : List D) (n : Nat) : cutD xs (some (n : Int)) none = xs.drop n := by
  unfold cutD
  rw [HT.sIx_nat]
  simp only [HT.sIx]
  by_cases h : n ≤ xs.length
  · rw [Nat.min_eq_left h, List.take_of_length_le (by rw [List.length_drop]; omega)]
  · rw [Nat.min_eq_right (by omega), List.drop_length, List.drop_eq_nil_of_le (by omega)]
    simp
theorem cutD_init (xs : List D) : cutD xs none (some (-1)) = xs.dropLast := by
  unfold cutD
  simp only [HT.sIx]
  rw [if_pos (by decide), List.drop_zero, Nat.sub_zero, List.dropLast_eq_take]
  congr 1
  omega
section
variable {s : Sto} {xs ys : List PyData} {n : Nat}
@[simp] theorem hCut_ltake : hCut false (.p (.list xs)) none (some (n : Int)) s = .ok (.p (.list (xs.take n))) s := by
  show newL false (cutD (xs.map D.p) none (some (n : Int))) s = _
  rw [cutD_take, ← List.map_take, newL_false]
@[simp] theorem hCut_ldrop : hCut false (.p (.list xs)) (some (n : Int)) none s = .ok (.p (.list (xs.drop n))) s := by
  show newL false (cutD (xs.map D.p) (some (n : Int)) none) s = _
  rw [cutD_drop, ← List.map_drop, newL_false]
@[simp] theorem hCut_ldrop1 : hCut false (.p (.list xs)) (some ((n : Int) + 1)) none s = .ok (.p (.list (xs.drop (n + 1)))) s := by
  rw [show ((n : Int) + 1) = ((n + 1 : Nat) : Int) by omega, hCut_ldrop]
@[simp] theorem hCut_linit : hCut false (.p (.list xs)) none (some (-1)) s = .ok (.p (.list xs.dropLast)) s := by
  show newL false (cutD (xs.map D.p) none (some (-1))) s = _
  rw [cutD_init, ← List.map_dropLast, newL_false]
@[simp] theorem hCut_ttake : hCut false (.p (.tuple xs)) none (some (n : Int)) s = .ok (.p (.tuple (xs.take n))) s := by
  show R.ok (mkT (cutD (xs.map D.p) none (some (n : Int)))) s = _
  rw [cutD_take, ← List.map_take, mkT_map]
@[simp] theorem hCut_tdrop : hCut false (.p (.tuple xs)) (some (n : Int)) none s = .ok (.p (.tuple (xs.drop n))) s := by
  show R.ok (mkT (cutD (xs.map D.p) (some (n : Int)) none)) s = _
  rw [cutD_drop, ← List.map_drop, mkT_map]
@[simp] theorem hCut_tdrop1 : hCut false (.p (.tuple xs)) (some ((n : Int) + 1)) none s = .ok (.p (.tuple (xs.drop (n + 1)))) s := by
  rw [show ((n : Int) + 1) = ((n + 1 : Nat) : Int) by omega, hCut_tdrop]
@[simp] theorem hCut_tinit : hCut false (.p (.tuple xs)) none (some (-1)) s = .ok (.p (.tuple xs.dropLast)) s := by
  show R.ok (mkT (cutD (xs.map D.p) none (some (-1)))) s = _
  rw [cutD_init, ← List.map_dropLast, mkT_map]
@[simp] theorem hAdd_ll : hAdd (.p (.list xs)) (.p (.list ys)) s = if xs.length + ys.length ≤ sizeLine then .ok (.p (.list (xs ++ ys))) s else .bad := by
  show (if (xs.map D.p).length + (ys.map D.p).length ≤ sizeLine then newL false (xs.map D.p ++ ys.map D.p) s else .bad) = _
  rw [List.length_map, List.length_map, ← List.map_append, newL_false]
@[simp] theorem hAdd_tt : hAdd (.p (.tuple xs)) (.p (.tuple ys)) s = if xs.length + ys.length ≤ sizeLine then .ok (.p (.tuple (xs ++ ys))) s else .bad := by
  show (if (xs.map D.p).length + (ys.map D.p).length ≤ sizeLine then R.ok (mkT (xs.map D.p ++ ys.map D.p)) s else .bad) = _
  rw [List.length_map, List.length_map, ← List.map_append, mkT_map]
theorem atI_last {α : Type} (xs : List α) : L2.atI xs (-1) = xs.getLast? := by
  unfold L2.atI L2.ixN
  rw [if_neg (by decide)]
  cases xs with
  | nil => rfl
  | cons x r =>
    rw [if_pos (by rw [List.length_cons]; omega), List.getLast?_eq_getElem?]
    show (x :: r)[_]? = _
    congr 1
    rw [List.length_cons]
    omega
theorem hIx_llast {x : PyData} (h : xs.getLast? = some x) : hIx (.p (.list xs)) (.p (.int (-1))) s = .ok (.p x) s := hIx_list (by rw [atI_last]; exact h)
theorem hIx_tlast {x : PyData} (h : xs.getLast? = some x) : hIx (.p (.tuple xs)) (.p (.int (-1))) s = .ok (.p x) s := hIx_tuple (by rw [atI_last]; exact h)
theorem hIx_lat {i : Nat} {x : PyData} (h : xs[i]? = some x) : hIx (.p (.list xs)) (.p (.int i)) s = .ok (.p x) s := hIx_list (by rw [atI_nat]; exact h)
theorem hIx_tat {i : Nat} {x : PyData} (h : xs[i]? = some x) : hIx (.p (.tuple xs)) (.p (.int i)) s = .ok (.p x) s := hIx_tuple (by rw [atI_nat]; exact h)
end
@[simp] theorem hAdd_lr {s : Sto} {xs : List PyData} {k : Nat} : hAdd (.p (.list xs)) (.ref k) s = match lstAt s k with
  | some ds => if xs.length + ds.length ≤ sizeLine then newL false (xs.map D.p ++ ds) s else .bad
  | none => .bad := by
  show (match some (xs.map D.p), lstAt s k with
    | some xs, some ys => if xs.length + ys.length ≤ sizeLine then newL false (xs ++ ys) s else R.bad
    | _, _ => .bad) = _
  cases lstAt s k with
  | none => rfl
  | some ds => simp

/-! ### loops over an object of the store -/
theorem itL_run {g : GV} {b : SV} {Q : RS → Prop} {d : D} {xs : List D} (J : Nat → En → Sto → Prop) (hk : ∀ i e s, J i e s → asL s d = some xs) (hn : ∀ e s, J xs.length e s → Q (.nx e s)) (hs : ∀ i (h : i < xs.length) e s, J i e s → ((g xs[i] e s).toS e b).wp (J (i + 1)) Q) : ∀ m i e s, xs.length - i ≤ m → i ≤ xs.length → J i e s → Q (foGo g b (itL d xs.length) m i e s)
  | 0, i, e, s, h1, h2, j => by
    have : i = xs.length := by omega
    subst this
    unfold foGo
    have e1 : (itL d xs.length).nx xs.length s = some none := by
      show (asL s d).map _ = _
      rw [hk _ _ _ j]
      simp
    rw [e1]
    exact hn e s j
  | m + 1, i, e, s, h1, h2, j => by
    unfold foGo
    by_cases hi : i < xs.length
    · have e1 : (itL d xs.length).nx i s = some (some xs[i]) := by
        show (asL s d).map _ = _
        rw [hk _ _ _ j]
        simp [hi]
      rw [e1]
      have q := hs i hi e s j
      show Q ((g xs[i] e s).toS e fun e' s => (b e' s).loop (foGo g b (itL d xs.length) m (i + 1)))
      cases hg : g xs[i] e s with
      | ok e' s' =>
        rw [hg] at q
        exact loop_wp q fun e2 s2 i2 => itL_run J hk hn hs m (i + 1) e2 s2 (by omega) (by omega) i2
      | ex c x s' => rw [hg] at q; exact q
      | bad => rw [hg] at q; exact q
    · have : i = xs.length := by omega
      subst this
      have e1 : (itL d xs.length).nx xs.length s = some none := by
        show (asL s d).map _ = _
        rw [hk _ _ _ j]
        simp
      rw [e1]
      exact hn e s j
section
variable {g : GV} {b : SV} {k : En → Sto → RS} {P : RS → Prop} {I : En → Sto → Prop} {xs : List D} {e : En} {s : Sto} {d : D}
theorem olP (J : Nat → En → Sto → Prop) (h0 : J 0 e s) (hk : ∀ i e s, J i e s → asL s d = some xs) (hn : ∀ e s, J xs.length e s → P (.nx e s)) (hs : ∀ i (h : i < xs.length) e s, J i e s → ((g xs[i] e s).toS e b).wp (J (i + 1)) P) : P (foGo g b (itL d xs.length) xs.length 0 e s) := itL_run J hk hn hs _ _ _ _ (by omega) (by omega) h0
theorem olPS (J : Nat → En → Sto → Prop) (h0 : J 0 e s) (hk : ∀ i e s, J i e s → asL s d = some xs) (hn : ∀ e s, J xs.length e s → P (k e s)) (hs : ∀ i (h : i < xs.length) e s, J i e s → ((g xs[i] e s).toS e b).wp (J (i + 1)) fun r => P (r.seq k)) : P ((foGo g b (itL d xs.length) xs.length 0 e s).seq k) := itL_run (Q := fun r => P (r.seq k)) J hk hn hs _ _ _ _ (by omega) (by omega) h0
theorem olW (J : Nat → En → Sto → Prop) (h0 : J 0 e s) (hk : ∀ i e s, J i e s → asL s d = some xs) (hn : ∀ e s, J xs.length e s → I e s) (hs : ∀ i (h : i < xs.length) e s, J i e s → ((g xs[i] e s).toS e b).wp (J (i + 1)) fun r => r.wp I P) : (foGo g b (itL d xs.length) xs.length 0 e s).wp I P := itL_run (Q := fun r => r.wp I P) J hk hn hs _ _ _ _ (by omega) (by omega) h0
theorem olWS (J : Nat → En → Sto → Prop) (h0 : J 0 e s) (hk : ∀ i e s, J i e s → asL s d = some xs) (hn : ∀ e s, J xs.length e s → (k e s).wp I P) (hs : ∀ i (h : i < xs.length) e s, J i e s → ((g xs[i] e s).toS e b).wp (J (i + 1)) fun r => (r.seq k).wp I P) : ((foGo g b (itL d xs.length) xs.length 0 e s).seq k).wp I P := itL_run (Q := fun r => (r.seq k).wp I P) J hk hn hs _ _ _ _ (by omega) (by omega) h0
end
theorem iSeqD_rf {k : Nat} {s : Sto} : iSeqD (.ref k) s = match lstAt s k with
  | some xs => .ok (itL (.ref k) xs.length) s
  | none => .bad := rfl
@[simp] theorem itL_n {d : D} {n : Nat} : (itL d n).n = n := rfl
theorem toP_rf {s : Sto} {k : Nat} {ys : List PyData} (h : lstAt s k = some (ys.map D.p)) : toP s (.ref k) = some (.list ys) := by
  unfold lstAt at h
  unfold toP
  simp only []
  cases q : s[k]? with
  | none => rw [q] at h; cases h
  | some o =>
    rw [q] at h
    cases o with
    | lst ds =>
      simp only [Option.some.injEq] at h
      subst h
      simp [allP_map]
    | ins => cases h
section
variable {s : Sto} {k : Nat} {xs ys : List PyData}
theorem hNe_plr (h : lstAt s k = some (ys.map D.p)) : hNe (.p (.list xs)) (.ref k) s = if SeqAt.shaped (.list xs) && SeqAt.shaped (.list ys) then .ok (.p (.bool (!PyData.eqvAll xs ys))) s else .bad := by
  unfold hNe hEqB
  simp only []
  rw [toP_rf h]
  simp only [toP]
  cases SeqAt.shaped (.list xs) && SeqAt.shaped (.list ys) <;> simp [PyData.eqv]
theorem hEq_plr (h : lstAt s k = some (ys.map D.p)) : hEq (.p (.list xs)) (.ref k) s = if SeqAt.shaped (.list xs) && SeqAt.shaped (.list ys) then .ok (.p (.bool (PyData.eqvAll xs ys))) s else .bad := by
  unfold hEq hEqB
  simp only []
  rw [toP_rf h]
  simp only [toP]
  cases SeqAt.shaped (.list xs) && SeqAt.shaped (.list ys) <;> simp [PyData.eqv]
theorem hNotIn_plr (h : lstAt s k = some (ys.map D.p)) : hNotIn (.p (.list xs)) (.ref k) s = if SeqAt.shaped (.list xs) && SeqAt.shaped (.list ys) then .ok (.p (.bool (!ys.any fun z => PyData.eqv z (.list xs)))) s else .bad := by
  unfold hNotIn hInB
  simp only []
  rw [toP_rf h]
  simp only [toP]
  cases SeqAt.shaped (.list xs) && SeqAt.shaped (.list ys) <;> simp
end

theorem seqY {P : RS → Prop} {K : En → Sto → RS} {X : RS} (Y : En → Sto → Prop) (hX : ∃ e s, X = .nx e s ∧ Y e s) (h : ∀ e s, Y e s → P (K e s)) : P (X.seq K) := by
  obtain ⟨e, s, rfl, y⟩ := hX
  exact h e s y
@[simp] theorem truB_rf {s : Sto} {k : Nat} : truB s (.ref k) = (lstAt s k).map fun ds => !ds.isEmpty := rfl
theorem lc_drawL {g : GV} {f : EV} {r : Sto} (Pp : D → PyData → Prop) (E : En → Prop) (xs : List D) (h : ∀ d ∈ xs, ∀ o, Row o → ∃ y o', Row o' ∧ Pp d y ∧ ∀ e, E e → ((g d e (o :: r)).bind fun e1 s => f e1 s) = .ok (.p y) (o' :: r)) (hz : xs.length ≤ sizeLine) (o : O) (ho : Row o) :
    ∃ (ys : List PyData) (o' : O), Row o' ∧ ys.length = xs.length ∧ (∀ y ∈ ys, ∃ d ∈ xs, Pp d y) ∧ ∀ e, E e → lcL g tYes f e xs [] (o :: r) = .ok (ys.map D.p) (o' :: r) := by
  obtain ⟨ys, o', h1, h2, h3, h4⟩ := lc_draw_go Pp E xs h o ho
  refine ⟨ys, o', h1, h2, h3, fun e he => ?_⟩
  rw [h4 [] e he (by simpa using hz)]
  simp
theorem ints_of {ys : List PyData} {p : Int → Prop} {Q : D → Prop} (h : ∀ y ∈ ys, ∃ d, Q d ∧ ∃ t : Int, y = .int t ∧ p t) : ∃ ts : List Int, ys = ts.map PyData.int ∧ ∀ t ∈ ts, p t := by
  induction ys with
  | nil => exact ⟨[], rfl, fun _ h => (List.not_mem_nil h).elim⟩
  | cons y ys ih =>
    obtain ⟨ts, rfl, q⟩ := ih fun y hy => h y (List.mem_cons_of_mem _ hy)
    obtain ⟨_, _, t, rfl, ht⟩ := h y List.mem_cons_self
    exact ⟨t :: ts, rfl, fun x hx => (List.mem_cons.mp hx).elim (fun e => e ▸ ht) (q x)⟩
theorem wipeE_get {e : En} {v i : Nat} (h : v ≠ i) : (wipeE e [v])[i]? = e[i]? := by
  unfold wipeE
  simp [List.getElem?_set_ne h, wipeE]
theorem wipeE_len {e : En} {v : Nat} : (wipeE e [v]).length = e.length := by
  unfold wipeE
  simp [wipeE]
end Dl
/-! The data layer: bodies that several laws share, as terms (printed by tm.py). -/
namespace Dl
open PySem
abbrev Cf := List D → Sto → R D
def wN : Nat := 100000000
def q_abc : Str := ⟨#[97, 98, 99]⟩
def q_add : Str := ⟨#[97, 100, 100]⟩
def q_all : Str := ⟨#[97, 108, 108]⟩
def q_any : Str := ⟨#[97, 110, 121]⟩
def q_both : Str := ⟨#[98, 111, 116, 104]⟩
def q_const : Str := ⟨#[99, 111, 110, 115, 116]⟩
def q_discard : Str := ⟨#[100, 105, 115, 99, 97, 114, 100]⟩
def q_either : Str := ⟨#[101, 105, 116, 104, 101, 114]⟩
def q_equals : Str := ⟨#[101, 113, 117, 97, 108, 115]⟩
def q_even : Str := ⟨#[101, 118, 101, 110]⟩
def q_flat : Str := ⟨#[102, 108, 97, 116]⟩
def q_grow : Str := ⟨#[103, 114, 111, 119]⟩
def q_keep : Str := ⟨#[107, 101, 101, 112]⟩
def q_less : Str := ⟨#[108, 101, 115, 115]⟩
def q_let : Str := ⟨#[108, 101, 116]⟩
def q_list : Str := ⟨#[108, 105, 115, 116]⟩
def q_map : Str := ⟨#[109, 97, 112]⟩
def q_mod : Str := ⟨#[109, 111, 100]⟩
def q_mul : Str := ⟨#[109, 117, 108]⟩
def q_not : Str := ⟨#[110, 111, 116]⟩
def q_pick : Str := ⟨#[112, 105, 99, 107]⟩
def q_range : Str := ⟨#[114, 97, 110, 103, 101]⟩
def q_reverse : Str := ⟨#[114, 101, 118, 101, 114, 115, 101]⟩
def q_rising : Str := ⟨#[114, 105, 115, 105, 110, 103]⟩
def q_self : Str := ⟨#[115, 101, 108, 102]⟩
def q_shuffle : Str := ⟨#[115, 104, 117, 102, 102, 108, 101]⟩
def q_size : Str := ⟨#[115, 105, 122, 101]⟩
def q_sort : Str := ⟨#[115, 111, 114, 116]⟩
def q_sum : Str := ⟨#[115, 117, 109]⟩
def q_tuple : Str := ⟨#[116, 117, 112, 108, 101]⟩
def q_upto : Str := ⟨#[117, 112, 116, 111]⟩
def q_var : Str := ⟨#[118, 97, 114]⟩
def q_weigh : Str := ⟨#[119, 101, 105, 103, 104]⟩
def q_x : Str := ⟨#[120]⟩
def q_y : Str := ⟨#[121]⟩
def k_MAX_SPAN : PyData := (.int 64)
def tm_c_is_value (f_c_is_value : Cf) : SV :=
  (sSeq (sIf (tTru (eIsi "bool" (eVar 0)))
  (sRet (eC (.bool false)))
  sNil)
  (sSeq (sIf (tTru (eIsi "int" (eVar 0)))
  (sRet (eC (.bool true)))
  sNil)
  (sSeq (sIf (tOr (tNot (tTru (eIsi "tuple" (eVar 0)))) (tOr (tB (eOp hEq (eVar 1) (eC (.int 0)))) (tB (eOp hGt (eBlt hLen (aCons (eVar 0) aNil)) (eC (.int 64))))))
  (sRet (eC (.bool false)))
  sNil)
  (sRet (eBlt hAll (aCons (eLc false [2] (iSeq (eVar 0)) (gSet 2) tYes (eCall f_c_is_value [] (aCons (eVar 2) (aCons (eOp hSub (eVar 1) (eC (.int 1))) aNil)))) aNil))))))
def tm_c_compare (f_c_compare : Cf) : SV :=
  (sSeq (sIf (tOr (tTru (eIsi "int" (eVar 0))) (tTru (eIsi "int" (eVar 1))))
  (sSeq (sIf (tAnd (tTru (eIsi "int" (eVar 0))) (tTru (eIsi "int" (eVar 1))))
  (sRet (eOp hSub (eBlt hInt (aCons (eOp hGt (eVar 0) (eVar 1)) aNil)) (eBlt hInt (aCons (eOp hLt (eVar 0) (eVar 1)) aNil))))
  sNil)
  (sRet (eIf (tTru (eIsi "int" (eVar 0))) (eNeg (eC (.int 1))) (eC (.int 1)))))
  sNil)
  (sSeq (sIf (tB (eOp hNe (eBlt hLen (aCons (eVar 0) aNil)) (eBlt hLen (aCons (eVar 1) aNil))))
  (sRet (eIf (tB (eOp hLt (eBlt hLen (aCons (eVar 0) aNil)) (eBlt hLen (aCons (eVar 1) aNil)))) (eNeg (eC (.int 1))) (eC (.int 1))))
  sNil)
  (sSeq (sFor (iZipD (eVar 0) (eVar 1)) (gTup 2 (gsCons (gSet 2) (gsCons (gSet 3) gsNil)))
  (sSeq (sSet 4 (eCall f_c_compare [] (aCons (eVar 2) (aCons (eVar 3) aNil))))
  (sIf (tB (eOp hNe (eVar 4) (eC (.int 0))))
  (sRet (eVar 4))
  sNil)))
  (sRet (eC (.int 0))))))
def tm_c_sum_of (f_c_sum_of : Cf) : SV :=
  (sSeq (sIf (tTru (eIsi "int" (eVar 0)))
  (sRet (eVar 0))
  sNil)
  (sRet (eBlt hSum (aCons (eLc false [1] (iSeq (eVar 0)) (gSet 1) tYes (eCall f_c_sum_of [] (aCons (eVar 1) aNil))) aNil))))
def tm_c_size_of : SV :=
  (sSeq (sIf (tTru (eIsi "int" (eVar 0)))
  (sRet (eC (.int 0)))
  sNil)
  (sRet (eBlt hLen (aCons (eVar 0) aNil))))
def tm_c_is_test (f_c_is_value : Cf) (f_c_is_test : Cf) : SV :=
  (sSeq (sIf (tOr (tNot (tTru (eIsi "tuple" (eVar 0)))) (tOr (tB (eOp hEq (eBlt hLen (aCons (eVar 0) aNil)) (eC (.int 0)))) (tB (eOp hEq (eVar 1) (eC (.int 0))))))
  (sRet (eC (.bool false)))
  sNil)
  (sSeq (sSet 2 (eOp hIx (eVar 0) (eC (.int 0))))
  (sSeq (sIf (tOr (tB (eOp hEq (eVar 2) (eC (.str q_even)))) (tB (eOp hEq (eVar 2) (eC (.str q_rising)))))
  (sRet (eOp hEq (eBlt hLen (aCons (eVar 0) aNil)) (eC (.int 1))))
  sNil)
  (sSeq (sIf (tB (eOp hLt (eBlt hLen (aCons (eVar 0) aNil)) (eC (.int 2))))
  (sRet (eC (.bool false)))
  sNil)
  (sSeq (sIf (tB (eOp hEq (eVar 2) (eC (.str q_equals))))
  (sRet (eAnd (eOp hEq (eBlt hLen (aCons (eVar 0) aNil)) (eC (.int 2))) (eCall f_c_is_value [.p (.int 8)] (aCons (eOp hIx (eVar 0) (eC (.int 1))) aNil))))
  sNil)
  (sSeq (sIf (tOr (tB (eOp hEq (eVar 2) (eC (.str q_less)))) (tB (eOp hEq (eVar 2) (eC (.str q_size)))))
  (sRet (eAnd (eOp hEq (eBlt hLen (aCons (eVar 0) aNil)) (eC (.int 2))) (eAnd (eIsi "int" (eOp hIx (eVar 0) (eC (.int 1)))) (eNot (eIsi "bool" (eOp hIx (eVar 0) (eC (.int 1))))))))
  sNil)
  (sSeq (sIf (tOr (tB (eOp hEq (eVar 2) (eC (.str q_not)))) (tOr (tB (eOp hEq (eVar 2) (eC (.str q_all)))) (tB (eOp hEq (eVar 2) (eC (.str q_any))))))
  (sRet (eAnd (eOp hEq (eBlt hLen (aCons (eVar 0) aNil)) (eC (.int 2))) (eCall f_c_is_test [] (aCons (eOp hIx (eVar 0) (eC (.int 1))) (aCons (eOp hSub (eVar 1) (eC (.int 1))) aNil)))))
  sNil)
  (sSeq (sIf (tOr (tB (eOp hEq (eVar 2) (eC (.str q_both)))) (tB (eOp hEq (eVar 2) (eC (.str q_either)))))
  (sRet (eAnd (eOp hEq (eBlt hLen (aCons (eVar 0) aNil)) (eC (.int 3))) (eAnd (eCall f_c_is_test [] (aCons (eOp hIx (eVar 0) (eC (.int 1))) (aCons (eOp hSub (eVar 1) (eC (.int 1))) aNil))) (eCall f_c_is_test [] (aCons (eOp hIx (eVar 0) (eC (.int 2))) (aCons (eOp hSub (eVar 1) (eC (.int 1))) aNil))))))
  sNil)
  (sRet (eC (.bool false)))))))))))
def tm_c_is_rising (f_c_compare : Cf) : SV :=
  (sSeq (sIf (tTru (eIsi "int" (eVar 0)))
  (sRet (eC (.bool true)))
  sNil)
  (sSeq (sFor (iRange2 (eC (.int 1)) (eBlt hLen (aCons (eVar 0) aNil))) (gSet 1)
  (sIf (tB (eOp hGt (eCall f_c_compare [] (aCons (eOp hIx (eVar 0) (eOp hSub (eVar 1) (eC (.int 1)))) (aCons (eOp hIx (eVar 0) (eVar 1)) aNil))) (eC (.int 0))))
  (sRet (eC (.bool false)))
  sNil))
  (sRet (eC (.bool true)))))
def tm_c_holds (f_c_compare : Cf) (f_c_sum_of : Cf) (f_c_size_of : Cf) (f_c_is_rising : Cf) (f_c_holds : Cf) : SV :=
  (sSeq (sSet 2 (eOp hIx (eVar 0) (eC (.int 0))))
  (sSeq (sIf (tB (eOp hEq (eVar 2) (eC (.str q_equals))))
  (sRet (eOp hEq (eCall f_c_compare [] (aCons (eOp hIx (eVar 0) (eC (.int 1))) (aCons (eVar 1) aNil))) (eC (.int 0))))
  sNil)
  (sSeq (sIf (tB (eOp hEq (eVar 2) (eC (.str q_less))))
  (sRet (eOp hLt (eCall f_c_sum_of [] (aCons (eVar 1) aNil)) (eOp hIx (eVar 0) (eC (.int 1)))))
  sNil)
  (sSeq (sIf (tB (eOp hEq (eVar 2) (eC (.str q_even))))
  (sRet (eOp hEq (eOp hMod (eCall f_c_sum_of [] (aCons (eVar 1) aNil)) (eC (.int 2))) (eC (.int 0))))
  sNil)
  (sSeq (sIf (tB (eOp hEq (eVar 2) (eC (.str q_size))))
  (sRet (eOp hEq (eCall f_c_size_of [] (aCons (eVar 1) aNil)) (eOp hIx (eVar 0) (eC (.int 1)))))
  sNil)
  (sSeq (sIf (tB (eOp hEq (eVar 2) (eC (.str q_rising))))
  (sRet (eCall f_c_is_rising [] (aCons (eVar 1) aNil)))
  sNil)
  (sSeq (sIf (tB (eOp hEq (eVar 2) (eC (.str q_not))))
  (sRet (eNot (eCall f_c_holds [] (aCons (eOp hIx (eVar 0) (eC (.int 1))) (aCons (eVar 1) aNil)))))
  sNil)
  (sSeq (sIf (tB (eOp hEq (eVar 2) (eC (.str q_both))))
  (sRet (eAnd (eCall f_c_holds [] (aCons (eOp hIx (eVar 0) (eC (.int 1))) (aCons (eVar 1) aNil))) (eCall f_c_holds [] (aCons (eOp hIx (eVar 0) (eC (.int 2))) (aCons (eVar 1) aNil)))))
  sNil)
  (sSeq (sIf (tB (eOp hEq (eVar 2) (eC (.str q_either))))
  (sRet (eOr (eCall f_c_holds [] (aCons (eOp hIx (eVar 0) (eC (.int 1))) (aCons (eVar 1) aNil))) (eCall f_c_holds [] (aCons (eOp hIx (eVar 0) (eC (.int 2))) (aCons (eVar 1) aNil)))))
  sNil)
  (sSeq (sIf (tTru (eIsi "int" (eVar 1)))
  (sRet (eCall f_c_holds [] (aCons (eOp hIx (eVar 0) (eC (.int 1))) (aCons (eVar 1) aNil))))
  sNil)
  (sSeq (sIf (tB (eOp hEq (eVar 2) (eC (.str q_all))))
  (sRet (eBlt hAll (aCons (eLc false [3] (iSeq (eVar 1)) (gSet 3) tYes (eCall f_c_holds [] (aCons (eOp hIx (eVar 0) (eC (.int 1))) (aCons (eVar 3) aNil)))) aNil)))
  sNil)
  (sRet (eBlt hAny (aCons (eLc false [3] (iSeq (eVar 1)) (gSet 3) tYes (eCall f_c_holds [] (aCons (eOp hIx (eVar 0) (eC (.int 1))) (aCons (eVar 3) aNil)))) aNil))))))))))))))
def tm_law_compare (f_law_compare : Cf) : SV :=
  (sSeq (sIf (tAnd (tTru (eIsi "int" (eVar 0))) (tTru (eIsi "int" (eVar 1))))
  (sRet (eOp hSub (eBlt hInt (aCons (eOp hGt (eVar 0) (eVar 1)) aNil)) (eBlt hInt (aCons (eOp hLt (eVar 0) (eVar 1)) aNil))))
  sNil)
  (sSeq (sIf (tOr (tTru (eIsi "int" (eVar 0))) (tTru (eIsi "int" (eVar 1))))
  (sRet (eIf (tTru (eIsi "int" (eVar 0))) (eNeg (eC (.int 1))) (eC (.int 1))))
  sNil)
  (sSeq (sIf (tB (eOp hNe (eBlt hLen (aCons (eVar 0) aNil)) (eBlt hLen (aCons (eVar 1) aNil))))
  (sRet (eIf (tB (eOp hLt (eBlt hLen (aCons (eVar 0) aNil)) (eBlt hLen (aCons (eVar 1) aNil)))) (eNeg (eC (.int 1))) (eC (.int 1))))
  sNil)
  (sSeq (sFor (iRange1 (eBlt hLen (aCons (eVar 0) aNil))) (gSet 2)
  (sSeq (sSet 3 (eCall f_law_compare [] (aCons (eOp hIx (eVar 0) (eVar 2)) (aCons (eOp hIx (eVar 1) (eVar 2)) aNil))))
  (sIf (tB (eOp hNe (eVar 3) (eC (.int 0))))
  (sRet (eVar 3))
  sNil)))
  (sRet (eC (.int 0)))))))
def tm_law_sum (f_law_sum : Cf) : SV :=
  (sSeq (sIf (tTru (eIsi "int" (eVar 0)))
  (sRet (eVar 0))
  sNil)
  (sRet (eBlt hSum (aCons (eLc false [1] (iSeq (eVar 0)) (gSet 1) tYes (eCall f_law_sum [] (aCons (eVar 1) aNil))) aNil))))
def tm_law_holds (f_law_sum : Cf) (f_law_compare : Cf) (f_law_holds : Cf) : SV :=
  (sSeq (sSet 2 (eOp hIx (eVar 0) (eC (.int 0))))
  (sSeq (sSet 3 (eIf (tTru (eIsi "int" (eVar 1))) (eLst false (aCons (eVar 1) aNil)) (eBlt (hList false) (aCons (eVar 1) aNil))))
  (sSeq (sIf (tB (eOp hEq (eVar 2) (eC (.str q_equals))))
  (sRet (eOp hEq (eOp hIx (eVar 0) (eC (.int 1))) (eVar 1)))
  sNil)
  (sSeq (sIf (tB (eOp hEq (eVar 2) (eC (.str q_less))))
  (sRet (eOp hLt (eCall f_law_sum [] (aCons (eVar 1) aNil)) (eOp hIx (eVar 0) (eC (.int 1)))))
  sNil)
  (sSeq (sIf (tB (eOp hEq (eVar 2) (eC (.str q_even))))
  (sRet (eOp hEq (eOp hMod (eBlt hInt (aCons (eCall f_law_sum [] (aCons (eVar 1) aNil)) aNil)) (eC (.int 2))) (eC (.int 0))))
  sNil)
  (sSeq (sIf (tB (eOp hEq (eVar 2) (eC (.str q_size))))
  (sRet (eOp hEq (eIf (tTru (eIsi "int" (eVar 1))) (eC (.int 0)) (eBlt hLen (aCons (eVar 1) aNil))) (eOp hIx (eVar 0) (eC (.int 1)))))
  sNil)
  (sSeq (sIf (tB (eOp hEq (eVar 2) (eC (.str q_rising))))
  (sRet (eOp hEq (eBlt hLen (aCons (eLc false [5] (iRange2 (eC (.int 1)) (eBlt hLen (aCons (eVar 3) aNil))) (gSet 5) (tB (eOp hGt (eCall f_law_compare [] (aCons (eOp hIx (eVar 3) (eOp hSub (eVar 5) (eC (.int 1)))) (aCons (eOp hIx (eVar 3) (eVar 5)) aNil))) (eC (.int 0)))) (eVar 5)) aNil)) (eC (.int 0))))
  sNil)
  (sSeq (sIf (tB (eOp hEq (eVar 2) (eC (.str q_not))))
  (sRet (eNot (eCall f_law_holds [] (aCons (eOp hIx (eVar 0) (eC (.int 1))) (aCons (eVar 1) aNil)))))
  sNil)
  (sSeq (sIf (tB (eOp hEq (eVar 2) (eC (.str q_both))))
  (sRet (eAnd (eCall f_law_holds [] (aCons (eOp hIx (eVar 0) (eC (.int 1))) (aCons (eVar 1) aNil))) (eCall f_law_holds [] (aCons (eOp hIx (eVar 0) (eC (.int 2))) (aCons (eVar 1) aNil)))))
  sNil)
  (sSeq (sIf (tB (eOp hEq (eVar 2) (eC (.str q_either))))
  (sRet (eOr (eCall f_law_holds [] (aCons (eOp hIx (eVar 0) (eC (.int 1))) (aCons (eVar 1) aNil))) (eCall f_law_holds [] (aCons (eOp hIx (eVar 0) (eC (.int 2))) (aCons (eVar 1) aNil)))))
  sNil)
  (sSeq (sSet 4 (eLc false [6] (iSeq (eVar 3)) (gSet 6) (tTru (eCall f_law_holds [] (aCons (eOp hIx (eVar 0) (eC (.int 1))) (aCons (eVar 6) aNil)))) (eVar 6)))
  (sSeq (sIf (tB (eOp hEq (eVar 2) (eC (.str q_all))))
  (sRet (eOp hEq (eBlt hLen (aCons (eVar 4) aNil)) (eBlt hLen (aCons (eVar 3) aNil))))
  sNil)
  (sRet (eOp hGt (eBlt hLen (aCons (eVar 4) aNil)) (eC (.int 0))))))))))))))))
def tm_c_parts_of : SV :=
  (sSeq (sSet 1 (eOp hIx (eVar 0) (eC (.int 0))))
  (sSeq (sIf (tOr (tB (eOp hEq (eVar 1) (eC (.str q_pick)))) (tB (eOp hEq (eVar 1) (eC (.str q_tuple)))))
  (sRet (eBlt (hList false) (aCons (eOp hIx (eVar 0) (eC (.int 1))) aNil)))
  sNil)
  (sSeq (sIf (tB (eOp hEq (eVar 1) (eC (.str q_weigh))))
  (sRet (eLc false [2] (iSeq (eOp hIx (eVar 0) (eC (.int 1)))) (gSet 2) tYes (eOp hIx (eVar 2) (eC (.int 1)))))
  sNil)
  (sSeq (sIf (tOr (tB (eOp hEq (eVar 1) (eC (.str q_list)))) (tB (eOp hEq (eVar 1) (eC (.str q_keep)))))
  (sRet (eLst false (aCons (eOp hIx (eVar 0) (eC (.int 3))) aNil)))
  sNil)
  (sSeq (sIf (tB (eOp hEq (eVar 1) (eC (.str q_map))))
  (sRet (eLst false (aCons (eOp hIx (eVar 0) (eC (.int 2))) aNil)))
  sNil)
  (sSeq (sIf (tOr (tB (eOp hEq (eVar 1) (eC (.str q_let)))) (tB (eOp hEq (eVar 1) (eC (.str q_grow)))))
  (sRet (eLst false (aCons (eOp hIx (eVar 0) (eC (.int 2))) (aCons (eOp hIx (eVar 0) (eC (.int 3))) aNil))))
  sNil)
  (sRet (eLst false aNil))))))))
def tm_c_with_parts : SV :=
  (sSeq (sSet 2 (eOp hIx (eVar 0) (eC (.int 0))))
  (sSeq (sIf (tOr (tB (eOp hEq (eVar 2) (eC (.str q_pick)))) (tB (eOp hEq (eVar 2) (eC (.str q_tuple)))))
  (sRet (eTup (aCons (eVar 2) (aCons (eBlt hTuple (aCons (eVar 1) aNil)) aNil))))
  sNil)
  (sSeq (sIf (tB (eOp hEq (eVar 2) (eC (.str q_weigh))))
  (sRet (eTup (aCons (eVar 2) (aCons (eBlt hTuple (aCons (eLc false [3] (iRange1 (eBlt hLen (aCons (eVar 1) aNil))) (gSet 3) tYes (eTup (aCons (eOp hIx (eOp hIx (eOp hIx (eVar 0) (eC (.int 1))) (eVar 3)) (eC (.int 0))) (aCons (eOp hIx (eVar 1) (eVar 3)) aNil)))) aNil)) aNil))))
  sNil)
  (sSeq (sIf (tOr (tB (eOp hEq (eVar 2) (eC (.str q_list)))) (tB (eOp hEq (eVar 2) (eC (.str q_keep)))))
  (sRet (eOp hAdd (eCut false (eVar 0) oNone (oSome (eC (.int 3)))) (eTup (aCons (eOp hIx (eVar 1) (eC (.int 0))) aNil))))
  sNil)
  (sSeq (sIf (tB (eOp hEq (eVar 2) (eC (.str q_map))))
  (sRet (eOp hAdd (eCut false (eVar 0) oNone (oSome (eC (.int 2)))) (eTup (aCons (eOp hIx (eVar 1) (eC (.int 0))) aNil))))
  sNil)
  (sSeq (sIf (tOr (tB (eOp hEq (eVar 2) (eC (.str q_let)))) (tB (eOp hEq (eVar 2) (eC (.str q_grow)))))
  (sRet (eOp hAdd (eCut false (eVar 0) oNone (oSome (eC (.int 2)))) (eTup (aCons (eOp hIx (eVar 1) (eC (.int 0))) (aCons (eOp hIx (eVar 1) (eC (.int 1))) aNil)))))
  sNil)
  (sRet (eVar 0))))))))
def tm_c_constant_for : SV :=
  (sSeq (sIf (tB (eOp hEq (eVar 0) (eC (.str q_var))))
  (sRet (eTup (aCons (eC (.str q_const)) (aCons (eVar 1) aNil))))
  sNil)
  (sSeq (sIf (tAnd (tTru (eIsi "int" (eVar 1))) (tB (eChain hLe hLt (eC (.int 0)) (eVar 1) (eC k_MAX_SPAN))))
  (sRet (eTup (aCons (eC (.str q_range)) (aCons (eC (.int 0)) (aCons (eVar 1) aNil)))))
  sNil)
  (sRet (eTup (aCons (eC (.str q_const)) (aCons (eC (.int 0)) aNil))))))
def tm_c_substitute (f_c_constant_for : Cf) (f_c_substitute : Cf) (f_c_with_parts : Cf) (f_c_parts_of : Cf) : SV :=
  (sSeq (sSet 3 (eOp hIx (eVar 0) (eC (.int 0))))
  (sSeq (sIf (tOr (tB (eOp hEq (eVar 3) (eC (.str q_var)))) (tB (eOp hEq (eVar 3) (eC (.str q_upto)))))
  (sRet (eIf (tB (eOp hEq (eOp hIx (eVar 0) (eC (.int 1))) (eVar 1))) (eCall f_c_constant_for [] (aCons (eVar 3) (aCons (eVar 2) aNil))) (eVar 0)))
  sNil)
  (sSeq (sIf (tAnd (tB (eOp hEq (eVar 3) (eC (.str q_let)))) (tB (eOp hEq (eOp hIx (eVar 0) (eC (.int 1))) (eVar 1))))
  (sRet (eOp hAdd (eCut false (eVar 0) oNone (oSome (eC (.int 2)))) (eTup (aCons (eCall f_c_substitute [] (aCons (eOp hIx (eVar 0) (eC (.int 2))) (aCons (eVar 1) (aCons (eVar 2) aNil)))) (aCons (eOp hIx (eVar 0) (eC (.int 3))) aNil)))))
  sNil)
  (sRet (eCall f_c_with_parts [] (aCons (eVar 0) (aCons (eLc false [4] (iSeq (eCall f_c_parts_of [] (aCons (eVar 0) aNil))) (gSet 4) tYes (eCall f_c_substitute [] (aCons (eVar 4) (aCons (eVar 1) (aCons (eVar 2) aNil))))) aNil)))))))
def tm_c_replace_self (f_c_replace_self : Cf) (f_c_with_parts : Cf) (f_c_parts_of : Cf) : SV :=
  (sSeq (sSet 2 (eOp hIx (eVar 0) (eC (.int 0))))
  (sSeq (sIf (tB (eOp hEq (eVar 2) (eC (.str q_self))))
  (sRet (eVar 1))
  sNil)
  (sSeq (sIf (tB (eOp hEq (eVar 2) (eC (.str q_grow))))
  (sRet (eOp hAdd (eCut false (eVar 0) oNone (oSome (eC (.int 2)))) (eTup (aCons (eCall f_c_replace_self [] (aCons (eOp hIx (eVar 0) (eC (.int 2))) (aCons (eVar 1) aNil))) (aCons (eOp hIx (eVar 0) (eC (.int 3))) aNil)))))
  sNil)
  (sRet (eCall f_c_with_parts [] (aCons (eVar 0) (aCons (eLc false [3] (iSeq (eCall f_c_parts_of [] (aCons (eVar 0) aNil))) (gSet 3) tYes (eCall f_c_replace_self [] (aCons (eVar 3) (aCons (eVar 1) aNil)))) aNil)))))))
def tm_c_unfolded (f_c_replace_self : Cf) : SV :=
  (sSeq (sIf (tB (eOp hEq (eOp hIx (eVar 0) (eC (.int 1))) (eC (.int 0))))
  (sRet (eOp hIx (eVar 0) (eC (.int 2))))
  sNil)
  (sRet (eCall f_c_replace_self [] (aCons (eOp hIx (eVar 0) (eC (.int 3))) (aCons (eTup (aCons (eC (.str q_grow)) (aCons (eOp hSub (eOp hIx (eVar 0) (eC (.int 1))) (eC (.int 1))) (aCons (eOp hIx (eVar 0) (eC (.int 2))) (aCons (eOp hIx (eVar 0) (eC (.int 3))) aNil))))) aNil)))))
def tm_c_uses (f_c_uses : Cf) (f_c_parts_of : Cf) : SV :=
  (sSeq (sSet 2 (eOp hIx (eVar 0) (eC (.int 0))))
  (sSeq (sIf (tOr (tB (eOp hEq (eVar 2) (eC (.str q_var)))) (tB (eOp hEq (eVar 2) (eC (.str q_upto)))))
  (sRet (eOp hEq (eOp hIx (eVar 0) (eC (.int 1))) (eVar 1)))
  sNil)
  (sSeq (sIf (tAnd (tB (eOp hEq (eVar 2) (eC (.str q_let)))) (tB (eOp hEq (eOp hIx (eVar 0) (eC (.int 1))) (eVar 1))))
  (sRet (eCall f_c_uses [] (aCons (eOp hIx (eVar 0) (eC (.int 2))) (aCons (eVar 1) aNil))))
  sNil)
  (sRet (eBlt hAny (aCons (eLc false [3] (iSeq (eCall f_c_parts_of [] (aCons (eVar 0) aNil))) (gSet 3) tYes (eCall f_c_uses [] (aCons (eVar 3) (aCons (eVar 1) aNil)))) aNil))))))
def tm_c_is_closed (f_c_is_closed : Cf) (f_c_parts_of : Cf) : SV :=
  (sSeq (sSet 2 (eOp hIx (eVar 0) (eC (.int 0))))
  (sSeq (sIf (tOr (tB (eOp hEq (eVar 2) (eC (.str q_var)))) (tB (eOp hEq (eVar 2) (eC (.str q_upto)))))
  (sRet (eOp hIn (eOp hIx (eVar 0) (eC (.int 1))) (eVar 1)))
  sNil)
  (sSeq (sIf (tB (eOp hEq (eVar 2) (eC (.str q_let))))
  (sRet (eAnd (eCall f_c_is_closed [] (aCons (eOp hIx (eVar 0) (eC (.int 2))) (aCons (eVar 1) aNil))) (eCall f_c_is_closed [] (aCons (eOp hIx (eVar 0) (eC (.int 3))) (aCons (eOp hAdd (eVar 1) (eTup (aCons (eOp hIx (eVar 0) (eC (.int 1))) aNil))) aNil)))))
  sNil)
  (sRet (eBlt hAll (aCons (eLc false [3] (iSeq (eCall f_c_parts_of [] (aCons (eVar 0) aNil))) (gSet 3) tYes (eCall f_c_is_closed [] (aCons (eVar 3) (aCons (eVar 1) aNil)))) aNil))))))
def tm_law_value (f_law_take : Cf) (f_law_value : Cf) : SV :=
  (sSeq (sIf (tOr (tB (eOp hEq (eVar 1) (eC (.int 0)))) (tB (eOp hGt (eCall f_law_take [] (aCons (eVar 0) (aCons (eC (.int 3)) aNil))) (eC (.int 0)))))
  (sRet (eOp hSub (eCall f_law_take [] (aCons (eVar 0) (aCons (eC (.int 5)) aNil))) (eC (.int 1))))
  sNil)
  (sRet (eBlt hTuple (aCons (eLc false [2] (iRange1 (eCall f_law_take [] (aCons (eVar 0) (aCons (eC (.int 4)) aNil)))) (gSet 2) tYes (eCall f_law_value [] (aCons (eVar 0) (aCons (eOp hSub (eVar 1) (eC (.int 1))) aNil)))) aNil))))
def tm_law_test (f_law_take : Cf) (f_law_test : Cf) (f_law_value : Cf) : SV :=
  (sSeq (sSet 2 (eCall f_law_take [] (aCons (eVar 0) (aCons (eC (.int 9)) aNil))))
  (sSeq (sIf (tAnd (tB (eOp hGt (eVar 1) (eC (.int 0)))) (tB (eOp hLt (eVar 2) (eC (.int 3)))))
  (sRet (eTup (aCons (eOp hIx (eLst false (aCons (eC (.str q_not)) (aCons (eC (.str q_all)) (aCons (eC (.str q_any)) aNil)))) (eVar 2)) (aCons (eCall f_law_test [] (aCons (eVar 0) (aCons (eOp hSub (eVar 1) (eC (.int 1))) aNil))) aNil))))
  sNil)
  (sSeq (sIf (tAnd (tB (eOp hGt (eVar 1) (eC (.int 0)))) (tB (eOp hLt (eVar 2) (eC (.int 5)))))
  (sRet (eTup (aCons (eOp hIx (eLst false (aCons (eC (.str q_both)) (aCons (eC (.str q_either)) aNil))) (eOp hSub (eVar 2) (eC (.int 3)))) (aCons (eCall f_law_test [] (aCons (eVar 0) (aCons (eOp hSub (eVar 1) (eC (.int 1))) aNil))) (aCons (eCall f_law_test [] (aCons (eVar 0) (aCons (eOp hSub (eVar 1) (eC (.int 1))) aNil))) aNil)))))
  sNil)
  (sSeq (sIf (tB (eOp hEq (eVar 2) (eC (.int 5))))
  (sRet (eTup (aCons (eC (.str q_equals)) (aCons (eCall f_law_value [] (aCons (eVar 0) (aCons (eC (.int 1)) aNil))) aNil))))
  sNil)
  (sSeq (sIf (tB (eOp hEq (eVar 2) (eC (.int 6))))
  (sRet (eTup (aCons (eC (.str q_size)) (aCons (eCall f_law_take [] (aCons (eVar 0) (aCons (eC (.int 4)) aNil))) aNil))))
  sNil)
  (sSeq (sIf (tB (eOp hEq (eVar 2) (eC (.int 7))))
  (sRet (eOp hIx (eLst false (aCons (eTup (aCons (eC (.str q_even)) aNil)) (aCons (eTup (aCons (eC (.str q_rising)) aNil)) aNil))) (eCall f_law_take [] (aCons (eVar 0) (aCons (eC (.int 2)) aNil)))))
  sNil)
  (sRet (eTup (aCons (eC (.str q_less)) (aCons (eCall f_law_take [] (aCons (eVar 0) (aCons (eC (.int 6)) aNil))) aNil))))))))))
def tm_law_operation (f_law_take : Cf) : SV :=
  (sSeq (sSet 1 (eCall f_law_take [] (aCons (eVar 0) (aCons (eC (.int 7)) aNil))))
  (sSeq (sIf (tB (eOp hLt (eVar 1) (eC (.int 3))))
  (sRet (eTup (aCons (eOp hIx (eLst false (aCons (eC (.str q_add)) (aCons (eC (.str q_mul)) (aCons (eC (.str q_mod)) aNil)))) (eVar 1)) (aCons (eOp hAdd (eC (.int 1)) (eCall f_law_take [] (aCons (eVar 0) (aCons (eC (.int 3)) aNil)))) aNil))))
  sNil)
  (sRet (eTup (aCons (eOp hIx (eLst false (aCons (eC (.str q_sum)) (aCons (eC (.str q_size)) (aCons (eC (.str q_sort)) (aCons (eC (.str q_reverse)) (aCons (eC (.str q_flat)) aNil)))))) (eCall f_law_take [] (aCons (eVar 0) (aCons (eC (.int 5)) aNil)))) aNil)))))
def tm_law_leaf (f_law_take : Cf) (f_law_value : Cf) : SV :=
  (sSeq (sSet 3 (eCall f_law_take [] (aCons (eVar 0) (aCons (eC (.int 7)) aNil))))
  (sSeq (sIf (tAnd (tB (eOp hEq (eVar 3) (eC (.int 0)))) (tTru (eVar 2)))
  (sRet (eTup (aCons (eC (.str q_self)) aNil)))
  sNil)
  (sSeq (sIf (tAnd (tB (eOp hEq (eVar 3) (eC (.int 1)))) (tB (eOp hGt (eBlt hLen (aCons (eVar 1) aNil)) (eC (.int 0)))))
  (sRet (eTup (aCons (eOp hIx (eLst false (aCons (eC (.str q_var)) (aCons (eC (.str q_upto)) aNil))) (eCall f_law_take [] (aCons (eVar 0) (aCons (eC (.int 2)) aNil)))) (aCons (eOp hIx (eVar 1) (eCall f_law_take [] (aCons (eVar 0) (aCons (eBlt hLen (aCons (eVar 1) aNil)) aNil)))) aNil))))
  sNil)
  (sSeq (sIf (tB (eOp hEq (eVar 3) (eC (.int 2))))
  (sSeq (sSet 4 (eOp hSub (eCall f_law_take [] (aCons (eVar 0) (aCons (eC (.int 4)) aNil))) (eC (.int 1))))
  (sRet (eTup (aCons (eC (.str q_range)) (aCons (eVar 4) (aCons (eOp hAdd (eVar 4) (eCall f_law_take [] (aCons (eVar 0) (aCons (eC (.int 3)) aNil)))) aNil))))))
  sNil)
  (sSeq (sIf (tB (eOp hEq (eVar 3) (eC (.int 3))))
  (sRet (eTup (aCons (eC (.str q_shuffle)) (aCons (eBlt hTuple (aCons (eLc false [5] (iRange1 (eCall f_law_take [] (aCons (eVar 0) (aCons (eC (.int 5)) aNil)))) (gSet 5) tYes (eCall f_law_take [] (aCons (eVar 0) (aCons (eC (.int 3)) aNil)))) aNil)) aNil))))
  sNil)
  (sSeq (sIf (tAnd (tB (eOp hEq (eVar 3) (eC (.int 4)))) (tB (eOp hEq (eCall f_law_take [] (aCons (eVar 0) (aCons (eC (.int 3)) aNil))) (eC (.int 0)))))
  (sRet (eTup (aCons (eC (.str q_discard)) aNil)))
  sNil)
  (sRet (eTup (aCons (eC (.str q_const)) (aCons (eCall f_law_value [] (aCons (eVar 0) (aCons (eC (.int 1)) aNil))) aNil))))))))))
def tm_law_term (f_law_take : Cf) (f_law_leaf : Cf) (f_law_term : Cf) (f_law_operation : Cf) (f_law_test : Cf) : SV :=
  (sSeq (sSet 4 (eCall f_law_take [] (aCons (eVar 0) (aCons (eC (.int 10)) aNil))))
  (sSeq (sIf (tOr (tB (eOp hEq (eVar 1) (eC (.int 0)))) (tB (eOp hLt (eVar 4) (eC (.int 2)))))
  (sRet (eCall f_law_leaf [] (aCons (eVar 0) (aCons (eVar 2) (aCons (eVar 3) aNil)))))
  sNil)
  (sSeq (sSet 5 (eCall f_law_term [] (aCons (eVar 0) (aCons (eOp hSub (eVar 1) (eC (.int 1))) (aCons (eVar 2) (aCons (eVar 3) aNil))))))
  (sSeq (sIf (tB (eOp hEq (eVar 4) (eC (.int 2))))
  (sRet (eTup (aCons (eC (.str q_map)) (aCons (eCall f_law_operation [] (aCons (eVar 0) aNil)) (aCons (eVar 5) aNil)))))
  sNil)
  (sSeq (sIf (tB (eOp hEq (eVar 4) (eC (.int 3))))
  (sRet (eTup (aCons (eC (.str q_keep)) (aCons (eCall f_law_test [] (aCons (eVar 0) (aCons (eC (.int 1)) aNil))) (aCons (eOp hAdd (eC (.int 1)) (eCall f_law_take [] (aCons (eVar 0) (aCons (eC (.int 3)) aNil)))) (aCons (eVar 5) aNil))))))
  sNil)
  (sSeq (sIf (tB (eOp hEq (eVar 4) (eC (.int 4))))
  (sSeq (sSet 6 (eCall f_law_take [] (aCons (eVar 0) (aCons (eC (.int 2)) aNil))))
  (sRet (eTup (aCons (eC (.str q_list)) (aCons (eVar 6) (aCons (eOp hAdd (eVar 6) (eCall f_law_take [] (aCons (eVar 0) (aCons (eC (.int 3)) aNil)))) (aCons (eVar 5) aNil)))))))
  sNil)
  (sSeq (sIf (tB (eOp hEq (eVar 4) (eC (.int 5))))
  (sSeq (sSet 7 (eOp hIx (eLst false (aCons (eC (.str q_x)) (aCons (eC (.str q_y)) (aCons (eC (.str q_abc)) aNil)))) (eCall f_law_take [] (aCons (eVar 0) (aCons (eC (.int 3)) aNil)))))
  (sRet (eTup (aCons (eC (.str q_let)) (aCons (eVar 7) (aCons (eVar 5) (aCons (eCall f_law_term [] (aCons (eVar 0) (aCons (eOp hSub (eVar 1) (eC (.int 1))) (aCons (eOp hAdd (eVar 2) (eLst false (aCons (eVar 7) aNil))) (aCons (eVar 3) aNil))))) aNil)))))))
  sNil)
  (sSeq (sIf (tB (eOp hEq (eVar 4) (eC (.int 6))))
  (sRet (eTup (aCons (eC (.str q_grow)) (aCons (eCall f_law_take [] (aCons (eVar 0) (aCons (eC (.int 4)) aNil))) (aCons (eVar 5) (aCons (eCall f_law_term [] (aCons (eVar 0) (aCons (eOp hSub (eVar 1) (eC (.int 1))) (aCons (eVar 2) (aCons (eC (.bool true)) aNil))))) aNil))))))
  sNil)
  (sSeq (sSet 8 (eCall f_law_term [] (aCons (eVar 0) (aCons (eOp hSub (eVar 1) (eC (.int 1))) (aCons (eVar 2) (aCons (eVar 3) aNil))))))
  (sSeq (sIf (tB (eOp hEq (eVar 4) (eC (.int 7))))
  (sRet (eTup (aCons (eC (.str q_pick)) (aCons (eCut false (eTup (aCons (eVar 5) (aCons (eVar 8) (aCons (eVar 5) aNil)))) oNone (oSome (eOp hAdd (eC (.int 1)) (eCall f_law_take [] (aCons (eVar 0) (aCons (eC (.int 3)) aNil)))))) aNil))))
  sNil)
  (sSeq (sIf (tB (eOp hEq (eVar 4) (eC (.int 8))))
  (sSeq (sSet 9 (eTup (aCons (eTup (aCons (eOp hAdd (eC (.int 1)) (eCall f_law_take [] (aCons (eVar 0) (aCons (eC (.int 3)) aNil)))) (aCons (eVar 5) aNil))) (aCons (eTup (aCons (eOp hAdd (eC (.int 1)) (eCall f_law_take [] (aCons (eVar 0) (aCons (eC (.int 3)) aNil)))) (aCons (eVar 8) aNil))) (aCons (eTup (aCons (eOp hAdd (eC (.int 1)) (eCall f_law_take [] (aCons (eVar 0) (aCons (eC (.int 2)) aNil)))) (aCons (eVar 5) aNil))) aNil)))))
  (sRet (eTup (aCons (eC (.str q_weigh)) (aCons (eCut false (eVar 9) oNone (oSome (eOp hAdd (eC (.int 1)) (eCall f_law_take [] (aCons (eVar 0) (aCons (eC (.int 3)) aNil)))))) aNil)))))
  sNil)
  (sRet (eTup (aCons (eC (.str q_tuple)) (aCons (eCut false (eTup (aCons (eVar 5) (aCons (eVar 8) (aCons (eVar 5) aNil)))) oNone (oSome (eCall f_law_take [] (aCons (eVar 0) (aCons (eC (.int 4)) aNil))))) aNil)))))))))))))))
def tm_law_put (f_law_put : Cf) : SV :=
  (sSeq (sSet 3 (eOp hIx (eVar 0) (eC (.int 0))))
  (sSeq (sIf (tB (eOp hEq (eVar 1) (eC (.str q_self))))
  (sSeq (sIf (tB (eOp hEq (eVar 3) (eC (.str q_self))))
  (sRet (eVar 2))
  sNil)
  (sIf (tB (eOp hEq (eVar 3) (eC (.str q_grow))))
  (sRet (eTup (aCons (eVar 3) (aCons (eOp hIx (eVar 0) (eC (.int 1))) (aCons (eCall f_law_put [] (aCons (eOp hIx (eVar 0) (eC (.int 2))) (aCons (eVar 1) (aCons (eVar 2) aNil)))) (aCons (eOp hIx (eVar 0) (eC (.int 3))) aNil))))))
  sNil))
  (sIf (tAnd (tB (eOp hEq (eVar 3) (eC (.str q_var)))) (tB (eOp hEq (eOp hIx (eVar 0) (eC (.int 1))) (eVar 1))))
  (sRet (eTup (aCons (eC (.str q_const)) (aCons (eVar 2) aNil))))
  (sIf (tAnd (tB (eOp hEq (eVar 3) (eC (.str q_upto)))) (tB (eOp hEq (eOp hIx (eVar 0) (eC (.int 1))) (eVar 1))))
  (sSeq (sIf (tAnd (tTru (eIsi "int" (eVar 2))) (tB (eChain hLe hLe (eC (.int 0)) (eVar 2) (eC (.int 63)))))
  (sRet (eTup (aCons (eC (.str q_range)) (aCons (eC (.int 0)) (aCons (eVar 2) aNil)))))
  sNil)
  (sRet (eTup (aCons (eC (.str q_const)) (aCons (eC (.int 0)) aNil)))))
  (sIf (tAnd (tB (eOp hEq (eVar 3) (eC (.str q_let)))) (tB (eOp hEq (eOp hIx (eVar 0) (eC (.int 1))) (eVar 1))))
  (sRet (eTup (aCons (eVar 3) (aCons (eVar 1) (aCons (eCall f_law_put [] (aCons (eOp hIx (eVar 0) (eC (.int 2))) (aCons (eVar 1) (aCons (eVar 2) aNil)))) (aCons (eOp hIx (eVar 0) (eC (.int 3))) aNil))))))
  sNil))))
  (sSeq (sIf (tOr (tB (eOp hEq (eVar 3) (eC (.str q_pick)))) (tB (eOp hEq (eVar 3) (eC (.str q_tuple)))))
  (sRet (eTup (aCons (eVar 3) (aCons (eBlt hTuple (aCons (eLc false [5] (iSeq (eOp hIx (eVar 0) (eC (.int 1)))) (gSet 5) tYes (eCall f_law_put [] (aCons (eVar 5) (aCons (eVar 1) (aCons (eVar 2) aNil))))) aNil)) aNil))))
  sNil)
  (sSeq (sIf (tB (eOp hEq (eVar 3) (eC (.str q_weigh))))
  (sRet (eTup (aCons (eVar 3) (aCons (eBlt hTuple (aCons (eLc false [4] (iSeq (eOp hIx (eVar 0) (eC (.int 1)))) (gSet 4) tYes (eTup (aCons (eOp hIx (eVar 4) (eC (.int 0))) (aCons (eCall f_law_put [] (aCons (eOp hIx (eVar 4) (eC (.int 1))) (aCons (eVar 1) (aCons (eVar 2) aNil)))) aNil)))) aNil)) aNil))))
  sNil)
  (sSeq (sIf (tB (eOp hIn (eVar 3) (eTup (aCons (eC (.str q_list)) (aCons (eC (.str q_keep)) (aCons (eC (.str q_map)) aNil))))))
  (sRet (eOp hAdd (eCut false (eVar 0) oNone (oSome (eNeg (eC (.int 1))))) (eTup (aCons (eCall f_law_put [] (aCons (eOp hIx (eVar 0) (eNeg (eC (.int 1)))) (aCons (eVar 1) (aCons (eVar 2) aNil)))) aNil))))
  sNil)
  (sSeq (sIf (tOr (tB (eOp hEq (eVar 3) (eC (.str q_let)))) (tB (eOp hEq (eVar 3) (eC (.str q_grow)))))
  (sRet (eOp hAdd (eCut false (eVar 0) oNone (oSome (eC (.int 2)))) (eTup (aCons (eCall f_law_put [] (aCons (eOp hIx (eVar 0) (eC (.int 2))) (aCons (eVar 1) (aCons (eVar 2) aNil)))) (aCons (eCall f_law_put [] (aCons (eOp hIx (eVar 0) (eC (.int 3))) (aCons (eVar 1) (aCons (eVar 2) aNil)))) aNil)))))
  sNil)
  (sRet (eVar 0))))))))
def tm_law_free (f_law_free : Cf) : SV :=
  (sSeq (sSet 1 (eOp hIx (eVar 0) (eC (.int 0))))
  (sSeq (sIf (tOr (tB (eOp hEq (eVar 1) (eC (.str q_var)))) (tB (eOp hEq (eVar 1) (eC (.str q_upto)))))
  (sRet (eLst false (aCons (eOp hIx (eVar 0) (eC (.int 1))) aNil)))
  sNil)
  (sSeq (sIf (tOr (tB (eOp hEq (eVar 1) (eC (.str q_pick)))) (tB (eOp hEq (eVar 1) (eC (.str q_tuple)))))
  (sSet 2 (eBlt (hList false) (aCons (eOp hIx (eVar 0) (eC (.int 1))) aNil)))
  (sIf (tB (eOp hEq (eVar 1) (eC (.str q_weigh))))
  (sSet 2 (eLc false [6] (iSeq (eOp hIx (eVar 0) (eC (.int 1)))) (gSet 6) tYes (eOp hIx (eVar 6) (eC (.int 1)))))
  (sIf (tB (eOp hIn (eVar 1) (eTup (aCons (eC (.str q_list)) (aCons (eC (.str q_keep)) (aCons (eC (.str q_map)) aNil))))))
  (sSet 2 (eLst false (aCons (eOp hIx (eVar 0) (eNeg (eC (.int 1)))) aNil)))
  (sIf (tB (eOp hEq (eVar 1) (eC (.str q_let))))
  (sRet (eOp hAdd (eCall f_law_free [] (aCons (eOp hIx (eVar 0) (eC (.int 2))) aNil)) (eLc false [5] (iSeq (eCall f_law_free [] (aCons (eOp hIx (eVar 0) (eC (.int 3))) aNil))) (gSet 5) (tB (eOp hNe (eVar 5) (eOp hIx (eVar 0) (eC (.int 1))))) (eVar 5))))
  (sIf (tB (eOp hEq (eVar 1) (eC (.str q_grow))))
  (sSet 2 (eLst false (aCons (eOp hIx (eVar 0) (eC (.int 2))) (aCons (eOp hIx (eVar 0) (eC (.int 3))) aNil))))
  (sSet 2 (eLst false aNil)))))))
  (sSeq (sSet 3 (eLst true aNil))
  (sSeq (sFor (iSeq (eVar 2)) (gSet 4)
  (sExpr (eMeL hExtend (eVar 3) (aCons (eCall f_law_free [] (aCons (eVar 4) aNil)) aNil))))
  (sRet (eVar 3)))))))
end Dl
/-! The data layer: bodies that several laws share, as terms (printed by tm.py). -/
namespace Dl
open PySem
def tm_c_place_of (f_c_compare : Cf) : SV :=
  (sSeq (sSet 2 (eC (.int 0)))
  (sSeq (sSet 3 (eBlt hLen (aCons (eVar 1) aNil)))
  (sSeq (sWhile wN (tB (eOp hLt (eVar 2) (eVar 3)))
  (sSeq (sSet 4 (eOp hDiv (eOp hAdd (eVar 2) (eVar 3)) (eC (.int 2))))
  (sIf (tB (eOp hLt (eCall f_c_compare [] (aCons (eOp hIx (eVar 1) (eVar 4)) (aCons (eVar 0) aNil))) (eC (.int 0))))
  (sSet 2 (eOp hAdd (eVar 4) (eC (.int 1))))
  (sSet 3 (eVar 4)))))
  (sRet (eVar 2)))))
def tm_c_ascending (f_c_place_of : Cf) : SV :=
  (sSeq (sSet 1 (eLst true aNil))
  (sSeq (sFor (iSeq (eVar 0)) (gSet 2)
  (sExpr (eMeL hInsert (eVar 1) (aCons (eCall f_c_place_of [] (aCons (eVar 2) (aCons (eVar 1) aNil))) (aCons (eVar 2) aNil)))))
  (sRet (eVar 1))))
def tm_c_each (f_c_each : Cf) : SV :=
  (sSeq (sIf (tTru (eIsi "int" (eVar 0)))
  (sSeq (sIf (tB (eOp hEq (eVar 1) (eC (.str q_add))))
  (sRet (eOp hAdd (eVar 0) (eVar 2)))
  sNil)
  (sSeq (sIf (tB (eOp hEq (eVar 1) (eC (.str q_mul))))
  (sRet (eOp hMul (eVar 0) (eVar 2)))
  sNil)
  (sRet (eOp hMod (eVar 0) (eVar 2)))))
  sNil)
  (sRet (eBlt hTuple (aCons (eLc false [3] (iSeq (eVar 0)) (gSet 3) tYes (eCall f_c_each [] (aCons (eVar 3) (aCons (eVar 1) (aCons (eVar 2) aNil))))) aNil))))
def tm_c_flat : SV :=
  (sSeq (sSet 1 (eLst true aNil))
  (sSeq (sFor (iSeq (eVar 0)) (gSet 2)
  (sIf (tTru (eIsi "int" (eVar 2)))
  (sExpr (eMeL hAppend (eVar 1) (aCons (eVar 2) aNil)))
  (sExpr (eMeL hExtend (eVar 1) (aCons (eVar 2) aNil)))))
  (sRet (eBlt hTuple (aCons (eVar 1) aNil)))))
def tm_c_apply (f_c_each : Cf) (f_c_sum_of : Cf) (f_c_size_of : Cf) (f_c_ascending : Cf) (f_c_flat : Cf) : SV :=
  (sSeq (sSet 2 (eOp hIx (eVar 0) (eC (.int 0))))
  (sSeq (sIf (tB (eOp hIn (eVar 2) (eTup (aCons (eC (.str q_add)) (aCons (eC (.str q_mul)) (aCons (eC (.str q_mod)) aNil))))))
  (sRet (eCall f_c_each [] (aCons (eVar 1) (aCons (eVar 2) (aCons (eOp hIx (eVar 0) (eC (.int 1))) aNil)))))
  sNil)
  (sSeq (sIf (tB (eOp hEq (eVar 2) (eC (.str q_sum))))
  (sRet (eCall f_c_sum_of [] (aCons (eVar 1) aNil)))
  sNil)
  (sSeq (sIf (tB (eOp hEq (eVar 2) (eC (.str q_size))))
  (sRet (eCall f_c_size_of [] (aCons (eVar 1) aNil)))
  sNil)
  (sSeq (sIf (tTru (eIsi "int" (eVar 1)))
  (sRet (eVar 1))
  sNil)
  (sSeq (sIf (tB (eOp hEq (eVar 2) (eC (.str q_sort))))
  (sRet (eBlt hTuple (aCons (eCall f_c_ascending [] (aCons (eVar 1) aNil)) aNil)))
  sNil)
  (sSeq (sIf (tB (eOp hEq (eVar 2) (eC (.str q_reverse))))
  (sRet (eRev (eVar 1)))
  sNil)
  (sRet (eCall f_c_flat [] (aCons (eVar 1) aNil))))))))))
def tm_law_each (f_law_each : Cf) : SV :=
  (sSeq (sIf (tTru (eIsi "int" (eVar 0)))
  (sSeq (sIf (tB (eOp hEq (eVar 1) (eC (.str q_add))))
  (sRet (eOp hAdd (eVar 0) (eVar 2)))
  sNil)
  (sSeq (sIf (tB (eOp hEq (eVar 1) (eC (.str q_mul))))
  (sRet (eOp hMul (eVar 0) (eVar 2)))
  sNil)
  (sRet (eOp hMod (eBlt hInt (aCons (eVar 0) aNil)) (eVar 2)))))
  sNil)
  (sRet (eBlt hTuple (aCons (eLc false [3] (iSeq (eVar 0)) (gSet 3) tYes (eCall f_law_each [] (aCons (eVar 3) (aCons (eVar 1) (aCons (eVar 2) aNil))))) aNil))))
def tm_law_sorted (f_law_compare : Cf) : SV :=
  (sSeq (sSet 1 (eBlt (hList false) (aCons (eVar 0) aNil)))
  (sSeq (sSet 2 (eLst true aNil))
  (sSeq (sFor (iRange1 (eBlt hLen (aCons (eVar 0) aNil))) (gSet 3)
  (sSeq (sSet 4 (eC (.int 0)))
  (sSeq (sFor (iRange1 (eBlt hLen (aCons (eVar 1) aNil))) (gSet 5)
  (sIf (tB (eOp hLt (eCall f_law_compare [] (aCons (eOp hIx (eVar 1) (eVar 5)) (aCons (eOp hIx (eVar 1) (eVar 4)) aNil))) (eC (.int 0))))
  (sSet 4 (eVar 5))
  sNil))
  (sSeq (sExpr (eMeL hAppend (eVar 2) (aCons (eOp hIx (eVar 1) (eVar 4)) aNil)))
  (sSet 1 (eOp hAdd (eCut false (eVar 1) oNone (oSome (eVar 4))) (eCut false (eVar 1) (oSome (eOp hAdd (eVar 4) (eC (.int 1)))) oNone)))))))
  (sRet (eVar 2)))))
def tm_law_apply (f_law_each : Cf) (f_law_sum : Cf) (f_law_sorted : Cf) : SV :=
  (sSeq (sSet 2 (eOp hIx (eVar 0) (eC (.int 0))))
  (sSeq (sIf (tB (eOp hEq (eBlt hLen (aCons (eVar 0) aNil)) (eC (.int 2))))
  (sRet (eCall f_law_each [] (aCons (eVar 1) (aCons (eVar 2) (aCons (eOp hIx (eVar 0) (eC (.int 1))) aNil)))))
  sNil)
  (sSeq (sIf (tB (eOp hEq (eVar 2) (eC (.str q_sum))))
  (sRet (eCall f_law_sum [] (aCons (eVar 1) aNil)))
  sNil)
  (sSeq (sIf (tB (eOp hEq (eVar 2) (eC (.str q_size))))
  (sRet (eIf (tTru (eIsi "int" (eVar 1))) (eC (.int 0)) (eBlt hLen (aCons (eVar 1) aNil))))
  sNil)
  (sSeq (sIf (tTru (eIsi "int" (eVar 1)))
  (sRet (eVar 1))
  sNil)
  (sSeq (sIf (tB (eOp hEq (eVar 2) (eC (.str q_sort))))
  (sRet (eBlt hTuple (aCons (eCall f_law_sorted [] (aCons (eVar 1) aNil)) aNil)))
  sNil)
  (sSeq (sIf (tB (eOp hEq (eVar 2) (eC (.str q_reverse))))
  (sRet (eBlt hTuple (aCons (eLc false [5] (iRange1 (eBlt hLen (aCons (eVar 1) aNil))) (gSet 5) tYes (eOp hIx (eVar 1) (eOp hSub (eOp hSub (eBlt hLen (aCons (eVar 1) aNil)) (eC (.int 1))) (eVar 5)))) aNil)))
  sNil)
  (sSeq (sSet 3 (eTup aNil))
  (sSeq (sFor (iSeq (eVar 1)) (gSet 4)
  (sSet 3 (eOp hAdd (eVar 3) (eIf (tTru (eIsi "int" (eVar 4))) (eTup (aCons (eVar 4) aNil)) (eVar 4)))))
  (sRet (eVar 3)))))))))))
end Dl
/-! The data layer: bodies that several laws share, as terms (printed by tm.py). -/
namespace Dl
open PySem
def q_abcdefghijklmnopqrstuvwxyz : Str := ⟨#[97, 98, 99, 100, 101, 102, 103, 104, 105, 106, 107, 108, 109, 110, 111, 112, 113, 114, 115, 116, 117, 118, 119, 120, 121, 122]⟩
def q_term : Str := ⟨#[116, 101, 114, 109]⟩
def k_LONE : PyData := (.tuple [(.str q_sum), (.str q_size), (.str q_sort), (.str q_reverse), (.str q_flat)])
def k_MAX_DEPTH : PyData := (.int 24)
def k_MAX_GROW : PyData := (.int 4)
def k_MAX_LIST : PyData := (.int 6)
def k_MAX_PARTS : PyData := (.int 64)
def k_MAX_TRIES : PyData := (.int 4)
def k_MAX_WEIGHT : PyData := (.int 1000000000000000)
def tm_c_is_integer : SV :=
  (sRet (eAnd (eIsi "int" (eVar 0)) (eAnd (eNot (eIsi "bool" (eVar 0))) (eChain hLe hLe (eVar 1) (eVar 0) (eVar 2)))))
def tm_c_is_operation (f_c_is_integer : Cf) : SV :=
  (sSeq (sIf (tOr (tNot (tTru (eIsi "tuple" (eVar 0)))) (tOr (tB (eOp hEq (eBlt hLen (aCons (eVar 0) aNil)) (eC (.int 0)))) (tNot (tTru (eIsi "str" (eOp hIx (eVar 0) (eC (.int 0))))))))
  (sRet (eC (.bool false)))
  sNil)
  (sSeq (sIf (tB (eOp hIn (eOp hIx (eVar 0) (eC (.int 0))) (eC k_LONE)))
  (sRet (eOp hEq (eBlt hLen (aCons (eVar 0) aNil)) (eC (.int 1))))
  sNil)
  (sSeq (sIf (tB (eOp hNe (eBlt hLen (aCons (eVar 0) aNil)) (eC (.int 2))))
  (sRet (eC (.bool false)))
  sNil)
  (sSeq (sIf (tB (eOp hEq (eOp hIx (eVar 0) (eC (.int 0))) (eC (.str q_mod))))
  (sRet (eCall f_c_is_integer [] (aCons (eOp hIx (eVar 0) (eC (.int 1))) (aCons (eC (.int 1)) (aCons (eC (.int 1000)) aNil)))))
  sNil)
  (sRet (eAnd (eOp hIn (eOp hIx (eVar 0) (eC (.int 0))) (eTup (aCons (eC (.str q_add)) (aCons (eC (.str q_mul)) aNil)))) (eCall f_c_is_integer [] (aCons (eOp hIx (eVar 0) (eC (.int 1))) (aCons (eNeg (eC (.int 1000))) (aCons (eC (.int 1000)) aNil))))))))))
def tm_c_is_name : SV :=
  (sSeq (sIf (tOr (tNot (tTru (eIsi "str" (eVar 0)))) (tOr (tB (eOp hLt (eBlt hLen (aCons (eVar 0) aNil)) (eC (.int 1)))) (tB (eOp hGt (eBlt hLen (aCons (eVar 0) aNil)) (eC (.int 12))))))
  (sRet (eC (.bool false)))
  sNil)
  (sRet (eBlt hAll (aCons (eLc false [1] (iSeq (eVar 0)) (gSet 1) tYes (eOp hIn (eVar 1) (eC (.str q_abcdefghijklmnopqrstuvwxyz)))) aNil))))
def tm_c_is_pair (f_c_is_integer : Cf) : SV :=
  (sRet (eAnd (eIsi "tuple" (eVar 0)) (eAnd (eOp hEq (eBlt hLen (aCons (eVar 0) aNil)) (eC (.int 2))) (eCall f_c_is_integer [] (aCons (eOp hIx (eVar 0) (eC (.int 0))) (aCons (eC (.int 1)) (aCons (eC k_MAX_WEIGHT) aNil)))))))
def tm_c_is_flat (f_c_is_value : Cf) (f_c_is_name : Cf) (f_c_is_integer : Cf) : SV :=
  (sSeq (sSet 1 (eOp hIx (eVar 0) (eC (.int 0))))
  (sSeq (sIf (tOr (tB (eOp hEq (eVar 1) (eC (.str q_discard)))) (tB (eOp hEq (eVar 1) (eC (.str q_self)))))
  (sRet (eOp hEq (eBlt hLen (aCons (eVar 0) aNil)) (eC (.int 1))))
  sNil)
  (sSeq (sIf (tB (eOp hEq (eVar 1) (eC (.str q_const))))
  (sRet (eAnd (eOp hEq (eBlt hLen (aCons (eVar 0) aNil)) (eC (.int 2))) (eCall f_c_is_value [.p (.int 8)] (aCons (eOp hIx (eVar 0) (eC (.int 1))) aNil))))
  sNil)
  (sSeq (sIf (tOr (tB (eOp hEq (eVar 1) (eC (.str q_var)))) (tB (eOp hEq (eVar 1) (eC (.str q_upto)))))
  (sRet (eAnd (eOp hEq (eBlt hLen (aCons (eVar 0) aNil)) (eC (.int 2))) (eCall f_c_is_name [] (aCons (eOp hIx (eVar 0) (eC (.int 1))) aNil))))
  sNil)
  (sSeq (sIf (tB (eOp hEq (eVar 1) (eC (.str q_range))))
  (sSeq (sIf (tOr (tB (eOp hNe (eBlt hLen (aCons (eVar 0) aNil)) (eC (.int 3)))) (tNot (tTru (eCall f_c_is_integer [] (aCons (eOp hIx (eVar 0) (eC (.int 1))) (aCons (eNeg (eC (.int 1000))) (aCons (eC (.int 1000)) aNil)))))))
  (sRet (eC (.bool false)))
  sNil)
  (sRet (eCall f_c_is_integer [] (aCons (eOp hIx (eVar 0) (eC (.int 2))) (aCons (eOp hIx (eVar 0) (eC (.int 1))) (aCons (eOp hSub (eOp hAdd (eOp hIx (eVar 0) (eC (.int 1))) (eC k_MAX_SPAN)) (eC (.int 1))) aNil))))))
  sNil)
  (sSeq (sIf (tB (eOp hEq (eVar 1) (eC (.str q_shuffle))))
  (sRet (eAnd (eOp hEq (eBlt hLen (aCons (eVar 0) aNil)) (eC (.int 2))) (eAnd (eIsi "tuple" (eOp hIx (eVar 0) (eC (.int 1)))) (eAnd (eOp hLe (eBlt hLen (aCons (eOp hIx (eVar 0) (eC (.int 1))) aNil)) (eC (.int 4))) (eCall f_c_is_value [.p (.int 8)] (aCons (eOp hIx (eVar 0) (eC (.int 1))) aNil))))))
  sNil)
  (sRet (eC (.bool false)))))))))
def tm_c_is_shaped (f_c_is_pair : Cf) (f_c_is_integer : Cf) (f_c_is_operation : Cf) (f_c_is_test : Cf) (f_c_is_name : Cf) : SV :=
  (sSeq (sSet 1 (eOp hIx (eVar 0) (eC (.int 0))))
  (sSeq (sIf (tOr (tB (eOp hEq (eVar 1) (eC (.str q_pick)))) (tB (eOp hEq (eVar 1) (eC (.str q_tuple)))))
  (sSeq (sSet 2 (eIf (tB (eOp hEq (eVar 1) (eC (.str q_pick)))) (eC (.int 1)) (eC (.int 0))))
  (sRet (eAnd (eOp hEq (eBlt hLen (aCons (eVar 0) aNil)) (eC (.int 2))) (eAnd (eIsi "tuple" (eOp hIx (eVar 0) (eC (.int 1)))) (eChain hLe hLe (eVar 2) (eBlt hLen (aCons (eOp hIx (eVar 0) (eC (.int 1))) aNil)) (eC k_MAX_PARTS))))))
  sNil)
  (sSeq (sIf (tB (eOp hEq (eVar 1) (eC (.str q_weigh))))
  (sSeq (sIf (tOr (tB (eOp hNe (eBlt hLen (aCons (eVar 0) aNil)) (eC (.int 2)))) (tOr (tNot (tTru (eIsi "tuple" (eOp hIx (eVar 0) (eC (.int 1)))))) (tNot (tB (eChain hLe hLe (eC (.int 1)) (eBlt hLen (aCons (eOp hIx (eVar 0) (eC (.int 1))) aNil)) (eC k_MAX_PARTS))))))
  (sRet (eC (.bool false)))
  sNil)
  (sRet (eBlt hAll (aCons (eLc false [3] (iSeq (eOp hIx (eVar 0) (eC (.int 1)))) (gSet 3) tYes (eCall f_c_is_pair [] (aCons (eVar 3) aNil))) aNil))))
  sNil)
  (sSeq (sIf (tB (eOp hEq (eVar 1) (eC (.str q_list))))
  (sRet (eAnd (eOp hEq (eBlt hLen (aCons (eVar 0) aNil)) (eC (.int 4))) (eAnd (eCall f_c_is_integer [] (aCons (eOp hIx (eVar 0) (eC (.int 1))) (aCons (eC (.int 0)) (aCons (eC k_MAX_LIST) aNil)))) (eCall f_c_is_integer [] (aCons (eOp hIx (eVar 0) (eC (.int 2))) (aCons (eOp hIx (eVar 0) (eC (.int 1))) (aCons (eC k_MAX_LIST) aNil)))))))
  sNil)
  (sSeq (sIf (tB (eOp hEq (eVar 1) (eC (.str q_map))))
  (sRet (eAnd (eOp hEq (eBlt hLen (aCons (eVar 0) aNil)) (eC (.int 3))) (eCall f_c_is_operation [] (aCons (eOp hIx (eVar 0) (eC (.int 1))) aNil))))
  sNil)
  (sSeq (sIf (tB (eOp hEq (eVar 1) (eC (.str q_keep))))
  (sRet (eAnd (eOp hEq (eBlt hLen (aCons (eVar 0) aNil)) (eC (.int 4))) (eAnd (eCall f_c_is_test [.p (.int 6)] (aCons (eOp hIx (eVar 0) (eC (.int 1))) aNil)) (eCall f_c_is_integer [] (aCons (eOp hIx (eVar 0) (eC (.int 2))) (aCons (eC (.int 1)) (aCons (eC k_MAX_TRIES) aNil)))))))
  sNil)
  (sSeq (sIf (tB (eOp hEq (eVar 1) (eC (.str q_let))))
  (sRet (eAnd (eOp hEq (eBlt hLen (aCons (eVar 0) aNil)) (eC (.int 4))) (eCall f_c_is_name [] (aCons (eOp hIx (eVar 0) (eC (.int 1))) aNil))))
  sNil)
  (sSeq (sIf (tB (eOp hEq (eVar 1) (eC (.str q_grow))))
  (sRet (eAnd (eOp hEq (eBlt hLen (aCons (eVar 0) aNil)) (eC (.int 4))) (eCall f_c_is_integer [] (aCons (eOp hIx (eVar 0) (eC (.int 1))) (aCons (eC (.int 0)) (aCons (eC k_MAX_GROW) aNil))))))
  sNil)
  (sRet (eC (.bool false)))))))))))
def tm_c_is_open_term (f_c_is_flat : Cf) (f_c_is_shaped : Cf) (f_c_is_open_term : Cf) (f_c_parts_of : Cf) : SV :=
  (sSeq (sIf (tOr (tNot (tTru (eIsi "tuple" (eVar 0)))) (tOr (tB (eOp hEq (eBlt hLen (aCons (eVar 0) aNil)) (eC (.int 0)))) (tOr (tNot (tTru (eIsi "str" (eOp hIx (eVar 0) (eC (.int 0)))))) (tB (eOp hEq (eVar 3) (eC (.int 0)))))))
  (sRet (eC (.bool false)))
  sNil)
  (sSeq (sSet 4 (eOp hIx (eVar 0) (eC (.int 0))))
  (sSeq (sIf (tTru (eCall f_c_is_flat [] (aCons (eVar 0) aNil)))
  (sSeq (sIf (tB (eOp hEq (eVar 4) (eC (.str q_self))))
  (sRet (eVar 2))
  sNil)
  (sRet (eOr (eOp hNotIn (eVar 4) (eTup (aCons (eC (.str q_var)) (aCons (eC (.str q_upto)) aNil)))) (eOp hIn (eOp hIx (eVar 0) (eC (.int 1))) (eVar 1)))))
  sNil)
  (sSeq (sIf (tNot (tTru (eCall f_c_is_shaped [] (aCons (eVar 0) aNil))))
  (sRet (eC (.bool false)))
  sNil)
  (sSeq (sIf (tB (eOp hEq (eVar 4) (eC (.str q_let))))
  (sSeq (sIf (tNot (tTru (eCall f_c_is_open_term [] (aCons (eOp hIx (eVar 0) (eC (.int 2))) (aCons (eVar 1) (aCons (eVar 2) (aCons (eOp hSub (eVar 3) (eC (.int 1))) aNil)))))))
  (sRet (eC (.bool false)))
  sNil)
  (sRet (eCall f_c_is_open_term [] (aCons (eOp hIx (eVar 0) (eC (.int 3))) (aCons (eOp hAdd (eVar 1) (eTup (aCons (eOp hIx (eVar 0) (eC (.int 1))) aNil))) (aCons (eVar 2) (aCons (eOp hSub (eVar 3) (eC (.int 1))) aNil)))))))
  sNil)
  (sSeq (sIf (tB (eOp hEq (eVar 4) (eC (.str q_grow))))
  (sRet (eAnd (eCall f_c_is_open_term [] (aCons (eOp hIx (eVar 0) (eC (.int 2))) (aCons (eVar 1) (aCons (eVar 2) (aCons (eOp hSub (eVar 3) (eC (.int 1))) aNil))))) (eCall f_c_is_open_term [] (aCons (eOp hIx (eVar 0) (eC (.int 3))) (aCons (eVar 1) (aCons (eC (.bool true)) (aCons (eOp hSub (eVar 3) (eC (.int 1))) aNil)))))))
  sNil)
  (sRet (eBlt hAll (aCons (eLc false [5] (iSeq (eCall f_c_parts_of [] (aCons (eVar 0) aNil))) (gSet 5) tYes (eCall f_c_is_open_term [] (aCons (eVar 5) (aCons (eVar 1) (aCons (eVar 2) (aCons (eOp hSub (eVar 3) (eC (.int 1))) aNil)))))) aNil)))))))))
def tm_c_is_term (f_c_is_open_term : Cf) : SV :=
  (sRet (eCall f_c_is_open_term [] (aCons (eVar 0) (aCons (eTup aNil) (aCons (eC (.bool false)) (aCons (eC k_MAX_DEPTH) aNil))))))
def tm_c_checked (f_c_is_term : Cf) : SV :=
  (sSeq (sIf (tNot (tTru (eCall f_c_is_term [] (aCons (eVar 0) aNil))))
  (sRaise 0 (eC (.str q_term)))
  sNil)
  (sRet (eVar 0)))
end Dl
/-! The data layer: bodies that several laws share, as terms (printed by tm.py). -/
namespace Dl
open PySem
def q_X : Str := ⟨#[88]⟩
def q_dice : Str := ⟨#[100, 105, 99, 101]⟩
def q_odd : Str := ⟨#[111, 100, 100]⟩
def q_zz : Str := ⟨#[122, 122]⟩
def m_Invalid (c : Nat) : Bool := c == 0
def tm_law_count (f_law_parts : Cf) (f_law_count : Cf) : SV :=
  (sRet (eOp hAdd (eC (.int 1)) (eBlt hSum (aCons (eLc false [1] (iSeq (eCall f_law_parts [] (aCons (eVar 0) aNil))) (gSet 1) tYes (eCall f_law_count [] (aCons (eVar 1) aNil))) aNil))))
def tm_law_parts : SV :=
  (sSeq (sIf (tOr (tB (eOp hEq (eOp hIx (eVar 0) (eC (.int 0))) (eC (.str q_pick)))) (tB (eOp hEq (eOp hIx (eVar 0) (eC (.int 0))) (eC (.str q_tuple)))))
  (sRet (eBlt (hList false) (aCons (eOp hIx (eVar 0) (eC (.int 1))) aNil)))
  sNil)
  (sSeq (sIf (tB (eOp hEq (eOp hIx (eVar 0) (eC (.int 0))) (eC (.str q_weigh))))
  (sRet (eLc false [1] (iSeq (eOp hIx (eVar 0) (eC (.int 1)))) (gSet 1) tYes (eOp hIx (eVar 1) (eC (.int 1)))))
  sNil)
  (sSeq (sIf (tB (eOp hIn (eOp hIx (eVar 0) (eC (.int 0))) (eTup (aCons (eC (.str q_list)) (aCons (eC (.str q_keep)) (aCons (eC (.str q_map)) aNil))))))
  (sRet (eLst false (aCons (eOp hIx (eVar 0) (eNeg (eC (.int 1)))) aNil)))
  sNil)
  (sSeq (sIf (tOr (tB (eOp hEq (eOp hIx (eVar 0) (eC (.int 0))) (eC (.str q_let)))) (tB (eOp hEq (eOp hIx (eVar 0) (eC (.int 0))) (eC (.str q_grow)))))
  (sRet (eLst false (aCons (eOp hIx (eVar 0) (eC (.int 2))) (aCons (eOp hIx (eVar 0) (eC (.int 3))) aNil))))
  sNil)
  (sRet (eLst false aNil))))))
def tm_law_put4 (f_law_parts : Cf) (f_law_count : Cf) (f_law_put : Cf) : SV :=
  (sSeq (sIf (tB (eOp hEq (eVar 1) (eC (.int 0))))
  (sRet (eVar 2))
  sNil)
  (sSeq (sSet 1 (eOp hSub (eVar 1) (eC (.int 1))))
  (sSeq (sSet 3 (eCall f_law_parts [] (aCons (eVar 0) aNil)))
  (sSeq (sFor (iRange1 (eBlt hLen (aCons (eVar 3) aNil))) (gSet 4)
  (sSeq (sSet 5 (eCall f_law_count [] (aCons (eOp hIx (eVar 3) (eVar 4)) aNil)))
  (sSeq (sIf (tB (eOp hLt (eVar 1) (eVar 5)))
  (sSeq (sSet 6 (eCall f_law_put [] (aCons (eOp hIx (eVar 3) (eVar 4)) (aCons (eVar 1) (aCons (eVar 2) aNil)))))
  (sSeq (sIf (tOr (tB (eOp hEq (eOp hIx (eVar 0) (eC (.int 0))) (eC (.str q_pick)))) (tB (eOp hEq (eOp hIx (eVar 0) (eC (.int 0))) (eC (.str q_tuple)))))
  (sRet (eTup (aCons (eOp hIx (eVar 0) (eC (.int 0))) (aCons (eOp hAdd (eOp hAdd (eCut false (eOp hIx (eVar 0) (eC (.int 1))) oNone (oSome (eVar 4))) (eTup (aCons (eVar 6) aNil))) (eCut false (eOp hIx (eVar 0) (eC (.int 1))) (oSome (eOp hAdd (eVar 4) (eC (.int 1)))) oNone)) aNil))))
  sNil)
  (sSeq (sIf (tB (eOp hEq (eOp hIx (eVar 0) (eC (.int 0))) (eC (.str q_weigh))))
  (sRet (eTup (aCons (eOp hIx (eVar 0) (eC (.int 0))) (aCons (eOp hAdd (eOp hAdd (eCut false (eOp hIx (eVar 0) (eC (.int 1))) oNone (oSome (eVar 4))) (eTup (aCons (eTup (aCons (eOp hIx (eOp hIx (eOp hIx (eVar 0) (eC (.int 1))) (eVar 4)) (eC (.int 0))) (aCons (eVar 6) aNil))) aNil))) (eCut false (eOp hIx (eVar 0) (eC (.int 1))) (oSome (eOp hAdd (eVar 4) (eC (.int 1)))) oNone)) aNil))))
  sNil)
  (sSeq (sIf (tOr (tB (eOp hEq (eOp hIx (eVar 0) (eC (.int 0))) (eC (.str q_let)))) (tB (eOp hEq (eOp hIx (eVar 0) (eC (.int 0))) (eC (.str q_grow)))))
  (sRet (eOp hAdd (eOp hAdd (eCut false (eVar 0) oNone (oSome (eOp hAdd (eC (.int 2)) (eVar 4)))) (eTup (aCons (eVar 6) aNil))) (eCut false (eVar 0) (oSome (eOp hAdd (eC (.int 3)) (eVar 4))) oNone)))
  sNil)
  (sRet (eOp hAdd (eCut false (eVar 0) oNone (oSome (eNeg (eC (.int 1))))) (eTup (aCons (eVar 6) aNil))))))))
  sNil)
  (sSet 1 (eOp hSub (eVar 1) (eVar 5))))))
  (sRet (eVar 2))))))
def tm_law_inside_grow (f_law_parts : Cf) (f_law_count : Cf) (f_law_inside_grow : Cf) : SV :=
  (sSeq (sSet 2 (eCall f_law_parts [] (aCons (eVar 0) aNil)))
  (sSeq (sIf (tB (eOp hEq (eVar 1) (eC (.int 0))))
  (sRet (eC (.bool false)))
  sNil)
  (sSeq (sSet 1 (eOp hSub (eVar 1) (eC (.int 1))))
  (sSeq (sFor (iRange1 (eBlt hLen (aCons (eVar 2) aNil))) (gSet 3)
  (sSeq (sSet 4 (eCall f_law_count [] (aCons (eOp hIx (eVar 2) (eVar 3)) aNil)))
  (sSeq (sIf (tB (eOp hLt (eVar 1) (eVar 4)))
  (sRet (eOr (eAnd (eOp hEq (eOp hIx (eVar 0) (eC (.int 0))) (eC (.str q_grow))) (eOp hEq (eVar 3) (eC (.int 1)))) (eCall f_law_inside_grow [] (aCons (eOp hIx (eVar 2) (eVar 3)) (aCons (eVar 1) aNil)))))
  sNil)
  (sSet 1 (eOp hSub (eVar 1) (eVar 4))))))
  (sRet (eC (.bool false)))))))
def tm_law_faults (f_none : Cf) : SV :=
  (sSeq (sSet 0 (eLst false (aCons (eTup (aCons (eC (.str q_var)) (aCons (eC (.str q_zz)) aNil))) (aCons (eTup (aCons (eC (.str q_upto)) (aCons (eC (.str q_zz)) aNil))) (aCons (eTup (aCons (eC (.str q_self)) aNil)) (aCons (eTup (aCons (eC (.str q_const)) aNil)) (aCons (eTup (aCons (eC (.str q_const)) (aCons (eLst false (aCons (eC (.int 1)) aNil)) aNil))) (aCons (eTup (aCons (eC (.str q_const)) (aCons (eC (.bool true)) aNil))) (aCons (eTup (aCons (eC (.str q_range)) (aCons (eC (.int 2)) (aCons (eC (.int 1)) aNil)))) aNil)))))))))
  (sSeq (sSet 0 (eOp hAdd (eVar 0) (eLst false (aCons (eTup (aCons (eC (.str q_range)) (aCons (eC (.int 0)) (aCons (eC (.int 64)) aNil)))) (aCons (eTup (aCons (eC (.str q_range)) (aCons (eC (.int 0)) aNil))) (aCons (eTup (aCons (eC (.str q_range)) (aCons (eC (.int 0)) (aCons (eC (.int 1)) (aCons (eC (.int 2)) aNil))))) (aCons (eTup (aCons (eC (.str q_range)) (aCons (eC (.int 0)) (aCons (eC .none) aNil)))) (aCons (eTup (aCons (eC (.str q_pick)) (aCons (eTup aNil) aNil))) (aCons (eTup (aCons (eC (.str q_weigh)) (aCons (eTup aNil) aNil))) aNil)))))))))
  (sSeq (sSet 0 (eOp hAdd (eVar 0) (eLst false (aCons (eTup (aCons (eC (.str q_weigh)) (aCons (eTup (aCons (eTup (aCons (eC (.int 0)) (aCons (eTup (aCons (eC (.str q_const)) (aCons (eC (.int 1)) aNil))) aNil))) aNil)) aNil))) (aCons (eTup (aCons (eC (.str q_weigh)) (aCons (eTup (aCons (eTup (aCons (eC (.int 1)) aNil)) aNil)) aNil))) (aCons (eTup (aCons (eC (.str q_list)) (aCons (eC (.int 1)) (aCons (eC (.int 0)) (aCons (eTup (aCons (eC (.str q_const)) (aCons (eC (.int 1)) aNil))) aNil))))) (aCons (eTup (aCons (eC (.str q_discard)) (aCons (eC (.int 1)) aNil))) aNil)))))))
  (sSeq (sSet 0 (eOp hAdd (eVar 0) (eLst false (aCons (eTup (aCons (eC (.str q_list)) (aCons (eC (.int 0)) (aCons (eC (.int 7)) (aCons (eTup (aCons (eC (.str q_const)) (aCons (eC (.int 1)) aNil))) aNil))))) (aCons (eTup (aCons (eC (.str q_map)) (aCons (eTup (aCons (eC (.str q_sum)) (aCons (eC (.int 1)) aNil))) (aCons (eTup (aCons (eC (.str q_const)) (aCons (eC (.int 1)) aNil))) aNil)))) (aCons (eTup (aCons (eC (.str q_map)) (aCons (eTup (aCons (eC (.str q_mod)) (aCons (eC (.int 0)) aNil))) (aCons (eTup (aCons (eC (.str q_const)) (aCons (eC (.int 1)) aNil))) aNil)))) aNil))))))
  (sSeq (sSet 0 (eOp hAdd (eVar 0) (eLst false (aCons (eTup (aCons (eC (.str q_map)) (aCons (eTup (aCons (eC (.str q_add)) aNil)) (aCons (eTup (aCons (eC (.str q_const)) (aCons (eC (.int 1)) aNil))) aNil)))) (aCons (eTup (aCons (eC (.str q_keep)) (aCons (eTup (aCons (eC (.str q_odd)) aNil)) (aCons (eC (.int 1)) (aCons (eTup (aCons (eC (.str q_const)) (aCons (eC (.int 1)) aNil))) aNil))))) (aCons (eTup (aCons (eC (.str q_keep)) (aCons (eTup (aCons (eC (.str q_even)) aNil)) (aCons (eC (.int 0)) (aCons (eTup (aCons (eC (.str q_const)) (aCons (eC (.int 1)) aNil))) aNil))))) aNil))))))
  (sSeq (sSet 0 (eOp hAdd (eVar 0) (eLst false (aCons (eTup (aCons (eC (.str q_keep)) (aCons (eTup (aCons (eC (.str q_even)) aNil)) (aCons (eC (.int 5)) (aCons (eTup (aCons (eC (.str q_const)) (aCons (eC (.int 1)) aNil))) aNil))))) (aCons (eTup (aCons (eC (.str q_let)) (aCons (eC (.str q_X)) (aCons (eTup (aCons (eC (.str q_const)) (aCons (eC (.int 1)) aNil))) (aCons (eTup (aCons (eC (.str q_const)) (aCons (eC (.int 1)) aNil))) aNil))))) (aCons (eTup (aCons (eC (.str q_tuple)) (aCons (eLst false (aCons (eTup (aCons (eC (.str q_const)) (aCons (eC (.int 1)) aNil))) aNil)) aNil))) aNil))))))
  (sSeq (sSet 0 (eOp hAdd (eVar 0) (eLst false (aCons (eTup (aCons (eC (.str q_grow)) (aCons (eC (.int 5)) (aCons (eTup (aCons (eC (.str q_const)) (aCons (eC (.int 1)) aNil))) (aCons (eTup (aCons (eC (.str q_self)) aNil)) aNil))))) (aCons (eTup (aCons (eC (.str q_grow)) (aCons (eC (.int 1)) (aCons (eTup (aCons (eC (.str q_self)) aNil)) (aCons (eTup (aCons (eC (.str q_const)) (aCons (eC (.int 1)) aNil))) aNil))))) (aCons (eTup (aCons (eC (.str q_shuffle)) (aCons (eTup (aCons (eC (.int 1)) (aCons (eC (.int 2)) (aCons (eC (.int 3)) (aCons (eC (.int 4)) (aCons (eC (.int 5)) aNil)))))) aNil))) aNil))))))
  (sRet (eOp hAdd (eVar 0) (eLst false (aCons (eTup (aCons (eC (.str q_shuffle)) (aCons (eC (.int 3)) aNil))) (aCons (eTup (aCons (eC (.str q_dice)) (aCons (eC (.int 6)) aNil))) (aCons (eTup aNil) (aCons (eC .none) (aCons (eC (.int 5)) (aCons (eLst false (aCons (eC (.str q_const)) (aCons (eC (.int 1)) aNil))) (aCons (eTup (aCons (eC (.str q_let)) (aCons (eC (.str q_zz)) (aCons (eTup (aCons (eC (.str q_var)) (aCons (eC (.str q_zz)) aNil))) (aCons (eTup (aCons (eC (.str q_const)) (aCons (eC (.int 1)) aNil))) aNil))))) (aCons (eTup (aCons (eC (.int 3)) (aCons (eC (.int 4)) aNil))) aNil))))))))))))))))))
def tm_k04_law (f_law_stream : Cf) (f_law_term : Cf) (f_law_take : Cf) (f_c_is_term : Cf) (f_c_checked : Cf) (f_law_faults : Cf) (f_law_count : Cf) (f_law_inside_grow : Cf) (f_law_put : Cf) : SV :=
  (sSeq (sSet 1 (eCall f_law_stream [] (aCons (eVar 0) aNil)))
  (sSeq (sSet 2 (eCall f_law_term [] (aCons (eVar 1) (aCons (eOp hAdd (eC (.int 1)) (eCall f_law_take [] (aCons (eVar 1) (aCons (eC (.int 4)) aNil)))) (aCons (eLst false aNil) (aCons (eC (.bool false)) aNil))))))
  (sSeq (sIf (tOr (tB (eOp hIsNot (eCall f_c_is_term [] (aCons (eVar 2) aNil)) (eC (.bool true)))) (tB (eOp hNe (eCall f_c_checked [] (aCons (eVar 2) aNil)) (eVar 2))))
  (sRet (eC (.bool false)))
  sNil)
  (sSeq (sSet 3 (eCall f_law_faults [] aNil))
  (sSeq (sSet 4 (eOp hIx (eVar 3) (eCall f_law_take [] (aCons (eVar 1) (aCons (eBlt hLen (aCons (eVar 3) aNil)) aNil)))))
  (sSeq (sSet 5 (eCall f_law_take [] (aCons (eVar 1) (aCons (eCall f_law_count [] (aCons (eVar 2) aNil)) aNil))))
  (sSeq (sIf (tAnd (tTru (eCall f_law_inside_grow [] (aCons (eVar 2) (aCons (eVar 5) aNil)))) (tB (eOp hIn (eVar 4) (eLst false (aCons (eTup (aCons (eC (.str q_self)) aNil)) (aCons (eTup (aCons (eC (.str q_grow)) (aCons (eC (.int 1)) (aCons (eTup (aCons (eC (.str q_self)) aNil)) (aCons (eTup (aCons (eC (.str q_const)) (aCons (eC (.int 1)) aNil))) aNil))))) aNil))))))
  (sRet (eC (.bool true)))
  sNil)
  (sSeq (sSet 6 (eCall f_law_put [] (aCons (eVar 2) (aCons (eVar 5) (aCons (eVar 4) aNil)))))
  (sSeq (sSet 7 (eBlt hRepr (aCons (eVar 6) aNil)))
  (sSeq (sIf (tOr (tB (eOp hIsNot (eCall f_c_is_term [] (aCons (eVar 6) aNil)) (eC (.bool false)))) (tB (eOp hNe (eBlt hRepr (aCons (eVar 6) aNil)) (eVar 7))))
  (sRet (eC (.bool false)))
  sNil)
  (sSeq (sTryEq m_Invalid 8 q_term (sExpr (eCall f_c_checked [] (aCons (eVar 6) aNil))))
  (sRet (eC (.bool false))))))))))))))
end Dl
/-! The data layer: values, their order, their sums; tests (plain Lean). -/
namespace Dl
open PySem
abbrev DI (i : Int) : D := .p (.int i)
abbrev DB (b : Bool) : D := .p (.bool b)

/-! ### displays -/
@[simp] theorem allP_map' {xs : List PyData} : allP (xs.map D.p) = some xs := allP_map xs
@[simp] theorem allP_comp {α : Type} {l : List α} {f : α → PyData} : allP (l.map (D.p ∘ f)) = some (l.map f) := by
  rw [← List.map_map]
  exact allP_map _
theorem newL_eqF {ds : List D} {s : Sto} : newL false ds s = match allP ds with
  | some xs => .ok (.p (.list xs)) s
  | none => newL false ds s := by
  cases h : allP ds with
  | none => rfl
  | some xs =>
    unfold newL
    rw [h]
    rfl
section
variable {s : Sto} {a b c d e f g h : PyData} {r : List PyData}
@[simp] theorem newL_2' : newL false [.p a, .p b] s = .ok (.p (.list [a, b])) s := by rw [newL_eqF]; simp
variable {a0 a1 a2 a3 a4 a5 a6 a7 a8 a9 a10 a11 a12 a13 a14 a15 : PyData}
@[simp] theorem newL_3 : newL false [.p a0, .p a1, .p a2] s = .ok (.p (.list [a0, a1, a2])) s := by rw [newL_eqF]; simp
@[simp] theorem newL_4 : newL false [.p a0, .p a1, .p a2, .p a3] s = .ok (.p (.list [a0, a1, a2, a3])) s := by rw [newL_eqF]; simp
@[simp] theorem newL_5 : newL false [.p a0, .p a1, .p a2, .p a3, .p a4] s = .ok (.p (.list [a0, a1, a2, a3, a4])) s := by rw [newL_eqF]; simp
@[simp] theorem newL_6 : newL false [.p a0, .p a1, .p a2, .p a3, .p a4, .p a5] s = .ok (.p (.list [a0, a1, a2, a3, a4, a5])) s := by rw [newL_eqF]; simp
@[simp] theorem newL_7 : newL false [.p a0, .p a1, .p a2, .p a3, .p a4, .p a5, .p a6] s = .ok (.p (.list [a0, a1, a2, a3, a4, a5, a6])) s := by rw [newL_eqF]; simp
@[simp] theorem newL_8 : newL false [.p a0, .p a1, .p a2, .p a3, .p a4, .p a5, .p a6, .p a7] s = .ok (.p (.list [a0, a1, a2, a3, a4, a5, a6, a7])) s := by rw [newL_eqF]; simp
@[simp] theorem newL_9 : newL false [.p a0, .p a1, .p a2, .p a3, .p a4, .p a5, .p a6, .p a7, .p a8] s = .ok (.p (.list [a0, a1, a2, a3, a4, a5, a6, a7, a8])) s := by rw [newL_eqF]; simp
@[simp] theorem newL_10 : newL false [.p a0, .p a1, .p a2, .p a3, .p a4, .p a5, .p a6, .p a7, .p a8, .p a9] s = .ok (.p (.list [a0, a1, a2, a3, a4, a5, a6, a7, a8, a9])) s := by rw [newL_eqF]; simp
@[simp] theorem newL_11 : newL false [.p a0, .p a1, .p a2, .p a3, .p a4, .p a5, .p a6, .p a7, .p a8, .p a9, .p a10] s = .ok (.p (.list [a0, a1, a2, a3, a4, a5, a6, a7, a8, a9, a10])) s := by rw [newL_eqF]; simp
@[simp] theorem newL_12 : newL false [.p a0, .p a1, .p a2, .p a3, .p a4, .p a5, .p a6, .p a7, .p a8, .p a9, .p a10, .p a11] s = .ok (.p (.list [a0, a1, a2, a3, a4, a5, a6, a7, a8, a9, a10, a11])) s := by rw [newL_eqF]; simp
@[simp] theorem newL_13 : newL false [.p a0, .p a1, .p a2, .p a3, .p a4, .p a5, .p a6, .p a7, .p a8, .p a9, .p a10, .p a11, .p a12] s = .ok (.p (.list [a0, a1, a2, a3, a4, a5, a6, a7, a8, a9, a10, a11, a12])) s := by rw [newL_eqF]; simp
@[simp] theorem newL_14 : newL false [.p a0, .p a1, .p a2, .p a3, .p a4, .p a5, .p a6, .p a7, .p a8, .p a9, .p a10, .p a11, .p a12, .p a13] s = .ok (.p (.list [a0, a1, a2, a3, a4, a5, a6, a7, a8, a9, a10, a11, a12, a13])) s := by rw [newL_eqF]; simp
@[simp] theorem newL_15 : newL false [.p a0, .p a1, .p a2, .p a3, .p a4, .p a5, .p a6, .p a7, .p a8, .p a9, .p a10, .p a11, .p a12, .p a13, .p a14] s = .ok (.p (.list [a0, a1, a2, a3, a4, a5, a6, a7, a8, a9, a10, a11, a12, a13, a14])) s := by rw [newL_eqF]; simp
@[simp] theorem hIx_l0 : hIx (.p (.list (a0 :: r))) (.p (.int 0)) s = .ok (.p a0) s := hIx_list (by rw [show (0 : Int) = ((0 : Nat) : Int) from rfl, atI_nat]; rfl)
@[simp] theorem hIx_l1 : hIx (.p (.list (a0 :: a1 :: r))) (.p (.int 1)) s = .ok (.p a1) s := hIx_list (by rw [show (1 : Int) = ((1 : Nat) : Int) from rfl, atI_nat]; rfl)
@[simp] theorem hIx_l2 : hIx (.p (.list (a0 :: a1 :: a2 :: r))) (.p (.int 2)) s = .ok (.p a2) s := hIx_list (by rw [show (2 : Int) = ((2 : Nat) : Int) from rfl, atI_nat]; rfl)
@[simp] theorem hIx_l3 : hIx (.p (.list (a0 :: a1 :: a2 :: a3 :: r))) (.p (.int 3)) s = .ok (.p a3) s := hIx_list (by rw [show (3 : Int) = ((3 : Nat) : Int) from rfl, atI_nat]; rfl)
@[simp] theorem hIx_l4 : hIx (.p (.list (a0 :: a1 :: a2 :: a3 :: a4 :: r))) (.p (.int 4)) s = .ok (.p a4) s := hIx_list (by rw [show (4 : Int) = ((4 : Nat) : Int) from rfl, atI_nat]; rfl)
@[simp] theorem hIx_l5 : hIx (.p (.list (a0 :: a1 :: a2 :: a3 :: a4 :: a5 :: r))) (.p (.int 5)) s = .ok (.p a5) s := hIx_list (by rw [show (5 : Int) = ((5 : Nat) : Int) from rfl, atI_nat]; rfl)
@[simp] theorem hIx_l6 : hIx (.p (.list (a0 :: a1 :: a2 :: a3 :: a4 :: a5 :: a6 :: r))) (.p (.int 6)) s = .ok (.p a6) s := hIx_list (by rw [show (6 : Int) = ((6 : Nat) : Int) from rfl, atI_nat]; rfl)
@[simp] theorem hIx_l7 : hIx (.p (.list (a0 :: a1 :: a2 :: a3 :: a4 :: a5 :: a6 :: a7 :: r))) (.p (.int 7)) s = .ok (.p a7) s := hIx_list (by rw [show (7 : Int) = ((7 : Nat) : Int) from rfl, atI_nat]; rfl)
@[simp] theorem hIx_l8 : hIx (.p (.list (a0 :: a1 :: a2 :: a3 :: a4 :: a5 :: a6 :: a7 :: a8 :: r))) (.p (.int 8)) s = .ok (.p a8) s := hIx_list (by rw [show (8 : Int) = ((8 : Nat) : Int) from rfl, atI_nat]; rfl)
@[simp] theorem hIx_l9 : hIx (.p (.list (a0 :: a1 :: a2 :: a3 :: a4 :: a5 :: a6 :: a7 :: a8 :: a9 :: r))) (.p (.int 9)) s = .ok (.p a9) s := hIx_list (by rw [show (9 : Int) = ((9 : Nat) : Int) from rfl, atI_nat]; rfl)
@[simp] theorem hIx_l10 : hIx (.p (.list (a0 :: a1 :: a2 :: a3 :: a4 :: a5 :: a6 :: a7 :: a8 :: a9 :: a10 :: r))) (.p (.int 10)) s = .ok (.p a10) s := hIx_list (by rw [show (10 : Int) = ((10 : Nat) : Int) from rfl, atI_nat]; rfl)
@[simp] theorem hIx_l11 : hIx (.p (.list (a0 :: a1 :: a2 :: a3 :: a4 :: a5 :: a6 :: a7 :: a8 :: a9 :: a10 :: a11 :: r))) (.p (.int 11)) s = .ok (.p a11) s := hIx_list (by rw [show (11 : Int) = ((11 : Nat) : Int) from rfl, atI_nat]; rfl)
@[simp] theorem hIx_l12 : hIx (.p (.list (a0 :: a1 :: a2 :: a3 :: a4 :: a5 :: a6 :: a7 :: a8 :: a9 :: a10 :: a11 :: a12 :: r))) (.p (.int 12)) s = .ok (.p a12) s := hIx_list (by rw [show (12 : Int) = ((12 : Nat) : Int) from rfl, atI_nat]; rfl)
@[simp] theorem hIx_l13 : hIx (.p (.list (a0 :: a1 :: a2 :: a3 :: a4 :: a5 :: a6 :: a7 :: a8 :: a9 :: a10 :: a11 :: a12 :: a13 :: r))) (.p (.int 13)) s = .ok (.p a13) s := hIx_list (by rw [show (13 : Int) = ((13 : Nat) : Int) from rfl, atI_nat]; rfl)
@[simp] theorem hIx_l14 : hIx (.p (.list (a0 :: a1 :: a2 :: a3 :: a4 :: a5 :: a6 :: a7 :: a8 :: a9 :: a10 :: a11 :: a12 :: a13 :: a14 :: r))) (.p (.int 14)) s = .ok (.p a14) s := hIx_list (by rw [show (14 : Int) = ((14 : Nat) : Int) from rfl, atI_nat]; rfl)
@[simp] theorem hIx_l15 : hIx (.p (.list (a0 :: a1 :: a2 :: a3 :: a4 :: a5 :: a6 :: a7 :: a8 :: a9 :: a10 :: a11 :: a12 :: a13 :: a14 :: a15 :: r))) (.p (.int 15)) s = .ok (.p a15) s := hIx_list (by rw [show (15 : Int) = ((15 : Nat) : Int) from rfl, atI_nat]; rfl)
@[simp] theorem hIx_t4 : hIx (.p (.tuple (a0 :: a1 :: a2 :: a3 :: a4 :: r))) (.p (.int 4)) s = .ok (.p a4) s := hIx_tuple (by rw [show (4 : Int) = ((4 : Nat) : Int) from rfl, atI_nat]; rfl)
@[simp] theorem hIx_t5 : hIx (.p (.tuple (a0 :: a1 :: a2 :: a3 :: a4 :: a5 :: r))) (.p (.int 5)) s = .ok (.p a5) s := hIx_tuple (by rw [show (5 : Int) = ((5 : Nat) : Int) from rfl, atI_nat]; rfl)
@[simp] theorem hIx_t6 : hIx (.p (.tuple (a0 :: a1 :: a2 :: a3 :: a4 :: a5 :: a6 :: r))) (.p (.int 6)) s = .ok (.p a6) s := hIx_tuple (by rw [show (6 : Int) = ((6 : Nat) : Int) from rfl, atI_nat]; rfl)
@[simp] theorem hIx_t7 : hIx (.p (.tuple (a0 :: a1 :: a2 :: a3 :: a4 :: a5 :: a6 :: a7 :: r))) (.p (.int 7)) s = .ok (.p a7) s := hIx_tuple (by rw [show (7 : Int) = ((7 : Nat) : Int) from rfl, atI_nat]; rfl)
@[simp] theorem hIx_t8 : hIx (.p (.tuple (a0 :: a1 :: a2 :: a3 :: a4 :: a5 :: a6 :: a7 :: a8 :: r))) (.p (.int 8)) s = .ok (.p a8) s := hIx_tuple (by rw [show (8 : Int) = ((8 : Nat) : Int) from rfl, atI_nat]; rfl)
@[simp] theorem hIx_t9 : hIx (.p (.tuple (a0 :: a1 :: a2 :: a3 :: a4 :: a5 :: a6 :: a7 :: a8 :: a9 :: r))) (.p (.int 9)) s = .ok (.p a9) s := hIx_tuple (by rw [show (9 : Int) = ((9 : Nat) : Int) from rfl, atI_nat]; rfl)
@[simp] theorem hIx_t10 : hIx (.p (.tuple (a0 :: a1 :: a2 :: a3 :: a4 :: a5 :: a6 :: a7 :: a8 :: a9 :: a10 :: r))) (.p (.int 10)) s = .ok (.p a10) s := hIx_tuple (by rw [show (10 : Int) = ((10 : Nat) : Int) from rfl, atI_nat]; rfl)
@[simp] theorem hIx_t11 : hIx (.p (.tuple (a0 :: a1 :: a2 :: a3 :: a4 :: a5 :: a6 :: a7 :: a8 :: a9 :: a10 :: a11 :: r))) (.p (.int 11)) s = .ok (.p a11) s := hIx_tuple (by rw [show (11 : Int) = ((11 : Nat) : Int) from rfl, atI_nat]; rfl)
end
/-! ### zips of tuples -/
def zipD (xs ys : List PyData) : List D := (xs.zip ys).map fun p => .p (.tuple [p.1, p.2])
theorem foGo_nx {g : GV} {b : SV} {it it' : IT} : ∀ (m i : Nat) (e : En) (s : Sto), (∀ i s, it.nx i s = it'.nx i s) → foGo g b it m i e s = foGo g b it' m i e s
  | 0, i, e, s, h => by
    unfold foGo
    rw [h]
  | m + 1, i, e, s, h => by
    unfold foGo
    rw [h]
    have ih := fun e s => foGo_nx (g := g) (b := b) (it := it) (it' := it') m (i + 1) e s h
    cases it'.nx i s with
    | none => rfl
    | some o =>
      cases o with
      | none => rfl
      | some d =>
        simp only []
        congr 1
        funext e' s'
        congr 1
        funext e2 s2
        exact ih e2 s2
theorem itZ_nx {xs ys : List PyData} (h : xs.length = ys.length) (n : Nat) : ∀ i s, (itZ (.p (.tuple xs)) (.p (.tuple ys)) n).nx i s = (itS (zipD xs ys)).nx i s := fun i s => by
  show some (match (xs.map D.p)[i]?, (ys.map D.p)[i]? with
    | some a, some b => some (mkT [a, b])
    | _, _ => none) = some (zipD xs ys)[i]?
  unfold zipD
  rw [List.getElem?_map, List.getElem?_map, List.getElem?_map]
  by_cases hi : i < xs.length
  · have hi2 : i < ys.length := by omega
    have hz : i < (xs.zip ys).length := by rw [List.length_zip]; omega
    rw [List.getElem?_eq_getElem hi, List.getElem?_eq_getElem hi2, List.getElem?_eq_getElem hz]
    simp
  · rw [List.getElem?_eq_none (l := xs) (by omega), List.getElem?_eq_none (l := xs.zip ys) (by rw [List.length_zip]; omega)]
    rfl
theorem foGo_Z {g : GV} {b : SV} {xs ys : List PyData} (h : xs.length = ys.length) {e : En} {s : Sto} : foGo g b (itZ (.p (.tuple xs)) (.p (.tuple ys)) xs.length) xs.length 0 e s = forL g b (zipD xs ys) e s := by
  rw [foGo_nx (it' := itS (zipD xs ys)) _ _ _ _ (itZ_nx h _)]
  rw [foGo_eq g b (zipD xs ys) _ 0 e s (by unfold zipD; rw [List.length_map, List.length_zip]; omega), List.drop_zero]
@[simp] theorem iZipD_eq {f g : EV} {e : En} {s : Sto} : iZipD f g e s = (f e s).bind fun x s => (g e s).bind fun y s => match asT x, asT y with
  | some xs, some ys => .ok (itZ x y xs.length) s
  | _, _ => match asL s x, asL s y with
    | some xs, some ys => .ok (itZ x y xs.length) s
    | _, _ => .bad := id rfl
@[simp] theorem itZ_n {x y : D} {n : Nat} : (itZ x y n).n = n := id rfl
@[simp] theorem isTy_ii : isTy "int" "int" = true := by decide
@[simp] theorem isTy_it : isTy "int" "tuple" = false := by decide
@[simp] theorem isTy_bi : isTy "bool" "int" = false := by decide
@[simp] theorem isTy_bt : isTy "bool" "tuple" = false := by decide
@[simp] theorem isTy_ti : isTy "tuple" "int" = false := by decide
@[simp] theorem isTy_tt : isTy "tuple" "tuple" = true := by decide
@[simp] theorem isTy_bb : isTy "bool" "bool" = true := by decide
@[simp] theorem isTy_ib : isTy "int" "bool" = true := by decide
@[simp] theorem isTy_in : isTy "int" "NoneType" = false := by decide
@[simp] theorem isTy_is : isTy "int" "str" = false := by decide
@[simp] theorem isTy_il : isTy "int" "list" = false := by decide
@[simp] theorem isTy_bn : isTy "bool" "NoneType" = false := by decide
@[simp] theorem isTy_bs : isTy "bool" "str" = false := by decide
@[simp] theorem isTy_bl : isTy "bool" "list" = false := by decide
@[simp] theorem isTy_tn : isTy "tuple" "NoneType" = false := by decide
@[simp] theorem isTy_ts : isTy "tuple" "str" = false := by decide
@[simp] theorem isTy_tb : isTy "tuple" "bool" = false := by decide
@[simp] theorem isTy_tl : isTy "tuple" "list" = false := by decide
@[simp] theorem isTy_ll : isTy "list" "list" = true := by decide
@[simp] theorem isTy_lt : isTy "list" "tuple" = false := by decide
@[simp] theorem isTy_li : isTy "list" "int" = false := by decide

/-! ### values -/
/-- ints, tuples of up to 64, not deeper than d -/
inductive Vl : Nat → PyData → Prop
  | int (d : Nat) (i : Int) : Vl d (.int i)
  | tup (d : Nat) (xs : List PyData) (hl : xs.length ≤ 64) (h : ∀ x ∈ xs, Vl d x) : Vl (d + 1) (.tuple xs)
theorem Vl.mono {d : Nat} {x : PyData} (h : Vl d x) : ∀ {d' : Nat}, d ≤ d' → Vl d' x := by
  induction h with
  | int d i => intro d' _; exact .int _ _
  | tup d xs hl h ih =>
    intro d' hd
    obtain ⟨n, rfl⟩ : ∃ n, d' = n + 1 := ⟨d' - 1, by omega⟩
    exact .tup _ _ hl fun x hx => ih x hx (by omega)
mutual
def cmp : PyData → PyData → Int
  | .int a, .int b => (if b < a then 1 else 0) - (if a < b then 1 else 0)
  | .int _, .tuple _ => -1
  | .tuple _, .int _ => 1
  | .tuple xs, .tuple ys => if xs.length = ys.length then cmpL xs ys else if xs.length < ys.length then -1 else 1
  | _, _ => 0
def cmpL : List PyData → List PyData → Int
  | x :: xs, y :: ys => if cmp x y = 0 then cmpL xs ys else cmp x y
  | _, _ => 0
end
mutual
def smv : PyData → Int
  | .int a => a
  | .tuple xs => smL xs
  | _ => 0
def smL : List PyData → Int
  | x :: xs => smv x + smL xs
  | [] => 0
end
def CmpOk (f : Nat → Cf) : Prop := ∀ k x y s d, Vl d x → Vl d y → d + 1 ≤ k → f k [.p x, .p y] s = .ok (DI (cmp x y)) s
inductive CmA (xs ys : List PyData) (s : Sto) : Nat → En → Sto → Prop
  | mk (n : Nat) (x2 x3 x4) (h : cmpL (xs.drop n) (ys.drop n) = cmpL xs ys) : CmA xs ys s n [some (.p (.tuple xs)), some (.p (.tuple ys)), x2, x3, x4] s
inductive CmB (xs ys : List PyData) (s : Sto) : Nat → En → Sto → Prop
  | mk (n : Nat) (x2 x3) (h : cmpL (xs.drop n) (ys.drop n) = cmpL xs ys) : CmB xs ys s n [some (.p (.tuple xs)), some (.p (.tuple ys)), x2, x3] s
theorem cmpL_cons {x y : PyData} {xs ys : List PyData} : cmpL (x :: xs) (y :: ys) = if cmp x y = 0 then cmpL xs ys else cmp x y := by
  rw [cmpL]
theorem cmpL_nil {ys : List PyData} : cmpL [] ys = 0 := by
  cases ys <;> simp [cmpL]
theorem compare_ok {f : Nat → Cf} (h : ∀ k ds s, f (k + 1) ds s = runB 5 (tm_c_compare (f k)) ds s) : CmpOk f := by
  intro k x y s d
  induction d generalizing k x y s with
  | zero =>
    intro hx hy hk
    obtain ⟨k, rfl⟩ : ∃ n, k = n + 1 := ⟨k - 1, by omega⟩
    rw [h, runB_eq]
    generalize f k = C
    unfold tm_c_compare
    cases hx with
    | int d a =>
      cases hy with
      | int d b => simp [cmp]
  | succ d ih =>
    intro hx hy hk
    obtain ⟨k, rfl⟩ : ∃ n, k = n + 1 := ⟨k - 1, by omega⟩
    rw [h]
    have ih := fun x y s h1 h2 => ih k x y s h1 h2 (by omega)
    generalize f k = C at *
    cases hx with
    | int d a =>
      rw [runB_eq]
      unfold tm_c_compare
      cases hy with
      | int d b => simp [cmp]
      | tup d ys => simp [cmp]
    | tup d xs hl hx =>
      cases hy with
      | int d b =>
        rw [runB_eq]
        unfold tm_c_compare
        simp [cmp]
      | tup d ys hl2 hy =>
        by_cases e : xs.length = ys.length
        · refine runB_P (P := fun r => r = .ok (DI (cmp (.tuple xs) (.tuple ys))) s) fun P hP => ?_
          replace hP : P (.rt (DI (cmpL xs ys)) s) := hP _ (by rw [cmp, if_pos e]; rfl)
          have ei : (xs.length : Int) = ys.length := by omega
          unfold tm_c_compare
          simp [ei]
          rw [foGo_Z e]
          have lz : (zipD xs ys).length = xs.length := by unfold zipD; rw [List.length_map, List.length_zip]; omega
          refine atPS (CmA xs ys s) (.mk 0 _ _ _ (by simp)) ?_ ?_
          · rintro e' s' ⟨x2, x3, x4, h⟩
            rw [lz, List.drop_length, cmpL_nil] at h
            rw [← h] at hP
            simp
            exact hP
          · rintro i hi e' s' ⟨x2, x3, x4, h⟩
            rw [lz] at hi
            have hi2 : i < ys.length := by omega
            have ez : (zipD xs ys)[i]'(by rw [lz]; exact hi) = .p (.tuple [xs[i], ys[i]]) := by simp [zipD]
            have ic := ih xs[i] ys[i] s (hx _ (List.getElem_mem hi)) (hy _ (List.getElem_mem hi2))
            rw [ez]
            rw [List.drop_eq_getElem_cons hi, List.drop_eq_getElem_cons hi2, cmpL_cons] at h
            by_cases c0 : cmp xs[i] ys[i] = 0
            · rw [if_pos c0] at h
              simp [ic, c0]
              exact .mk _ _ _ _ h
            · rw [if_neg c0] at h
              rw [← h] at hP
              simp [ic, c0]
              exact hP
        · have ei : ¬ (xs.length : Int) = ys.length := by omega
          rw [runB_eq]
          unfold tm_c_compare
          by_cases l : xs.length < ys.length
          · have li : (xs.length : Int) < ys.length := by omega
            simp [ei, li, cmp, e, l]
          · have li : ¬ (xs.length : Int) < ys.length := by omega
            simp [ei, li, cmp, e, l]
theorem law_compare_ok {f : Nat → Cf} (h : ∀ k ds s, f (k + 1) ds s = runB 4 (tm_law_compare (f k)) ds s) : CmpOk f := by
  intro k x y s d
  induction d generalizing k x y s with
  | zero =>
    intro hx hy hk
    obtain ⟨k, rfl⟩ : ∃ n, k = n + 1 := ⟨k - 1, by omega⟩
    rw [h, runB_eq]
    generalize f k = C
    unfold tm_law_compare
    cases hx with
    | int d a =>
      cases hy with
      | int d b => simp [cmp]
  | succ d ih =>
    intro hx hy hk
    obtain ⟨k, rfl⟩ : ∃ n, k = n + 1 := ⟨k - 1, by omega⟩
    rw [h]
    have ih := fun x y s h1 h2 => ih k x y s h1 h2 (by omega)
    generalize f k = C at *
    cases hx with
    | int d a =>
      rw [runB_eq]
      unfold tm_law_compare
      cases hy with
      | int d b => simp [cmp]
      | tup d ys => simp [cmp]
    | tup d xs hl hx =>
      cases hy with
      | int d b =>
        rw [runB_eq]
        unfold tm_law_compare
        simp [cmp]
      | tup d ys hl2 hy =>
        by_cases e : xs.length = ys.length
        · refine runB_P (P := fun r => r = .ok (DI (cmp (.tuple xs) (.tuple ys))) s) fun P hP => ?_
          replace hP : P (.rt (DI (cmpL xs ys)) s) := hP _ (by rw [cmp, if_pos e]; rfl)
          have ei : (xs.length : Int) = ys.length := by omega
          unfold tm_law_compare
          simp [ei]
          rw [if_pos (by omega)]
          simp [foGo_S]
          rw [← e]
          refine rngPS (CmB xs ys s) (.mk 0 _ _ (by simp)) ?_ ?_
          · rintro e' s' ⟨x2, x3, h⟩
            rw [List.drop_length, cmpL_nil] at h
            rw [← h] at hP
            simp
            exact hP
          · rintro i e' s' hi ⟨x2, x3, h⟩
            have hi2 : i < ys.length := by omega
            have ic := ih xs[i] ys[i] s (hx _ (List.getElem_mem hi)) (hy _ (List.getElem_mem hi2))
            have i1 := hIx_tat (s := s) (xs := xs) (i := i) (x := xs[i]) (by simp [hi])
            have i2 := hIx_tat (s := s) (xs := ys) (i := i) (x := ys[i]) (by simp [hi2])
            rw [List.drop_eq_getElem_cons hi, List.drop_eq_getElem_cons hi2, cmpL_cons] at h
            by_cases c0 : cmp xs[i] ys[i] = 0
            · rw [if_pos c0] at h
              simp [i1, i2, ic, c0]
              exact .mk _ _ _ h
            · rw [if_neg c0] at h
              rw [← h] at hP
              simp [i1, i2, ic, c0]
              exact hP
        · have ei : ¬ (xs.length : Int) = ys.length := by omega
          rw [runB_eq]
          unfold tm_law_compare
          by_cases l : xs.length < ys.length
          · have li : (xs.length : Int) < ys.length := by omega
            simp [ei, li, cmp, e, l]
          · have li : ¬ (xs.length : Int) < ys.length := by omega
            simp [ei, li, cmp, e, l]
def SumOk (f : Nat → Cf) : Prop := ∀ k x s d, Vl d x → d + 1 ≤ k → f k [.p x] s = .ok (DI (smv x)) s
theorem smL_map : ∀ xs : List PyData, (xs.map smv).sum = smL xs
  | [] => by simp [smL]
  | x :: xs => by
    rw [List.map_cons, List.sum_cons, smL_map xs, smL]
theorem eLc_map {vs : List Nat} {fi : IV} {g : GV} {f : EV} {e : En} {s : Sto} {xs ys : List PyData} (hi : fi e s = .ok (itS (xs.map D.p)) s) (hl : xs.length = ys.length) (hz : xs.length ≤ 16777216) (hs : ∀ i (h1 : i < xs.length) (h2 : i < ys.length), ((g (.p xs[i]) (wipeE e vs) s).bind fun e1 s => f e1 s) = .ok (.p ys[i]) s) : eLc false vs fi g tYes f e s = .ok (.p (.list ys)) s := by
  rw [eLc_of hi, lcL_zip (xs.map D.p) (ys.map D.p) [] (by simpa using hl) (fun i h1 h2 => by
    have := hs i (by simpa using h1) (by simpa using h2)
    simpa using this) (by rw [PySem.sizeLine_eq]; simpa using hz)]
  simp [newL_false]
theorem wipe1 {x : Option D} : wipeE [x, none] [1] = [x, none] := by cases x <;> rfl
theorem sum_gen {f : Nat → Cf} (tm : Cf → SV) (ht : tm = fun C => (sSeq (sIf (tTru (eIsi "int" (eVar 0)))
  (sRet (eVar 0))
  sNil)
  (sRet (eBlt hSum (aCons (eLc false [1] (iSeq (eVar 0)) (gSet 1) tYes (eCall C [] (aCons (eVar 1) aNil))) aNil))))) (h : ∀ k ds s, f (k + 1) ds s = runB 2 (tm (f k)) ds s) : SumOk f := by
  intro k x s d
  induction d generalizing k x s with
  | zero =>
    intro hx hk
    obtain ⟨k, rfl⟩ : ∃ n, k = n + 1 := ⟨k - 1, by omega⟩
    rw [h, runB_eq]
    generalize f k = C
    subst ht
    cases hx with
    | int d a => simp [smv]
  | succ d ih =>
    intro hx hk
    obtain ⟨k, rfl⟩ : ∃ n, k = n + 1 := ⟨k - 1, by omega⟩
    rw [h, runB_eq]
    have ih := fun x s h1 => ih k x s h1 (by omega)
    generalize f k = C at *
    subst ht
    cases hx with
    | int d a => simp [smv]
    | tup d xs hl hx =>
      have q := eLc_map (vs := [1]) (fi := iSeq (eVar 0)) (g := gSet 1) (f := eCall C [] (aCons (eVar 1) aNil)) (e := [some (.p (.tuple xs)), none]) (s := s) (xs := xs) (ys := (xs.map smv).map PyData.int) (by simp) (by simp) (by omega) (fun i h1 h2 => by
        have := ih xs[i] s (hx _ (List.getElem_mem h1))
        rw [wipe1]
        simp [this])
      have hs := hSum_ints (s := s) (xs.map smv)
      rw [smL_map] at hs
      simp at q hs
      simp [q, hs, smv]
theorem sum_ok {f : Nat → Cf} (h : ∀ k ds s, f (k + 1) ds s = runB 2 (tm_c_sum_of (f k)) ds s) : SumOk f := sum_gen tm_c_sum_of rfl h
theorem law_sum_ok {f : Nat → Cf} (h : ∀ k ds s, f (k + 1) ds s = runB 2 (tm_law_sum (f k)) ds s) : SumOk f := sum_gen tm_law_sum rfl h
def szv : PyData → Int
  | .tuple xs => xs.length
  | _ => 0
theorem size_v {x : PyData} {s : Sto} {d : Nat} (hx : Vl d x) : runB 1 tm_c_size_of [.p x] s = .ok (DI (szv x)) s := by
  rw [runB_eq]
  unfold tm_c_size_of
  cases hx with
  | int d a => simp [szv]
  | tup d xs => simp [szv]
def IsVOk (f : Nat → Cf) : Prop := ∀ k x s (d : Nat) (n : Nat), Vl d x → d ≤ n → d + 1 ≤ k → f k [.p x, DI n] s = .ok (DB true) s
theorem isv_ok {f : Nat → Cf} (h : ∀ k ds s, f (k + 1) ds s = runB 3 (tm_c_is_value (f k)) ds s) : IsVOk f := by
  intro k x s d n
  induction d generalizing k x s n with
  | zero =>
    intro hx hn hk
    obtain ⟨k, rfl⟩ : ∃ n, k = n + 1 := ⟨k - 1, by omega⟩
    rw [h, runB_eq]
    generalize f k = C
    unfold tm_c_is_value
    cases hx with
    | int d a => simp
  | succ d ih =>
    intro hx hn hk
    obtain ⟨k, rfl⟩ : ∃ n, k = n + 1 := ⟨k - 1, by omega⟩
    obtain ⟨n, rfl⟩ : ∃ m, n = m + 1 := ⟨n - 1, by omega⟩
    rw [h, runB_eq]
    have ih := fun x s h1 => ih k x s n h1 (by omega) (by omega)
    generalize f k = C at *
    unfold tm_c_is_value
    cases hx with
    | int d a => simp
    | tup d xs hl hx =>
      have q := eLc_map (vs := [2]) (fi := iSeq (eVar 0)) (g := gSet 2) (f := eCall C [] (aCons (eVar 2) (aCons (eOp hSub (eVar 1) (eC (.int 1))) aNil))) (e := [some (.p (.tuple xs)), some (DI ((n : Int) + 1)), none]) (s := s) (xs := xs) (ys := (List.replicate xs.length true).map PyData.bool) (by simp) (by simp) (by omega) (fun i h1 h2 => by
        have := ih xs[i] s (hx _ (List.getElem_mem h1))
        have w : wipeE [some (.p (.tuple xs)), some (DI ((n : Int) + 1)), none] [2] = [some (.p (.tuple xs)), some (DI ((n : Int) + 1)), none] := rfl
        have e1 : (n : Int) + 1 - 1 = n := by omega
        rw [w]
        simp [this, e1])
      have hs := hAll_bools (s := s) (List.replicate xs.length true)
      have e2 : ¬ (64 : Int) < xs.length := by omega
      have e3 : ¬ ((n : Int) + 1 = 0) := by omega
      simp at q hs
      simp [q, hs, e2, e3]

/-! ### comprehensions that leave out -/
theorem lcL_opt {g : GV} {p : TV} {f : EV} {e0 : En} {s : Sto} : ∀ (xs : List D) (os : List (Option D)) (acc : List D) (hl : xs.length = os.length) (hs : ∀ i (h1 : i < xs.length) (h2 : i < os.length), ((g xs[i] e0 s).bind fun e1 s => (p e1 s).bind fun b s => if b then (f e1 s).bind fun y s => .ok (some y) s else .ok none s) = .ok os[i] s) (hz : acc.length + xs.length ≤ sizeLine), lcL g p f e0 xs acc s = .ok (acc ++ os.filterMap id) s
  | [], [], acc, _, _, _ => by simp [lcL]
  | x :: xs, o :: os, acc, hl, hs, hz => by
    have q := hs 0 (by simp) (by simp)
    simp only [List.getElem_cons_zero] at q
    rw [List.length_cons] at hz
    have ih := fun acc hz => lcL_opt (g := g) (p := p) (f := f) (e0 := e0) (s := s) xs os acc (by simpa using hl) (fun i h1 h2 => by
        have := hs (i + 1) (by simpa using h1) (by simpa using h2)
        simpa using this) hz
    unfold lcL
    cases hg : g x e0 s with
    | bad => rw [hg] at q; cases q
    | ex c x s' => rw [hg] at q; cases q
    | ok e1 s1 =>
      rw [hg, R.bind_ok] at q
      rw [R.bind_ok]
      cases hp : p e1 s1 with
      | bad => rw [hp] at q; cases q
      | ex c x s' => rw [hp] at q; cases q
      | ok b s2 =>
        rw [hp, R.bind_ok] at q
        rw [R.bind_ok]
        cases b with
        | false =>
          simp only [Bool.false_eq_true, if_false] at q ⊢
          injection q with q1 q2
          subst q1 q2
          rw [ih acc (by omega)]
          simp
        | true =>
          simp only [if_true] at q ⊢
          cases hf : f e1 s2 with
          | bad => rw [hf] at q; cases q
          | ex c x s' => rw [hf] at q; cases q
          | ok y s3 =>
            rw [hf, R.bind_ok] at q
            injection q with q1 q2
            subst q1 q2
            rw [R.bind_ok, if_pos (by omega), ih (acc ++ [y]) (by rw [List.length_append, List.length_singleton]; omega)]
            simp
  | [], _ :: _, _, hl, _, _ => by cases hl
  | _ :: _, [], _, hl, _, _ => by cases hl
/-- .. the items kept that pass -/
theorem eLc_filter {vs : List Nat} {fi : IV} {g : GV} {p : TV} {f : EV} {e : En} {s : Sto} {xs : List PyData} (b : PyData → Bool) (hi : fi e s = .ok (itS (xs.map D.p)) s) (hz : xs.length ≤ 16777216) (hs : ∀ x ∈ xs, ((g (.p x) (wipeE e vs) s).bind fun e1 s => (p e1 s).bind fun b s => if b then (f e1 s).bind fun y s => .ok (some y) s else .ok none s) = .ok (if b x then some (.p x) else none) s) : eLc false vs fi g p f e s = .ok (.p (.list (xs.filter b))) s := by
  have fm : ∀ xs : List PyData, (xs.map fun x => if b x then some (D.p x) else none).filterMap id = (xs.filter b).map D.p := fun xs => by
    induction xs with
    | nil => rfl
    | cons x xs ih =>
      rw [List.map_cons, List.filter_cons]
      by_cases hb : b x = true
      · rw [if_pos hb, if_pos hb, List.filterMap_cons, List.map_cons, ← ih]
        rfl
      · rw [if_neg hb, if_neg hb, List.filterMap_cons, ← ih]
        rfl
  rw [eLc_of hi, lcL_opt (xs.map D.p) (xs.map fun x => if b x then some (D.p x) else none) [] (by simp) (fun i h1 h2 => by
    have h1' : i < xs.length := by simpa using h1
    have := hs xs[i] (List.getElem_mem h1')
    simpa using this) (by rw [PySem.sizeLine_eq]; simpa using hz), fm]
  simp [newL_false]

/-! ### rising -/
def risL : List PyData → Bool
  | x :: y :: r => decide (cmp x y ≤ 0) && risL (y :: r)
  | _ => true
def ris : PyData → Bool
  | .tuple xs => risL xs
  | _ => true
inductive RiA (xs : List PyData) (s : Sto) : Nat → En → Sto → Prop
  | mk (n : Nat) (x1) (h : risL (xs.drop n) = risL xs) : RiA xs s n [some (.p (.tuple xs)), x1] s
theorem rng_get {a : Int} {n i : Nat} (h : i < (rngD a n).length) : (rngD a n)[i] = DI (a + i) := by simp [rngD]
def RisOk (f : Nat → Cf) : Prop := ∀ k x s, Vl 8 x → 10 ≤ k → f k [.p x] s = .ok (DB (ris x)) s
theorem risL_one {x : PyData} : risL [x] = true := rfl
theorem rising_ok {f cf : Nat → Cf} (h : ∀ k ds s, f (k + 1) ds s = runB 2 (tm_c_is_rising (cf k)) ds s) (hc : CmpOk cf) : RisOk f := by
  intro k x s hx hk
  obtain ⟨k, rfl⟩ : ∃ n, k = n + 1 := ⟨k - 1, by omega⟩
  rw [h]
  have hc := fun x y s h1 h2 => hc k x y s 7 h1 h2 (by omega)
  generalize cf k = C at *
  cases hx with
  | int d a =>
    rw [runB_eq]
    unfold tm_c_is_rising
    simp [ris]
  | tup d xs hl hx =>
    refine runB_P (P := fun r => r = .ok (DB (ris (.tuple xs))) s) fun P hP => ?_
    replace hP : P (.rt (DB (risL xs)) s) := hP _ rfl
    unfold tm_c_is_rising
    simp
    rw [if_pos (by omega)]
    simp [foGo_S]
    refine atPS (RiA xs s) (.mk 0 _ (by simp)) ?_ ?_
    · rintro e' s' ⟨x1, h⟩
      have hd : risL (xs.drop (rngD 1 (xs.length - 1)).length) = true := by
        rw [rngD_length]
        cases xs with
        | nil => rfl
        | cons x r =>
          rw [List.length_cons, Nat.add_sub_cancel]
          have : ((x :: r).drop r.length).length = 1 := by rw [List.length_drop, List.length_cons]; omega
          match (x :: r).drop r.length, this with
          | [y], _ => rfl
      rw [← h, hd] at hP
      simp
      exact hP
    · rintro i hi e' s' ⟨x1, h⟩
      rw [rng_get]
      rw [rngD_length] at hi
      have h1 : i < xs.length := by omega
      have h2 : i + 1 < xs.length := by omega
      have e1 : (1 : Int) + i - 1 = i := by omega
      have e2 : (1 : Int) + i = ((i + 1 : Nat) : Int) := by omega
      have i1 := hIx_tat (s := s) (xs := xs) (i := i) (x := xs[i]) (by simp [h1])
      have i2 := hIx_tat (s := s) (xs := xs) (i := i + 1) (x := xs[i + 1]) (by simp [h2])
      rw [← e2] at i2
      have ic := hc xs[i] xs[i + 1] s (hx _ (List.getElem_mem h1)) (hx _ (List.getElem_mem h2))
      rw [List.drop_eq_getElem_cons h1, List.drop_eq_getElem_cons h2] at h
      by_cases c0 : cmp xs[i] xs[i + 1] ≤ 0
      · have c1 : ¬ 0 < cmp xs[i] xs[i + 1] := by omega
        simp [e1, i1, i2, ic, c1]
        refine .mk _ _ ?_
        rw [risL, decide_eq_true c0, Bool.true_and] at h
        rw [List.drop_eq_getElem_cons h2]
        exact h
      · have c1 : 0 < cmp xs[i] xs[i + 1] := by omega
        rw [risL, decide_eq_false c0, Bool.false_and] at h
        rw [← h] at hP
        simp [e1, i1, i2, ic, c1]
        exact hP

/-! ### tests -/
inductive Te where
  | equals (v : PyData)
  | less (i : Int)
  | even
  | size (i : Int)
  | rising
  | not (t : Te)
  | all (t : Te)
  | any (t : Te)
  | both (a b : Te)
  | either (a b : Te)
namespace Te
def enc : Te → PyData
  | equals v => .tuple [.str q_equals, v]
  | less i => .tuple [.str q_less, .int i]
  | even => .tuple [.str q_even]
  | size i => .tuple [.str q_size, .int i]
  | rising => .tuple [.str q_rising]
  | not t => .tuple [.str q_not, t.enc]
  | all t => .tuple [.str q_all, t.enc]
  | any t => .tuple [.str q_any, t.enc]
  | both a b => .tuple [.str q_both, a.enc, b.enc]
  | either a b => .tuple [.str q_either, a.enc, b.enc]
def dep : Te → Nat
  | not t => t.dep + 1
  | all t => t.dep + 1
  | any t => t.dep + 1
  | both a b => max a.dep b.dep + 1
  | either a b => max a.dep b.dep + 1
  | _ => 1
def ok : Te → Prop
  | equals v => Vl 8 v
  | not t => t.ok
  | all t => t.ok
  | any t => t.ok
  | both a b => a.ok ∧ b.ok
  | either a b => a.ok ∧ b.ok
  | _ => True
def hold : Te → PyData → Bool
  | equals v, x => decide (cmp v x = 0)
  | less i, x => decide (smv x < i)
  | even, x => decide (smv x % 2 = 0)
  | size i, x => decide (szv x = i)
  | rising, x => ris x
  | not t, x => !t.hold x
  | both a b, x => a.hold x && b.hold x
  | either a b, x => a.hold x || b.hold x
  | all t, .tuple xs => xs.all t.hold
  | all t, x => t.hold x
  | any t, .tuple xs => xs.any t.hold
  | any t, x => t.hold x
end Te
def HoldOk (f : Nat → Cf) : Prop := ∀ (t : Te) k x s, t.ok → Vl 8 x → t.dep + 11 ≤ k → f k [.p t.enc, .p x] s = .ok (DB (t.hold x)) s
def SizeOk (f : Nat → Cf) : Prop := ∀ k x s, Vl 8 x → 1 ≤ k → f k [.p x] s = .ok (DI (szv x)) s
theorem size_ok {f : Nat → Cf} (h : ∀ k ds s, f (k + 1) ds s = runB 1 tm_c_size_of ds s) : SizeOk f := fun k x s hx hk => by
  obtain ⟨k, rfl⟩ : ∃ n, k = n + 1 := ⟨k - 1, by omega⟩
  rw [h]
  exact size_v hx
theorem wipe_t {a b c : Option D} : wipeE [a, b, c, none] [3] = [a, b, c, none] := by cases a <;> cases b <;> cases c <;> rfl
theorem holds_ok {f cf sf zf rf : Nat → Cf} (h : ∀ k ds s, f (k + 1) ds s = runB 4 (tm_c_holds (cf k) (sf k) (zf k) (rf k) (f k)) ds s) (hc : CmpOk cf) (hs : SumOk sf) (hz : SizeOk zf) (hr : RisOk rf) : HoldOk f := by
  intro t
  induction t with
  | equals v =>
    intro k x s ht hx hk
    obtain ⟨k, rfl⟩ : ∃ n, k = n + 1 := ⟨k - 1, by omega⟩
    have c := hc k v x s 8 ht hx (by simp [Te.dep] at hk; omega)
    rw [h, runB_eq]
    unfold tm_c_holds Te.enc
    simp [q_equals]
    simp [c, Te.hold]
  | less i =>
    intro k x s ht hx hk
    obtain ⟨k, rfl⟩ : ∃ n, k = n + 1 := ⟨k - 1, by omega⟩
    have c := hs k x s 8 hx (by simp [Te.dep] at hk; omega)
    rw [h, runB_eq]
    unfold tm_c_holds Te.enc
    simp [q_equals, q_less]
    simp [c, Te.hold]
  | even =>
    intro k x s ht hx hk
    obtain ⟨k, rfl⟩ : ∃ n, k = n + 1 := ⟨k - 1, by omega⟩
    have c := hs k x s 8 hx (by simp [Te.dep] at hk; omega)
    rw [h, runB_eq]
    unfold tm_c_holds Te.enc
    simp [q_equals, q_less, q_even]
    simp [c, Te.hold]
  | size i =>
    intro k x s ht hx hk
    obtain ⟨k, rfl⟩ : ∃ n, k = n + 1 := ⟨k - 1, by omega⟩
    have c := hz k x s hx (by simp [Te.dep] at hk; omega)
    rw [h, runB_eq]
    unfold tm_c_holds Te.enc
    simp [q_equals, q_less, q_even, q_size]
    simp [c, Te.hold]
  | rising =>
    intro k x s ht hx hk
    obtain ⟨k, rfl⟩ : ∃ n, k = n + 1 := ⟨k - 1, by omega⟩
    have c := hr k x s hx (by simp [Te.dep] at hk; omega)
    rw [h, runB_eq]
    unfold tm_c_holds Te.enc
    simp [q_equals, q_less, q_even, q_size, q_rising]
    simp [c, Te.hold]
  | not t ih =>
    intro k x s ht hx hk
    obtain ⟨k, rfl⟩ : ∃ n, k = n + 1 := ⟨k - 1, by omega⟩
    have c := ih k x s ht hx (by simp [Te.dep] at hk; omega)
    rw [h, runB_eq]
    unfold tm_c_holds Te.enc
    simp [q_equals, q_less, q_even, q_size, q_rising, q_not]
    simp [c, Te.hold]
  | both a b iha ihb =>
    intro k x s ht hx hk
    obtain ⟨k, rfl⟩ : ∃ n, k = n + 1 := ⟨k - 1, by omega⟩
    simp only [Te.dep] at hk
    have c := iha k x s ht.1 hx (by omega)
    have d := ihb k x s ht.2 hx (by omega)
    rw [h, runB_eq]
    unfold tm_c_holds Te.enc
    simp [q_equals, q_less, q_even, q_size, q_rising, q_not, q_both]
    simp [c, d, Te.hold]
    cases a.hold x <;> simp
  | either a b iha ihb =>
    intro k x s ht hx hk
    obtain ⟨k, rfl⟩ : ∃ n, k = n + 1 := ⟨k - 1, by omega⟩
    simp only [Te.dep] at hk
    have c := iha k x s ht.1 hx (by omega)
    have d := ihb k x s ht.2 hx (by omega)
    rw [h, runB_eq]
    unfold tm_c_holds Te.enc
    simp [q_equals, q_less, q_even, q_size, q_rising, q_not, q_both, q_either]
    simp [c, d, Te.hold]
    cases a.hold x <;> simp
  | all t ih =>
    intro k x s ht hx hk
    obtain ⟨k, rfl⟩ : ∃ n, k = n + 1 := ⟨k - 1, by omega⟩
    have c := fun x s h => ih k x s ht h (by simp [Te.dep] at hk; omega)
    rw [h, runB_eq]
    generalize f k = F at *
    unfold tm_c_holds Te.enc
    cases hx with
    | int d a =>
      simp [q_equals, q_less, q_even, q_size, q_rising, q_not, q_both, q_either, q_all]
      simp [c _ _ (.int _ _), Te.hold]
    | tup d xs hl hx =>
      have q := eLc_map (vs := [3]) (fi := iSeq (eVar 1)) (g := gSet 3) (f := eCall F [] (aCons (eOp hIx (eVar 0) (eC (.int 1))) (aCons (eVar 3) aNil))) (e := [some (.p (.tuple [.str q_all, t.enc])), some (.p (.tuple xs)), some (.p (.str q_all)), none]) (s := s) (xs := xs) (ys := (xs.map t.hold).map PyData.bool) (by simp) (by simp) (by omega) (fun i h1 h2 => by
        have := c xs[i] s ((hx _ (List.getElem_mem h1)).mono (by omega))
        rw [wipe_t]
        simp [this])
      have hs := hAll_bools (s := s) (xs.map t.hold)
      have e2 : (xs.map t.hold).all _root_.id = xs.all t.hold := by rw [List.all_map]; rfl
      rw [e2] at hs
      simp [q_all] at q hs
      simp [q_equals, q_less, q_even, q_size, q_rising, q_not, q_both, q_either, q_all]
      simp [q, hs, Te.hold]
  | any t ih =>
    intro k x s ht hx hk
    obtain ⟨k, rfl⟩ : ∃ n, k = n + 1 := ⟨k - 1, by omega⟩
    have c := fun x s h => ih k x s ht h (by simp [Te.dep] at hk; omega)
    rw [h, runB_eq]
    generalize f k = F at *
    unfold tm_c_holds Te.enc
    cases hx with
    | int d a =>
      simp [q_equals, q_less, q_even, q_size, q_rising, q_not, q_both, q_either, q_any]
      simp [c _ _ (.int _ _), Te.hold]
    | tup d xs hl hx =>
      have q := eLc_map (vs := [3]) (fi := iSeq (eVar 1)) (g := gSet 3) (f := eCall F [] (aCons (eOp hIx (eVar 0) (eC (.int 1))) (aCons (eVar 3) aNil))) (e := [some (.p (.tuple [.str q_any, t.enc])), some (.p (.tuple xs)), some (.p (.str q_any)), none]) (s := s) (xs := xs) (ys := (xs.map t.hold).map PyData.bool) (by simp) (by simp) (by omega) (fun i h1 h2 => by
        have := c xs[i] s ((hx _ (List.getElem_mem h1)).mono (by omega))
        rw [wipe_t]
        simp [this])
      have hs := hAny_bools (s := s) (xs.map t.hold)
      have e2 : (xs.map t.hold).any _root_.id = xs.any t.hold := by rw [List.any_map]; rfl
      rw [e2] at hs
      simp [q_any] at q hs
      simp [q_equals, q_less, q_even, q_size, q_rising, q_not, q_both, q_either, q_any, q_all]
      simp [q, hs, Te.hold]

/-! ### == of values -/
theorem vl_shape {d : Nat} {x : PyData} (h : Vl d x) : x.canLay0 = true ∧ x.depth ≤ d + 1 := by
  induction h with
  | int d i => exact ⟨rfl, by simp [PyData.depth]⟩
  | tup d xs hl h ih =>
    have : PyData.canLayAll0 xs = true ∧ PyData.depthAll xs ≤ d + 1 := by
      clear hl h
      induction xs with
      | nil => exact ⟨rfl, by simp [PyData.depthAll]⟩
      | cons x xs ih2 =>
        have a := ih x List.mem_cons_self
        have b := ih2 fun y hy => ih y (List.mem_cons_of_mem _ hy)
        refine ⟨by simp only [PyData.canLayAll0, a.1, b.1, Bool.and_self], ?_⟩
        simp only [PyData.depthAll]
        omega
    refine ⟨by simp only [PyData.canLay0, this.1], ?_⟩
    simp only [PyData.depth]
    omega
theorem vl_shaped {d : Nat} {x : PyData} (h : Vl d x) (hd : d ≤ 60) : SeqAt.shaped x = true := by
  have := vl_shape h
  unfold SeqAt.shaped
  rw [this.1, Bool.true_and, decide_eq_true_eq]
  omega
theorem cmp_int0 {a b : Int} : cmp (.int a) (.int b) = 0 ↔ a = b := by
  rw [cmp]
  split <;> split <;> omega
theorem cmp_tt {xs ys : List PyData} : cmp (.tuple xs) (.tuple ys) = if xs.length = ys.length then cmpL xs ys else if xs.length < ys.length then -1 else 1 := by rw [cmp]
theorem eqv_iff {d : Nat} : ∀ {x y : PyData}, Vl d x → Vl d y → (PyData.eqv x y = true ↔ cmp x y = 0) := by
  induction d with
  | zero =>
    intro x y hx hy
    cases hx with
    | int d a =>
      cases hy with
      | int d b =>
        rw [cmp_int0]
        simp [PyData.eqv]
  | succ d ih =>
    intro x y hx hy
    cases hx with
    | int d a =>
      cases hy with
      | int d b =>
        rw [cmp_int0]
        simp [PyData.eqv]
      | tup d ys => simp [PyData.eqv, cmp]
    | tup d xs hl hx =>
      cases hy with
      | int d b => simp [PyData.eqv, cmp]
      | tup d ys hl2 hy =>
        have key : ∀ xs ys : List PyData, (∀ x ∈ xs, Vl d x) → (∀ x ∈ ys, Vl d x) → (xs.length = ys.length → (PyData.eqvAll xs ys = true ↔ cmpL xs ys = 0)) ∧ (xs.length ≠ ys.length → PyData.eqvAll xs ys = false) := by
          intro xs
          induction xs with
          | nil =>
            intro ys _ _
            cases ys with
            | nil => simp [PyData.eqvAll, cmpL]
            | cons y ys => simp [PyData.eqvAll]
          | cons x xs ih2 =>
            intro ys h1 h2
            cases ys with
            | nil => simp [PyData.eqvAll]
            | cons y ys =>
              have a := ih (h1 x List.mem_cons_self) (h2 y List.mem_cons_self)
              have b := ih2 ys (fun z hz => h1 z (List.mem_cons_of_mem _ hz)) (fun z hz => h2 z (List.mem_cons_of_mem _ hz))
              rw [PyData.eqvAll, cmpL_cons]
              constructor
              · intro e
                rw [Bool.and_eq_true, a, b.1 (by simpa using e)]
                by_cases c : cmp x y = 0
                · simp [c]
                · simp [c]
              · intro e
                rw [b.2 (by simpa using e)]
                simp
        have k := key xs ys hx hy
        rw [cmp_tt, PyData.eqv]
        by_cases e : xs.length = ys.length
        · rw [k.1 e, if_pos e]
        · rw [k.2 e, if_neg e]
          split <;> simp
theorem eqv_cmp {d : Nat} {x y : PyData} (hx : Vl d x) (hy : Vl d y) : PyData.eqv x y = decide (cmp x y = 0) := by
  rw [Bool.eq_iff_iff, decide_eq_true_eq]
  exact eqv_iff hx hy
theorem hEq_vl {x y : PyData} {s : Sto} (hx : Vl 8 x) (hy : Vl 8 y) : hEq (.p x) (.p y) s = .ok (DB (decide (cmp x y = 0))) s := by
  have s1 := vl_shaped hx (by decide)
  have s2 := vl_shaped hy (by decide)
  have e := eqv_cmp hx hy
  have : hEqB s (.p x) (.p y) = some (decide (cmp x y = 0)) := by
    cases hx with
    | int d a =>
      cases hy with
      | int d b =>
        simp only [PyData.eqv] at e
        rw [← e]
        rfl
      | tup d ys =>
        unfold hEqB toP
        simp only [s1, s2, Bool.and_self, if_true, e]
    | tup d xs =>
      cases hy with
      | int d b =>
        unfold hEqB toP
        simp only [s1, s2, Bool.and_self, if_true, e]
      | tup d ys =>
        unfold hEqB toP
        simp only [s1, s2, Bool.and_self, if_true, e]
  unfold hEq
  rw [this]
theorem hNe_vl {x y : PyData} {s : Sto} (hx : Vl 8 x) (hy : Vl 8 y) : hNe (.p x) (.p y) s = .ok (DB (!decide (cmp x y = 0))) s := by
  have q := hEq_vl (s := s) hx hy
  unfold hEq at q
  unfold hNe
  cases h : hEqB s (.p x) (.p y) with
  | none => rw [h] at q; cases q
  | some b =>
    rw [h] at q
    simp only [R.ok.injEq, D.p.injEq, PyData.bool.injEq, and_true] at q
    rw [q]
theorem risL_iff : ∀ xs : List PyData, risL xs = true ↔ ∀ i, i + 1 < xs.length → cmp (xs.getD i .none) (xs.getD (i + 1) .none) ≤ 0
  | [] => by simp [risL]
  | [x] => by simp [risL]
  | x :: y :: r => by
    rw [risL, Bool.and_eq_true, decide_eq_true_eq, risL_iff (y :: r)]
    constructor
    · rintro ⟨h1, h2⟩ i hi
      cases i with
      | zero => exact h1
      | succ i => exact h2 i (by simpa using hi)
    · intro h
      exact ⟨h 0 (by simp), fun i hi => h (i + 1) (by simpa using hi)⟩

/-! ### the law's reading of tests -/
theorem filter_len0 {α : Type} {l : List α} {b : α → Bool} : (l.filter b).length = 0 ↔ ∀ x ∈ l, b x = false := by
  rw [List.length_eq_zero_iff, List.filter_eq_nil_iff]
  simp
theorem filter_lenL {α : Type} {l : List α} {b : α → Bool} : (l.filter b).length = l.length ↔ l.all b = true := by
  rw [List.length_filter_eq_length_iff, List.all_eq_true]
theorem filter_lenP {α : Type} {l : List α} {b : α → Bool} : 0 < (l.filter b).length ↔ l.any b = true := by
  rw [List.length_pos_iff, ne_eq, List.filter_eq_nil_iff, List.any_eq_true]
  simp
theorem wipe_l5 {a b c d e g : Option D} : wipeE [a, b, c, d, e, none, g] [5] = [a, b, c, d, e, none, g] := rfl
theorem wipe_l6 {a b c d e g : Option D} : wipeE [a, b, c, d, e, g, none] [6] = [a, b, c, d, e, g, none] := rfl
/-- the row of the rise's breaks -/
theorem breaks_v {cf : Cf} {xs : List PyData} {s : Sto} {x0 x1 x2 x4 : Option D} (hl : xs.length ≤ 64) (hx : ∀ x ∈ xs, Vl 8 x) (hc : ∀ x y s, Vl 8 x → Vl 8 y → cf [.p x, .p y] s = .ok (DI (cmp x y)) s) :
    ∃ zs : List PyData, (zs.length = 0 ↔ risL xs = true) ∧ eLc false [5] (iRange2 (eC (.int 1)) (eBlt hLen (aCons (eVar 3) aNil))) (gSet 5) (tB (eOp hGt (eCall cf [] (aCons (eOp hIx (eVar 3) (eOp hSub (eVar 5) (eC (.int 1)))) (aCons (eOp hIx (eVar 3) (eVar 5)) aNil))) (eC (.int 0)))) (eVar 5) [x0, x1, x2, some (.p (.list xs)), x4, none, none] s = .ok (.p (.list zs)) s := by
  let b : PyData → Bool := fun y => match y with
    | .int k => decide (0 < cmp (xs.getD (k.toNat - 1) .none) (xs.getD k.toNat .none))
    | _ => false
  have q := eLc_filter (vs := [5]) (fi := iRange2 (eC (.int 1)) (eBlt hLen (aCons (eVar 3) aNil))) (g := gSet 5) (p := tB (eOp hGt (eCall cf [] (aCons (eOp hIx (eVar 3) (eOp hSub (eVar 5) (eC (.int 1)))) (aCons (eOp hIx (eVar 3) (eVar 5)) aNil))) (eC (.int 0)))) (f := eVar 5) (e := [x0, x1, x2, some (.p (.list xs)), x4, none, none]) (s := s) (xs := (List.range (xs.length - 1)).map fun (i : Nat) => PyData.int (1 + i)) b (by
    simp
    rw [if_pos (by omega)]
    simp [rngD]
    rfl) (by simp; omega) (fun x hm => by
    obtain ⟨i, hi, rfl⟩ := List.mem_map.mp hm
    rw [List.mem_range] at hi
    have h1 : i < xs.length := by omega
    have h2 : i + 1 < xs.length := by omega
    have e1 : (1 : Int) + i - 1 = i := by omega
    have e2 : (1 : Int) + i = ((i + 1 : Nat) : Int) := by omega
    have i1 := hIx_lat (s := s) (xs := xs) (i := i) (x := xs[i]) (by simp [h1])
    have i2 := hIx_lat (s := s) (xs := xs) (i := i + 1) (x := xs[i + 1]) (by simp [h2])
    rw [← e2] at i2
    have ic := hc xs[i] xs[i + 1] s (hx _ (List.getElem_mem h1)) (hx _ (List.getElem_mem h2))
    have eb : b (.int (1 + i)) = decide (0 < cmp xs[i] xs[i + 1]) := by
      show decide (0 < cmp (xs.getD (((1 : Int) + i).toNat - 1) .none) (xs.getD ((1 : Int) + i).toNat .none)) = _
      rw [show ((1 : Int) + i).toNat = i + 1 by omega, Nat.add_sub_cancel, List.getD_eq_getElem?_getD, List.getD_eq_getElem?_getD, List.getElem?_eq_getElem h1, List.getElem?_eq_getElem h2]
      rfl
    rw [eb, wipe_l5]
    by_cases c0 : 0 < cmp xs[i] xs[i + 1]
    · simp [e1, i1, i2, ic, c0]
    · simp [e1, i1, i2, ic, c0])
  refine ⟨_, ?_, q⟩
  rw [filter_len0, risL_iff]
  constructor
  · intro h i hi
    have := h (.int (1 + i)) (List.mem_map.mpr ⟨i, List.mem_range.mpr (by omega), rfl⟩)
    have e : b (.int (1 + i)) = decide (0 < cmp (xs.getD i .none) (xs.getD (i + 1) .none)) := by
      show decide (0 < cmp (xs.getD (((1 : Int) + i).toNat - 1) .none) (xs.getD ((1 : Int) + i).toNat .none)) = _
      rw [show ((1 : Int) + i).toNat = i + 1 by omega, Nat.add_sub_cancel]
    rw [e, decide_eq_false_iff_not] at this
    omega
  · intro h x hm
    obtain ⟨i, hi, rfl⟩ := List.mem_map.mp hm
    rw [List.mem_range] at hi
    have := h i (by omega)
    have e : b (.int (1 + i)) = decide (0 < cmp (xs.getD i .none) (xs.getD (i + 1) .none)) := by
      show decide (0 < cmp (xs.getD (((1 : Int) + i).toNat - 1) .none) (xs.getD ((1 : Int) + i).toNat .none)) = _
      rw [show ((1 : Int) + i).toNat = i + 1 by omega, Nat.add_sub_cancel]
    rw [e, decide_eq_false_iff_not]
    omega
def prt : PyData → List PyData
  | .tuple xs => xs
  | x => [x]
theorem prt_ok {x : PyData} (h : Vl 8 x) : (prt x).length ≤ 64 ∧ ∀ y ∈ prt x, Vl 8 y := by
  cases h with
  | int d a =>
    refine ⟨by simp [prt], fun y hy => ?_⟩
    rw [List.mem_singleton.mp hy]
    exact .int _ _
  | tup d xs hl h => exact ⟨hl, fun y hy => (h y hy).mono (by omega)⟩
theorem ris_prt {x : PyData} (h : Vl 8 x) : ris x = risL (prt x) := by
  cases h with
  | int d a => rfl
  | tup d xs hl h => rfl
theorem all_prt {x : PyData} {t : Te} (h : Vl 8 x) : (Te.all t).hold x = (prt x).all t.hold := by
  cases h with
  | int d a => simp [Te.hold, prt]
  | tup d xs hl h => simp [Te.hold, prt]
theorem any_prt {x : PyData} {t : Te} (h : Vl 8 x) : (Te.any t).hold x = (prt x).any t.hold := by
  cases h with
  | int d a => simp [Te.hold, prt]
  | tup d xs hl h => simp [Te.hold, prt]
theorem parts_v {x : PyData} {e : En} {s : Sto} (h : Vl 8 x) (he : e[1]? = some (some (.p x))) : eIf (tTru (eIsi "int" (eVar 1))) (eLst false (aCons (eVar 1) aNil)) (eBlt (hList false) (aCons (eVar 1) aNil)) e s = .ok (.p (.list (prt x))) s := by
  cases h with
  | int d a => simp [he, prt, PySem.sizeLine_eq]
  | tup d xs hl h => simp [he, prt]
theorem size_law_v {x : PyData} {e : En} {s : Sto} (h : Vl 8 x) (he : e[1]? = some (some (.p x))) : eIf (tTru (eIsi "int" (eVar 1))) (eC (.int 0)) (eBlt hLen (aCons (eVar 1) aNil)) e s = .ok (DI (szv x)) s := by
  cases h with
  | int d a => simp [he, szv]
  | tup d xs hl h => simp [he, szv]
theorem law_holds_ok {f sf cf : Nat → Cf} (h : ∀ k ds s, f (k + 1) ds s = runB 7 (tm_law_holds (sf k) (cf k) (f k)) ds s) (hc : CmpOk cf) (hs : SumOk sf) : HoldOk f := by
  intro t
  induction t with
  | equals v =>
    intro k x s ht hx hk
    obtain ⟨k, rfl⟩ : ∃ n, k = n + 1 := ⟨k - 1, by omega⟩
    have c := hEq_vl (s := s) ht hx
    rw [h, runB_eq]
    unfold tm_law_holds Te.enc
    have pv := parts_v (e := [some (.p (.tuple [.str q_equals, v])), some (.p x), some (.p (.str q_equals)), none, none, none, none]) (s := s) hx rfl
    simp [q_equals] at pv ⊢
    simp [pv]
    simp [c, Te.hold]
  | less i =>
    intro k x s ht hx hk
    obtain ⟨k, rfl⟩ : ∃ n, k = n + 1 := ⟨k - 1, by omega⟩
    have c := hs k x s 8 hx (by simp [Te.dep] at hk; omega)
    rw [h, runB_eq]
    unfold tm_law_holds Te.enc
    have pv := parts_v (e := [some (.p (.tuple [.str q_less, .int i])), some (.p x), some (.p (.str q_less)), none, none, none, none]) (s := s) hx rfl
    simp [q_equals, q_less] at pv ⊢
    simp [pv]
    simp [c, Te.hold]
  | even =>
    intro k x s ht hx hk
    obtain ⟨k, rfl⟩ : ∃ n, k = n + 1 := ⟨k - 1, by omega⟩
    have c := hs k x s 8 hx (by simp [Te.dep] at hk; omega)
    rw [h, runB_eq]
    unfold tm_law_holds Te.enc
    have pv := parts_v (e := [some (.p (.tuple [.str q_even])), some (.p x), some (.p (.str q_even)), none, none, none, none]) (s := s) hx rfl
    simp [q_equals, q_less, q_even] at pv ⊢
    simp [pv]
    simp [c, Te.hold]
  | size i =>
    intro k x s ht hx hk
    obtain ⟨k, rfl⟩ : ∃ n, k = n + 1 := ⟨k - 1, by omega⟩
    rw [h, runB_eq]
    unfold tm_law_holds Te.enc
    have pv := parts_v (e := [some (.p (.tuple [.str q_size, .int i])), some (.p x), some (.p (.str q_size)), none, none, none, none]) (s := s) hx rfl
    have sv := size_law_v (e := [some (.p (.tuple [.str q_size, .int i])), some (.p x), some (.p (.str q_size)), some (.p (.list (prt x))), none, none, none]) (s := s) hx rfl
    simp [q_equals, q_less, q_even, q_size] at pv sv ⊢
    simp [pv]
    simp [sv, Te.hold]
  | rising =>
    intro k x s ht hx hk
    obtain ⟨k, rfl⟩ : ∃ n, k = n + 1 := ⟨k - 1, by omega⟩
    rw [h, runB_eq]
    unfold tm_law_holds Te.enc
    have pv := parts_v (e := [some (.p (.tuple [.str q_rising])), some (.p x), some (.p (.str q_rising)), none, none, none, none]) (s := s) hx rfl
    obtain ⟨p1, p2⟩ := prt_ok hx
    obtain ⟨zs, z1, z2⟩ := breaks_v (cf := cf k) (xs := prt x) (s := s) (x0 := some (.p (.tuple [.str q_rising]))) (x1 := some (.p x)) (x2 := some (.p (.str q_rising))) (x4 := none) p1 p2 (fun x y s h1 h2 => hc k x y s 8 h1 h2 (by simp [Te.dep] at hk; omega))
    simp [q_equals, q_less, q_even, q_size, q_rising] at pv z2 ⊢
    simp [pv]
    simp [z2, Te.hold]
    rw [ris_prt hx, Bool.eq_iff_iff, decide_eq_true_eq]
    rw [List.length_eq_zero_iff] at z1
    exact z1
  | not t ih =>
    intro k x s ht hx hk
    obtain ⟨k, rfl⟩ : ∃ n, k = n + 1 := ⟨k - 1, by omega⟩
    have c := ih k x s ht hx (by simp [Te.dep] at hk; omega)
    rw [h, runB_eq]
    unfold tm_law_holds Te.enc
    have pv := parts_v (e := [some (.p (.tuple [.str q_not, t.enc])), some (.p x), some (.p (.str q_not)), none, none, none, none]) (s := s) hx rfl
    simp [q_equals, q_less, q_even, q_size, q_rising, q_not] at pv ⊢
    simp [pv]
    simp [c, Te.hold]
  | both a b iha ihb =>
    intro k x s ht hx hk
    obtain ⟨k, rfl⟩ : ∃ n, k = n + 1 := ⟨k - 1, by omega⟩
    simp only [Te.dep] at hk
    have c := iha k x s ht.1 hx (by omega)
    have d := ihb k x s ht.2 hx (by omega)
    rw [h, runB_eq]
    unfold tm_law_holds Te.enc
    have pv := parts_v (e := [some (.p (.tuple [.str q_both, a.enc, b.enc])), some (.p x), some (.p (.str q_both)), none, none, none, none]) (s := s) hx rfl
    simp [q_equals, q_less, q_even, q_size, q_rising, q_not, q_both] at pv ⊢
    simp [pv]
    simp [c, d, Te.hold]
    cases a.hold x <;> simp
  | either a b iha ihb =>
    intro k x s ht hx hk
    obtain ⟨k, rfl⟩ : ∃ n, k = n + 1 := ⟨k - 1, by omega⟩
    simp only [Te.dep] at hk
    have c := iha k x s ht.1 hx (by omega)
    have d := ihb k x s ht.2 hx (by omega)
    rw [h, runB_eq]
    unfold tm_law_holds Te.enc
    have pv := parts_v (e := [some (.p (.tuple [.str q_either, a.enc, b.enc])), some (.p x), some (.p (.str q_either)), none, none, none, none]) (s := s) hx rfl
    simp [q_equals, q_less, q_even, q_size, q_rising, q_not, q_both, q_either] at pv ⊢
    simp [pv]
    simp [c, d, Te.hold]
    cases a.hold x <;> simp
  | all t ih =>
    intro k x s ht hx hk
    obtain ⟨k, rfl⟩ : ∃ n, k = n + 1 := ⟨k - 1, by omega⟩
    have c := fun x s h => ih k x s ht h (by simp [Te.dep] at hk; omega)
    rw [h, runB_eq]
    generalize f k = F at *
    unfold tm_law_holds Te.enc
    have pv := parts_v (e := [some (.p (.tuple [.str q_all, t.enc])), some (.p x), some (.p (.str q_all)), none, none, none, none]) (s := s) hx rfl
    obtain ⟨p1, p2⟩ := prt_ok hx
    have q := eLc_filter (vs := [6]) (fi := iSeq (eVar 3)) (g := gSet 6) (p := tTru (eCall F [] (aCons (eOp hIx (eVar 0) (eC (.int 1))) (aCons (eVar 6) aNil)))) (f := eVar 6) (e := [some (.p (.tuple [.str q_all, t.enc])), some (.p x), some (.p (.str q_all)), some (.p (.list (prt x))), none, none, none]) (s := s) (xs := prt x) t.hold (by simp) (by omega) (fun y hy => by
      have := c y s (p2 y hy)
      rw [wipe_l6]
      cases hb : t.hold y <;> simp [this, hb])
    simp [q_equals, q_less, q_even, q_size, q_rising, q_not, q_both, q_either, q_all] at pv q ⊢
    simp [pv]
    simp [q]
    have := all_prt (t := t) hx
    rw [this, Bool.eq_iff_iff, decide_eq_true_eq, ← filter_lenL]
    omega
  | any t ih =>
    intro k x s ht hx hk
    obtain ⟨k, rfl⟩ : ∃ n, k = n + 1 := ⟨k - 1, by omega⟩
    have c := fun x s h => ih k x s ht h (by simp [Te.dep] at hk; omega)
    rw [h, runB_eq]
    generalize f k = F at *
    unfold tm_law_holds Te.enc
    have pv := parts_v (e := [some (.p (.tuple [.str q_any, t.enc])), some (.p x), some (.p (.str q_any)), none, none, none, none]) (s := s) hx rfl
    obtain ⟨p1, p2⟩ := prt_ok hx
    have q := eLc_filter (vs := [6]) (fi := iSeq (eVar 3)) (g := gSet 6) (p := tTru (eCall F [] (aCons (eOp hIx (eVar 0) (eC (.int 1))) (aCons (eVar 6) aNil)))) (f := eVar 6) (e := [some (.p (.tuple [.str q_any, t.enc])), some (.p x), some (.p (.str q_any)), some (.p (.list (prt x))), none, none, none]) (s := s) (xs := prt x) t.hold (by simp) (by omega) (fun y hy => by
      have := c y s (p2 y hy)
      rw [wipe_l6]
      cases hb : t.hold y <;> simp [this, hb])
    simp [q_equals, q_less, q_even, q_size, q_rising, q_not, q_both, q_either, q_all, q_any] at pv q ⊢
    simp [pv]
    simp [q]
    have := any_prt (t := t) hx
    rw [this, Bool.eq_iff_iff, decide_eq_true_eq, ← filter_lenP]
    rw [filter_lenP, List.any_eq_true]

/-! ### is_test -/
def IsTOk (f : Nat → Cf) : Prop := ∀ (t : Te) k (n : Nat) s, t.ok → t.dep ≤ n → t.dep + 11 ≤ k → f k [.p t.enc, DI n] s = .ok (DB true) s
theorem ist_ok {f vf : Nat → Cf} (h : ∀ k ds s, f (k + 1) ds s = runB 3 (tm_c_is_test (vf k) (f k)) ds s) (hv : IsVOk vf) : IsTOk f := by
  intro t
  have kd : ∀ (v : PyData) s, Vl 8 v → kindD s (.p v) = some "int" ∨ kindD s (.p v) = some "tuple" := fun v s hv => by
    cases hv with
    | int => exact .inl rfl
    | tup => exact .inr rfl
  induction t with
  | equals v =>
    intro k n s ht hn hk
    simp only [Te.dep] at hn
    obtain ⟨k, rfl⟩ : ∃ n, k = n + 1 := ⟨k - 1, by omega⟩
    have c := hv k v s 8 8 ht (by omega) (by simp [Te.dep] at hk; omega)
    have n0 : ¬ n = 0 := by omega
    rw [h, runB_eq]
    unfold tm_c_is_test Te.enc
    simp at c
    simp [q_equals, q_even, q_rising, n0]
    simp [c]
  | less i =>
    intro k n s ht hn hk
    simp only [Te.dep] at hn
    obtain ⟨k, rfl⟩ : ∃ n, k = n + 1 := ⟨k - 1, by omega⟩
    have n0 : ¬ n = 0 := by omega
    rw [h, runB_eq]
    unfold tm_c_is_test Te.enc
    simp [q_equals, q_even, q_rising, q_less, n0]
  | even =>
    intro k n s ht hn hk
    simp only [Te.dep] at hn
    obtain ⟨k, rfl⟩ : ∃ n, k = n + 1 := ⟨k - 1, by omega⟩
    have n0 : ¬ n = 0 := by omega
    rw [h, runB_eq]
    unfold tm_c_is_test Te.enc
    simp [q_equals, q_even, q_rising, q_less, n0]
  | size i =>
    intro k n s ht hn hk
    simp only [Te.dep] at hn
    obtain ⟨k, rfl⟩ : ∃ n, k = n + 1 := ⟨k - 1, by omega⟩
    have n0 : ¬ n = 0 := by omega
    rw [h, runB_eq]
    unfold tm_c_is_test Te.enc
    simp [q_equals, q_even, q_rising, q_less, q_size, n0]
  | rising =>
    intro k n s ht hn hk
    simp only [Te.dep] at hn
    obtain ⟨k, rfl⟩ : ∃ n, k = n + 1 := ⟨k - 1, by omega⟩
    have n0 : ¬ n = 0 := by omega
    rw [h, runB_eq]
    unfold tm_c_is_test Te.enc
    simp [q_equals, q_even, q_rising, q_less, n0]
  | not t ih =>
    intro k n s ht hn hk
    simp only [Te.dep] at hn hk
    obtain ⟨k, rfl⟩ : ∃ n, k = n + 1 := ⟨k - 1, by omega⟩
    obtain ⟨n, rfl⟩ : ∃ m, n = m + 1 := ⟨n - 1, by omega⟩
    have c := ih k n s ht (by omega) (by omega)
    have n0 : ¬ ((n : Int) + 1 = 0) := by omega
    have e1 : (n : Int) + 1 - 1 = n := by omega
    rw [h, runB_eq]
    unfold tm_c_is_test Te.enc
    simp [q_equals, q_even, q_rising, q_less, q_size, q_not, n0]
    simp [e1, c]
  | all t ih =>
    intro k n s ht hn hk
    simp only [Te.dep] at hn hk
    obtain ⟨k, rfl⟩ : ∃ n, k = n + 1 := ⟨k - 1, by omega⟩
    obtain ⟨n, rfl⟩ : ∃ m, n = m + 1 := ⟨n - 1, by omega⟩
    have c := ih k n s ht (by omega) (by omega)
    have n0 : ¬ ((n : Int) + 1 = 0) := by omega
    have e1 : (n : Int) + 1 - 1 = n := by omega
    rw [h, runB_eq]
    unfold tm_c_is_test Te.enc
    simp [q_equals, q_even, q_rising, q_less, q_size, q_not, q_all, n0]
    simp [e1, c]
  | any t ih =>
    intro k n s ht hn hk
    simp only [Te.dep] at hn hk
    obtain ⟨k, rfl⟩ : ∃ n, k = n + 1 := ⟨k - 1, by omega⟩
    obtain ⟨n, rfl⟩ : ∃ m, n = m + 1 := ⟨n - 1, by omega⟩
    have c := ih k n s ht (by omega) (by omega)
    have n0 : ¬ ((n : Int) + 1 = 0) := by omega
    have e1 : (n : Int) + 1 - 1 = n := by omega
    rw [h, runB_eq]
    unfold tm_c_is_test Te.enc
    simp [q_equals, q_even, q_rising, q_less, q_size, q_not, q_all, q_any, n0]
    simp [e1, c]
  | both a b iha ihb =>
    intro k n s ht hn hk
    simp only [Te.dep] at hn hk
    obtain ⟨k, rfl⟩ : ∃ n, k = n + 1 := ⟨k - 1, by omega⟩
    obtain ⟨n, rfl⟩ : ∃ m, n = m + 1 := ⟨n - 1, by omega⟩
    have c := iha k n s ht.1 (by omega) (by omega)
    have d := ihb k n s ht.2 (by omega) (by omega)
    have n0 : ¬ ((n : Int) + 1 = 0) := by omega
    have e1 : (n : Int) + 1 - 1 = n := by omega
    rw [h, runB_eq]
    unfold tm_c_is_test Te.enc
    simp [q_equals, q_even, q_rising, q_less, q_size, q_not, q_all, q_any, q_both, n0]
    simp [e1, c, d]
  | either a b iha ihb =>
    intro k n s ht hn hk
    simp only [Te.dep] at hn hk
    obtain ⟨k, rfl⟩ : ∃ n, k = n + 1 := ⟨k - 1, by omega⟩
    obtain ⟨n, rfl⟩ : ∃ m, n = m + 1 := ⟨n - 1, by omega⟩
    have c := iha k n s ht.1 (by omega) (by omega)
    have d := ihb k n s ht.2 (by omega) (by omega)
    have n0 : ¬ ((n : Int) + 1 = 0) := by omega
    have e1 : (n : Int) + 1 - 1 = n := by omega
    rw [h, runB_eq]
    unfold tm_c_is_test Te.enc
    simp [q_equals, q_even, q_rising, q_less, q_size, q_not, q_all, q_any, q_both, q_either, n0]
    simp [e1, c, d]
end Dl
/-! The data layer: terms (plain Lean). -/
namespace Dl
open PySem
inductive Hd where
  | self
  | discard
  | var (n : Str)
  | upto (n : Str)
  | range (a b : Int)
  | shuffle (v : PyData)
  | const (v : PyData)
  | map (op : PyData)
  | keep (t : PyData) (n : Int)
  | list (a b : Int)
  | lett (x : Str)
  | grow (n : Int)
  | pick
  | weigh (ws : List Int)
  | tuple
inductive Tm where
  | node (h : Hd) (l : List Tm)
def wp2 (w : Int) (p : PyData) : PyData := .tuple [.int w, p]
def encH : Hd → List PyData → PyData
  | .self, _ => .tuple [.str q_self]
  | .discard, _ => .tuple [.str q_discard]
  | .var n, _ => .tuple [.str q_var, .str n]
  | .upto n, _ => .tuple [.str q_upto, .str n]
  | .range a b, _ => .tuple [.str q_range, .int a, .int b]
  | .shuffle v, _ => .tuple [.str q_shuffle, v]
  | .const v, _ => .tuple [.str q_const, v]
  | .map op, ps => .tuple (.str q_map :: op :: ps)
  | .keep t n, ps => .tuple (.str q_keep :: t :: .int n :: ps)
  | .list a b, ps => .tuple (.str q_list :: .int a :: .int b :: ps)
  | .lett x, ps => .tuple (.str q_let :: .str x :: ps)
  | .grow n, ps => .tuple (.str q_grow :: .int n :: ps)
  | .pick, ps => .tuple [.str q_pick, .tuple ps]
  | .weigh ws, ps => .tuple [.str q_weigh, .tuple (List.zipWith wp2 ws ps)]
  | .tuple, ps => .tuple [.str q_tuple, .tuple ps]
/-- how many parts -/
def ar : Hd → Nat → Prop
  | .map _, n => n = 1
  | .keep _ _, n => n = 1
  | .list _ _, n => n = 1
  | .lett _, n => n = 2
  | .grow _, n => n = 2
  | .pick, _ => True
  | .tuple, _ => True
  | .weigh ws, n => n = ws.length
  | _, n => n = 0
mutual
def Tm.enc : Tm → PyData
  | .node h l => encH h (Tm.encL l)
def Tm.encL : List Tm → List PyData
  | [] => []
  | t :: l => t.enc :: Tm.encL l
end
theorem encL_map : ∀ l : List Tm, Tm.encL l = l.map Tm.enc
  | [] => by rw [Tm.encL]; rfl
  | t :: l => by rw [Tm.encL, encL_map l]; rfl
theorem Tm.enc_node {h : Hd} {l : List Tm} : (Tm.node h l).enc = encH h (l.map Tm.enc) := by rw [Tm.enc, encL_map]
/-- heads of the program are told apart -/
theorem len1 {α : Type} {l : List α} (h : l.length = 1) : ∃ a, l = [a] := by
  match l, h with
  | [a], _ => exact ⟨a, rfl⟩
theorem len2 {α : Type} {l : List α} (h : l.length = 2) : ∃ a b, l = [a, b] := by
  match l, h with
  | [a, b], _ => exact ⟨a, b, rfl⟩
theorem len0 {α : Type} {l : List α} (h : l.length = 0) : l = [] := List.length_eq_zero_iff.mp h
theorem parts_ok {h : Hd} {ps : List PyData} {s : Sto} (ha : ar h ps.length) (hl : ps.length ≤ 64) : runB 3 tm_c_parts_of [.p (encH h ps)] s = .ok (.p (.list ps)) s := by
  rw [runB_eq]
  unfold tm_c_parts_of
  cases h with
  | weigh ws =>
    have q := eLc_map (vs := [2]) (fi := iSeq (eOp hIx (eVar 0) (eC (.int 1)))) (g := gSet 2) (f := eOp hIx (eVar 2) (eC (.int 1))) (e := [some (.p (.tuple [.str q_weigh, .tuple (List.zipWith wp2 ws ps)])), some (.p (.str q_weigh)), none]) (s := s) (xs := List.zipWith wp2 ws ps) (ys := ps) (by simp) (by simp [ar] at ha; simp [ha]) (by simp; omega) (fun i h1 h2 => by
      have w : wipeE [some (.p (.tuple [.str q_weigh, .tuple (List.zipWith wp2 ws ps)])), some (.p (.str q_weigh)), none] [2] = [some (.p (.tuple [.str q_weigh, .tuple (List.zipWith wp2 ws ps)])), some (.p (.str q_weigh)), none] := rfl
      rw [w]
      simp [wp2])
    simp [encH, q_pick, q_tuple, q_weigh] at q ⊢
    simp [q]
  | pick => simp [encH, q_pick, q_tuple]
  | tuple => simp [encH, q_pick, q_tuple]
  | map op =>
    obtain ⟨a, rfl⟩ := len1 ha
    simp [encH, q_pick, q_tuple, q_weigh, q_list, q_keep, q_map, PySem.sizeLine_eq]
  | keep t n =>
    obtain ⟨a, rfl⟩ := len1 ha
    simp [encH, q_pick, q_tuple, q_weigh, q_list, q_keep, q_map, PySem.sizeLine_eq]
  | list a b =>
    obtain ⟨a, rfl⟩ := len1 ha
    simp [encH, q_pick, q_tuple, q_weigh, q_list, q_keep, q_map, PySem.sizeLine_eq]
  | lett x =>
    obtain ⟨a, b, rfl⟩ := len2 ha
    simp [encH, q_pick, q_tuple, q_weigh, q_list, q_keep, q_map, q_let, q_grow, PySem.sizeLine_eq]
  | grow x =>
    obtain ⟨a, b, rfl⟩ := len2 ha
    simp [encH, q_pick, q_tuple, q_weigh, q_list, q_keep, q_map, q_let, q_grow, PySem.sizeLine_eq]
  | _ =>
    have := len0 ha
    subst this
    simp [encH, q_pick, q_tuple, q_weigh, q_list, q_keep, q_map, q_let, q_grow, q_self, q_discard, q_var, q_upto, q_range, q_shuffle, q_const, PySem.sizeLine_eq]
section
variable {s : Sto} {xs : List PyData}
@[simp] theorem hCut_tk1 : hCut false (.p (.tuple xs)) none (some 1) s = .ok (.p (.tuple (xs.take 1))) s := hCut_ttake (n := 1)
@[simp] theorem hCut_tk2 : hCut false (.p (.tuple xs)) none (some 2) s = .ok (.p (.tuple (xs.take 2))) s := hCut_ttake (n := 2)
@[simp] theorem hCut_tk3 : hCut false (.p (.tuple xs)) none (some 3) s = .ok (.p (.tuple (xs.take 3))) s := hCut_ttake (n := 3)
@[simp] theorem hCut_tk4 : hCut false (.p (.tuple xs)) none (some 4) s = .ok (.p (.tuple (xs.take 4))) s := hCut_ttake (n := 4)
@[simp] theorem hCut_td1 : hCut false (.p (.tuple xs)) (some 1) none s = .ok (.p (.tuple (xs.drop 1))) s := hCut_tdrop (n := 1)
@[simp] theorem hCut_td2 : hCut false (.p (.tuple xs)) (some 2) none s = .ok (.p (.tuple (xs.drop 2))) s := hCut_tdrop (n := 2)
end
theorem eLc_rng {vs : List Nat} {fi : IV} {g : GV} {f : EV} {e : En} {s : Sto} {n : Nat} {ys : List PyData} (hi : fi e s = .ok (itS (rngD 0 n)) s) (hl : ys.length = n) (hz : n ≤ 16777216) (hs : ∀ i (h2 : i < ys.length), ((g (.p (.int i)) (wipeE e vs) s).bind fun e1 s => f e1 s) = .ok (.p ys[i]) s) : eLc false vs fi g tYes f e s = .ok (.p (.list ys)) s := by
  rw [eLc_of hi, lcL_rng (ys.map D.p) (by simpa using hl) (fun i h2 => by
    have := hs i (by simpa using h2)
    simpa using this) (by rw [PySem.sizeLine_eq]; exact hz)]
  simp [newL_false]
theorem with_ok {h : Hd} {ps qs : List PyData} {s : Sto} (ha : ar h ps.length) (hq : qs.length = ps.length) (hl : ps.length ≤ 64) : runB 4 tm_c_with_parts [.p (encH h ps), .p (.list qs)] s = .ok (.p (encH h qs)) s := by
  rw [runB_eq]
  unfold tm_c_with_parts
  cases h with
  | weigh ws =>
    have hw : ps.length = ws.length := ha
    have q := eLc_rng (vs := [3]) (fi := iRange1 (eBlt hLen (aCons (eVar 1) aNil))) (g := gSet 3) (f := eTup (aCons (eOp hIx (eOp hIx (eOp hIx (eVar 0) (eC (.int 1))) (eVar 3)) (eC (.int 0))) (aCons (eOp hIx (eVar 1) (eVar 3)) aNil))) (e := [some (.p (.tuple [.str q_weigh, .tuple (List.zipWith wp2 ws ps)])), some (.p (.list qs)), some (.p (.str q_weigh)), none]) (s := s) (n := qs.length) (ys := List.zipWith wp2 ws qs) (by
        simp
        omega) (by simp; omega) (by omega) (fun i h2 => by
      have h3 : i < qs.length := by simp at h2; omega
      have h4 : i < (List.zipWith wp2 ws ps).length := by simp; omega
      have w : wipeE [some (.p (.tuple [.str q_weigh, .tuple (List.zipWith wp2 ws ps)])), some (.p (.list qs)), some (.p (.str q_weigh)), none] [3] = [some (.p (.tuple [.str q_weigh, .tuple (List.zipWith wp2 ws ps)])), some (.p (.list qs)), some (.p (.str q_weigh)), none] := rfl
      have i1 := hIx_tat (s := s) (xs := List.zipWith wp2 ws ps) (i := i) (x := (List.zipWith wp2 ws ps)[i]) (by rw [List.getElem?_eq_getElem h4])
      have i2 := hIx_lat (s := s) (xs := qs) (i := i) (x := qs[i]) (by simp [h3])
      rw [w]
      simp [wp2] at i1
      simp [i1, i2, PySem.sizeLine_eq]
      rfl)
    simp [encH, q_pick, q_tuple, q_weigh] at q ⊢
    simp [q, PySem.sizeLine_eq]
  | pick => simp [encH, q_pick, q_tuple, PySem.sizeLine_eq]
  | tuple => simp [encH, q_pick, q_tuple, PySem.sizeLine_eq]
  | map op =>
    obtain ⟨a, rfl⟩ := len1 ha
    obtain ⟨b, rfl⟩ := len1 hq
    simp [encH, q_pick, q_tuple, q_weigh, q_list, q_keep, q_map, PySem.sizeLine_eq]
  | keep t n =>
    obtain ⟨a, rfl⟩ := len1 ha
    obtain ⟨b, rfl⟩ := len1 hq
    simp [encH, q_pick, q_tuple, q_weigh, q_list, q_keep, q_map, PySem.sizeLine_eq]
  | list a b =>
    obtain ⟨a, rfl⟩ := len1 ha
    obtain ⟨b, rfl⟩ := len1 hq
    simp [encH, q_pick, q_tuple, q_weigh, q_list, q_keep, q_map, PySem.sizeLine_eq]
  | lett x =>
    obtain ⟨a, b, rfl⟩ := len2 ha
    obtain ⟨a', b', rfl⟩ := len2 hq
    simp [encH, q_pick, q_tuple, q_weigh, q_list, q_keep, q_map, q_let, q_grow, PySem.sizeLine_eq]
  | grow x =>
    obtain ⟨a, b, rfl⟩ := len2 ha
    obtain ⟨a', b', rfl⟩ := len2 hq
    simp [encH, q_pick, q_tuple, q_weigh, q_list, q_keep, q_map, q_let, q_grow, PySem.sizeLine_eq]
  | _ =>
    have := len0 ha
    subst this
    have := len0 hq
    subst this
    simp [encH, q_pick, q_tuple, q_weigh, q_list, q_keep, q_map, q_let, q_grow, q_self, q_discard, q_var, q_upto, q_range, q_shuffle, q_const, PySem.sizeLine_eq]

/-! ### substitution, variables -/
/-- depth at most d, every head has its parts -/
inductive Wf : Nat → Tm → Prop
  | mk (d : Nat) (h : Hd) (l : List Tm) (ha : ar h l.length) (hl : l.length ≤ 64) (hc : ∀ t ∈ l, Wf d t) : Wf (d + 1) (.node h l)
theorem Wf.mono {d : Nat} {t : Tm} (h : Wf d t) : ∀ {d' : Nat}, d ≤ d' → Wf d' t := by
  induction h with
  | mk d h l ha hl hc ih =>
    intro d' hd
    obtain ⟨n, rfl⟩ : ∃ n, d' = n + 1 := ⟨d' - 1, by omega⟩
    exact .mk _ _ _ ha hl fun t ht => ih t ht (by omega)
/-- the constant or range put for a variable -/
def constFor (isVar : Bool) (v : PyData) : Tm := if isVar then .node (.const v) [] else match v with
  | .int i => if 0 ≤ i ∧ i < 64 then .node (.range 0 i) [] else .node (.const (.int 0)) []
  | _ => .node (.const (.int 0)) []
mutual
def sub (x : Str) (v : PyData) : Tm → Tm
  | .node h l => match h, l with
    | .var n, l => if n = x then constFor true v else .node (.var n) l
    | .upto n, l => if n = x then constFor false v else .node (.upto n) l
    | .lett y, [a, b] => if y = x then .node (.lett y) [sub x v a, b] else .node (.lett y) [sub x v a, sub x v b]
    | h, l => .node h (subL x v l)
def subL (x : Str) (v : PyData) : List Tm → List Tm
  | [] => []
  | t :: l => sub x v t :: subL x v l
end
theorem subL_map {x : Str} {v : PyData} : ∀ l : List Tm, subL x v l = l.map (sub x v)
  | [] => by rw [subL]; rfl
  | t :: l => by rw [subL, subL_map l]; rfl
def hdS : Hd → Str
  | .self => q_self
  | .discard => q_discard
  | .var _ => q_var
  | .upto _ => q_upto
  | .range _ _ => q_range
  | .shuffle _ => q_shuffle
  | .const _ => q_const
  | .map _ => q_map
  | .keep _ _ => q_keep
  | .list _ _ => q_list
  | .lett _ => q_let
  | .grow _ => q_grow
  | .pick => q_pick
  | .weigh _ => q_weigh
  | .tuple => q_tuple
theorem enc_hd {h : Hd} {ps : List PyData} {s : Sto} : hIx (.p (encH h ps)) (.p (.int 0)) s = .ok (.p (.str (hdS h))) s := by
  cases h <;> simp [encH, hdS]
theorem wipeM {a b c d : Option D} : wipeE [a, b, c, d, none] [4] = [a, b, c, d, none] := rfl
theorem wipeM3 {a b c : Option D} : wipeE [a, b, c, none] [3] = [a, b, c, none] := rfl
def PartsOk (f : Nat → Cf) : Prop := ∀ k h ps s, ar h ps.length → ps.length ≤ 64 → 1 ≤ k → f k [.p (encH h ps)] s = .ok (.p (.list ps)) s
def WithOk (f : Nat → Cf) : Prop := ∀ k h ps qs s, ar h ps.length → qs.length = ps.length → ps.length ≤ 64 → 1 ≤ k → f k [.p (encH h ps), .p (.list qs)] s = .ok (.p (encH h qs)) s
theorem partsOk {f : Nat → Cf} (h : ∀ k ds s, f (k + 1) ds s = runB 3 tm_c_parts_of ds s) : PartsOk f := fun k hd ps s ha hl hk => by
  obtain ⟨k, rfl⟩ : ∃ n, k = n + 1 := ⟨k - 1, by omega⟩
  rw [h]
  exact parts_ok ha hl
theorem withOk {f : Nat → Cf} (h : ∀ k ds s, f (k + 1) ds s = runB 4 tm_c_with_parts ds s) : WithOk f := fun k hd ps qs s ha hq hl hk => by
  obtain ⟨k, rfl⟩ : ∃ n, k = n + 1 := ⟨k - 1, by omega⟩
  rw [h]
  exact with_ok ha hq hl
theorem enc_const {v : PyData} : (Tm.node (.const v) []).enc = .tuple [.str q_const, v] := by rw [Tm.enc_node]; rfl
theorem enc_range {a b : Int} : (Tm.node (.range a b) []).enc = .tuple [.str q_range, .int a, .int b] := by rw [Tm.enc_node]; rfl
theorem const_for_v {b : Bool} {v : PyData} {s : Sto} {d : Nat} (hv : Vl d v) : runB 2 tm_c_constant_for [.p (.str (if b then q_var else q_upto)), .p v] s = .ok (.p (constFor b v).enc) s := by
  rw [runB_eq]
  unfold tm_c_constant_for
  cases b with
  | true => simp [constFor, enc_const, PySem.sizeLine_eq]
  | false =>
    cases hv with
    | int d i =>
      by_cases h0 : 0 ≤ i
      · by_cases h1 : i < 64
        · simp [constFor, enc_range, PySem.sizeLine_eq, q_var, q_upto, k_MAX_SPAN, h0, h1]
        · simp [constFor, enc_const, PySem.sizeLine_eq, q_var, q_upto, k_MAX_SPAN, h0, h1]
      · simp [constFor, enc_const, PySem.sizeLine_eq, q_var, q_upto, k_MAX_SPAN, h0]
    | tup d xs => simp [constFor, enc_const, PySem.sizeLine_eq, q_var, q_upto]
def ConstOk (f : Nat → Cf) : Prop := ∀ k b v s d, Vl d v → 1 ≤ k → f k [.p (.str (if b = true then q_var else q_upto)), .p v] s = .ok (.p (constFor b v).enc) s
theorem constOk {f : Nat → Cf} (h : ∀ k ds s, f (k + 1) ds s = runB 2 tm_c_constant_for ds s) : ConstOk f := fun k b v s d hv hk => by
  obtain ⟨k, rfl⟩ : ∃ n, k = n + 1 := ⟨k - 1, by omega⟩
  rw [h]
  exact const_for_v hv
def SubOk (f : Nat → Cf) : Prop := ∀ d t, Wf d t → ∀ k x v s, Vl 8 v → d + 2 ≤ k → f k [.p t.enc, .p (.str x), .p v] s = .ok (.p (sub x v t).enc) s
theorem sub_other {x : Str} {v : PyData} {h : Hd} {l : List Tm} (h1 : hdS h ≠ q_var) (h2 : hdS h ≠ q_upto) (h3 : hdS h ≠ q_let) : sub x v (.node h l) = .node h (l.map (sub x v)) := by
  rw [← subL_map]
  cases h <;> first | (exact absurd rfl h1) | (exact absurd rfl h2) | (exact absurd rfl h3) | (rw [sub] <;> (intros; contradiction))
theorem sub_ok {f cf wf pf : Nat → Cf} (h : ∀ k ds s, f (k + 1) ds s = runB 5 (tm_c_substitute (cf k) (f k) (wf k) (pf k)) ds s) (hc : ConstOk cf) (hw : WithOk wf) (hp : PartsOk pf) : SubOk f := by
  intro d
  induction d with
  | zero => intro t ht; cases ht
  | succ d ih =>
    intro t ht k x v s hv hk
    obtain ⟨k, rfl⟩ : ∃ n, k = n + 1 := ⟨k - 1, by omega⟩
    cases ht with
    | mk d hh l ha hl hch =>
      have ih := fun t ht s => ih t ht k x v s hv (by omega)
      have hc := fun b s => hc k b v s 8 hv (by omega)
      have hw := fun qs => hw k hh (l.map Tm.enc) qs s (by simpa using ha)
      have hp := hp k hh (l.map Tm.enc) s (by simpa using ha) (by simpa using hl) (by omega)
      rw [h, runB_eq, Tm.enc_node]
      generalize f k = F at *
      generalize cf k = CF at *
      generalize wf k = WF at *
      generalize pf k = PF at *
      unfold tm_c_substitute
      by_cases hv1 : hdS hh = q_var
      · cases hh <;> try (simp [hdS, q_self, q_discard, q_var, q_upto, q_range, q_shuffle, q_const, q_map, q_keep, q_list, q_let, q_grow, q_pick, q_weigh, q_tuple] at hv1; done)
        rename_i n
        have l0 := len0 ha
        subst l0
        have c1 := hc true s
        by_cases e : n = x
        · simp [encH, sub, e] at c1 ⊢
          simp [c1]
        · simp [encH, sub, e, Tm.enc_node]
      · by_cases hv2 : hdS hh = q_upto
        · cases hh <;> try (simp [hdS, q_self, q_discard, q_var, q_upto, q_range, q_shuffle, q_const, q_map, q_keep, q_list, q_let, q_grow, q_pick, q_weigh, q_tuple] at hv2; done)
          rename_i n
          have l0 := len0 ha
          subst l0
          have c1 := hc false s
          by_cases e : n = x
          · have nq : ¬ q_upto = q_var := hv1
            simp [encH, sub, e] at c1 ⊢
            simp [c1, nq]
          · simp [encH, sub, e, Tm.enc_node, q_upto, q_var]
        · by_cases hv3 : hdS hh = q_let
          · cases hh <;> try (simp [hdS, q_self, q_discard, q_var, q_upto, q_range, q_shuffle, q_const, q_map, q_keep, q_list, q_let, q_grow, q_pick, q_weigh, q_tuple] at hv3; done)
            rename_i y
            obtain ⟨a, b, rfl⟩ := len2 ha
            have n1 : ¬ q_let = q_var := hv1
            have n2 : ¬ q_let = q_upto := hv2
            have ia := ih a (hch a (by simp)) s
            have ib := ih b (hch b (by simp)) s
            by_cases e : y = x
            · simp [encH, sub, e, n1, n2, Tm.enc_node, ia, PySem.sizeLine_eq]
            · have q := eLc_map (vs := [4]) (fi := iSeq (eCall PF [] (aCons (eVar 0) aNil))) (g := gSet 4) (f := eCall F [] (aCons (eVar 4) (aCons (eVar 1) (aCons (eVar 2) aNil)))) (e := [some (.p (encH (.lett y) [a.enc, b.enc])), some (.p (.str x)), some (.p v), some (.p (.str q_let)), none]) (s := s) (xs := [a.enc, b.enc]) (ys := [(sub x v a).enc, (sub x v b).enc]) (by simp at hp; simp [hp]) (by simp) (by simp) (fun i h1 h2 => by
                simp at h1
                rw [wipeM]
                have ic : i = 0 ∨ i = 1 := by omega
                rcases ic with rfl | rfl
                · simp [ia]
                · simp [ib])
              have w := hw [(sub x v a).enc, (sub x v b).enc] (by simp) (by simpa using hl) (by omega)
              simp [encH] at q w
              simp [encH, sub, e, n1, n2, Tm.enc_node, q, w]
          · rw [sub_other hv1 hv2 hv3, Tm.enc_node]
            have q := eLc_map (vs := [4]) (fi := iSeq (eCall PF [] (aCons (eVar 0) aNil))) (g := gSet 4) (f := eCall F [] (aCons (eVar 4) (aCons (eVar 1) (aCons (eVar 2) aNil)))) (e := [some (.p (encH hh (l.map Tm.enc))), some (.p (.str x)), some (.p v), some (.p (.str (hdS hh))), none]) (s := s) (xs := l.map Tm.enc) (ys := (l.map (sub x v)).map Tm.enc) (by simp [hp]) (by simp) (by simp; omega) (fun i h1 h2 => by
              have h3 : i < l.length := by simpa using h1
              have := ih l[i] (hch _ (List.getElem_mem h3)) s
              rw [wipeM]
              simp [this])
            have w := hw ((l.map (sub x v)).map Tm.enc) (by simp) (by simpa using hl) (by omega)
            simp [enc_hd, hv1, hv2, hv3]
            simp at q w
            simp [q, w]

/-! ### the names that are free -/
mutual
def fv : Tm → List Str
  | .node h l => match h, l with
    | .var n, _ => [n]
    | .upto n, _ => [n]
    | .lett y, [a, b] => fv a ++ (fv b).filter fun z => decide (z ≠ y)
    | _, l => fvL l
def fvL : List Tm → List Str
  | [] => []
  | t :: l => fv t ++ fvL l
end
theorem fvL_map : ∀ l : List Tm, fvL l = l.flatMap fv
  | [] => by rw [fvL]; rfl
  | t :: l => by rw [fvL, fvL_map l]; rfl
theorem fv_other {h : Hd} {l : List Tm} (h1 : hdS h ≠ q_var) (h2 : hdS h ≠ q_upto) (h3 : hdS h ≠ q_let) : fv (.node h l) = l.flatMap fv := by
  rw [← fvL_map]
  cases h <;> first | (exact absurd rfl h1) | (exact absurd rfl h2) | (exact absurd rfl h3) | (rw [fv] <;> (intros; contradiction))
theorem fv_let {y : Str} {a b : Tm} : fv (.node (.lett y) [a, b]) = fv a ++ (fv b).filter fun z => decide (z ≠ y) := by rw [fv]
theorem fv_var {y : Str} : fv (.node (.var y) []) = [y] := by rw [fv]
theorem fv_upto {y : Str} : fv (.node (.upto y) []) = [y] := by rw [fv]
/-- the head of a term, told by its word -/
theorem hd_var {h : Hd} (e : hdS h = q_var) : ∃ n, h = .var n := by
  cases h <;> first | exact ⟨_, rfl⟩ | (simp [hdS, q_self, q_discard, q_var, q_upto, q_range, q_shuffle, q_const, q_map, q_keep, q_list, q_let, q_grow, q_pick, q_weigh, q_tuple] at e; done)
theorem hd_upto {h : Hd} (e : hdS h = q_upto) : ∃ n, h = .upto n := by
  cases h <;> first | exact ⟨_, rfl⟩ | (simp [hdS, q_self, q_discard, q_var, q_upto, q_range, q_shuffle, q_const, q_map, q_keep, q_list, q_let, q_grow, q_pick, q_weigh, q_tuple] at e; done)
theorem hd_let {h : Hd} (e : hdS h = q_let) : ∃ n, h = .lett n := by
  cases h <;> first | exact ⟨_, rfl⟩ | (simp [hdS, q_self, q_discard, q_var, q_upto, q_range, q_shuffle, q_const, q_map, q_keep, q_list, q_let, q_grow, q_pick, q_weigh, q_tuple] at e; done)
theorem hd_self {h : Hd} (e : hdS h = q_self) : h = .self := by
  cases h <;> first | rfl | (simp [hdS, q_self, q_discard, q_var, q_upto, q_range, q_shuffle, q_const, q_map, q_keep, q_list, q_let, q_grow, q_pick, q_weigh, q_tuple] at e; done)
theorem hd_grow {h : Hd} (e : hdS h = q_grow) : ∃ n, h = .grow n := by
  cases h <;> first | exact ⟨_, rfl⟩ | (simp [hdS, q_self, q_discard, q_var, q_upto, q_range, q_shuffle, q_const, q_map, q_keep, q_list, q_let, q_grow, q_pick, q_weigh, q_tuple] at e; done)
theorem enc_var {y : Str} : (Tm.node (.var y) []).enc = .tuple [.str q_var, .str y] := by rw [Tm.enc_node]; rfl
theorem enc_upto {y : Str} : (Tm.node (.upto y) []).enc = .tuple [.str q_upto, .str y] := by rw [Tm.enc_node]; rfl
theorem enc_let {y : Str} {a b : Tm} : (Tm.node (.lett y) [a, b]).enc = .tuple [.str q_let, .str y, a.enc, b.enc] := by rw [Tm.enc_node]; rfl
theorem enc_grow {n : Int} {a b : Tm} : (Tm.node (.grow n) [a, b]).enc = .tuple [.str q_grow, .int n, a.enc, b.enc] := by rw [Tm.enc_node]; rfl
theorem enc_self : (Tm.node .self []).enc = .tuple [.str q_self] := by rw [Tm.enc_node]; rfl
theorem ne_uv : ¬ q_upto = q_var := by simp [q_upto, q_var]
theorem ne_lv : ¬ q_let = q_var := by simp [q_let, q_var]
theorem ne_lu : ¬ q_let = q_upto := by simp [q_let, q_upto]
theorem ne_sg : ¬ q_grow = q_self := by simp [q_grow, q_self]
def UsesOk (f : Nat → Cf) : Prop := ∀ d t, Wf d t → ∀ k x s, d + 2 ≤ k → f k [.p t.enc, .p (.str x)] s = .ok (DB (decide (x ∈ fv t))) s
/-- a comprehension over the parts -/
theorem parts_lc {PF F : Cf} {e : En} {s : Sto} {ar' : AV} {t : PyData} {ps : List PyData} {ys : List PyData} {v : Nat} (hp : PF [.p t] s = .ok (.p (.list ps)) s) (h0 : e[0]? = some (some (.p t))) (hv : v < e.length) (hl : ps.length = ys.length) (hz : ps.length ≤ 64)
    (hs : ∀ i (h1 : i < ps.length) (h2 : i < ys.length), ((ar' ((wipeE e [v]).set v (some (.p ps[i]))) s).bind fun ds s => F ds s) = .ok (.p ys[i]) s) :
    eLc false [v] (iSeq (eCall PF [] (aCons (eVar 0) aNil))) (gSet v) tYes (eCall F [] ar') e s = .ok (.p (.list ys)) s :=
  eLc_map (xs := ps) (by simp [h0, hp]) hl (by omega) fun i h1 h2 => by
    have := hs i h1 h2
    simpa using this
theorem uses_ok {f pf : Nat → Cf} (h : ∀ k ds s, f (k + 1) ds s = runB 4 (tm_c_uses (f k) (pf k)) ds s) (hp : PartsOk pf) : UsesOk f := by
  intro d
  induction d with
  | zero => intro t ht; cases ht
  | succ d ih =>
    intro t ht k x s hk
    obtain ⟨k, rfl⟩ : ∃ n, k = n + 1 := ⟨k - 1, by omega⟩
    cases ht with
    | mk d hh l ha hl hch =>
      have ih := fun t ht s => ih t ht k x s (by omega)
      have hp := hp k hh (l.map Tm.enc) s (by simpa using ha) (by simpa using hl) (by omega)
      rw [h, runB_eq]
      generalize f k = F at *
      generalize pf k = PF at *
      unfold tm_c_uses
      by_cases hv1 : hdS hh = q_var
      · obtain ⟨n, rfl⟩ := hd_var hv1
        have l0 := len0 ha
        subst l0
        rw [enc_var, fv_var]
        simp
        exact eq_comm
      · by_cases hv2 : hdS hh = q_upto
        · obtain ⟨n, rfl⟩ := hd_upto hv2
          have l0 := len0 ha
          subst l0
          rw [enc_upto, fv_upto]
          simp [ne_uv]
          exact eq_comm
        · have q : eLc false [3] (iSeq (eCall PF [] (aCons (eVar 0) aNil))) (gSet 3) tYes (eCall F [] (aCons (eVar 3) (aCons (eVar 1) aNil))) [some (.p (encH hh (l.map Tm.enc))), some (.p (.str x)), some (.p (.str (hdS hh))), none] s = .ok (.p (.list ((l.map fun t => decide (x ∈ fv t)).map PyData.bool))) s :=
            parts_lc hp rfl (by simp) (by simp) (by simpa using hl) fun i h1 h2 => by
              have h3 : i < l.length := by simpa using h1
              have := ih l[i] (hch _ (List.getElem_mem h3)) s
              rw [wipeM3]
              simp [this]
          have hs := hAny_bools (s := s) (l.map fun t => decide (x ∈ fv t))
          by_cases hv3 : hdS hh = q_let
          · obtain ⟨y, rfl⟩ := hd_let hv3
            obtain ⟨a, b, rfl⟩ := len2 ha
            have ia := ih a (hch a (by simp)) s
            by_cases e : y = x
            · rw [enc_let, fv_let]
              simp [ne_lv, ne_lu, e, ia]
            · rw [enc_let, fv_let]
              simp [encH, hdS] at q hs
              have e' : ¬ x = y := fun z => e z.symm
              simp [ne_lv, ne_lu, e, e', q, hs]
          · rw [Tm.enc_node, fv_other hv1 hv2 hv3]
            simp at q hs
            simp [enc_hd, hv1, hv2, hv3, q, hs]
            rw [Bool.eq_iff_iff]
            simp
def ClosedOk (f : Nat → Cf) : Prop := ∀ d t, Wf d t → ∀ k (ns : List Str) s, ns.length + d ≤ 100 → d + 2 ≤ k → f k [.p t.enc, .p (.tuple (ns.map PyData.str))] s = .ok (DB ((fv t).all fun y => decide (y ∈ ns))) s
theorem in_names {y : Str} {ns : List Str} {s : Sto} : hIn (.p (.str y)) (.p (.tuple (ns.map PyData.str))) s = .ok (DB (decide (y ∈ ns))) s := by
  have f : (ns.map PyData.str).all flatP = true := by
    rw [List.all_map, List.all_eq_true]
    intro x _
    rfl
  have e : ((ns.map PyData.str).any fun z => PyData.eqv z (.str y)) = decide (y ∈ ns) := by
    rw [Bool.eq_iff_iff]
    simp only [List.any_eq_true, List.mem_map, decide_eq_true_eq]
    constructor
    · rintro ⟨_, ⟨a, ha, rfl⟩, h⟩
      simp [PyData.eqv] at h
      exact h ▸ ha
    · intro h
      exact ⟨_, ⟨y, h, rfl⟩, by simp [PyData.eqv]⟩
  unfold hIn hInB
  simp only [f, flatP, Bool.and_self, if_true, e]
theorem all_flat {ls : List (List Str)} {p : Str → Bool} : (ls.flatMap fun l => l).all p = ls.all fun l => l.all p := by
  rw [Bool.eq_iff_iff]
  simp
theorem closed_ok {f pf : Nat → Cf} (h : ∀ k ds s, f (k + 1) ds s = runB 4 (tm_c_is_closed (f k) (pf k)) ds s) (hp : PartsOk pf) : ClosedOk f := by
  intro d
  induction d with
  | zero => intro t ht; cases ht
  | succ d ih =>
    intro t ht k ns s hn hk
    obtain ⟨k, rfl⟩ : ∃ n, k = n + 1 := ⟨k - 1, by omega⟩
    cases ht with
    | mk d hh l ha hl hch =>
      have ih := fun t ht ns hn s => ih t ht k ns s hn (by omega)
      have hp := hp k hh (l.map Tm.enc) s (by simpa using ha) (by simpa using hl) (by omega)
      rw [h, runB_eq]
      generalize f k = F at *
      generalize pf k = PF at *
      unfold tm_c_is_closed
      by_cases hv1 : hdS hh = q_var
      · obtain ⟨n, rfl⟩ := hd_var hv1
        have l0 := len0 ha
        subst l0
        rw [enc_var, fv_var]
        simp [in_names]
      · by_cases hv2 : hdS hh = q_upto
        · obtain ⟨n, rfl⟩ := hd_upto hv2
          have l0 := len0 ha
          subst l0
          rw [enc_upto, fv_upto]
          simp [ne_uv, in_names]
        · by_cases hv3 : hdS hh = q_let
          · obtain ⟨y, rfl⟩ := hd_let hv3
            obtain ⟨a, b, rfl⟩ := len2 ha
            have ia := ih a (hch a (by simp)) ns (by omega) s
            have ib := ih b (hch b (by simp)) (ns ++ [y]) (by rw [List.length_append, List.length_singleton]; omega) s
            have sz : ns.length + 1 ≤ sizeLine := by rw [PySem.sizeLine_eq]; omega
            have fa : ((fv b).filter fun z => decide (z ≠ y)).all (fun z => decide (z ∈ ns)) = (fv b).all fun z => decide (z ∈ ns ++ [y]) := by
              rw [Bool.eq_iff_iff]
              simp only [List.all_eq_true, List.mem_filter, decide_eq_true_eq, List.mem_append, List.mem_singleton]
              constructor
              · intro h z hz
                by_cases e : z = y
                · exact .inr e
                · exact .inl (h z ⟨hz, e⟩)
              · rintro h z ⟨hz, e⟩
                exact (h z hz).resolve_right e
            rw [enc_let, fv_let, List.all_append, fa]
            generalize ((fv a).all fun z => decide (z ∈ ns)) = A at *
            generalize ((fv b).all fun z => decide (z ∈ ns ++ [y])) = B at *
            have s1 : 1 ≤ sizeLine := by rw [PySem.sizeLine_eq]; decide
            simp at ib
            simp [ne_lv, ne_lu, ia, s1, sz, ib]
            cases A <;> simp
          · have q : eLc false [3] (iSeq (eCall PF [] (aCons (eVar 0) aNil))) (gSet 3) tYes (eCall F [] (aCons (eVar 3) (aCons (eVar 1) aNil))) [some (.p (encH hh (l.map Tm.enc))), some (.p (.tuple (ns.map PyData.str))), some (.p (.str (hdS hh))), none] s = .ok (.p (.list ((l.map fun t => (fv t).all fun y => decide (y ∈ ns)).map PyData.bool))) s :=
              parts_lc hp rfl (by simp) (by simp) (by simpa using hl) fun i h1 h2 => by
                have h3 : i < l.length := by simpa using h1
                have := ih l[i] (hch _ (List.getElem_mem h3)) ns (by omega) s
                rw [wipeM3]
                simp [this]
            have hs := hAll_bools (s := s) (l.map fun t => (fv t).all fun y => decide (y ∈ ns))
            rw [Tm.enc_node, fv_other hv1 hv2 hv3]
            simp at q hs
            simp [enc_hd, hv1, hv2, hv3, q, hs]

/-! ### self replaced -/
mutual
def rep (o : Tm) : Tm → Tm
  | .node h l => match h, l with
    | .self, _ => o
    | .grow n, [a, b] => .node (.grow n) [rep o a, b]
    | h, l => .node h (repL o l)
def repL (o : Tm) : List Tm → List Tm
  | [] => []
  | t :: l => rep o t :: repL o l
end
theorem repL_map {o : Tm} : ∀ l : List Tm, repL o l = l.map (rep o)
  | [] => by rw [repL]; rfl
  | t :: l => by rw [repL, repL_map l]; rfl
theorem rep_other {o : Tm} {h : Hd} {l : List Tm} (h1 : hdS h ≠ q_self) (h2 : hdS h ≠ q_grow) : rep o (.node h l) = .node h (l.map (rep o)) := by
  rw [← repL_map]
  cases h <;> first | (exact absurd rfl h1) | (exact absurd rfl h2) | (rw [rep] <;> (intros; contradiction))
theorem rep_self {o : Tm} : rep o (.node .self []) = o := by rw [rep]
theorem rep_grow {o a b : Tm} {n : Int} : rep o (.node (.grow n) [a, b]) = .node (.grow n) [rep o a, b] := by rw [rep]
def RepOk (f : Nat → Cf) : Prop := ∀ d t, Wf d t → ∀ k (o : Tm) s, d + 2 ≤ k → f k [.p t.enc, .p o.enc] s = .ok (.p (rep o t).enc) s
theorem rep_ok {f wf pf : Nat → Cf} (h : ∀ k ds s, f (k + 1) ds s = runB 4 (tm_c_replace_self (f k) (wf k) (pf k)) ds s) (hw : WithOk wf) (hp : PartsOk pf) : RepOk f := by
  intro d
  induction d with
  | zero => intro t ht; cases ht
  | succ d ih =>
    intro t ht k o s hk
    obtain ⟨k, rfl⟩ : ∃ n, k = n + 1 := ⟨k - 1, by omega⟩
    cases ht with
    | mk d hh l ha hl hch =>
      have ih := fun t ht s => ih t ht k o s (by omega)
      have hw := fun qs => hw k hh (l.map Tm.enc) qs s (by simpa using ha)
      have hp := hp k hh (l.map Tm.enc) s (by simpa using ha) (by simpa using hl) (by omega)
      rw [h, runB_eq]
      generalize f k = F at *
      generalize wf k = WF at *
      generalize pf k = PF at *
      unfold tm_c_replace_self
      by_cases hv1 : hdS hh = q_self
      · obtain rfl := hd_self hv1
        have l0 := len0 ha
        subst l0
        rw [enc_self, rep_self]
        simp
      · by_cases hv2 : hdS hh = q_grow
        · obtain ⟨n, rfl⟩ := hd_grow hv2
          obtain ⟨a, b, rfl⟩ := len2 ha
          have ia := ih a (hch a (by simp)) s
          rw [enc_grow, rep_grow, enc_grow]
          simp [ne_sg, ia, PySem.sizeLine_eq]
        · have q : eLc false [3] (iSeq (eCall PF [] (aCons (eVar 0) aNil))) (gSet 3) tYes (eCall F [] (aCons (eVar 3) (aCons (eVar 1) aNil))) [some (.p (encH hh (l.map Tm.enc))), some (.p o.enc), some (.p (.str (hdS hh))), none] s = .ok (.p (.list ((l.map (rep o)).map Tm.enc))) s :=
            parts_lc hp rfl (by simp) (by simp) (by simpa using hl) fun i h1 h2 => by
              have h3 : i < l.length := by simpa using h1
              have := ih l[i] (hch _ (List.getElem_mem h3)) s
              rw [wipeM3]
              simp [this]
          have w := hw ((l.map (rep o)).map Tm.enc) (by simp) (by simpa using hl) (by omega)
          rw [Tm.enc_node, rep_other hv1 hv2, Tm.enc_node]
          simp at q w
          simp [enc_hd, hv1, hv2, q, w]
/-- what a grow of size n stands for -/
def unf (n : Int) (a b : Tm) : Tm := if n = 0 then a else rep (.node (.grow (n - 1)) [a, b]) b
theorem unfolded_v {F : Cf} {n : Int} {a b : Tm} {s : Sto} (hF : ∀ o s, F [.p b.enc, .p o] s = F [.p b.enc, .p o] s) (hr : ∀ (o : Tm), F [.p b.enc, .p o.enc] s = .ok (.p (rep o b).enc) s) : runB 1 (tm_c_unfolded F) [.p (Tm.node (.grow n) [a, b]).enc] s = .ok (.p (unf n a b).enc) s := by
  rw [runB_eq]
  unfold tm_c_unfolded
  rw [enc_grow]
  have r := hr (.node (.grow (n - 1)) [a, b])
  rw [enc_grow] at r
  by_cases e : n = 0
  · simp [unf, e]
  · simp [unf, e, PySem.sizeLine_eq, r]
end Dl
/-! The data layer: the values, tests and terms that most laws draw (plain Lean). -/
namespace Dl
open PySem
def TakeOk (f : Nat → Cf) : Prop := ∀ k (m : Int) o r, Row o → 0 < m → 1 ≤ k → ∃ (t : Nat) (o' : O), (t : Int) < m ∧ Row o' ∧ f k [.ref 0, .p (.int m)] (o :: r) = .ok (.p (.int t)) (o' :: r)
theorem takeOk {f : Nat → Cf} (h : ∀ k ds s, f (k + 1) ds s = runB 2 tmTake ds s) : TakeOk f := fun k m o r ho hm hk => by
  obtain ⟨k, rfl⟩ : ∃ n, k = n + 1 := ⟨k - 1, by omega⟩
  obtain ⟨t, o', h1, h2, h3⟩ := take_run (r := r) ho hm
  exact ⟨t, o', h1, h2, by rw [h]; exact h3⟩
/-- drawn values -/
inductive Vg : Nat → PyData → Prop
  | int (d : Nat) (i : Int) (h1 : -1 ≤ i) (h2 : i ≤ 3) : Vg d (.int i)
  | tup (d : Nat) (xs : List PyData) (hl : xs.length ≤ 3) (h : ∀ x ∈ xs, Vg d x) : Vg (d + 1) (.tuple xs)
theorem Vg.vl {d : Nat} {x : PyData} (h : Vg d x) : Vl d x := by
  induction h with
  | int d i => exact .int _ _
  | tup d xs hl h ih => exact .tup _ _ (by omega) ih
def ValOk (f : Nat → Cf) : Prop := ∀ d k o r, Row o → d + 2 ≤ k → ∃ y o', Row o' ∧ Vg d y ∧ f k [.ref 0, DI (d : Nat)] (o :: r) = .ok (.p y) (o' :: r)
theorem val_ok {f tf : Nat → Cf} (h : ∀ k ds s, f (k + 1) ds s = runB 3 (tm_law_value (tf k) (f k)) ds s) (ht : TakeOk tf) : ValOk f := by
  intro d
  induction d with
  | zero =>
    intro k o r ho hk
    obtain ⟨k, rfl⟩ : ∃ n, k = n + 1 := ⟨k - 1, by omega⟩
    obtain ⟨t, o', h1, h2, h3⟩ := ht k 5 o r ho (by decide) (by omega)
    refine ⟨.int (t - 1), o', h2, .int _ _ (by omega) (by omega), ?_⟩
    rw [h, runB_eq]
    generalize f k = F at *
    generalize tf k = T at *
    unfold tm_law_value
    simp [h3]
  | succ d ih =>
    intro k o r ho hk
    obtain ⟨k, rfl⟩ : ∃ n, k = n + 1 := ⟨k - 1, by omega⟩
    have ih := fun o ho => ih k o r ho (by omega)
    have ht := fun m o ho hm => ht k m o r ho hm (by omega)
    rw [h]
    simp only [runB_eq]
    generalize f k = F at *
    generalize tf k = T at *
    unfold tm_law_value
    obtain ⟨t, o1, h1, h2, h3⟩ := ht 3 o ho (by decide)
    have d0 : ¬ ((d : Int) + 1 = 0) := by omega
    by_cases t0 : 0 < t
    · obtain ⟨u, o', u1, u2, u3⟩ := ht 5 o1 h2 (by decide)
      refine ⟨.int (u - 1), o', u2, .int _ _ (by omega) (by omega), ?_⟩
      simp [d0, h3, t0, u3]
    · obtain ⟨u, o2, u1, u2, u3⟩ := ht 4 o1 h2 (by decide)
      have e1 : (d : Int) + 1 - 1 = d := by omega
      obtain ⟨ys, o3, w1, w2, w3, w4⟩ := lc_draw (g := gSet 2) (f := eCall F [] (aCons (eVar 0) (aCons (eOp hSub (eVar 1) (eC (.int 1))) aNil))) (r := r) (fun _ y => Vg d y) (fun e => e = [some (.ref 0), some (DI ((d : Int) + 1)), none]) (rngD 0 u) (fun x hx o ho => by
        obtain ⟨y, o', q1, q2, q3⟩ := ih o ho
        refine ⟨y, o', q1, q2, fun e he => ?_⟩
        subst he
        simp [e1, q3]) (by rw [rngD_length, PySem.sizeLine_eq]; omega) o2 u2
      have w := w4 [some (.ref 0), some (DI ((d : Int) + 1)), none] rfl
      refine ⟨.tuple ys, o3, w1, .tup _ _ (by rw [w2, rngD_length]; omega) (fun x hx => (w3 x hx).elim fun _ h => h.2), ?_⟩
      have wi : wipeE [some (.ref 0), some (DI ((d : Int) + 1)), none] [2] = [some (.ref 0), some (DI ((d : Int) + 1)), none] := rfl
      have q : eLc false [2] (iRange1 (eCall T [] (aCons (eVar 0) (aCons (eC (.int 4)) aNil)))) (gSet 2) tYes (eCall F [] (aCons (eVar 0) (aCons (eOp hSub (eVar 1) (eC (.int 1))) aNil))) [some (.ref 0), some (DI ((d : Int) + 1)), none] (o1 :: r) = .ok (.p (.list ys)) (o3 :: r) := by
        rw [eLc_eq]
        simp [u3]
        rw [if_pos (by omega)]
        simp only [R.bind_ok, lcGo_S, wi]
        exact w
      simp [d0, h3, t0, q]
/-- drawn tests -/
inductive Tedr : Nat → Te → Prop
  | equals (d v) (h : Vg 1 v) : Tedr d (.equals v)
  | size (d) (i : Int) (h1 : 0 ≤ i) (h2 : i ≤ 3) : Tedr d (.size i)
  | less (d) (i : Int) (h1 : 0 ≤ i) (h2 : i ≤ 5) : Tedr d (.less i)
  | even (d) : Tedr d .even
  | rising (d) : Tedr d .rising
  | not (d t) (h : Tedr d t) : Tedr (d + 1) (.not t)
  | all (d t) (h : Tedr d t) : Tedr (d + 1) (.all t)
  | any (d t) (h : Tedr d t) : Tedr (d + 1) (.any t)
  | both (d a b) (h1 : Tedr d a) (h2 : Tedr d b) : Tedr (d + 1) (.both a b)
  | either (d a b) (h1 : Tedr d a) (h2 : Tedr d b) : Tedr (d + 1) (.either a b)
theorem Tedr.ok {d : Nat} {t : Te} (h : Tedr d t) : t.ok := by
  induction h with
  | equals d v h => exact h.vl.mono (by omega)
  | not d t h ih => exact ih
  | all d t h ih => exact ih
  | any d t h ih => exact ih
  | both d a b h1 h2 i1 i2 => exact ⟨i1, i2⟩
  | either d a b h1 h2 i1 i2 => exact ⟨i1, i2⟩
  | _ => trivial
theorem Tedr.dep {d : Nat} {t : Te} (h : Tedr d t) : t.dep ≤ d + 1 := by
  induction h <;> simp only [Te.dep] <;> omega
def TestOk (f : Nat → Cf) : Prop := ∀ d k o r, Row o → d + 4 ≤ k → ∃ (t : Te) (o' : O), Row o' ∧ Tedr d t ∧ f k [.ref 0, DI (d : Nat)] (o :: r) = .ok (.p t.enc) (o' :: r)
theorem test_leaf {F V T : Cf} (fTake : ∀ (m : Int) o r, Row o → 0 < m → ∃ (t : Nat) (o' : O), (t : Int) < m ∧ Row o' ∧ T [.ref 0, .p (.int m)] (o :: r) = .ok (.p (.int t)) (o' :: r)) (fVal : ∀ o r, Row o → ∃ y o', Row o' ∧ Vg 1 y ∧ V [.ref 0, DI 1] (o :: r) = .ok (.p y) (o' :: r)) {o o1 : O} {r : Sto} {d kind : Nat} (ho : Row o1) (hk : d = 0 ∨ 5 ≤ kind) (e : T [.ref 0, DI 9] (o :: r) = .ok (DI kind) (o1 :: r)) :
    ∃ (t : Te) (o' : O), Row o' ∧ Tedr d t ∧ runB 3 (tm_law_test T F V) [.ref 0, DI d] (o :: r) = .ok (.p t.enc) (o' :: r) := by
  simp only [runB_eq]
  unfold tm_law_test
  have a1 : (if 0 < d then (R.ok (decide ((kind : Int) < 3)) (o1 :: r) : R Bool) else R.ok false (o1 :: r)) = R.ok false (o1 :: r) := by
    split
    · rw [decide_eq_false (by omega)]
    · rfl
  have a2 : (if 0 < d then (R.ok (decide ((kind : Int) < 5)) (o1 :: r) : R Bool) else R.ok false (o1 :: r)) = R.ok false (o1 :: r) := by
    split
    · rw [decide_eq_false (by omega)]
    · rfl
  by_cases k6 : kind = 5
  · obtain ⟨v, o2, v1, v2, v3⟩ := fVal o1 r ho
    refine ⟨.equals v, o2, v1, .equals _ _ v2, ?_⟩
    simp [e, a1, a2, k6, v3, Te.enc, PySem.sizeLine_eq]
  · by_cases k7 : kind = 6
    · obtain ⟨v, o2, v1, v2, v3⟩ := fTake 4 o1 r ho (by decide)
      refine ⟨.size v, o2, v2, .size _ _ (by omega) (by omega), ?_⟩
      simp [e, a1, a2, k7, v3, Te.enc, PySem.sizeLine_eq]
    · by_cases k8 : kind = 7
      · obtain ⟨v, o2, v1, v2, v3⟩ := fTake 2 o1 r ho (by decide)
        by_cases w0 : v = 0
        · refine ⟨.even, o2, v2, .even _, ?_⟩
          subst w0
          simp [e, a1, a2, k8, v3, Te.enc, PySem.sizeLine_eq]
        · refine ⟨.rising, o2, v2, .rising _, ?_⟩
          have w1 : v = 1 := by omega
          subst w1
          simp [e, a1, a2, k8, v3, Te.enc, PySem.sizeLine_eq]
      · obtain ⟨v, o2, v1, v2, v3⟩ := fTake 6 o1 r ho (by decide)
        refine ⟨.less v, o2, v2, .less _ _ (by omega) (by omega), ?_⟩
        have b1 : ¬ (kind : Int) = 5 := by omega
        have b2 : ¬ (kind : Int) = 6 := by omega
        have b3 : ¬ (kind : Int) = 7 := by omega
        simp [e, a1, a2, b1, b2, b3, v3, Te.enc, PySem.sizeLine_eq]
theorem test_ok {f vf tf : Nat → Cf} (h : ∀ k ds s, f (k + 1) ds s = runB 3 (tm_law_test (tf k) (f k) (vf k)) ds s) (hv : ValOk vf) (ht : TakeOk tf) : TestOk f := by
  intro d
  induction d with
  | zero =>
    intro k o r ho hk
    obtain ⟨k, rfl⟩ : ∃ n, k = n + 1 := ⟨k - 1, by omega⟩
    obtain ⟨kind, o1, h1, h2, h3⟩ := ht k 9 o r ho (by decide) (by omega)
    rw [h]
    exact test_leaf (fun m o r ho hm => ht k m o r ho hm (by omega)) (fun o r ho => hv 1 k o r ho (by omega)) h2 (.inl rfl) h3
  | succ d ih =>
    intro k o r ho hk
    obtain ⟨k, rfl⟩ : ∃ n, k = n + 1 := ⟨k - 1, by omega⟩
    obtain ⟨kind, o1, h1, h2, h3⟩ := ht k 9 o r ho (by decide) (by omega)
    rw [h]
    by_cases k6 : 5 ≤ kind
    · exact test_leaf (d := d + 1) (fun m o r ho hm => ht k m o r ho hm (by omega)) (fun o r ho => hv 1 k o r ho (by omega)) h2 (.inr k6) h3
    · obtain ⟨a, o2, a1, a2, a3⟩ := ih k o1 r h2 (by omega)
      obtain ⟨b, o3, b1, b2, b3⟩ := ih k o2 r a1 (by omega)
      simp only [runB_eq]
      generalize f k = F at *
      generalize vf k = V at *
      generalize tf k = T at *
      unfold tm_law_test
      have d0 : (0 : Int) < (d : Int) + 1 := by omega
      have e1 : (d : Int) + 1 - 1 = d := by omega
      have kc : kind = 0 ∨ kind = 1 ∨ kind = 2 ∨ kind = 3 ∨ kind = 4 := by omega
      rcases kc with rfl | rfl | rfl | rfl | rfl
      · refine ⟨.not a, o2, a1, .not _ _ a2, ?_⟩
        simp [h3, d0, e1, a3, Te.enc, PySem.sizeLine_eq]
      · refine ⟨.all a, o2, a1, .all _ _ a2, ?_⟩
        simp [h3, d0, e1, a3, Te.enc, PySem.sizeLine_eq]
      · refine ⟨.any a, o2, a1, .any _ _ a2, ?_⟩
        simp [h3, d0, e1, a3, Te.enc, PySem.sizeLine_eq]
      · refine ⟨.both a b, o3, b1, .both _ _ _ a2 b2, ?_⟩
        simp [h3, d0, e1, a3, b3, Te.enc, PySem.sizeLine_eq]
      · refine ⟨.either a b, o3, b1, .either _ _ _ a2 b2, ?_⟩
        simp [h3, d0, e1, a3, b3, Te.enc, PySem.sizeLine_eq]
/-! ### operations -/
inductive Op where
  | add (n : Int)
  | mul (n : Int)
  | mod (n : Int)
  | sum
  | size
  | sort
  | reverse
  | flat
def Op.enc : Op → PyData
  | add n => .tuple [.str q_add, .int n]
  | mul n => .tuple [.str q_mul, .int n]
  | mod n => .tuple [.str q_mod, .int n]
  | sum => .tuple [.str q_sum]
  | size => .tuple [.str q_size]
  | sort => .tuple [.str q_sort]
  | reverse => .tuple [.str q_reverse]
  | flat => .tuple [.str q_flat]
inductive Og : Op → Prop
  | add (n : Int) (h1 : 1 ≤ n) (h2 : n ≤ 3) : Og (.add n)
  | mul (n : Int) (h1 : 1 ≤ n) (h2 : n ≤ 3) : Og (.mul n)
  | mod (n : Int) (h1 : 1 ≤ n) (h2 : n ≤ 3) : Og (.mod n)
  | sum : Og .sum
  | size : Og .size
  | sort : Og .sort
  | reverse : Og .reverse
  | flat : Og .flat
def OpOk (f : Nat → Cf) : Prop := ∀ k o r, Row o → 2 ≤ k → ∃ (p : Op) (o' : O), Row o' ∧ Og p ∧ f k [.ref 0] (o :: r) = .ok (.p p.enc) (o' :: r)
theorem op_ok {f tf : Nat → Cf} (h : ∀ k ds s, f (k + 1) ds s = runB 2 (tm_law_operation (tf k)) ds s) (ht : TakeOk tf) : OpOk f := by
  intro k o r ho hk
  obtain ⟨k, rfl⟩ : ∃ n, k = n + 1 := ⟨k - 1, by omega⟩
  obtain ⟨kind, o1, h1, h2, h3⟩ := ht k 7 o r ho (by decide) (by omega)
  obtain ⟨u, o2, u1, u2, u3⟩ := ht k 3 o1 r h2 (by decide) (by omega)
  obtain ⟨w, o3, w1, w2, w3⟩ := ht k 5 o1 r h2 (by decide) (by omega)
  rw [h]
  simp only [runB_eq]
  generalize tf k = T at *
  unfold tm_law_operation
  by_cases k3 : kind < 3
  · have kc : kind = 0 ∨ kind = 1 ∨ kind = 2 := by omega
    rcases kc with rfl | rfl | rfl
    · refine ⟨.add (1 + u), o2, u2, .add _ (by omega) (by omega), ?_⟩
      simp [h3, u3, Op.enc, PySem.sizeLine_eq]
    · refine ⟨.mul (1 + u), o2, u2, .mul _ (by omega) (by omega), ?_⟩
      simp [h3, u3, Op.enc, PySem.sizeLine_eq]
    · refine ⟨.mod (1 + u), o2, u2, .mod _ (by omega) (by omega), ?_⟩
      simp [h3, u3, Op.enc, PySem.sizeLine_eq]
  · have k3' : ¬ (kind : Int) < 3 := by omega
    have wc : w = 0 ∨ w = 1 ∨ w = 2 ∨ w = 3 ∨ w = 4 := by omega
    rcases wc with rfl | rfl | rfl | rfl | rfl
    · refine ⟨.sum, o3, w2, .sum, ?_⟩
      simp [h3, k3', w3, Op.enc, PySem.sizeLine_eq]
    · refine ⟨.size, o3, w2, .size, ?_⟩
      simp [h3, k3', w3, Op.enc, PySem.sizeLine_eq]
    · refine ⟨.sort, o3, w2, .sort, ?_⟩
      simp [h3, k3', w3, Op.enc, PySem.sizeLine_eq]
    · refine ⟨.reverse, o3, w2, .reverse, ?_⟩
      simp [h3, k3', w3, Op.enc, PySem.sizeLine_eq]
    · refine ⟨.flat, o3, w2, .flat, ?_⟩
      simp [h3, k3', w3, Op.enc, PySem.sizeLine_eq]
/-! ### terms -/
/-- drawn terms: the names that may stand in them, whether self may, the depth -/
inductive Tg : List Str → Bool → Nat → Tm → Prop
  | self (ns d) : Tg ns true d (.node .self [])
  | var (ns i d x) (h : x ∈ ns) : Tg ns i d (.node (.var x) [])
  | upto (ns i d x) (h : x ∈ ns) : Tg ns i d (.node (.upto x) [])
  | range (ns i d) (a b : Int) (h1 : -1 ≤ a) (h2 : a ≤ 2) (h3 : a ≤ b) (h4 : b ≤ a + 2) : Tg ns i d (.node (.range a b) [])
  | shuffle (ns i d) (vs : List Int) (h1 : vs.length ≤ 4) (h2 : ∀ v ∈ vs, 0 ≤ v ∧ v ≤ 2) : Tg ns i d (.node (.shuffle (.tuple (vs.map PyData.int))) [])
  | discard (ns i d) : Tg ns i d (.node .discard [])
  | const (ns i d v) (h : Vg 1 v) : Tg ns i d (.node (.const v) [])
  | map (ns i d p t) (h1 : Og p) (h2 : Tg ns i d t) : Tg ns i (d + 1) (.node (.map p.enc) [t])
  | keep (ns i d e t) (n : Int) (h1 : Tedr 1 e) (h2 : 1 ≤ n) (h3 : n ≤ 3) (h4 : Tg ns i d t) : Tg ns i (d + 1) (.node (.keep e.enc n) [t])
  | list (ns i d t) (a b : Int) (h1 : 0 ≤ a) (h2 : a ≤ 1) (h3 : a ≤ b) (h4 : b ≤ a + 2) (h5 : Tg ns i d t) : Tg ns i (d + 1) (.node (.list a b) [t])
  | lett (ns i d x a b) (h1 : x = q_x ∨ x = q_y ∨ x = q_abc) (h2 : Tg ns i d a) (h3 : Tg (ns ++ [x]) i d b) : Tg ns i (d + 1) (.node (.lett x) [a, b])
  | grow (ns i d a b) (n : Int) (h1 : 0 ≤ n) (h2 : n ≤ 3) (h3 : Tg ns i d a) (h4 : Tg ns true d b) : Tg ns i (d + 1) (.node (.grow n) [a, b])
  | pick (ns i d l) (h1 : 1 ≤ l.length) (h2 : l.length ≤ 3) (h3 : ∀ t ∈ l, Tg ns i d t) : Tg ns i (d + 1) (.node .pick l)
  | weigh (ns i d l) (ws : List Int) (h0 : l.length = ws.length) (h1 : 1 ≤ l.length) (h2 : l.length ≤ 3) (h4 : ∀ w ∈ ws, 1 ≤ w ∧ w ≤ 3) (h3 : ∀ t ∈ l, Tg ns i d t) : Tg ns i (d + 1) (.node (.weigh ws) l)
  | tuple (ns i d l) (h2 : l.length ≤ 3) (h3 : ∀ t ∈ l, Tg ns i d t) : Tg ns i (d + 1) (.node .tuple l)
theorem Tg.wf {ns : List Str} {i : Bool} {d : Nat} {t : Tm} (h : Tg ns i d t) : Wf (d + 1) t := by
  induction h with
  | self => exact .mk _ _ _ rfl (by simp) (fun _ h => (List.not_mem_nil h).elim)
  | var => exact .mk _ _ _ rfl (by simp) (fun _ h => (List.not_mem_nil h).elim)
  | upto => exact .mk _ _ _ rfl (by simp) (fun _ h => (List.not_mem_nil h).elim)
  | range => exact .mk _ _ _ rfl (by simp) (fun _ h => (List.not_mem_nil h).elim)
  | shuffle => exact .mk _ _ _ rfl (by simp) (fun _ h => (List.not_mem_nil h).elim)
  | discard => exact .mk _ _ _ rfl (by simp) (fun _ h => (List.not_mem_nil h).elim)
  | const => exact .mk _ _ _ rfl (by simp) (fun _ h => (List.not_mem_nil h).elim)
  | map ns i d p t h1 h2 ih => exact .mk _ _ _ rfl (by simp) (fun _ h => List.mem_singleton.mp h ▸ ih)
  | keep ns i d e t n h1 h2 h3 h4 ih => exact .mk _ _ _ rfl (by simp) (fun _ h => List.mem_singleton.mp h ▸ ih)
  | list ns i d t a b h1 h2 h3 h4 h5 ih => exact .mk _ _ _ rfl (by simp) (fun _ h => List.mem_singleton.mp h ▸ ih)
  | lett ns i d x a b h1 h2 h3 ia ib => exact .mk _ _ _ rfl (by simp) (fun t h => by
    simp at h
    rcases h with rfl | rfl
    · exact ia
    · exact ib)
  | grow ns i d a b n h1 h2 h3 h4 ia ib => exact .mk _ _ _ rfl (by simp) (fun t h => by
    simp at h
    rcases h with rfl | rfl
    · exact ia
    · exact ib)
  | pick ns i d l h1 h2 h3 ih => exact .mk _ _ _ trivial (by omega) ih
  | weigh ns i d l ws h0 h1 h2 h4 h3 ih => exact .mk _ _ _ h0 (by omega) ih
  | tuple ns i d l h2 h3 ih => exact .mk _ _ _ trivial (by omega) ih
def nmD (ns : List Str) : D := .p (.list (ns.map PyData.str))
def LeafOk (f : Nat → Cf) : Prop := ∀ k ns b d o r, Row o → 4 ≤ k → ∃ (t : Tm) (o' : O), Row o' ∧ Tg ns b d t ∧ f k [.ref 0, nmD ns, DB b] (o :: r) = .ok (.p t.enc) (o' :: r)
theorem enc_shuffle {v : PyData} : (Tm.node (.shuffle v) []).enc = .tuple [.str q_shuffle, v] := by rw [Tm.enc_node]; rfl
theorem enc_discard : (Tm.node .discard []).enc = .tuple [.str q_discard] := by rw [Tm.enc_node]; rfl
theorem leaf_ok {f vf tf : Nat → Cf} (h : ∀ k ds s, f (k + 1) ds s = runB 6 (tm_law_leaf (tf k) (vf k)) ds s) (hv : ValOk vf) (ht : TakeOk tf) : LeafOk f := by
  intro k ns b d o r ho hk
  obtain ⟨k, rfl⟩ : ∃ n, k = n + 1 := ⟨k - 1, by omega⟩
  have ht := fun m o ho hm => ht k m o r ho hm (by omega)
  have hv := fun o ho => hv 1 k o r ho (by omega)
  rw [h]
  simp only [runB_eq]
  generalize vf k = V at *
  generalize tf k = T at *
  obtain ⟨kind, o1, h1, h2, h3⟩ := ht 7 o ho (by decide)
  unfold tm_law_leaf nmD
  -- the constant
  obtain ⟨v, oc, c1, c2, c3⟩ := hv o1 h2
  simp at c3
  have kc : kind = 0 ∨ kind = 1 ∨ kind = 2 ∨ kind = 3 ∨ kind = 4 ∨ kind = 5 ∨ kind = 6 := by omega
  rcases kc with rfl | rfl | rfl | rfl | rfl | rfl | rfl
  · cases b with
    | true =>
      refine ⟨_, o1, h2, .self _ _, ?_⟩
      simp [h3, enc_self, PySem.sizeLine_eq]
    | false =>
      refine ⟨_, oc, c1, .const _ _ _ v c2, ?_⟩
      simp [h3, enc_const, PySem.sizeLine_eq, c3]
  · by_cases hn : ns = []
    · subst hn
      refine ⟨_, oc, c1, .const _ _ _ v c2, ?_⟩
      simp [h3, enc_const, PySem.sizeLine_eq, c3]
    · have nl : 0 < ns.length := List.length_pos_iff.mpr hn
      obtain ⟨u, o2, u1, u2, u3⟩ := ht 2 o1 h2 (by decide)
      obtain ⟨w, o3, w1, w2, w3⟩ := ht (ns.length : Nat) o2 u2 (by omega)
      have wl : w < ns.length := by omega
      have ix := hIx_lat (s := o3 :: r) (xs := ns.map PyData.str) (i := w) (x := .str ns[w]) (by simp [wl])
      by_cases u0 : u = 0
      · subst u0
        refine ⟨_, o3, w2, .var _ _ _ ns[w] (List.getElem_mem wl), ?_⟩
        simp [h3, nl, u3, w3, ix, enc_var, PySem.sizeLine_eq]
      · have u1 : u = 1 := by omega
        subst u1
        refine ⟨_, o3, w2, .upto _ _ _ ns[w] (List.getElem_mem wl), ?_⟩
        simp [h3, nl, u3, w3, ix, enc_upto, PySem.sizeLine_eq]
  · obtain ⟨u, o2, u1, u2, u3⟩ := ht 4 o1 h2 (by decide)
    obtain ⟨w, o3, w1, w2, w3⟩ := ht 3 o2 u2 (by decide)
    refine ⟨_, o3, w2, .range _ _ _ (u - 1) (u - 1 + w) (by omega) (by omega) (by omega) (by omega), ?_⟩
    simp [h3, u3, w3, enc_range, PySem.sizeLine_eq]
  · obtain ⟨u, o2, u1, u2, u3⟩ := ht 5 o1 h2 (by decide)
    obtain ⟨ys, o3, w1, w2, w3, w4⟩ := lc_draw (g := gSet 5) (f := eCall T [] (aCons (eVar 0) (aCons (eC (.int 3)) aNil))) (r := r) (fun _ y => ∃ t : Int, y = .int t ∧ 0 ≤ t ∧ t ≤ 2) (fun e => e[0]? = some (some (.ref 0))) (rngD 0 u) (fun x hx o ho => by
      obtain ⟨y, o', q1, q2, q3⟩ := ht 3 o ho (by decide)
      refine ⟨.int y, o', q2, ⟨_, rfl, by omega, by omega⟩, fun e he => ?_⟩
      simp [he, q3]) (by rw [rngD_length, PySem.sizeLine_eq]; omega) o2 u2
    obtain ⟨vs, rfl, hvs⟩ := ints_of w3
    refine ⟨_, o3, w1, .shuffle _ _ _ vs (by rw [List.length_map, rngD_length] at w2; omega) hvs, ?_⟩
    have w := w4 (wipeE [some (.ref 0), some (.p (.list (ns.map PyData.str))), some (DB b), some (DI 3), none, none] [5]) (by rw [wipeE_get (by decide)]; rfl)
    have q : eLc false [5] (iRange1 (eCall T [] (aCons (eVar 0) (aCons (eC (.int 5)) aNil)))) (gSet 5) tYes (eCall T [] (aCons (eVar 0) (aCons (eC (.int 3)) aNil))) [some (.ref 0), some (.p (.list (ns.map PyData.str))), some (DB b), some (DI 3), none, none] (o1 :: r) = .ok (.p (.list (vs.map PyData.int))) (o3 :: r) := by
      rw [eLc_eq]
      simp [u3]
      rw [if_pos (by omega)]
      simp only [R.bind_ok, lcGo_S]
      exact w
    simp [h3, q, enc_shuffle, PySem.sizeLine_eq]
  · obtain ⟨u, o2, u1, u2, u3⟩ := ht 3 o1 h2 (by decide)
    by_cases u0 : u = 0
    · refine ⟨_, o2, u2, .discard _ _ _, ?_⟩
      simp [h3, u3, u0, enc_discard, PySem.sizeLine_eq]
    · obtain ⟨v, o3, v1, v2, v3⟩ := hv o2 u2
      simp at v3
      refine ⟨_, o3, v1, .const _ _ _ v v2, ?_⟩
      simp [h3, u3, u0, v3, enc_const, PySem.sizeLine_eq]
  · refine ⟨_, oc, c1, .const _ _ _ v c2, ?_⟩
    simp [h3, enc_const, PySem.sizeLine_eq, c3]
  · refine ⟨_, oc, c1, .const _ _ _ v c2, ?_⟩
    simp [h3, enc_const, PySem.sizeLine_eq, c3]
theorem enc_map {p : PyData} {t : Tm} : (Tm.node (.map p) [t]).enc = .tuple [.str q_map, p, t.enc] := by rw [Tm.enc_node]; rfl
theorem enc_keep {p : PyData} {n : Int} {t : Tm} : (Tm.node (.keep p n) [t]).enc = .tuple [.str q_keep, p, .int n, t.enc] := by rw [Tm.enc_node]; rfl
theorem enc_list {a b : Int} {t : Tm} : (Tm.node (.list a b) [t]).enc = .tuple [.str q_list, .int a, .int b, t.enc] := by rw [Tm.enc_node]; rfl
theorem enc_pick {l : List Tm} : (Tm.node .pick l).enc = .tuple [.str q_pick, .tuple (l.map Tm.enc)] := by rw [Tm.enc_node]; rfl
theorem enc_tuple {l : List Tm} : (Tm.node .tuple l).enc = .tuple [.str q_tuple, .tuple (l.map Tm.enc)] := by rw [Tm.enc_node]; rfl
theorem enc_weigh {ws : List Int} {l : List Tm} : (Tm.node (.weigh ws) l).enc = .tuple [.str q_weigh, .tuple (List.zipWith wp2 ws (l.map Tm.enc))] := by rw [Tm.enc_node]; rfl
def TermOk (f : Nat → Cf) : Prop := ∀ d k ns b o r, Row o → ns.length + d ≤ 100 → d + 6 ≤ k → ∃ (t : Tm) (o' : O), Row o' ∧ Tg ns b d t ∧ f k [.ref 0, DI (d : Nat), nmD ns, DB b] (o :: r) = .ok (.p t.enc) (o' :: r)
theorem mem3 {α : Type} {a c t : α} {n : Nat} (h : t ∈ [a, c, a].take n) : t = a ∨ t = c := by
  have := List.mem_of_mem_take h
  simp at this
  rcases this with e | e | e
  · exact .inl e
  · exact .inr e
  · exact .inl e
theorem take_mem {α : Type} {l : List α} {n : Nat} {x : α} (h : x ∈ l.take n) : x ∈ l := List.mem_of_mem_take h
theorem term_ok {f lf gf ef tf : Nat → Cf} (h : ∀ k ds s, f (k + 1) ds s = runB 10 (tm_law_term (tf k) (lf k) (f k) (gf k) (ef k)) ds s) (hl : LeafOk lf) (hg : OpOk gf) (he : TestOk ef) (ht : TakeOk tf) : TermOk f := by
  intro d
  induction d with
  | zero =>
    intro k ns b o r ho hn hk
    obtain ⟨k, rfl⟩ : ∃ n, k = n + 1 := ⟨k - 1, by omega⟩
    obtain ⟨kind, o1, h1, h2, h3⟩ := ht k 10 o r ho (by decide) (by omega)
    obtain ⟨t, o2, t1, t2, t3⟩ := hl k ns b 0 o1 r h2 (by omega)
    refine ⟨t, o2, t1, t2, ?_⟩
    rw [h, runB_eq]
    unfold tm_law_term
    generalize f k = F at *
    generalize lf k = L at *
    generalize gf k = G at *
    generalize ef k = E at *
    generalize tf k = T at *
    simp [h3, t3]
  | succ d ih =>
    intro k ns b o r ho hn hk
    obtain ⟨k, rfl⟩ : ∃ n, k = n + 1 := ⟨k - 1, by omega⟩
    have ht := fun m o ho hm => ht k m o r ho hm (by omega)
    have hl := fun o ho => hl k ns b (d + 1) o r ho (by omega)
    have hg := fun o ho => hg k o r ho (by omega)
    have he := fun o ho => he 1 k o r ho (by omega)
    have ih := fun ns b o ho hn => ih k ns b o r ho hn (by omega)
    rw [h]
    simp only [runB_eq]
    generalize f k = F at *
    generalize lf k = L at *
    generalize gf k = G at *
    generalize ef k = E at *
    generalize tf k = T at *
    unfold tm_law_term
    obtain ⟨kind, o1, h1, h2, h3⟩ := ht 10 o ho (by decide)
    have d0 : ¬ ((d : Int) + 1 = 0) := by omega
    have e1 : (d : Int) + 1 - 1 = d := by omega
    by_cases k2 : kind < 2
    · obtain ⟨t, o2, t1, t2, t3⟩ := hl o1 h2
      refine ⟨t, o2, t1, t2, ?_⟩
      have k2' : (kind : Int) < 2 := by omega
      simp [h3, d0, k2', t3]
    · obtain ⟨a, o2, a1, a2, a3⟩ := ih ns b o1 h2 (by omega)
      have kc : kind = 2 ∨ kind = 3 ∨ kind = 4 ∨ kind = 5 ∨ kind = 6 ∨ kind = 7 ∨ kind = 8 ∨ kind = 9 := by omega
      rcases kc with rfl | rfl | rfl | rfl | rfl | rfl | rfl | rfl
      · obtain ⟨p, o3, p1, p2, p3⟩ := hg o2 a1
        refine ⟨_, o3, p1, .map _ _ _ p a p2 a2, ?_⟩
        simp [h3, d0, e1, a3, p3, enc_map, PySem.sizeLine_eq]
      · obtain ⟨p, o3, p1, p2, p3⟩ := he o2 a1
        obtain ⟨u, o4, u1, u2, u3⟩ := ht 3 o3 p1 (by decide)
        simp at p3
        refine ⟨_, o4, u2, .keep _ _ _ p a (1 + u) p2 (by omega) (by omega) a2, ?_⟩
        simp [h3, d0, e1, a3, p3, u3, enc_keep, PySem.sizeLine_eq]
      · obtain ⟨u, o3, u1, u2, u3⟩ := ht 2 o2 a1 (by decide)
        obtain ⟨w, o4, w1, w2, w3⟩ := ht 3 o3 u2 (by decide)
        refine ⟨_, o4, w2, .list _ _ _ a u (u + w) (by omega) (by omega) (by omega) (by omega) a2, ?_⟩
        simp [h3, d0, e1, a3, u3, w3, enc_list, PySem.sizeLine_eq]
      · obtain ⟨u, o3, u1, u2, u3⟩ := ht 3 o2 a1 (by decide)
        have sz : ns.length + 1 ≤ 16777216 := by omega
        have key : ∀ x, x = q_x ∨ x = q_y ∨ x = q_abc → ∃ (c : Tm) (o4 : O), Row o4 ∧ Tg (ns ++ [x]) b d c ∧ F [.ref 0, DI d, .p (.list (ns.map PyData.str ++ [.str x])), DB b] (o3 :: r) = .ok (.p c.enc) (o4 :: r) := fun x hx => by
          obtain ⟨c, o4, c1, c2, c3⟩ := ih (ns ++ [x]) b o3 u2 (by rw [List.length_append, List.length_singleton]; omega)
          refine ⟨c, o4, c1, c2, ?_⟩
          unfold nmD at c3
          rw [List.map_append] at c3
          exact c3
        have uc : u = 0 ∨ u = 1 ∨ u = 2 := by omega
        rcases uc with rfl | rfl | rfl
        · obtain ⟨c, o4, c1, c2, c3⟩ := key q_x (.inl rfl)
          refine ⟨_, o4, c1, .lett _ _ _ q_x a c (.inl rfl) a2 c2, ?_⟩
          unfold nmD at a3 ⊢
          simp [h3, d0, e1, a3, u3, c3, sz, enc_let, PySem.sizeLine_eq]
        · obtain ⟨c, o4, c1, c2, c3⟩ := key q_y (.inr (.inl rfl))
          refine ⟨_, o4, c1, .lett _ _ _ q_y a c (.inr (.inl rfl)) a2 c2, ?_⟩
          unfold nmD at a3 ⊢
          simp [h3, d0, e1, a3, u3, c3, sz, enc_let, PySem.sizeLine_eq]
        · obtain ⟨c, o4, c1, c2, c3⟩ := key q_abc (.inr (.inr rfl))
          refine ⟨_, o4, c1, .lett _ _ _ q_abc a c (.inr (.inr rfl)) a2 c2, ?_⟩
          unfold nmD at a3 ⊢
          simp [h3, d0, e1, a3, u3, c3, sz, enc_let, PySem.sizeLine_eq]
      · obtain ⟨u, o3, u1, u2, u3⟩ := ht 4 o2 a1 (by decide)
        obtain ⟨c, o4, c1, c2, c3⟩ := ih ns true o3 u2 (by omega)
        refine ⟨_, o4, c1, .grow _ _ _ a c u (by omega) (by omega) a2 c2, ?_⟩
        simp [h3, d0, e1, a3, u3, c3, enc_grow, PySem.sizeLine_eq]
      · obtain ⟨c, o3, c1, c2, c3⟩ := ih ns b o2 a1 (by omega)
        obtain ⟨u, o4, u1, u2, u3⟩ := ht 3 o3 c1 (by decide)
        refine ⟨_, o4, u2, .pick _ _ _ ([a, c, a].take (1 + u)) (by simp; omega) (by simp; omega) (fun t ht => by
          rcases mem3 ht with rfl | rfl
          · exact a2
          · exact c2), ?_⟩
        have cu := hCut_ttake (s := o4 :: r) (xs := [a.enc, c.enc, a.enc]) (n := 1 + u)
        simp at cu
        simp [h3, d0, e1, a3, u3, c3, cu, enc_pick, PySem.sizeLine_eq]
      · obtain ⟨c, o3, c1, c2, c3⟩ := ih ns b o2 a1 (by omega)
        obtain ⟨u, o4, u1, u2, u3⟩ := ht 3 o3 c1 (by decide)
        obtain ⟨v, o5, v1, v2, v3⟩ := ht 3 o4 u2 (by decide)
        obtain ⟨w, o6, w1, w2, w3⟩ := ht 2 o5 v2 (by decide)
        obtain ⟨n, o7, n1, n2, n3⟩ := ht 3 o6 w2 (by decide)
        refine ⟨_, o7, n2, .weigh _ _ _ ([a, c, a].take (1 + n)) ([1 + (u : Int), 1 + v, 1 + w].take (1 + n)) (by simp) (by simp; omega) (by simp; omega) (fun z hz => by
          have := take_mem hz
          simp at this
          omega) (fun t ht => by
          rcases mem3 ht with rfl | rfl
          · exact a2
          · exact c2), ?_⟩
        have cu := hCut_ttake (s := o7 :: r) (xs := [.tuple [.int (1 + u), a.enc], .tuple [.int (1 + v), c.enc], .tuple [.int (1 + w), a.enc]]) (n := 1 + n)
        simp at cu
        simp [h3, d0, e1, a3, u3, v3, w3, n3, c3, cu, enc_weigh, PySem.sizeLine_eq]
        rw [← List.take_zipWith]
        rfl
      · obtain ⟨c, o3, c1, c2, c3⟩ := ih ns b o2 a1 (by omega)
        obtain ⟨u, o4, u1, u2, u3⟩ := ht 4 o3 c1 (by decide)
        refine ⟨_, o4, u2, .tuple _ _ _ ([a, c, a].take u) (by simp; omega) (fun t ht => by
          rcases mem3 ht with rfl | rfl
          · exact a2
          · exact c2), ?_⟩
        have cu := hCut_ttake (s := o4 :: r) (xs := [a.enc, c.enc, a.enc]) (n := u)
        simp [h3, d0, e1, a3, u3, c3, cu, enc_tuple, PySem.sizeLine_eq]
end Dl
/-! The data layer: how large data is (plain Lean). -/
namespace Dl
open PySem
/-- no dict, not deeper than d, short leaves, of bulk at most b -/
structure Sm (d b : Nat) (x : PyData) : Prop where
  can : x.canLay0 = true
  dep : x.depth ≤ d
  shw : x.showable = true
  lea : x.leavesShort 13 = true
  blk : x.bulk ≤ b
theorem Sm.mono {d b d' b' : Nat} {x : PyData} (h : Sm d b x) (h1 : d ≤ d') (h2 : b ≤ b') : Sm d' b' x := ⟨h.can, by have := h.dep; omega, h.shw, h.lea, by have := h.blk; omega⟩
theorem short_small : ∀ n : Fin 200, (PyData.shown (.int ((n.val : Int) - 50))).length ≤ 13 := by decide +kernel
theorem sm_int {i : Int} (h1 : -50 ≤ i) (h2 : i < 150) : Sm 1 0 (.int i) := by
  refine ⟨rfl, by simp [PyData.depth], ?_, ?_, by simp [PyData.bulk]⟩
  · simp only [PyData.showable, decide_eq_true_eq]
    have : i.natAbs < 2 ^ 8 := by omega
    by_cases h : i.natAbs = 0
    · rw [h]
      decide
    · have := (Nat.log2_lt h).mpr this
      omega
  · simp only [PyData.leavesShort, decide_eq_true_eq]
    have := short_small ⟨(i + 50).toNat, by omega⟩
    have e : (((i + 50).toNat : Nat) : Int) - 50 = i := by omega
    simp only [e] at this
    exact this
theorem sm_none : Sm 1 0 .none := ⟨rfl, by simp [PyData.depth], rfl, rfl, by simp [PyData.bulk]⟩
theorem sm_bool {b : Bool} : Sm 1 0 (.bool b) := ⟨rfl, by simp [PyData.depth], rfl, rfl, by simp [PyData.bulk]⟩
theorem sm_tuple {d b : Nat} {xs : List PyData} (h : ∀ x ∈ xs, Sm d b x) : Sm (d + 1) ((b + 1) * xs.length) (.tuple xs) := by
  have k : PyData.canLayAll0 xs = true ∧ PyData.depthAll xs ≤ d ∧ PyData.showableAll xs = true ∧ PyData.leavesShortAll 13 xs = true ∧ PyData.bulkAll xs ≤ (b + 1) * xs.length := by
    induction xs with
    | nil => simp [PyData.canLayAll0, PyData.depthAll, PyData.showableAll, PyData.leavesShortAll, PyData.bulkAll]
    | cons x xs ih =>
      obtain ⟨i1, i2, i3, i4, i5⟩ := ih fun y hy => h y (List.mem_cons_of_mem _ hy)
      obtain ⟨j1, j2, j3, j4, j5⟩ := h x List.mem_cons_self
      simp only [PyData.canLayAll0, PyData.depthAll, PyData.showableAll, PyData.leavesShortAll, PyData.bulkAll, i1, i3, i4, j1, j3, j4, List.length_cons, Nat.mul_add, Nat.mul_one, Bool.and_self]
      refine ⟨trivial, by omega, trivial, trivial, ?_⟩
      have := Nat.mul_le_mul_right xs.length (Nat.le_refl (b + 1))
      omega
  obtain ⟨i1, i2, i3, i4, i5⟩ := k
  exact ⟨by simp only [PyData.canLay0, i1], by simp only [PyData.depth]; omega, by simp only [PyData.showable, i3], by simp only [PyData.leavesShort, i4], by simp only [PyData.bulk]; omega⟩
theorem reprOk_sm {d b : Nat} {xs : List PyData} (h : Sm d b (.tuple xs)) (hd : d ≤ 60) (hb : b ≤ 1000000) : reprOk (.tuple xs) = true := by
  unfold reprOk isSq
  have hb2 : (PyData.tuple xs).bulk ≤ 2 ^ 20 := by
    have := h.blk
    omega
  have := PyData.shown_fits_bulk (B := 13) (by decide) (by decide) h.lea hb2
  simp only [h.can, h.shw, Bool.true_and, Bool.and_eq_true, decide_eq_true_eq]
  exact ⟨by have := h.dep; omega, this⟩
theorem hRepr_sm {d b : Nat} {xs : List PyData} {s : Sto} (h : Sm d b (.tuple xs)) (hd : d ≤ 60) (hb : b ≤ 1000000) : hRepr [.p (.tuple xs)] s = .ok (.p (.str (PyData.tuple xs).shown)) s := by
  show (if reprOk (.tuple xs) then R.ok (D.p (.str (PyData.tuple xs).shown)) s else R.bad) = _
  rw [if_pos (reprOk_sm h hd hb)]
theorem sm_shaped {d b : Nat} {x : PyData} (h : Sm d b x) (hd : d ≤ 60) : SeqAt.shaped x = true := by
  unfold SeqAt.shaped
  rw [h.can, Bool.true_and, decide_eq_true_eq]
  have := h.dep
  omega
/-- data is equal to itself -/
theorem hEq_self {xs : List PyData} {s : Sto} (h : SeqAt.shaped (.tuple xs) = true) : hEq (.p (.tuple xs)) (.p (.tuple xs)) s = .ok (DB true) s := by
  have e := SeqAt.eqv_refl _ (SeqAt.canLay_of_shaped h)
  rw [PyData.eqv] at e
  rw [hEq_tt, h]
  simp [e]
theorem hNe_self {xs : List PyData} {s : Sto} (h : SeqAt.shaped (.tuple xs) = true) : hNe (.p (.tuple xs)) (.p (.tuple xs)) s = .ok (DB false) s := by
  have e := SeqAt.eqv_refl _ (SeqAt.canLay_of_shaped h)
  rw [PyData.eqv] at e
  rw [hNe_tt, h]
  simp [e]
end Dl
/-! The data layer: what the laws' own put and free tell; sizes of what is drawn (plain Lean). -/
namespace Dl
open PySem
/-! ### sizes -/
structure SmA (d b : Nat) (xs : List PyData) : Prop where
  can : PyData.canLayAll0 xs = true
  dep : PyData.depthAll xs ≤ d
  shw : PyData.showableAll xs = true
  lea : PyData.leavesShortAll 13 xs = true
  blk : PyData.bulkAll xs ≤ b
theorem smA_nil {d : Nat} : SmA d 0 [] := ⟨rfl, by simp [PyData.depthAll], rfl, rfl, by simp [PyData.bulkAll]⟩
theorem smA_cons {d b b' : Nat} {x : PyData} {xs : List PyData} (h : Sm d b x) (h' : SmA d b' xs) : SmA d (b + 1 + b') (x :: xs) := by
  obtain ⟨i1, i2, i3, i4, i5⟩ := h
  obtain ⟨j1, j2, j3, j4, j5⟩ := h'
  refine ⟨?_, ?_, ?_, ?_, ?_⟩
  · simp only [PyData.canLayAll0, i1, j1, Bool.and_self]
  · simp only [PyData.depthAll]
    omega
  · simp only [PyData.showableAll, i3, j3, Bool.and_self]
  · simp only [PyData.leavesShortAll, i4, j4, Bool.and_self]
  · simp only [PyData.bulkAll]
    omega
theorem sm_tup {d b : Nat} {xs : List PyData} (h : SmA d b xs) : Sm (d + 1) b (.tuple xs) := by
  obtain ⟨i1, i2, i3, i4, i5⟩ := h
  exact ⟨by simp only [PyData.canLay0, i1], by simp only [PyData.depth]; omega, by simp only [PyData.showable, i3], by simp only [PyData.leavesShort, i4], by simp only [PyData.bulk]; omega⟩
theorem SmA.mono {d b d' b' : Nat} {x : List PyData} (h : SmA d b x) (h1 : d ≤ d') (h2 : b ≤ b') : SmA d' b' x := ⟨h.can, by have := h.dep; omega, h.shw, h.lea, by have := h.blk; omega⟩
theorem smA_all {d b n : Nat} : ∀ {xs : List PyData}, (∀ x ∈ xs, Sm d b x) → xs.length ≤ n → SmA d ((b + 1) * n) xs
  | [], _, _ => smA_nil.mono (Nat.le_refl _) (Nat.zero_le _)
  | x :: xs, h, hl => by
    obtain ⟨n, rfl⟩ : ∃ m, n = m + 1 := ⟨n - 1, by simp at hl; omega⟩
    have := smA_cons (h x List.mem_cons_self) (smA_all (n := n) (fun y hy => h y (List.mem_cons_of_mem _ hy)) (by simpa using hl))
    exact this.mono (Nat.le_refl _) (by rw [Nat.mul_succ]; omega)
theorem sm_str {z : Str} (h0 : (PyData.str z).canLay0 = true) (h : (z.cps.toList.all fun c => decide (c < 16 ^ 8)) = true) : Sm 1 z.cps.size (.str z) := ⟨h0, by simp [PyData.depth], rfl, by simp only [PyData.leavesShort]; exact h, by simp [PyData.bulk]⟩
theorem Sm.up {d b : Nat} {x : PyData} (h : Sm d b x) : Sm (d + 1) b x := h.mono (by omega) (Nat.le_refl _)
theorem sm_int' {d : Nat} {i : Int} (h1 : -50 ≤ i) (h2 : i < 150) : Sm (d + 1) 0 (.int i) := (sm_int h1 h2).mono (by omega) (Nat.le_refl _)
def okS (z : Str) : Bool := decide (z.cps.size ≤ 9) && (z.cps.toList.all fun c => decide (c < 16 ^ 8)) && (PyData.str z).canLay0
theorem sq9 {z : Str} {d : Nat} (h : okS z = true) : Sm (d + 1) 9 (.str z) := by
  unfold okS at h
  rw [Bool.and_eq_true, Bool.and_eq_true, decide_eq_true_eq] at h
  exact (sm_str h.2 h.1.2).mono (by omega) h.1.1
theorem p4 (d : Nat) : 1 ≤ 4 ^ d := Nat.pow_pos (by omega)
theorem p3 (d : Nat) : 1 ≤ 3 ^ d := Nat.pow_pos (by omega)
theorem Vg.sm {d : Nat} {x : PyData} (h : Vg d x) : Sm (d + 1) (3 * 4 ^ d) x := by
  induction h with
  | int d i h1 h2 => exact (sm_int' (by omega) (by omega)).mono (Nat.le_refl _) (Nat.zero_le _)
  | tup d xs hl h ih =>
    refine (sm_tup (smA_all (n := 3) ih hl)).mono (by omega) ?_
    have := p4 d
    rw [Nat.pow_succ]
    omega
theorem Tedr.sm {d : Nat} {t : Te} (h : Tedr d t) : Sm (d + 4) (30 * 3 ^ d) t.enc := by
  have p := p3
  induction h with
  | equals d v h => exact (sm_tup (smA_cons (sq9 (by decide +kernel)) (smA_cons (h.sm.mono (by omega) (Nat.le_refl _)) smA_nil))).mono (Nat.le_refl _) (by have := p d; omega)
  | size d i h1 h2 => exact (sm_tup (smA_cons (sq9 (by decide +kernel)) (smA_cons (sm_int' (by omega) (by omega)) smA_nil))).mono (Nat.le_refl _) (by have := p d; omega)
  | less d i h1 h2 => exact (sm_tup (smA_cons (sq9 (by decide +kernel)) (smA_cons (sm_int' (by omega) (by omega)) smA_nil))).mono (Nat.le_refl _) (by have := p d; omega)
  | even d => exact (sm_tup (smA_cons (sq9 (by decide +kernel)) smA_nil)).mono (Nat.le_refl _) (by have := p d; omega)
  | rising d => exact (sm_tup (smA_cons (sq9 (by decide +kernel)) smA_nil)).mono (Nat.le_refl _) (by have := p d; omega)
  | not d t h ih => exact (sm_tup (smA_cons (sq9 (by decide +kernel)) (smA_cons ih smA_nil))).mono (by omega) (by have := p d; rw [Nat.pow_succ]; omega)
  | all d t h ih => exact (sm_tup (smA_cons (sq9 (by decide +kernel)) (smA_cons ih smA_nil))).mono (by omega) (by have := p d; rw [Nat.pow_succ]; omega)
  | any d t h ih => exact (sm_tup (smA_cons (sq9 (by decide +kernel)) (smA_cons ih smA_nil))).mono (by omega) (by have := p d; rw [Nat.pow_succ]; omega)
  | both d a b h1 h2 i1 i2 => exact (sm_tup (smA_cons (sq9 (by decide +kernel)) (smA_cons i1 (smA_cons i2 smA_nil)))).mono (by omega) (by have := p d; rw [Nat.pow_succ]; omega)
  | either d a b h1 h2 i1 i2 => exact (sm_tup (smA_cons (sq9 (by decide +kernel)) (smA_cons i1 (smA_cons i2 smA_nil)))).mono (by omega) (by have := p d; rw [Nat.pow_succ]; omega)
theorem Og.sm {p : Op} (h : Og p) : Sm 2 20 p.enc := by
  cases h with
  | add n h1 h2 => exact (sm_tup (smA_cons (sq9 (by decide +kernel)) (smA_cons (sm_int' (by omega) (by omega)) smA_nil))).mono (Nat.le_refl _) (by omega)
  | mul n h1 h2 => exact (sm_tup (smA_cons (sq9 (by decide +kernel)) (smA_cons (sm_int' (by omega) (by omega)) smA_nil))).mono (Nat.le_refl _) (by omega)
  | mod n h1 h2 => exact (sm_tup (smA_cons (sq9 (by decide +kernel)) (smA_cons (sm_int' (by omega) (by omega)) smA_nil))).mono (Nat.le_refl _) (by omega)
  | _ => exact (sm_tup (smA_cons (sq9 (by decide +kernel)) smA_nil)).mono (Nat.le_refl _) (by omega)
def isNm (x : Str) : Prop := x = q_x ∨ x = q_y ∨ x = q_abc
theorem sm_nm {x : Str} {d : Nat} (h : isNm x) : Sm (d + 1) 9 (.str x) := by
  rcases h with rfl | rfl | rfl <;> exact sq9 (by decide +kernel)
theorem mem_zipWith {α β γ : Type} {f : α → β → γ} : ∀ {as : List α} {bs : List β} {c : γ}, c ∈ List.zipWith f as bs → ∃ a ∈ as, ∃ b ∈ bs, c = f a b
  | [], _, _, h => by simp at h
  | _ :: _, [], _, h => by simp at h
  | a :: as, b :: bs, c, h => by
    simp only [List.zipWith_cons_cons, List.mem_cons] at h
    rcases h with rfl | h
    · exact ⟨a, List.mem_cons_self, b, List.mem_cons_self, rfl⟩
    · obtain ⟨a', h1, b', h2, h3⟩ := mem_zipWith h
      exact ⟨a', List.mem_cons_of_mem _ h1, b', List.mem_cons_of_mem _ h2, h3⟩
theorem Tg.sm {ns : List Str} {i : Bool} {d : Nat} {t : Tm} (h : Tg ns i d t) (hn : ∀ x ∈ ns, isNm x) : Sm (3 * d + 6) (120 * 4 ^ d) t.enc := by
  have p := p4
  induction h with
  | self ns d => rw [enc_self]; exact (sm_tup (smA_cons (sq9 (by decide +kernel)) (smA_nil (d := 3 * d + 5)))).mono (Nat.le_refl _) (by have := p d; omega)
  | var ns i d x h => rw [enc_var]; exact (sm_tup (smA_cons (d := 3 * d + 5) (sq9 (by decide +kernel)) (smA_cons (sm_nm (hn x h)) smA_nil))).mono (Nat.le_refl _) (by have := p d; omega)
  | upto ns i d x h => rw [enc_upto]; exact (sm_tup (smA_cons (d := 3 * d + 5) (sq9 (by decide +kernel)) (smA_cons (sm_nm (hn x h)) smA_nil))).mono (Nat.le_refl _) (by have := p d; omega)
  | range ns i d a b h1 h2 h3 h4 => rw [enc_range]; exact (sm_tup (smA_cons (d := 3 * d + 5) (sq9 (by decide +kernel)) (smA_cons (sm_int' (by omega) (by omega)) (smA_cons (sm_int' (by omega) (by omega)) smA_nil)))).mono (Nat.le_refl _) (by have := p d; omega)
  | shuffle ns i d vs h1 h2 =>
    rw [enc_shuffle]
    have v : Sm (3 * d + 4 + 1) ((0 + 1) * 4) (.tuple (vs.map PyData.int)) := sm_tup (smA_all (fun x hx => by
      obtain ⟨v, hv, rfl⟩ := List.mem_map.mp hx
      have := h2 v hv
      exact sm_int' (by omega) (by omega)) (by simpa using h1))
    exact (sm_tup (smA_cons (d := 3 * d + 5) (sq9 (by decide +kernel)) (smA_cons v smA_nil))).mono (Nat.le_refl _) (by have := p d; omega)
  | discard ns i d => rw [enc_discard]; exact (sm_tup (smA_cons (sq9 (by decide +kernel)) (smA_nil (d := 3 * d + 5)))).mono (Nat.le_refl _) (by have := p d; omega)
  | const ns i d v h => rw [enc_const]; exact (sm_tup (smA_cons (d := 3 * d + 5) (sq9 (by decide +kernel)) (smA_cons (h.sm.mono (by omega) (Nat.le_refl _)) smA_nil))).mono (Nat.le_refl _) (by have := p d; omega)
  | map ns i d p' t h1 h2 ih => rw [enc_map]; exact (sm_tup (smA_cons (d := 3 * d + 8) (sq9 (by decide +kernel)) (smA_cons (h1.sm.mono (by omega) (Nat.le_refl _)) (smA_cons ((ih hn).mono (by omega) (Nat.le_refl _)) smA_nil)))).mono (by omega) (by have := p d; rw [Nat.pow_succ]; omega)
  | keep ns i d e t n h1 h2 h3 h4 ih => rw [enc_keep]; exact (sm_tup (smA_cons (d := 3 * d + 8) (sq9 (by decide +kernel)) (smA_cons (h1.sm.mono (by omega) (Nat.le_refl _)) (smA_cons (sm_int' (by omega) (by omega)) (smA_cons ((ih hn).mono (by omega) (Nat.le_refl _)) smA_nil))))).mono (by omega) (by have := p d; rw [Nat.pow_succ]; omega)
  | list ns i d t a b h1 h2 h3 h4 h5 ih => rw [enc_list]; exact (sm_tup (smA_cons (d := 3 * d + 8) (sq9 (by decide +kernel)) (smA_cons (sm_int' (by omega) (by omega)) (smA_cons (sm_int' (by omega) (by omega)) (smA_cons ((ih hn).mono (by omega) (Nat.le_refl _)) smA_nil))))).mono (by omega) (by have := p d; rw [Nat.pow_succ]; omega)
  | lett ns i d x a b h1 h2 h3 ia ib =>
    have hn' : ∀ z ∈ ns ++ [x], isNm z := fun z hz => by
      rcases List.mem_append.mp hz with h | h
      · exact hn z h
      · exact List.mem_singleton.mp h ▸ h1
    rw [enc_let]
    exact (sm_tup (smA_cons (d := 3 * d + 8) (sq9 (by decide +kernel)) (smA_cons (sm_nm h1) (smA_cons ((ia hn).mono (by omega) (Nat.le_refl _)) (smA_cons ((ib hn').mono (by omega) (Nat.le_refl _)) smA_nil))))).mono (by omega) (by have := p d; rw [Nat.pow_succ]; omega)
  | grow ns i d a b n h1 h2 h3 h4 ia ib => rw [enc_grow]; exact (sm_tup (smA_cons (d := 3 * d + 8) (sq9 (by decide +kernel)) (smA_cons (sm_int' (by omega) (by omega)) (smA_cons ((ia hn).mono (by omega) (Nat.le_refl _)) (smA_cons ((ib hn).mono (by omega) (Nat.le_refl _)) smA_nil))))).mono (by omega) (by have := p d; rw [Nat.pow_succ]; omega)
  | pick ns i d l h1 h2 h3 ih =>
    rw [enc_pick]
    have v : Sm (3 * d + 6 + 1) ((120 * 4 ^ d + 1) * 3) (.tuple (l.map Tm.enc)) := sm_tup (smA_all (fun x hx => by
      obtain ⟨v, hv, rfl⟩ := List.mem_map.mp hx
      exact ih v hv hn) (by simpa using h2))
    exact (sm_tup (smA_cons (d := 3 * d + 7) (sq9 (by decide +kernel)) (smA_cons v smA_nil))).mono (by omega) (by have := p d; rw [Nat.pow_succ]; omega)
  | tuple ns i d l h2 h3 ih =>
    rw [enc_tuple]
    have v : Sm (3 * d + 6 + 1) ((120 * 4 ^ d + 1) * 3) (.tuple (l.map Tm.enc)) := sm_tup (smA_all (fun x hx => by
      obtain ⟨v, hv, rfl⟩ := List.mem_map.mp hx
      exact ih v hv hn) (by simpa using h2))
    exact (sm_tup (smA_cons (d := 3 * d + 7) (sq9 (by decide +kernel)) (smA_cons v smA_nil))).mono (by omega) (by have := p d; rw [Nat.pow_succ]; omega)
  | weigh ns i d l ws h0 h1 h2 h4 h3 ih =>
    rw [enc_weigh]
    have v : Sm (3 * d + 7 + 1) ((120 * 4 ^ d + 2 + 1) * 3) (.tuple (List.zipWith wp2 ws (l.map Tm.enc))) := sm_tup (smA_all (fun x hx => by
      obtain ⟨w, hw, e, he, rfl⟩ := mem_zipWith hx
      obtain ⟨v, hv, rfl⟩ := List.mem_map.mp he
      have := h4 w hw
      exact (sm_tup (smA_cons (d := 3 * d + 6) (sm_int' (by omega) (by omega)) (smA_cons (ih v hv hn) smA_nil))).mono (by omega) (by omega)) (by simp; omega))
    exact (sm_tup (smA_cons (d := 3 * d + 8) (sq9 (by decide +kernel)) (smA_cons v smA_nil))).mono (by omega) (by have := p d; rw [Nat.pow_succ]; omega)
/-! ### the shape of terms -/
def Flt (m : Nat) (v : PyData) : Prop := v.canLay0 = true ∧ v.depth ≤ m
def HdZ (m : Nat) : Hd → Prop
  | .shuffle v => Flt m v
  | .const v => Flt m v
  | .map v => Flt m v
  | .keep v _ => Flt m v
  | .var z => (PyData.str z).canLay0 = true
  | .upto z => (PyData.str z).canLay0 = true
  | .lett z => (PyData.str z).canLay0 = true
  | _ => True
inductive Tz (m : Nat) : Nat → Tm → Prop
  | mk (d : Nat) (h : Hd) (l : List Tm) (hh : HdZ m h) (hc : ∀ t ∈ l, Tz m d t) : Tz m (d + 1) (.node h l)
theorem Tz.mono {m d : Nat} {t : Tm} (h : Tz m d t) : ∀ {d' : Nat}, d ≤ d' → Tz m d' t := by
  induction h with
  | mk d h l hh hc ih =>
    intro d' hd
    obtain ⟨n, rfl⟩ : ∃ n, d' = n + 1 := ⟨d' - 1, by omega⟩
    exact .mk _ _ _ hh fun t ht => ih t ht (by omega)
def FltA (m : Nat) (xs : List PyData) : Prop := PyData.canLayAll0 xs = true ∧ PyData.depthAll xs ≤ m
theorem fltA_nil {m : Nat} : FltA m [] := ⟨rfl, by simp [PyData.depthAll]⟩
theorem fltA_cons {m : Nat} {x : PyData} {xs : List PyData} (h : Flt m x) (h' : FltA m xs) : FltA m (x :: xs) := by
  obtain ⟨h1, h2⟩ := h
  obtain ⟨h3, h4⟩ := h'
  refine ⟨by simp only [PyData.canLayAll0, h1, h3, Bool.and_self], ?_⟩
  simp only [PyData.depthAll]
  omega
theorem flt_tup {m : Nat} {xs : List PyData} (h : FltA m xs) : Flt (m + 1) (.tuple xs) := ⟨by simp only [PyData.canLay0, h.1], by simp only [PyData.depth]; have := h.2; omega⟩
theorem flt_str {m : Nat} {z : Str} (h : (PyData.str z).canLay0 = true := by decide +kernel) : Flt (m + 1) (.str z) := ⟨h, by simp [PyData.depth]⟩
theorem flt_int {m : Nat} {z : Int} : Flt (m + 1) (.int z) := ⟨rfl, by simp [PyData.depth]⟩
theorem Flt.mono {m n : Nat} {x : PyData} (h : Flt m x) (hn : m ≤ n) : Flt n x := ⟨h.1, by have := h.2; omega⟩
theorem fltA_all {m : Nat} : ∀ {xs : List PyData}, (∀ x ∈ xs, Flt m x) → FltA m xs
  | [], _ => fltA_nil
  | x :: xs, h => fltA_cons (h x List.mem_cons_self) (fltA_all fun y hy => h y (List.mem_cons_of_mem _ hy))
theorem Sm.flt {d b : Nat} {x : PyData} (h : Sm d b x) : Flt d x := ⟨h.can, h.dep⟩
theorem Flt.shaped {m : Nat} {x : PyData} (h : Flt m x) (hm : m ≤ 63) : SeqAt.shaped x = true := by
  unfold SeqAt.shaped
  rw [h.1, Bool.true_and, decide_eq_true_eq]
  have := h.2
  omega
theorem Tz.flt {m d : Nat} {t : Tm} (h : Tz m d t) : Flt (3 * d + m + 2) t.enc := by
  induction h with
  | mk d h l hh hc ih =>
    rw [Tm.enc_node]
    have ia : FltA (3 * d + m + 2) (l.map Tm.enc) := fltA_all fun x hx => by
      obtain ⟨t, ht, rfl⟩ := List.mem_map.mp hx
      exact ih t ht
    have ib : FltA (3 * d + m + 4) (l.map Tm.enc) := ⟨ia.1, by have := ia.2; omega⟩
    have g : 3 * (d + 1) + m + 2 = 3 * d + m + 4 + 1 := by omega
    rw [g]
    cases h with
    | self => exact flt_tup (fltA_cons flt_str fltA_nil)
    | discard => exact flt_tup (fltA_cons flt_str fltA_nil)
    | var n => exact flt_tup (fltA_cons flt_str (fltA_cons (flt_str hh) fltA_nil))
    | upto n => exact flt_tup (fltA_cons flt_str (fltA_cons (flt_str hh) fltA_nil))
    | range a b => exact flt_tup (fltA_cons flt_str (fltA_cons flt_int (fltA_cons flt_int fltA_nil)))
    | shuffle v => exact flt_tup (fltA_cons flt_str (fltA_cons (Flt.mono hh (by omega)) fltA_nil))
    | const v => exact flt_tup (fltA_cons flt_str (fltA_cons (Flt.mono hh (by omega)) fltA_nil))
    | map v => exact flt_tup (fltA_cons flt_str (fltA_cons (Flt.mono hh (by omega)) ib))
    | keep v n => exact flt_tup (fltA_cons flt_str (fltA_cons (Flt.mono hh (by omega)) (fltA_cons flt_int ib)))
    | list a b => exact flt_tup (fltA_cons flt_str (fltA_cons flt_int (fltA_cons flt_int ib)))
    | lett x => exact flt_tup (fltA_cons flt_str (fltA_cons (flt_str hh) ib))
    | grow n => exact flt_tup (fltA_cons flt_str (fltA_cons flt_int ib))
    | pick => exact flt_tup (fltA_cons flt_str (fltA_cons ((flt_tup ia).mono (by omega)) fltA_nil))
    | tuple => exact flt_tup (fltA_cons flt_str (fltA_cons ((flt_tup ia).mono (by omega)) fltA_nil))
    | weigh ws =>
      refine flt_tup (fltA_cons flt_str (fltA_cons ((flt_tup (m := 3 * d + m + 3) (fltA_all fun x hx => ?_)).mono (by omega)) fltA_nil))
      obtain ⟨w, hw, e, he, rfl⟩ := mem_zipWith hx
      obtain ⟨v, hv, rfl⟩ := List.mem_map.mp he
      exact flt_tup (fltA_cons flt_int (fltA_cons (ih v hv) fltA_nil))
theorem nm_ok {x : Str} (h : isNm x) : (PyData.str x).canLay0 = true := by
  rcases h with rfl | rfl | rfl <;> decide +kernel
theorem Tg.tz {ns : List Str} {i : Bool} {d : Nat} {t : Tm} (h : Tg ns i d t) (hn : ∀ x ∈ ns, isNm x) : Tz 5 (d + 1) t := by
  induction h with
  | var ns i d x h => exact .mk _ _ _ (nm_ok (hn x h)) (fun _ h => (List.not_mem_nil h).elim)
  | upto ns i d x h => exact .mk _ _ _ (nm_ok (hn x h)) (fun _ h => (List.not_mem_nil h).elim)
  | shuffle ns i d vs h1 h2 =>
    refine .mk _ _ _ (Flt.mono (m := 2) (flt_tup (fltA_all fun x hx => ?_)) (by omega)) (fun _ h => (List.not_mem_nil h).elim)
    obtain ⟨v, hv, rfl⟩ := List.mem_map.mp hx
    exact flt_int
  | const ns i d v h => exact .mk _ _ _ (h.sm.flt.mono (by omega)) (fun _ h => (List.not_mem_nil h).elim)
  | map ns i d p t h1 h2 ih => exact .mk _ _ _ (h1.sm.flt.mono (by omega)) (fun _ h => List.mem_singleton.mp h ▸ ih hn)
  | keep ns i d e t n h1 h2 h3 h4 ih => exact .mk _ _ _ (h1.sm.flt.mono (by omega)) (fun _ h => List.mem_singleton.mp h ▸ ih hn)
  | list ns i d t a b h1 h2 h3 h4 h5 ih => exact .mk _ _ _ trivial (fun _ h => List.mem_singleton.mp h ▸ ih hn)
  | lett ns i d x a b h1 h2 h3 ia ib => exact .mk _ _ _ (nm_ok h1) (fun t h => by
    simp at h
    rcases h with rfl | rfl
    · exact ia hn
    · exact ib fun z hz => by
        rcases List.mem_append.mp hz with h | h
        · exact hn z h
        · exact List.mem_singleton.mp h ▸ h1)
  | grow ns i d a b n h1 h2 h3 h4 ia ib => exact .mk _ _ _ trivial (fun t h => by
    simp at h
    rcases h with rfl | rfl
    · exact ia hn
    · exact ib hn)
  | pick ns i d l h1 h2 h3 ih => exact .mk _ _ _ trivial fun t ht => ih t ht hn
  | weigh ns i d l ws h0 h1 h2 h4 h3 ih => exact .mk _ _ _ trivial fun t ht => ih t ht hn
  | tuple ns i d l h2 h3 ih => exact .mk _ _ _ trivial fun t ht => ih t ht hn
  | _ => exact .mk _ _ _ trivial (fun _ h => (List.not_mem_nil h).elim)
theorem constFor_tz {m : Nat} {b : Bool} {v : PyData} (hv : Flt m v) (hm : 1 ≤ m) : Tz m 1 (constFor b v) := by
  unfold constFor
  split
  · exact .mk _ _ _ hv (fun _ h => (List.not_mem_nil h).elim)
  · split
    · split
      · exact .mk _ _ _ trivial (fun _ h => (List.not_mem_nil h).elim)
      · exact .mk _ _ _ (flt_int.mono hm) (fun _ h => (List.not_mem_nil h).elim)
    · exact .mk _ _ _ (flt_int.mono hm) (fun _ h => (List.not_mem_nil h).elim)
theorem sub_tz {m d : Nat} {t : Tm} {x : Str} {v : PyData} (h : Tz m d t) (w : ∃ d, Wf d t) (hv : Flt m v) (hm : 1 ≤ m) : Tz m d (sub x v t) := by
  induction h with
  | mk d h l hh hc ih =>
    obtain ⟨d', w⟩ := w
    cases w with
    | mk d' _ _ ha hl hw =>
    by_cases h1 : hdS h = q_var
    · obtain ⟨n, rfl⟩ := hd_var h1
      rw [sub]
      split
      · exact (constFor_tz hv hm).mono (by omega)
      · exact .mk _ _ _ hh hc
    · by_cases h2 : hdS h = q_upto
      · obtain ⟨n, rfl⟩ := hd_upto h2
        rw [sub]
        split
        · exact (constFor_tz hv hm).mono (by omega)
        · exact .mk _ _ _ hh hc
      · by_cases h3 : hdS h = q_let
        · obtain ⟨n, rfl⟩ := hd_let h3
          obtain ⟨a, b, rfl⟩ := len2 ha
          have ia := ih a (by simp) ⟨d', hw a (by simp)⟩
          have ib := ih b (by simp) ⟨d', hw b (by simp)⟩
          rw [sub]
          split
          · exact .mk _ _ _ hh fun t ht => by
              simp at ht
              rcases ht with rfl | rfl
              · exact ia
              · exact hc _ (by simp)
          · exact .mk _ _ _ hh fun t ht => by
              simp at ht
              rcases ht with rfl | rfl
              · exact ia
              · exact ib
        · rw [sub_other h1 h2 h3]
          exact .mk _ _ _ hh fun t ht => by
            obtain ⟨t', ht', rfl⟩ := List.mem_map.mp ht
            exact ih t' ht' ⟨d', hw t' ht'⟩
theorem rep_tz {m d e : Nat} {t o : Tm} (h : Tz m d t) (w : ∃ d, Wf d t) (ho : Tz m e o) : Tz m (d + e) (rep o t) := by
  induction h with
  | mk d h l hh hc ih =>
    obtain ⟨d', w⟩ := w
    cases w with
    | mk d' _ _ ha hl hw =>
    by_cases h1 : hdS h = q_self
    · obtain rfl := hd_self h1
      rw [rep]
      exact ho.mono (by omega)
    · rw [show d + 1 + e = d + e + 1 by omega]
      by_cases h2 : hdS h = q_grow
      · obtain ⟨n, rfl⟩ := hd_grow h2
        obtain ⟨a, b, rfl⟩ := len2 ha
        rw [rep_grow]
        exact .mk _ _ _ hh fun t ht => by
          simp at ht
          rcases ht with rfl | rfl
          · exact ih a (by simp) ⟨d', hw a (by simp)⟩
          · exact (hc _ (by simp)).mono (by omega)
      · rw [rep_other h1 h2]
        exact .mk _ _ _ hh fun t ht => by
          obtain ⟨t', ht', rfl⟩ := List.mem_map.mp ht
          exact ih t' ht' ⟨d', hw t' ht'⟩
end Dl
/-! The data layer: what the laws' own put and free tell (plain Lean). -/
namespace Dl
open PySem
theorem in_lkm {y : Str} {s : Sto} : hIn (.p (.str y)) (.p (.tuple [.str q_list, .str q_keep, .str q_map])) s = .ok (DB (decide (y = q_list ∨ y = q_keep ∨ y = q_map))) s := by
  have := in_names (y := y) (ns := [q_list, q_keep, q_map]) (s := s)
  simpa using this
def PutOk (f : Nat → Cf) : Prop := ∀ d t, Wf d t → ∀ k x v s, x ≠ q_self → Vl 8 v → d + 1 ≤ k → f k [.p t.enc, .p (.str x), .p v] s = .ok (.p (sub x v t).enc) s
theorem eLc_tms {vs : List Nat} {fi : IV} {g : GV} {f : EV} {e : En} {s : Sto} {l : List Tm} {G : Tm → Tm} (hi : fi e s = .ok (itS ((l.map Tm.enc).map D.p)) s) (hz : l.length ≤ 64) (hs : ∀ t ∈ l, ((g (.p t.enc) (wipeE e vs) s).bind fun e1 s => f e1 s) = .ok (.p (G t).enc) s) : eLc false vs fi g tYes f e s = .ok (.p (.list ((l.map G).map Tm.enc))) s :=
  eLc_map hi (by simp) (by simp; omega) fun i h1 h2 => by
    have h3 : i < l.length := by simpa using h1
    have := hs l[i] (List.getElem_mem h3)
    simpa using this
theorem eLc_prs {vs : List Nat} {fi : IV} {g : GV} {f : EV} {e : En} {s : Sto} {l : List Tm} {ws : List Int} {G : Tm → Tm} (hw : l.length = ws.length) (hi : fi e s = .ok (itS ((List.zipWith wp2 ws (l.map Tm.enc)).map D.p)) s) (hz : l.length ≤ 64) (hs : ∀ t ∈ l, ∀ w : Int, ((g (.p (.tuple [.int w, t.enc])) (wipeE e vs) s).bind fun e1 s => f e1 s) = .ok (.p (.tuple [.int w, (G t).enc])) s) : eLc false vs fi g tYes f e s = .ok (.p (.list (List.zipWith wp2 ws ((l.map G).map Tm.enc)))) s :=
  eLc_map hi (by simp) (by simp; omega) fun i h1 h2 => by
    have h3 : i < l.length := by simp at h1; omega
    have h4 : i < ws.length := by omega
    have := hs l[i] (List.getElem_mem h3) ws[i]
    simpa [wp2] using this
theorem put_ok {f : Nat → Cf} (h : ∀ k ds s, f (k + 1) ds s = runB 6 (tm_law_put (f k)) ds s) : PutOk f := by
  intro d
  induction d with
  | zero => intro t ht; cases ht
  | succ d ih =>
    intro t ht k x v s hx hv hk
    obtain ⟨k, rfl⟩ : ∃ n, k = n + 1 := ⟨k - 1, by omega⟩
    cases ht with
    | mk d hh l ha hl hch =>
      have ih := fun t ht s => ih t ht k x v s hx hv (by omega)
      have hx' := hx
      unfold q_self at hx'
      rw [h, runB_eq]
      generalize f k = F at *
      unfold tm_law_put
      have lkm := fun y => in_lkm (y := y) (s := s)
      unfold q_list q_keep q_map at lkm
      have sz : sizeLine = 16777216 := PySem.sizeLine_eq
      cases hh with
      | self =>
        have l0 := len0 ha; subst l0
        rw [sub_other (by decide +kernel) (by decide +kernel) (by decide +kernel)]
        rw [List.map_nil, enc_self]
        simp [q_self, q_discard, q_var, q_upto, q_range, q_shuffle, q_const, q_map, q_keep, q_list, q_let, q_grow, q_pick, q_weigh, q_tuple, hx', lkm, sz]
      | discard =>
        have l0 := len0 ha; subst l0
        rw [sub_other (by decide +kernel) (by decide +kernel) (by decide +kernel)]
        rw [List.map_nil, enc_discard]
        simp [q_self, q_discard, q_var, q_upto, q_range, q_shuffle, q_const, q_map, q_keep, q_list, q_let, q_grow, q_pick, q_weigh, q_tuple, hx', lkm, sz]
      | range a b =>
        have l0 := len0 ha; subst l0
        rw [sub_other (by simp [hdS, q_self, q_discard, q_var, q_upto, q_range, q_shuffle, q_const, q_map, q_keep, q_list, q_let, q_grow, q_pick, q_weigh, q_tuple]) (by simp [hdS, q_self, q_discard, q_var, q_upto, q_range, q_shuffle, q_const, q_map, q_keep, q_list, q_let, q_grow, q_pick, q_weigh, q_tuple]) (by simp [hdS, q_self, q_discard, q_var, q_upto, q_range, q_shuffle, q_const, q_map, q_keep, q_list, q_let, q_grow, q_pick, q_weigh, q_tuple])]
        rw [List.map_nil, enc_range]
        simp [q_self, q_discard, q_var, q_upto, q_range, q_shuffle, q_const, q_map, q_keep, q_list, q_let, q_grow, q_pick, q_weigh, q_tuple, hx', lkm, sz]
      | shuffle a =>
        have l0 := len0 ha; subst l0
        rw [sub_other (by simp [hdS, q_self, q_discard, q_var, q_upto, q_range, q_shuffle, q_const, q_map, q_keep, q_list, q_let, q_grow, q_pick, q_weigh, q_tuple]) (by simp [hdS, q_self, q_discard, q_var, q_upto, q_range, q_shuffle, q_const, q_map, q_keep, q_list, q_let, q_grow, q_pick, q_weigh, q_tuple]) (by simp [hdS, q_self, q_discard, q_var, q_upto, q_range, q_shuffle, q_const, q_map, q_keep, q_list, q_let, q_grow, q_pick, q_weigh, q_tuple])]
        rw [List.map_nil, enc_shuffle]
        simp [q_self, q_discard, q_var, q_upto, q_range, q_shuffle, q_const, q_map, q_keep, q_list, q_let, q_grow, q_pick, q_weigh, q_tuple, hx', lkm, sz]
      | const a =>
        have l0 := len0 ha; subst l0
        rw [sub_other (by simp [hdS, q_self, q_discard, q_var, q_upto, q_range, q_shuffle, q_const, q_map, q_keep, q_list, q_let, q_grow, q_pick, q_weigh, q_tuple]) (by simp [hdS, q_self, q_discard, q_var, q_upto, q_range, q_shuffle, q_const, q_map, q_keep, q_list, q_let, q_grow, q_pick, q_weigh, q_tuple]) (by simp [hdS, q_self, q_discard, q_var, q_upto, q_range, q_shuffle, q_const, q_map, q_keep, q_list, q_let, q_grow, q_pick, q_weigh, q_tuple])]
        rw [List.map_nil, enc_const]
        simp [q_self, q_discard, q_var, q_upto, q_range, q_shuffle, q_const, q_map, q_keep, q_list, q_let, q_grow, q_pick, q_weigh, q_tuple, hx', lkm, sz]
      | var n =>
        have l0 := len0 ha; subst l0
        rw [sub, enc_var]
        by_cases e : n = x
        · simp [q_self, q_discard, q_var, q_upto, q_range, q_shuffle, q_const, q_map, q_keep, q_list, q_let, q_grow, q_pick, q_weigh, q_tuple, hx', e, constFor, enc_const, sz]
        · simp [q_self, q_discard, q_var, q_upto, q_range, q_shuffle, q_const, q_map, q_keep, q_list, q_let, q_grow, q_pick, q_weigh, q_tuple, hx', e, enc_var, lkm, sz]
      | upto n =>
        have l0 := len0 ha; subst l0
        rw [sub, enc_upto]
        by_cases e : n = x
        · cases hv with
          | int d i =>
            by_cases h0 : 0 ≤ i
            · by_cases h1 : i < 64
              · have h2 : i ≤ 63 := by omega
                simp [q_self, q_discard, q_var, q_upto, q_range, q_shuffle, q_const, q_map, q_keep, q_list, q_let, q_grow, q_pick, q_weigh, q_tuple, hx', e, constFor, enc_range, sz, h0, h1, h2]
              · have h2 : ¬ i ≤ 63 := by omega
                simp [q_self, q_discard, q_var, q_upto, q_range, q_shuffle, q_const, q_map, q_keep, q_list, q_let, q_grow, q_pick, q_weigh, q_tuple, hx', e, constFor, enc_const, sz, h0, h1, h2]
            · simp [q_self, q_discard, q_var, q_upto, q_range, q_shuffle, q_const, q_map, q_keep, q_list, q_let, q_grow, q_pick, q_weigh, q_tuple, hx', e, constFor, enc_const, sz, h0]
          | tup d xs => simp [q_self, q_discard, q_var, q_upto, q_range, q_shuffle, q_const, q_map, q_keep, q_list, q_let, q_grow, q_pick, q_weigh, q_tuple, hx', e, constFor, enc_const, sz]
        · simp [q_self, q_discard, q_var, q_upto, q_range, q_shuffle, q_const, q_map, q_keep, q_list, q_let, q_grow, q_pick, q_weigh, q_tuple, hx', e, enc_upto, lkm, sz]
      | map p =>
        obtain ⟨a, rfl⟩ := len1 ha
        have ia := ih a (hch a (by simp)) s
        have il := hIx_tlast (xs := [.str q_map, p, a.enc]) (x := a.enc) (s := s) rfl
        unfold q_map at il
        rw [sub_other (by simp [hdS, q_self, q_discard, q_var, q_upto, q_range, q_shuffle, q_const, q_map, q_keep, q_list, q_let, q_grow, q_pick, q_weigh, q_tuple]) (by simp [hdS, q_self, q_discard, q_var, q_upto, q_range, q_shuffle, q_const, q_map, q_keep, q_list, q_let, q_grow, q_pick, q_weigh, q_tuple]) (by simp [hdS, q_self, q_discard, q_var, q_upto, q_range, q_shuffle, q_const, q_map, q_keep, q_list, q_let, q_grow, q_pick, q_weigh, q_tuple])]
        rw [show [a].map (sub x v) = [sub x v a] from rfl, enc_map, enc_map]
        simp [q_self, q_discard, q_var, q_upto, q_range, q_shuffle, q_const, q_map, q_keep, q_list, q_let, q_grow, q_pick, q_weigh, q_tuple, hx', lkm, il, ia, sz]
      | keep p n =>
        obtain ⟨a, rfl⟩ := len1 ha
        have ia := ih a (hch a (by simp)) s
        have il := hIx_tlast (xs := [.str q_keep, p, .int n, a.enc]) (x := a.enc) (s := s) rfl
        unfold q_keep at il
        rw [sub_other (by simp [hdS, q_self, q_discard, q_var, q_upto, q_range, q_shuffle, q_const, q_map, q_keep, q_list, q_let, q_grow, q_pick, q_weigh, q_tuple]) (by simp [hdS, q_self, q_discard, q_var, q_upto, q_range, q_shuffle, q_const, q_map, q_keep, q_list, q_let, q_grow, q_pick, q_weigh, q_tuple]) (by simp [hdS, q_self, q_discard, q_var, q_upto, q_range, q_shuffle, q_const, q_map, q_keep, q_list, q_let, q_grow, q_pick, q_weigh, q_tuple])]
        rw [show [a].map (sub x v) = [sub x v a] from rfl, enc_keep, enc_keep]
        simp [q_self, q_discard, q_var, q_upto, q_range, q_shuffle, q_const, q_map, q_keep, q_list, q_let, q_grow, q_pick, q_weigh, q_tuple, hx', lkm, il, ia, sz]
      | list p n =>
        obtain ⟨a, rfl⟩ := len1 ha
        have ia := ih a (hch a (by simp)) s
        have il := hIx_tlast (xs := [.str q_list, .int p, .int n, a.enc]) (x := a.enc) (s := s) rfl
        unfold q_list at il
        rw [sub_other (by simp [hdS, q_self, q_discard, q_var, q_upto, q_range, q_shuffle, q_const, q_map, q_keep, q_list, q_let, q_grow, q_pick, q_weigh, q_tuple]) (by simp [hdS, q_self, q_discard, q_var, q_upto, q_range, q_shuffle, q_const, q_map, q_keep, q_list, q_let, q_grow, q_pick, q_weigh, q_tuple]) (by simp [hdS, q_self, q_discard, q_var, q_upto, q_range, q_shuffle, q_const, q_map, q_keep, q_list, q_let, q_grow, q_pick, q_weigh, q_tuple])]
        rw [show [a].map (sub x v) = [sub x v a] from rfl, enc_list, enc_list]
        simp [q_self, q_discard, q_var, q_upto, q_range, q_shuffle, q_const, q_map, q_keep, q_list, q_let, q_grow, q_pick, q_weigh, q_tuple, hx', lkm, il, ia, sz]
      | lett y =>
        obtain ⟨a, b, rfl⟩ := len2 ha
        have ia := ih a (hch a (by simp)) s
        have ib := ih b (hch b (by simp)) s
        rw [sub, enc_let]
        by_cases e : y = x
        · simp [q_self, q_discard, q_var, q_upto, q_range, q_shuffle, q_const, q_map, q_keep, q_list, q_let, q_grow, q_pick, q_weigh, q_tuple, hx', e, enc_let, lkm, ia, sz]
        · simp [q_self, q_discard, q_var, q_upto, q_range, q_shuffle, q_const, q_map, q_keep, q_list, q_let, q_grow, q_pick, q_weigh, q_tuple, hx', e, enc_let, lkm, ia, ib, sz]
      | grow n =>
        obtain ⟨a, b, rfl⟩ := len2 ha
        have ia := ih a (hch a (by simp)) s
        have ib := ih b (hch b (by simp)) s
        rw [sub_other (by simp [hdS, q_self, q_discard, q_var, q_upto, q_range, q_shuffle, q_const, q_map, q_keep, q_list, q_let, q_grow, q_pick, q_weigh, q_tuple]) (by simp [hdS, q_self, q_discard, q_var, q_upto, q_range, q_shuffle, q_const, q_map, q_keep, q_list, q_let, q_grow, q_pick, q_weigh, q_tuple]) (by simp [hdS, q_self, q_discard, q_var, q_upto, q_range, q_shuffle, q_const, q_map, q_keep, q_list, q_let, q_grow, q_pick, q_weigh, q_tuple])]
        rw [show [a, b].map (sub x v) = [sub x v a, sub x v b] from rfl, enc_grow, enc_grow]
        simp [q_self, q_discard, q_var, q_upto, q_range, q_shuffle, q_const, q_map, q_keep, q_list, q_let, q_grow, q_pick, q_weigh, q_tuple, hx', lkm, ia, ib, sz]
      | pick =>
        rw [sub_other (by simp [hdS, q_self, q_discard, q_var, q_upto, q_range, q_shuffle, q_const, q_map, q_keep, q_list, q_let, q_grow, q_pick, q_weigh, q_tuple]) (by simp [hdS, q_self, q_discard, q_var, q_upto, q_range, q_shuffle, q_const, q_map, q_keep, q_list, q_let, q_grow, q_pick, q_weigh, q_tuple]) (by simp [hdS, q_self, q_discard, q_var, q_upto, q_range, q_shuffle, q_const, q_map, q_keep, q_list, q_let, q_grow, q_pick, q_weigh, q_tuple]), enc_pick, enc_pick]
        have q := eLc_tms (vs := [5]) (fi := iSeq (eOp hIx (eVar 0) (eC (.int 1)))) (g := gSet 5) (f := eCall F [] (aCons (eVar 5) (aCons (eVar 1) (aCons (eVar 2) aNil)))) (e := [some (.p (.tuple [.str q_pick, .tuple (l.map Tm.enc)])), some (.p (.str x)), some (.p v), some (.p (.str q_pick)), none, none]) (s := s) (l := l) (G := sub x v) (by simp) hl (fun t ht => by
          have := ih t (hch t ht) s
          rw [show wipeE [some (.p (.tuple [.str q_pick, .tuple (l.map Tm.enc)])), some (.p (.str x)), some (.p v), some (.p (.str q_pick)), none, none] [5] = [some (.p (.tuple [.str q_pick, .tuple (l.map Tm.enc)])), some (.p (.str x)), some (.p v), some (.p (.str q_pick)), none, none] from rfl]
          simp [this])
        unfold q_pick at q
        simp only [List.map_map] at q
        simp [q_self, q_discard, q_var, q_upto, q_range, q_shuffle, q_const, q_map, q_keep, q_list, q_let, q_grow, q_pick, q_weigh, q_tuple, hx', lkm, q, sz]
      | tuple =>
        rw [sub_other (by simp [hdS, q_self, q_discard, q_var, q_upto, q_range, q_shuffle, q_const, q_map, q_keep, q_list, q_let, q_grow, q_pick, q_weigh, q_tuple]) (by simp [hdS, q_self, q_discard, q_var, q_upto, q_range, q_shuffle, q_const, q_map, q_keep, q_list, q_let, q_grow, q_pick, q_weigh, q_tuple]) (by simp [hdS, q_self, q_discard, q_var, q_upto, q_range, q_shuffle, q_const, q_map, q_keep, q_list, q_let, q_grow, q_pick, q_weigh, q_tuple]), enc_tuple, enc_tuple]
        have q := eLc_tms (vs := [5]) (fi := iSeq (eOp hIx (eVar 0) (eC (.int 1)))) (g := gSet 5) (f := eCall F [] (aCons (eVar 5) (aCons (eVar 1) (aCons (eVar 2) aNil)))) (e := [some (.p (.tuple [.str q_tuple, .tuple (l.map Tm.enc)])), some (.p (.str x)), some (.p v), some (.p (.str q_tuple)), none, none]) (s := s) (l := l) (G := sub x v) (by simp) hl (fun t ht => by
          have := ih t (hch t ht) s
          rw [show wipeE [some (.p (.tuple [.str q_tuple, .tuple (l.map Tm.enc)])), some (.p (.str x)), some (.p v), some (.p (.str q_tuple)), none, none] [5] = [some (.p (.tuple [.str q_tuple, .tuple (l.map Tm.enc)])), some (.p (.str x)), some (.p v), some (.p (.str q_tuple)), none, none] from rfl]
          simp [this])
        unfold q_tuple at q
        simp only [List.map_map] at q
        simp [q_self, q_discard, q_var, q_upto, q_range, q_shuffle, q_const, q_map, q_keep, q_list, q_let, q_grow, q_pick, q_weigh, q_tuple, hx', lkm, q, sz]
      | weigh ws =>
        rw [sub_other (by simp [hdS, q_self, q_discard, q_var, q_upto, q_range, q_shuffle, q_const, q_map, q_keep, q_list, q_let, q_grow, q_pick, q_weigh, q_tuple]) (by simp [hdS, q_self, q_discard, q_var, q_upto, q_range, q_shuffle, q_const, q_map, q_keep, q_list, q_let, q_grow, q_pick, q_weigh, q_tuple]) (by simp [hdS, q_self, q_discard, q_var, q_upto, q_range, q_shuffle, q_const, q_map, q_keep, q_list, q_let, q_grow, q_pick, q_weigh, q_tuple]), enc_weigh, enc_weigh]
        have q := eLc_prs (vs := [4]) (fi := iSeq (eOp hIx (eVar 0) (eC (.int 1)))) (g := gSet 4) (f := eTup (aCons (eOp hIx (eVar 4) (eC (.int 0))) (aCons (eCall F [] (aCons (eOp hIx (eVar 4) (eC (.int 1))) (aCons (eVar 1) (aCons (eVar 2) aNil)))) aNil))) (e := [some (.p (.tuple [.str q_weigh, .tuple (List.zipWith wp2 ws (l.map Tm.enc))])), some (.p (.str x)), some (.p v), some (.p (.str q_weigh)), none, none]) (s := s) (l := l) (ws := ws) (G := sub x v) ha (by simp) hl (fun t ht w => by
          have := ih t (hch t ht) s
          rw [show wipeE [some (.p (.tuple [.str q_weigh, .tuple (List.zipWith wp2 ws (l.map Tm.enc))])), some (.p (.str x)), some (.p v), some (.p (.str q_weigh)), none, none] [4] = [some (.p (.tuple [.str q_weigh, .tuple (List.zipWith wp2 ws (l.map Tm.enc))])), some (.p (.str x)), some (.p v), some (.p (.str q_weigh)), none, none] from rfl]
          simp [this, sz])
        unfold q_weigh at q
        simp only [List.map_map] at q
        simp [q_self, q_discard, q_var, q_upto, q_range, q_shuffle, q_const, q_map, q_keep, q_list, q_let, q_grow, q_pick, q_weigh, q_tuple, hx', lkm, q, sz]
def PutSOk (f : Nat → Cf) : Prop := ∀ d t, Wf d t → ∀ k (o : Tm) s, d + 1 ≤ k → f k [.p t.enc, .p (.str q_self), .p o.enc] s = .ok (.p (rep o t).enc) s
theorem putS_ok {f : Nat → Cf} (h : ∀ k ds s, f (k + 1) ds s = runB 6 (tm_law_put (f k)) ds s) : PutSOk f := by
  intro d
  induction d with
  | zero => intro t ht; cases ht
  | succ d ih =>
    intro t ht k o s hk
    obtain ⟨k, rfl⟩ : ∃ n, k = n + 1 := ⟨k - 1, by omega⟩
    cases ht with
    | mk d hh l ha hl hch =>
      have ih := fun t ht s => ih t ht k o s (by omega)
      rw [h, runB_eq]
      generalize f k = F at *
      unfold tm_law_put
      have lkm := fun y => in_lkm (y := y) (s := s)
      unfold q_list q_keep q_map at lkm
      unfold q_self at ih
      have sz : sizeLine = 16777216 := PySem.sizeLine_eq
      cases hh with
      | self =>
        have l0 := len0 ha; subst l0
        rw [rep_self, enc_self]
        simp [q_self, q_discard, q_var, q_upto, q_range, q_shuffle, q_const, q_map, q_keep, q_list, q_let, q_grow, q_pick, q_weigh, q_tuple, lkm, sz]
      | discard =>
        have l0 := len0 ha; subst l0
        rw [rep_other (by decide +kernel) (by decide +kernel)]
        rw [List.map_nil, enc_discard]
        simp [q_self, q_discard, q_var, q_upto, q_range, q_shuffle, q_const, q_map, q_keep, q_list, q_let, q_grow, q_pick, q_weigh, q_tuple, lkm, sz]
      | range a b =>
        have l0 := len0 ha; subst l0
        rw [rep_other (by simp [hdS, q_self, q_discard, q_var, q_upto, q_range, q_shuffle, q_const, q_map, q_keep, q_list, q_let, q_grow, q_pick, q_weigh, q_tuple]) (by simp [hdS, q_self, q_discard, q_var, q_upto, q_range, q_shuffle, q_const, q_map, q_keep, q_list, q_let, q_grow, q_pick, q_weigh, q_tuple])]
        rw [List.map_nil, enc_range]
        simp [q_self, q_discard, q_var, q_upto, q_range, q_shuffle, q_const, q_map, q_keep, q_list, q_let, q_grow, q_pick, q_weigh, q_tuple, lkm, sz]
      | shuffle a =>
        have l0 := len0 ha; subst l0
        rw [rep_other (by simp [hdS, q_self, q_discard, q_var, q_upto, q_range, q_shuffle, q_const, q_map, q_keep, q_list, q_let, q_grow, q_pick, q_weigh, q_tuple]) (by simp [hdS, q_self, q_discard, q_var, q_upto, q_range, q_shuffle, q_const, q_map, q_keep, q_list, q_let, q_grow, q_pick, q_weigh, q_tuple])]
        rw [List.map_nil, enc_shuffle]
        simp [q_self, q_discard, q_var, q_upto, q_range, q_shuffle, q_const, q_map, q_keep, q_list, q_let, q_grow, q_pick, q_weigh, q_tuple, lkm, sz]
      | const a =>
        have l0 := len0 ha; subst l0
        rw [rep_other (by simp [hdS, q_self, q_discard, q_var, q_upto, q_range, q_shuffle, q_const, q_map, q_keep, q_list, q_let, q_grow, q_pick, q_weigh, q_tuple]) (by simp [hdS, q_self, q_discard, q_var, q_upto, q_range, q_shuffle, q_const, q_map, q_keep, q_list, q_let, q_grow, q_pick, q_weigh, q_tuple])]
        rw [List.map_nil, enc_const]
        simp [q_self, q_discard, q_var, q_upto, q_range, q_shuffle, q_const, q_map, q_keep, q_list, q_let, q_grow, q_pick, q_weigh, q_tuple, lkm, sz]
      | var n =>
        have l0 := len0 ha; subst l0
        rw [rep_other (by simp [hdS, q_self, q_discard, q_var, q_upto, q_range, q_shuffle, q_const, q_map, q_keep, q_list, q_let, q_grow, q_pick, q_weigh, q_tuple]) (by simp [hdS, q_self, q_discard, q_var, q_upto, q_range, q_shuffle, q_const, q_map, q_keep, q_list, q_let, q_grow, q_pick, q_weigh, q_tuple])]
        rw [List.map_nil, enc_var]
        simp [q_self, q_discard, q_var, q_upto, q_range, q_shuffle, q_const, q_map, q_keep, q_list, q_let, q_grow, q_pick, q_weigh, q_tuple, lkm, sz]
      | upto n =>
        have l0 := len0 ha; subst l0
        rw [rep_other (by simp [hdS, q_self, q_discard, q_var, q_upto, q_range, q_shuffle, q_const, q_map, q_keep, q_list, q_let, q_grow, q_pick, q_weigh, q_tuple]) (by simp [hdS, q_self, q_discard, q_var, q_upto, q_range, q_shuffle, q_const, q_map, q_keep, q_list, q_let, q_grow, q_pick, q_weigh, q_tuple])]
        rw [List.map_nil, enc_upto]
        simp [q_self, q_discard, q_var, q_upto, q_range, q_shuffle, q_const, q_map, q_keep, q_list, q_let, q_grow, q_pick, q_weigh, q_tuple, lkm, sz]
      | map p =>
        obtain ⟨a, rfl⟩ := len1 ha
        have ia := ih a (hch a (by simp)) s
        have il := hIx_tlast (xs := [.str q_map, p, a.enc]) (x := a.enc) (s := s) rfl
        unfold q_map at il
        rw [rep_other (by simp [hdS, q_self, q_discard, q_var, q_upto, q_range, q_shuffle, q_const, q_map, q_keep, q_list, q_let, q_grow, q_pick, q_weigh, q_tuple]) (by simp [hdS, q_self, q_discard, q_var, q_upto, q_range, q_shuffle, q_const, q_map, q_keep, q_list, q_let, q_grow, q_pick, q_weigh, q_tuple])]
        rw [show [a].map (rep o) = [rep o a] from rfl, enc_map, enc_map]
        simp [q_self, q_discard, q_var, q_upto, q_range, q_shuffle, q_const, q_map, q_keep, q_list, q_let, q_grow, q_pick, q_weigh, q_tuple, lkm, il, ia, sz]
      | keep p n =>
        obtain ⟨a, rfl⟩ := len1 ha
        have ia := ih a (hch a (by simp)) s
        have il := hIx_tlast (xs := [.str q_keep, p, .int n, a.enc]) (x := a.enc) (s := s) rfl
        unfold q_keep at il
        rw [rep_other (by simp [hdS, q_self, q_discard, q_var, q_upto, q_range, q_shuffle, q_const, q_map, q_keep, q_list, q_let, q_grow, q_pick, q_weigh, q_tuple]) (by simp [hdS, q_self, q_discard, q_var, q_upto, q_range, q_shuffle, q_const, q_map, q_keep, q_list, q_let, q_grow, q_pick, q_weigh, q_tuple])]
        rw [show [a].map (rep o) = [rep o a] from rfl, enc_keep, enc_keep]
        simp [q_self, q_discard, q_var, q_upto, q_range, q_shuffle, q_const, q_map, q_keep, q_list, q_let, q_grow, q_pick, q_weigh, q_tuple, lkm, il, ia, sz]
      | list p n =>
        obtain ⟨a, rfl⟩ := len1 ha
        have ia := ih a (hch a (by simp)) s
        have il := hIx_tlast (xs := [.str q_list, .int p, .int n, a.enc]) (x := a.enc) (s := s) rfl
        unfold q_list at il
        rw [rep_other (by simp [hdS, q_self, q_discard, q_var, q_upto, q_range, q_shuffle, q_const, q_map, q_keep, q_list, q_let, q_grow, q_pick, q_weigh, q_tuple]) (by simp [hdS, q_self, q_discard, q_var, q_upto, q_range, q_shuffle, q_const, q_map, q_keep, q_list, q_let, q_grow, q_pick, q_weigh, q_tuple])]
        rw [show [a].map (rep o) = [rep o a] from rfl, enc_list, enc_list]
        simp [q_self, q_discard, q_var, q_upto, q_range, q_shuffle, q_const, q_map, q_keep, q_list, q_let, q_grow, q_pick, q_weigh, q_tuple, lkm, il, ia, sz]
      | lett y =>
        obtain ⟨a, b, rfl⟩ := len2 ha
        have ia := ih a (hch a (by simp)) s
        have ib := ih b (hch b (by simp)) s
        rw [rep_other (by simp [hdS, q_self, q_discard, q_var, q_upto, q_range, q_shuffle, q_const, q_map, q_keep, q_list, q_let, q_grow, q_pick, q_weigh, q_tuple]) (by simp [hdS, q_self, q_discard, q_var, q_upto, q_range, q_shuffle, q_const, q_map, q_keep, q_list, q_let, q_grow, q_pick, q_weigh, q_tuple])]
        rw [show [a, b].map (rep o) = [rep o a, rep o b] from rfl, enc_let, enc_let]
        simp [q_self, q_discard, q_var, q_upto, q_range, q_shuffle, q_const, q_map, q_keep, q_list, q_let, q_grow, q_pick, q_weigh, q_tuple, lkm, ia, ib, sz]
      | grow n =>
        obtain ⟨a, b, rfl⟩ := len2 ha
        have ia := ih a (hch a (by simp)) s
        rw [rep_grow, enc_grow, enc_grow]
        simp [q_self, q_discard, q_var, q_upto, q_range, q_shuffle, q_const, q_map, q_keep, q_list, q_let, q_grow, q_pick, q_weigh, q_tuple, lkm, ia, sz]
      | pick =>
        rw [rep_other (by simp [hdS, q_self, q_discard, q_var, q_upto, q_range, q_shuffle, q_const, q_map, q_keep, q_list, q_let, q_grow, q_pick, q_weigh, q_tuple]) (by simp [hdS, q_self, q_discard, q_var, q_upto, q_range, q_shuffle, q_const, q_map, q_keep, q_list, q_let, q_grow, q_pick, q_weigh, q_tuple]), enc_pick, enc_pick]
        have q := eLc_tms (vs := [5]) (fi := iSeq (eOp hIx (eVar 0) (eC (.int 1)))) (g := gSet 5) (f := eCall F [] (aCons (eVar 5) (aCons (eVar 1) (aCons (eVar 2) aNil)))) (e := [some (.p (.tuple [.str q_pick, .tuple (l.map Tm.enc)])), some (.p (.str q_self)), some (.p o.enc), some (.p (.str q_pick)), none, none]) (s := s) (l := l) (G := rep o) (by simp) hl (fun t ht => by
          have := ih t (hch t ht) s
          rw [show wipeE [some (.p (.tuple [.str q_pick, .tuple (l.map Tm.enc)])), some (.p (.str q_self)), some (.p o.enc), some (.p (.str q_pick)), none, none] [5] = [some (.p (.tuple [.str q_pick, .tuple (l.map Tm.enc)])), some (.p (.str q_self)), some (.p o.enc), some (.p (.str q_pick)), none, none] from rfl]
          simp [q_self, this])
        unfold q_pick q_self at q
        simp only [List.map_map] at q
        simp [q_self, q_discard, q_var, q_upto, q_range, q_shuffle, q_const, q_map, q_keep, q_list, q_let, q_grow, q_pick, q_weigh, q_tuple, lkm, q, sz]
      | tuple =>
        rw [rep_other (by simp [hdS, q_self, q_discard, q_var, q_upto, q_range, q_shuffle, q_const, q_map, q_keep, q_list, q_let, q_grow, q_pick, q_weigh, q_tuple]) (by simp [hdS, q_self, q_discard, q_var, q_upto, q_range, q_shuffle, q_const, q_map, q_keep, q_list, q_let, q_grow, q_pick, q_weigh, q_tuple]), enc_tuple, enc_tuple]
        have q := eLc_tms (vs := [5]) (fi := iSeq (eOp hIx (eVar 0) (eC (.int 1)))) (g := gSet 5) (f := eCall F [] (aCons (eVar 5) (aCons (eVar 1) (aCons (eVar 2) aNil)))) (e := [some (.p (.tuple [.str q_tuple, .tuple (l.map Tm.enc)])), some (.p (.str q_self)), some (.p o.enc), some (.p (.str q_tuple)), none, none]) (s := s) (l := l) (G := rep o) (by simp) hl (fun t ht => by
          have := ih t (hch t ht) s
          rw [show wipeE [some (.p (.tuple [.str q_tuple, .tuple (l.map Tm.enc)])), some (.p (.str q_self)), some (.p o.enc), some (.p (.str q_tuple)), none, none] [5] = [some (.p (.tuple [.str q_tuple, .tuple (l.map Tm.enc)])), some (.p (.str q_self)), some (.p o.enc), some (.p (.str q_tuple)), none, none] from rfl]
          simp [q_self, this])
        unfold q_tuple q_self at q
        simp only [List.map_map] at q
        simp [q_self, q_discard, q_var, q_upto, q_range, q_shuffle, q_const, q_map, q_keep, q_list, q_let, q_grow, q_pick, q_weigh, q_tuple, lkm, q, sz]
      | weigh ws =>
        rw [rep_other (by simp [hdS, q_self, q_discard, q_var, q_upto, q_range, q_shuffle, q_const, q_map, q_keep, q_list, q_let, q_grow, q_pick, q_weigh, q_tuple]) (by simp [hdS, q_self, q_discard, q_var, q_upto, q_range, q_shuffle, q_const, q_map, q_keep, q_list, q_let, q_grow, q_pick, q_weigh, q_tuple]), enc_weigh, enc_weigh]
        have q := eLc_prs (vs := [4]) (fi := iSeq (eOp hIx (eVar 0) (eC (.int 1)))) (g := gSet 4) (f := eTup (aCons (eOp hIx (eVar 4) (eC (.int 0))) (aCons (eCall F [] (aCons (eOp hIx (eVar 4) (eC (.int 1))) (aCons (eVar 1) (aCons (eVar 2) aNil)))) aNil))) (e := [some (.p (.tuple [.str q_weigh, .tuple (List.zipWith wp2 ws (l.map Tm.enc))])), some (.p (.str q_self)), some (.p o.enc), some (.p (.str q_weigh)), none, none]) (s := s) (l := l) (ws := ws) (G := rep o) ha (by simp) hl (fun t ht w => by
          have := ih t (hch t ht) s
          rw [show wipeE [some (.p (.tuple [.str q_weigh, .tuple (List.zipWith wp2 ws (l.map Tm.enc))])), some (.p (.str q_self)), some (.p o.enc), some (.p (.str q_weigh)), none, none] [4] = [some (.p (.tuple [.str q_weigh, .tuple (List.zipWith wp2 ws (l.map Tm.enc))])), some (.p (.str q_self)), some (.p o.enc), some (.p (.str q_weigh)), none, none] from rfl]
          simp [q_self, this, sz])
        unfold q_weigh q_self at q
        simp only [List.map_map] at q
        simp [q_self, q_discard, q_var, q_upto, q_range, q_shuffle, q_const, q_map, q_keep, q_list, q_let, q_grow, q_pick, q_weigh, q_tuple, lkm, q, sz]
/-! ### free names -/
mutual
def nv : Tm → Nat
  | .node h l => match h with
    | .var _ => 1
    | .upto _ => 1
    | _ => nvL l
def nvL : List Tm → Nat
  | [] => 0
  | t :: l => nv t + nvL l
end
theorem nv_other {h : Hd} {l : List Tm} (h1 : hdS h ≠ q_var) (h2 : hdS h ≠ q_upto) : nv (.node h l) = nvL l := by
  cases h <;> first | (exact absurd rfl h1) | (exact absurd rfl h2) | (rw [nv] <;> (intros; contradiction))
theorem nvL_mem {t : Tm} : ∀ {l : List Tm}, t ∈ l → nv t ≤ nvL l
  | a :: l, h => by
    rw [nvL]
    rcases List.mem_cons.mp h with rfl | h
    · omega
    · have := nvL_mem h
      omega
theorem fvs_le : ∀ l : List Tm, (∀ t ∈ l, (fv t).length ≤ nv t) → (l.flatMap fv).length ≤ nvL l
  | [], _ => by simp
  | t :: l, h => by
    rw [nvL, List.flatMap_cons, List.length_append]
    have h1 := h t List.mem_cons_self
    have h2 := fvs_le l fun t ht => h t (List.mem_cons_of_mem _ ht)
    omega
theorem fv_le {d : Nat} {t : Tm} (h : Wf d t) : (fv t).length ≤ nv t := by
  induction h with
  | mk d h l ha hl hc ih =>
    by_cases h1 : hdS h = q_var
    · obtain ⟨n, rfl⟩ := hd_var h1
      have l0 := len0 ha; subst l0
      rw [fv_var, nv]
      simp
    · by_cases h2 : hdS h = q_upto
      · obtain ⟨n, rfl⟩ := hd_upto h2
        have l0 := len0 ha; subst l0
        rw [fv_upto, nv]
        simp
      · rw [nv_other h1 h2]
        by_cases h3 : hdS h = q_let
        · obtain ⟨n, rfl⟩ := hd_let h3
          obtain ⟨a, b, rfl⟩ := len2 ha
          rw [fv_let, List.length_append, nvL, nvL, nvL]
          have i1 := ih a (by simp)
          have i2 := ih b (by simp)
          have := List.length_filter_le (fun z => decide (z ≠ n)) (fv b)
          omega
        · rw [fv_other h1 h2 h3]
          exact fvs_le l ih
def strD (l : List Str) : List D := l.map fun z => D.p (.str z)
theorem free_tail {F : Cf} {t hd pp : Option D} {l : List Tm} {s : Sto} {Q : RS → Prop} (ih : ∀ t ∈ l, ∀ s, F [.p t.enc] s = .ok (.p (.list ((fv t).map PyData.str))) s) (hz : (l.flatMap fv).length ≤ 1000000) (hQ : Q (.rt (.ref s.length) (s ++ [.lst (strD (l.flatMap fv))]))) :
    Q ((forL (gSet 4) (sExpr (eMeL hExtend (eVar 3) (aCons (eCall F [] (aCons (eVar 4) aNil)) aNil))) (l.map fun t => D.p t.enc) [t, hd, pp, some (.ref s.length), none, none, none] (s ++ [.lst []])).seq (sRet (eVar 3))) := by
  refine atPS (fun i e s' => (∃ z, e = [t, hd, pp, some (.ref s.length), z, none, none]) ∧ s' = s ++ [.lst (strD ((l.take i).flatMap fv))]) ⟨⟨none, rfl⟩, by simp [strD]⟩ ?_ ?_
  · rintro e s' ⟨⟨z, rfl⟩, rfl⟩
    simp
    exact hQ
  · rintro i hi e s' ⟨⟨z, rfl⟩, rfl⟩
    have h3 : i < l.length := by simpa using hi
    have hf := ih l[i] (List.getElem_mem h3)
    have tk : l.take (i + 1) = l.take i ++ [l[i]] := by rw [List.take_succ, List.getElem?_eq_getElem h3]; rfl
    have hl : ((l.take i).flatMap fv).length + (fv l[i]).length ≤ 1000000 := by
      have : (l.take (i + 1)).flatMap fv ++ (l.drop (i + 1)).flatMap fv = l.flatMap fv := by rw [← List.flatMap_append, List.take_append_drop]
      rw [← this, tk] at hz
      simp only [List.flatMap_append, List.flatMap_cons, List.flatMap_nil, List.append_nil, List.length_append] at hz
      omega
    have ex : hExtend (.ref s.length) [.p (.list ((fv l[i]).map PyData.str))] (s ++ [.lst (strD ((l.take i).flatMap fv))]) = .ok (.p .none) (s ++ [.lst (strD ((l.take (i + 1)).flatMap fv))]) := by
      unfold hExtend
      rw [tk]
      simp only [lstAt_app0, asM_list]
      rw [if_pos (by simp only [strD, List.length_map]; rw [PySem.sizeLine_eq]; omega), set_app0]
      simp only [strD, List.flatMap_append, List.flatMap_cons, List.flatMap_nil, List.append_nil, List.map_append, List.map_map]
      rfl
    simp [hf, asL_ref, ex]
def notS (y : Str) : PyData → Bool
  | .str z => decide (z ≠ y)
  | _ => false
theorem notS_map {y : Str} {ls : List Str} : (ls.map PyData.str).filter (notS y) = (ls.filter fun z => decide (z ≠ y)).map PyData.str := by
  rw [List.filter_map]
  rfl
def FreeOk (f : Nat → Cf) : Prop := ∀ d t, Wf d t → nv t ≤ 1000000 → ∀ k s, d + 1 ≤ k → f k [.p t.enc] s = .ok (.p (.list ((fv t).map PyData.str))) s
theorem free_ok {f : Nat → Cf} (h : ∀ k ds s, f (k + 1) ds s = leave s (runB 7 (tm_law_free (f k)) ds s)) : FreeOk f := by
  intro d
  induction d with
  | zero => intro t ht; cases ht
  | succ d ih =>
    intro t ht hn k s hk
    obtain ⟨k, rfl⟩ : ∃ n, k = n + 1 := ⟨k - 1, by omega⟩
    have hfl := fv_le ht
    cases ht with
    | mk d hh l ha hl hch =>
      have ih := fun t ht hn s => ih t ht hn k s (by omega)
      have lkm := fun s y => in_lkm (y := y) (s := s)
      unfold q_list q_keep q_map at lkm
      have sz : sizeLine = 16777216 := PySem.sizeLine_eq
      rw [h]
      generalize f k = F at *
      refine runB_P (P := fun r => leave s r = .ok (.p (.list ((fv (.node hh l)).map PyData.str))) s) fun Q hQ => ?_
      have hQ1 : Q (.rt (.p (.list ((fv (.node hh l)).map PyData.str))) s) := hQ _ leave_p0
      have hQ2 : Q (.rt (.ref s.length) (s ++ [.lst (strD (fv (.node hh l)))])) := hQ _ (leave_ref (k := 0) (xs := (fv (.node hh l)).map PyData.str) (by simp [lstAt, strD]))
      unfold tm_law_free
      by_cases h1 : hdS hh = q_var
      · obtain ⟨n, rfl⟩ := hd_var h1
        have l0 := len0 ha; subst l0
        rw [fv_var] at hQ1
        rw [enc_var]
        simp [q_self, q_discard, q_var, q_upto, q_range, q_shuffle, q_const, q_map, q_keep, q_list, q_let, q_grow, q_pick, q_weigh, q_tuple, lkm, sz]
        exact hQ1
      · by_cases h2 : hdS hh = q_upto
        · obtain ⟨n, rfl⟩ := hd_upto h2
          have l0 := len0 ha; subst l0
          rw [fv_upto] at hQ1
          rw [enc_upto]
          simp [q_self, q_discard, q_var, q_upto, q_range, q_shuffle, q_const, q_map, q_keep, q_list, q_let, q_grow, q_pick, q_weigh, q_tuple, lkm, sz]
          exact hQ1
        · rw [nv_other h1 h2] at hn
          have ih := fun t ht => ih t (hch t ht) (Nat.le_trans (nvL_mem ht) hn)
          by_cases h3 : hdS hh = q_let
          · obtain ⟨y, rfl⟩ := hd_let h3
            obtain ⟨a, b, rfl⟩ := len2 ha
            have ia := ih a (by simp) s
            have ib := ih b (by simp) s
            rw [fv_let] at hQ1
            rw [nvL, nvL, nvL] at hn
            have la := fv_le (hch a (by simp))
            have lb := fv_le (hch b (by simp))
            have lf := List.length_filter_le (fun z => decide (z ≠ y)) (fv b)
            have q := eLc_filter (vs := [5]) (fi := iSeq (eCall F [] (aCons (eOp hIx (eVar 0) (eC (.int 3))) aNil))) (g := gSet 5) (p := tB (eOp hNe (eVar 5) (eOp hIx (eVar 0) (eC (.int 1))))) (f := eVar 5) (e := [some (.p (.tuple [.str q_let, .str y, a.enc, b.enc])), some (.p (.str q_let)), none, none, none, none, none]) (s := s) (xs := (fv b).map PyData.str) (notS y) (by simp [ib]) (by simp; omega) (fun x hx => by
              obtain ⟨z, hz, rfl⟩ := List.mem_map.mp hx
              rw [show wipeE [some (.p (.tuple [.str q_let, .str y, a.enc, b.enc])), some (.p (.str q_let)), none, none, none, none, none] [5] = [some (.p (.tuple [.str q_let, .str y, a.enc, b.enc])), some (.p (.str q_let)), none, none, none, none, none] from rfl]
              by_cases e : z = y
              · simp [notS, e]
              · simp [notS, e])
            rw [notS_map] at q
            unfold q_let at q
            have le : (fv a).length + ((fv b).filter fun z => decide (z ≠ y)).length ≤ 16777216 := by omega
            generalize ((fv b).filter fun z => decide (z ≠ y)) = G at *
            rw [enc_let]
            simp [q_self, q_discard, q_var, q_upto, q_range, q_shuffle, q_const, q_map, q_keep, q_list, q_let, q_grow, q_pick, q_weigh, q_tuple, lkm, sz, ia, q, le]
            rw [List.map_append] at hQ1
            exact hQ1
          · rw [fv_other h1 h2 h3] at hQ1 hQ2 hfl
            have hfl : (l.flatMap fv).length ≤ 1000000 := by rw [nv_other h1 h2] at hfl; omega
            have T := fun (t hd pp : Option D) => free_tail (t := t) (hd := hd) (pp := pp) (F := F) (l := l) (s := s) (Q := Q) ih hfl hQ2
            cases hh with
            | var n => exact absurd rfl h1
            | upto n => exact absurd rfl h2
            | lett n => exact absurd rfl h3
            | grow n =>
              obtain ⟨a, b, rfl⟩ := len2 ha
              rw [enc_grow]
              simp [q_self, q_discard, q_var, q_upto, q_range, q_shuffle, q_const, q_map, q_keep, q_list, q_let, q_grow, q_pick, q_weigh, q_tuple, lkm, sz, foGo_S]
              exact T _ _ _
            | map n =>
              obtain ⟨a, rfl⟩ := len1 ha
              have il := hIx_tlast (xs := [.str q_map, n, a.enc]) (x := a.enc) (s := s) rfl
              unfold q_map at il
              rw [enc_map]
              simp [q_self, q_discard, q_var, q_upto, q_range, q_shuffle, q_const, q_map, q_keep, q_list, q_let, q_grow, q_pick, q_weigh, q_tuple, lkm, sz, il, foGo_S]
              exact T _ _ _
            | keep p n =>
              obtain ⟨a, rfl⟩ := len1 ha
              have il := hIx_tlast (xs := [.str q_keep, p, .int n, a.enc]) (x := a.enc) (s := s) rfl
              unfold q_keep at il
              rw [enc_keep]
              simp [q_self, q_discard, q_var, q_upto, q_range, q_shuffle, q_const, q_map, q_keep, q_list, q_let, q_grow, q_pick, q_weigh, q_tuple, lkm, sz, il, foGo_S]
              exact T _ _ _
            | list p n =>
              obtain ⟨a, rfl⟩ := len1 ha
              have il := hIx_tlast (xs := [.str q_list, .int p, .int n, a.enc]) (x := a.enc) (s := s) rfl
              unfold q_list at il
              rw [enc_list]
              simp [q_self, q_discard, q_var, q_upto, q_range, q_shuffle, q_const, q_map, q_keep, q_list, q_let, q_grow, q_pick, q_weigh, q_tuple, lkm, sz, il, foGo_S]
              exact T _ _ _
            | pick =>
              rw [enc_pick]
              simp [q_self, q_discard, q_var, q_upto, q_range, q_shuffle, q_const, q_map, q_keep, q_list, q_let, q_grow, q_pick, q_weigh, q_tuple, lkm, sz, foGo_S]
              exact T _ _ _
            | tuple =>
              rw [enc_tuple]
              simp [q_self, q_discard, q_var, q_upto, q_range, q_shuffle, q_const, q_map, q_keep, q_list, q_let, q_grow, q_pick, q_weigh, q_tuple, lkm, sz, foGo_S]
              exact T _ _ _
            | weigh ws =>
              rw [enc_weigh]
              have q := eLc_map (vs := [6]) (fi := iSeq (eOp hIx (eVar 0) (eC (.int 1)))) (g := gSet 6) (f := eOp hIx (eVar 6) (eC (.int 1))) (e := [some (.p (.tuple [.str q_weigh, .tuple (List.zipWith wp2 ws (l.map Tm.enc))])), some (.p (.str q_weigh)), none, none, none, none, none]) (s := s) (xs := List.zipWith wp2 ws (l.map Tm.enc)) (ys := l.map Tm.enc) (by simp) (by simp [ar] at ha; simp [ha]) (by simp; omega) (fun i h1 h2 => by
                rw [show wipeE [some (.p (.tuple [.str q_weigh, .tuple (List.zipWith wp2 ws (l.map Tm.enc))])), some (.p (.str q_weigh)), none, none, none, none, none] [6] = [some (.p (.tuple [.str q_weigh, .tuple (List.zipWith wp2 ws (l.map Tm.enc))])), some (.p (.str q_weigh)), none, none, none, none, none] from rfl]
                simp [wp2])
              unfold q_weigh at q
              simp [q_self, q_discard, q_var, q_upto, q_range, q_shuffle, q_const, q_map, q_keep, q_list, q_let, q_grow, q_pick, q_weigh, q_tuple, lkm, sz, q, foGo_S]
              exact T _ _ _
            | self =>
              have l0 := len0 ha; subst l0
              rw [enc_self]
              simp [q_self, q_discard, q_var, q_upto, q_range, q_shuffle, q_const, q_map, q_keep, q_list, q_let, q_grow, q_pick, q_weigh, q_tuple, lkm, sz, foGo_S]
              exact T _ _ _
            | discard =>
              have l0 := len0 ha; subst l0
              rw [enc_discard]
              simp [q_self, q_discard, q_var, q_upto, q_range, q_shuffle, q_const, q_map, q_keep, q_list, q_let, q_grow, q_pick, q_weigh, q_tuple, lkm, sz, foGo_S]
              exact T _ _ _
            | range a b =>
              have l0 := len0 ha; subst l0
              rw [enc_range]
              simp [q_self, q_discard, q_var, q_upto, q_range, q_shuffle, q_const, q_map, q_keep, q_list, q_let, q_grow, q_pick, q_weigh, q_tuple, lkm, sz, foGo_S]
              exact T _ _ _
            | shuffle v =>
              have l0 := len0 ha; subst l0
              rw [enc_shuffle]
              simp [q_self, q_discard, q_var, q_upto, q_range, q_shuffle, q_const, q_map, q_keep, q_list, q_let, q_grow, q_pick, q_weigh, q_tuple, lkm, sz, foGo_S]
              exact T _ _ _
            | const v =>
              have l0 := len0 ha; subst l0
              rw [enc_const]
              simp [q_self, q_discard, q_var, q_upto, q_range, q_shuffle, q_const, q_map, q_keep, q_list, q_let, q_grow, q_pick, q_weigh, q_tuple, lkm, sz, foGo_S]
              exact T _ _ _
end Dl
/-! The data layer: the words of terms, operations and tests differ (printed). -/
namespace Dl
open PySem
@[simp] theorem ne_discard_self : (q_discard = q_self) = False := eq_false (by decide +kernel)
@[simp] theorem ne_discard_const : (q_discard = q_const) = False := eq_false (by decide +kernel)
@[simp] theorem ne_discard_var : (q_discard = q_var) = False := eq_false (by decide +kernel)
@[simp] theorem ne_discard_upto : (q_discard = q_upto) = False := eq_false (by decide +kernel)
@[simp] theorem ne_discard_range : (q_discard = q_range) = False := eq_false (by decide +kernel)
@[simp] theorem ne_discard_shuffle : (q_discard = q_shuffle) = False := eq_false (by decide +kernel)
@[simp] theorem ne_discard_pick : (q_discard = q_pick) = False := eq_false (by decide +kernel)
@[simp] theorem ne_discard_tuple : (q_discard = q_tuple) = False := eq_false (by decide +kernel)
@[simp] theorem ne_discard_weigh : (q_discard = q_weigh) = False := eq_false (by decide +kernel)
@[simp] theorem ne_discard_list : (q_discard = q_list) = False := eq_false (by decide +kernel)
@[simp] theorem ne_discard_map : (q_discard = q_map) = False := eq_false (by decide +kernel)
@[simp] theorem ne_discard_keep : (q_discard = q_keep) = False := eq_false (by decide +kernel)
@[simp] theorem ne_discard_let : (q_discard = q_let) = False := eq_false (by decide +kernel)
@[simp] theorem ne_discard_grow : (q_discard = q_grow) = False := eq_false (by decide +kernel)
@[simp] theorem ne_self_discard : (q_self = q_discard) = False := eq_false (by decide +kernel)
@[simp] theorem ne_self_const : (q_self = q_const) = False := eq_false (by decide +kernel)
@[simp] theorem ne_self_var : (q_self = q_var) = False := eq_false (by decide +kernel)
@[simp] theorem ne_self_upto : (q_self = q_upto) = False := eq_false (by decide +kernel)
@[simp] theorem ne_self_range : (q_self = q_range) = False := eq_false (by decide +kernel)
@[simp] theorem ne_self_shuffle : (q_self = q_shuffle) = False := eq_false (by decide +kernel)
@[simp] theorem ne_self_pick : (q_self = q_pick) = False := eq_false (by decide +kernel)
@[simp] theorem ne_self_tuple : (q_self = q_tuple) = False := eq_false (by decide +kernel)
@[simp] theorem ne_self_weigh : (q_self = q_weigh) = False := eq_false (by decide +kernel)
@[simp] theorem ne_self_list : (q_self = q_list) = False := eq_false (by decide +kernel)
@[simp] theorem ne_self_map : (q_self = q_map) = False := eq_false (by decide +kernel)
@[simp] theorem ne_self_keep : (q_self = q_keep) = False := eq_false (by decide +kernel)
@[simp] theorem ne_self_let : (q_self = q_let) = False := eq_false (by decide +kernel)
@[simp] theorem ne_self_grow : (q_self = q_grow) = False := eq_false (by decide +kernel)
@[simp] theorem ne_const_discard : (q_const = q_discard) = False := eq_false (by decide +kernel)
@[simp] theorem ne_const_self : (q_const = q_self) = False := eq_false (by decide +kernel)
@[simp] theorem ne_const_var : (q_const = q_var) = False := eq_false (by decide +kernel)
@[simp] theorem ne_const_upto : (q_const = q_upto) = False := eq_false (by decide +kernel)
@[simp] theorem ne_const_range : (q_const = q_range) = False := eq_false (by decide +kernel)
@[simp] theorem ne_const_shuffle : (q_const = q_shuffle) = False := eq_false (by decide +kernel)
@[simp] theorem ne_const_pick : (q_const = q_pick) = False := eq_false (by decide +kernel)
@[simp] theorem ne_const_tuple : (q_const = q_tuple) = False := eq_false (by decide +kernel)
@[simp] theorem ne_const_weigh : (q_const = q_weigh) = False := eq_false (by decide +kernel)
@[simp] theorem ne_const_list : (q_const = q_list) = False := eq_false (by decide +kernel)
@[simp] theorem ne_const_map : (q_const = q_map) = False := eq_false (by decide +kernel)
@[simp] theorem ne_const_keep : (q_const = q_keep) = False := eq_false (by decide +kernel)
@[simp] theorem ne_const_let : (q_const = q_let) = False := eq_false (by decide +kernel)
@[simp] theorem ne_const_grow : (q_const = q_grow) = False := eq_false (by decide +kernel)
@[simp] theorem ne_var_discard : (q_var = q_discard) = False := eq_false (by decide +kernel)
@[simp] theorem ne_var_self : (q_var = q_self) = False := eq_false (by decide +kernel)
@[simp] theorem ne_var_const : (q_var = q_const) = False := eq_false (by decide +kernel)
@[simp] theorem ne_var_upto : (q_var = q_upto) = False := eq_false (by decide +kernel)
@[simp] theorem ne_var_range : (q_var = q_range) = False := eq_false (by decide +kernel)
@[simp] theorem ne_var_shuffle : (q_var = q_shuffle) = False := eq_false (by decide +kernel)
@[simp] theorem ne_var_pick : (q_var = q_pick) = False := eq_false (by decide +kernel)
@[simp] theorem ne_var_tuple : (q_var = q_tuple) = False := eq_false (by decide +kernel)
@[simp] theorem ne_var_weigh : (q_var = q_weigh) = False := eq_false (by decide +kernel)
@[simp] theorem ne_var_list : (q_var = q_list) = False := eq_false (by decide +kernel)
@[simp] theorem ne_var_map : (q_var = q_map) = False := eq_false (by decide +kernel)
@[simp] theorem ne_var_keep : (q_var = q_keep) = False := eq_false (by decide +kernel)
@[simp] theorem ne_var_let : (q_var = q_let) = False := eq_false (by decide +kernel)
@[simp] theorem ne_var_grow : (q_var = q_grow) = False := eq_false (by decide +kernel)
@[simp] theorem ne_upto_discard : (q_upto = q_discard) = False := eq_false (by decide +kernel)
@[simp] theorem ne_upto_self : (q_upto = q_self) = False := eq_false (by decide +kernel)
@[simp] theorem ne_upto_const : (q_upto = q_const) = False := eq_false (by decide +kernel)
@[simp] theorem ne_upto_var : (q_upto = q_var) = False := eq_false (by decide +kernel)
@[simp] theorem ne_upto_range : (q_upto = q_range) = False := eq_false (by decide +kernel)
@[simp] theorem ne_upto_shuffle : (q_upto = q_shuffle) = False := eq_false (by decide +kernel)
@[simp] theorem ne_upto_pick : (q_upto = q_pick) = False := eq_false (by decide +kernel)
@[simp] theorem ne_upto_tuple : (q_upto = q_tuple) = False := eq_false (by decide +kernel)
@[simp] theorem ne_upto_weigh : (q_upto = q_weigh) = False := eq_false (by decide +kernel)
@[simp] theorem ne_upto_list : (q_upto = q_list) = False := eq_false (by decide +kernel)
@[simp] theorem ne_upto_map : (q_upto = q_map) = False := eq_false (by decide +kernel)
@[simp] theorem ne_upto_keep : (q_upto = q_keep) = False := eq_false (by decide +kernel)
@[simp] theorem ne_upto_let : (q_upto = q_let) = False := eq_false (by decide +kernel)
@[simp] theorem ne_upto_grow : (q_upto = q_grow) = False := eq_false (by decide +kernel)
@[simp] theorem ne_range_discard : (q_range = q_discard) = False := eq_false (by decide +kernel)
@[simp] theorem ne_range_self : (q_range = q_self) = False := eq_false (by decide +kernel)
@[simp] theorem ne_range_const : (q_range = q_const) = False := eq_false (by decide +kernel)
@[simp] theorem ne_range_var : (q_range = q_var) = False := eq_false (by decide +kernel)
@[simp] theorem ne_range_upto : (q_range = q_upto) = False := eq_false (by decide +kernel)
@[simp] theorem ne_range_shuffle : (q_range = q_shuffle) = False := eq_false (by decide +kernel)
@[simp] theorem ne_range_pick : (q_range = q_pick) = False := eq_false (by decide +kernel)
@[simp] theorem ne_range_tuple : (q_range = q_tuple) = False := eq_false (by decide +kernel)
@[simp] theorem ne_range_weigh : (q_range = q_weigh) = False := eq_false (by decide +kernel)
@[simp] theorem ne_range_list : (q_range = q_list) = False := eq_false (by decide +kernel)
@[simp] theorem ne_range_map : (q_range = q_map) = False := eq_false (by decide +kernel)
@[simp] theorem ne_range_keep : (q_range = q_keep) = False := eq_false (by decide +kernel)
@[simp] theorem ne_range_let : (q_range = q_let) = False := eq_false (by decide +kernel)
@[simp] theorem ne_range_grow : (q_range = q_grow) = False := eq_false (by decide +kernel)
@[simp] theorem ne_shuffle_discard : (q_shuffle = q_discard) = False := eq_false (by decide +kernel)
@[simp] theorem ne_shuffle_self : (q_shuffle = q_self) = False := eq_false (by decide +kernel)
@[simp] theorem ne_shuffle_const : (q_shuffle = q_const) = False := eq_false (by decide +kernel)
@[simp] theorem ne_shuffle_var : (q_shuffle = q_var) = False := eq_false (by decide +kernel)
@[simp] theorem ne_shuffle_upto : (q_shuffle = q_upto) = False := eq_false (by decide +kernel)
@[simp] theorem ne_shuffle_range : (q_shuffle = q_range) = False := eq_false (by decide +kernel)
@[simp] theorem ne_shuffle_pick : (q_shuffle = q_pick) = False := eq_false (by decide +kernel)
@[simp] theorem ne_shuffle_tuple : (q_shuffle = q_tuple) = False := eq_false (by decide +kernel)
@[simp] theorem ne_shuffle_weigh : (q_shuffle = q_weigh) = False := eq_false (by decide +kernel)
@[simp] theorem ne_shuffle_list : (q_shuffle = q_list) = False := eq_false (by decide +kernel)
@[simp] theorem ne_shuffle_map : (q_shuffle = q_map) = False := eq_false (by decide +kernel)
@[simp] theorem ne_shuffle_keep : (q_shuffle = q_keep) = False := eq_false (by decide +kernel)
@[simp] theorem ne_shuffle_let : (q_shuffle = q_let) = False := eq_false (by decide +kernel)
@[simp] theorem ne_shuffle_grow : (q_shuffle = q_grow) = False := eq_false (by decide +kernel)
@[simp] theorem ne_pick_discard : (q_pick = q_discard) = False := eq_false (by decide +kernel)
@[simp] theorem ne_pick_self : (q_pick = q_self) = False := eq_false (by decide +kernel)
@[simp] theorem ne_pick_const : (q_pick = q_const) = False := eq_false (by decide +kernel)
@[simp] theorem ne_pick_var : (q_pick = q_var) = False := eq_false (by decide +kernel)
@[simp] theorem ne_pick_upto : (q_pick = q_upto) = False := eq_false (by decide +kernel)
@[simp] theorem ne_pick_range : (q_pick = q_range) = False := eq_false (by decide +kernel)
@[simp] theorem ne_pick_shuffle : (q_pick = q_shuffle) = False := eq_false (by decide +kernel)
@[simp] theorem ne_pick_tuple : (q_pick = q_tuple) = False := eq_false (by decide +kernel)
@[simp] theorem ne_pick_weigh : (q_pick = q_weigh) = False := eq_false (by decide +kernel)
@[simp] theorem ne_pick_list : (q_pick = q_list) = False := eq_false (by decide +kernel)
@[simp] theorem ne_pick_map : (q_pick = q_map) = False := eq_false (by decide +kernel)
@[simp] theorem ne_pick_keep : (q_pick = q_keep) = False := eq_false (by decide +kernel)
@[simp] theorem ne_pick_let : (q_pick = q_let) = False := eq_false (by decide +kernel)
@[simp] theorem ne_pick_grow : (q_pick = q_grow) = False := eq_false (by decide +kernel)
@[simp] theorem ne_tuple_discard : (q_tuple = q_discard) = False := eq_false (by decide +kernel)
@[simp] theorem ne_tuple_self : (q_tuple = q_self) = False := eq_false (by decide +kernel)
@[simp] theorem ne_tuple_const : (q_tuple = q_const) = False := eq_false (by decide +kernel)
@[simp] theorem ne_tuple_var : (q_tuple = q_var) = False := eq_false (by decide +kernel)
@[simp] theorem ne_tuple_upto : (q_tuple = q_upto) = False := eq_false (by decide +kernel)
@[simp] theorem ne_tuple_range : (q_tuple = q_range) = False := eq_false (by decide +kernel)
@[simp] theorem ne_tuple_shuffle : (q_tuple = q_shuffle) = False := eq_false (by decide +kernel)
@[simp] theorem ne_tuple_pick : (q_tuple = q_pick) = False := eq_false (by decide +kernel)
@[simp] theorem ne_tuple_weigh : (q_tuple = q_weigh) = False := eq_false (by decide +kernel)
@[simp] theorem ne_tuple_list : (q_tuple = q_list) = False := eq_false (by decide +kernel)
@[simp] theorem ne_tuple_map : (q_tuple = q_map) = False := eq_false (by decide +kernel)
@[simp] theorem ne_tuple_keep : (q_tuple = q_keep) = False := eq_false (by decide +kernel)
@[simp] theorem ne_tuple_let : (q_tuple = q_let) = False := eq_false (by decide +kernel)
@[simp] theorem ne_tuple_grow : (q_tuple = q_grow) = False := eq_false (by decide +kernel)
@[simp] theorem ne_weigh_discard : (q_weigh = q_discard) = False := eq_false (by decide +kernel)
@[simp] theorem ne_weigh_self : (q_weigh = q_self) = False := eq_false (by decide +kernel)
@[simp] theorem ne_weigh_const : (q_weigh = q_const) = False := eq_false (by decide +kernel)
@[simp] theorem ne_weigh_var : (q_weigh = q_var) = False := eq_false (by decide +kernel)
@[simp] theorem ne_weigh_upto : (q_weigh = q_upto) = False := eq_false (by decide +kernel)
@[simp] theorem ne_weigh_range : (q_weigh = q_range) = False := eq_false (by decide +kernel)
@[simp] theorem ne_weigh_shuffle : (q_weigh = q_shuffle) = False := eq_false (by decide +kernel)
@[simp] theorem ne_weigh_pick : (q_weigh = q_pick) = False := eq_false (by decide +kernel)
@[simp] theorem ne_weigh_tuple : (q_weigh = q_tuple) = False := eq_false (by decide +kernel)
@[simp] theorem ne_weigh_list : (q_weigh = q_list) = False := eq_false (by decide +kernel)
@[simp] theorem ne_weigh_map : (q_weigh = q_map) = False := eq_false (by decide +kernel)
@[simp] theorem ne_weigh_keep : (q_weigh = q_keep) = False := eq_false (by decide +kernel)
@[simp] theorem ne_weigh_let : (q_weigh = q_let) = False := eq_false (by decide +kernel)
@[simp] theorem ne_weigh_grow : (q_weigh = q_grow) = False := eq_false (by decide +kernel)
@[simp] theorem ne_list_discard : (q_list = q_discard) = False := eq_false (by decide +kernel)
@[simp] theorem ne_list_self : (q_list = q_self) = False := eq_false (by decide +kernel)
@[simp] theorem ne_list_const : (q_list = q_const) = False := eq_false (by decide +kernel)
@[simp] theorem ne_list_var : (q_list = q_var) = False := eq_false (by decide +kernel)
@[simp] theorem ne_list_upto : (q_list = q_upto) = False := eq_false (by decide +kernel)
@[simp] theorem ne_list_range : (q_list = q_range) = False := eq_false (by decide +kernel)
@[simp] theorem ne_list_shuffle : (q_list = q_shuffle) = False := eq_false (by decide +kernel)
@[simp] theorem ne_list_pick : (q_list = q_pick) = False := eq_false (by decide +kernel)
@[simp] theorem ne_list_tuple : (q_list = q_tuple) = False := eq_false (by decide +kernel)
@[simp] theorem ne_list_weigh : (q_list = q_weigh) = False := eq_false (by decide +kernel)
@[simp] theorem ne_list_map : (q_list = q_map) = False := eq_false (by decide +kernel)
@[simp] theorem ne_list_keep : (q_list = q_keep) = False := eq_false (by decide +kernel)
@[simp] theorem ne_list_let : (q_list = q_let) = False := eq_false (by decide +kernel)
@[simp] theorem ne_list_grow : (q_list = q_grow) = False := eq_false (by decide +kernel)
@[simp] theorem ne_map_discard : (q_map = q_discard) = False := eq_false (by decide +kernel)
@[simp] theorem ne_map_self : (q_map = q_self) = False := eq_false (by decide +kernel)
@[simp] theorem ne_map_const : (q_map = q_const) = False := eq_false (by decide +kernel)
@[simp] theorem ne_map_var : (q_map = q_var) = False := eq_false (by decide +kernel)
@[simp] theorem ne_map_upto : (q_map = q_upto) = False := eq_false (by decide +kernel)
@[simp] theorem ne_map_range : (q_map = q_range) = False := eq_false (by decide +kernel)
@[simp] theorem ne_map_shuffle : (q_map = q_shuffle) = False := eq_false (by decide +kernel)
@[simp] theorem ne_map_pick : (q_map = q_pick) = False := eq_false (by decide +kernel)
@[simp] theorem ne_map_tuple : (q_map = q_tuple) = False := eq_false (by decide +kernel)
@[simp] theorem ne_map_weigh : (q_map = q_weigh) = False := eq_false (by decide +kernel)
@[simp] theorem ne_map_list : (q_map = q_list) = False := eq_false (by decide +kernel)
@[simp] theorem ne_map_keep : (q_map = q_keep) = False := eq_false (by decide +kernel)
@[simp] theorem ne_map_let : (q_map = q_let) = False := eq_false (by decide +kernel)
@[simp] theorem ne_map_grow : (q_map = q_grow) = False := eq_false (by decide +kernel)
@[simp] theorem ne_keep_discard : (q_keep = q_discard) = False := eq_false (by decide +kernel)
@[simp] theorem ne_keep_self : (q_keep = q_self) = False := eq_false (by decide +kernel)
@[simp] theorem ne_keep_const : (q_keep = q_const) = False := eq_false (by decide +kernel)
@[simp] theorem ne_keep_var : (q_keep = q_var) = False := eq_false (by decide +kernel)
@[simp] theorem ne_keep_upto : (q_keep = q_upto) = False := eq_false (by decide +kernel)
@[simp] theorem ne_keep_range : (q_keep = q_range) = False := eq_false (by decide +kernel)
@[simp] theorem ne_keep_shuffle : (q_keep = q_shuffle) = False := eq_false (by decide +kernel)
@[simp] theorem ne_keep_pick : (q_keep = q_pick) = False := eq_false (by decide +kernel)
@[simp] theorem ne_keep_tuple : (q_keep = q_tuple) = False := eq_false (by decide +kernel)
@[simp] theorem ne_keep_weigh : (q_keep = q_weigh) = False := eq_false (by decide +kernel)
@[simp] theorem ne_keep_list : (q_keep = q_list) = False := eq_false (by decide +kernel)
@[simp] theorem ne_keep_map : (q_keep = q_map) = False := eq_false (by decide +kernel)
@[simp] theorem ne_keep_let : (q_keep = q_let) = False := eq_false (by decide +kernel)
@[simp] theorem ne_keep_grow : (q_keep = q_grow) = False := eq_false (by decide +kernel)
@[simp] theorem ne_let_discard : (q_let = q_discard) = False := eq_false (by decide +kernel)
@[simp] theorem ne_let_self : (q_let = q_self) = False := eq_false (by decide +kernel)
@[simp] theorem ne_let_const : (q_let = q_const) = False := eq_false (by decide +kernel)
@[simp] theorem ne_let_var : (q_let = q_var) = False := eq_false (by decide +kernel)
@[simp] theorem ne_let_upto : (q_let = q_upto) = False := eq_false (by decide +kernel)
@[simp] theorem ne_let_range : (q_let = q_range) = False := eq_false (by decide +kernel)
@[simp] theorem ne_let_shuffle : (q_let = q_shuffle) = False := eq_false (by decide +kernel)
@[simp] theorem ne_let_pick : (q_let = q_pick) = False := eq_false (by decide +kernel)
@[simp] theorem ne_let_tuple : (q_let = q_tuple) = False := eq_false (by decide +kernel)
@[simp] theorem ne_let_weigh : (q_let = q_weigh) = False := eq_false (by decide +kernel)
@[simp] theorem ne_let_list : (q_let = q_list) = False := eq_false (by decide +kernel)
@[simp] theorem ne_let_map : (q_let = q_map) = False := eq_false (by decide +kernel)
@[simp] theorem ne_let_keep : (q_let = q_keep) = False := eq_false (by decide +kernel)
@[simp] theorem ne_let_grow : (q_let = q_grow) = False := eq_false (by decide +kernel)
@[simp] theorem ne_grow_discard : (q_grow = q_discard) = False := eq_false (by decide +kernel)
@[simp] theorem ne_grow_self : (q_grow = q_self) = False := eq_false (by decide +kernel)
@[simp] theorem ne_grow_const : (q_grow = q_const) = False := eq_false (by decide +kernel)
@[simp] theorem ne_grow_var : (q_grow = q_var) = False := eq_false (by decide +kernel)
@[simp] theorem ne_grow_upto : (q_grow = q_upto) = False := eq_false (by decide +kernel)
@[simp] theorem ne_grow_range : (q_grow = q_range) = False := eq_false (by decide +kernel)
@[simp] theorem ne_grow_shuffle : (q_grow = q_shuffle) = False := eq_false (by decide +kernel)
@[simp] theorem ne_grow_pick : (q_grow = q_pick) = False := eq_false (by decide +kernel)
@[simp] theorem ne_grow_tuple : (q_grow = q_tuple) = False := eq_false (by decide +kernel)
@[simp] theorem ne_grow_weigh : (q_grow = q_weigh) = False := eq_false (by decide +kernel)
@[simp] theorem ne_grow_list : (q_grow = q_list) = False := eq_false (by decide +kernel)
@[simp] theorem ne_grow_map : (q_grow = q_map) = False := eq_false (by decide +kernel)
@[simp] theorem ne_grow_keep : (q_grow = q_keep) = False := eq_false (by decide +kernel)
@[simp] theorem ne_grow_let : (q_grow = q_let) = False := eq_false (by decide +kernel)
@[simp] theorem ne_add_mul : (q_add = q_mul) = False := eq_false (by decide +kernel)
@[simp] theorem ne_add_mod : (q_add = q_mod) = False := eq_false (by decide +kernel)
@[simp] theorem ne_add_sum : (q_add = q_sum) = False := eq_false (by decide +kernel)
@[simp] theorem ne_add_size : (q_add = q_size) = False := eq_false (by decide +kernel)
@[simp] theorem ne_add_sort : (q_add = q_sort) = False := eq_false (by decide +kernel)
@[simp] theorem ne_add_reverse : (q_add = q_reverse) = False := eq_false (by decide +kernel)
@[simp] theorem ne_add_flat : (q_add = q_flat) = False := eq_false (by decide +kernel)
@[simp] theorem ne_mul_add : (q_mul = q_add) = False := eq_false (by decide +kernel)
@[simp] theorem ne_mul_mod : (q_mul = q_mod) = False := eq_false (by decide +kernel)
@[simp] theorem ne_mul_sum : (q_mul = q_sum) = False := eq_false (by decide +kernel)
@[simp] theorem ne_mul_size : (q_mul = q_size) = False := eq_false (by decide +kernel)
@[simp] theorem ne_mul_sort : (q_mul = q_sort) = False := eq_false (by decide +kernel)
@[simp] theorem ne_mul_reverse : (q_mul = q_reverse) = False := eq_false (by decide +kernel)
@[simp] theorem ne_mul_flat : (q_mul = q_flat) = False := eq_false (by decide +kernel)
@[simp] theorem ne_mod_add : (q_mod = q_add) = False := eq_false (by decide +kernel)
@[simp] theorem ne_mod_mul : (q_mod = q_mul) = False := eq_false (by decide +kernel)
@[simp] theorem ne_mod_sum : (q_mod = q_sum) = False := eq_false (by decide +kernel)
@[simp] theorem ne_mod_size : (q_mod = q_size) = False := eq_false (by decide +kernel)
@[simp] theorem ne_mod_sort : (q_mod = q_sort) = False := eq_false (by decide +kernel)
@[simp] theorem ne_mod_reverse : (q_mod = q_reverse) = False := eq_false (by decide +kernel)
@[simp] theorem ne_mod_flat : (q_mod = q_flat) = False := eq_false (by decide +kernel)
@[simp] theorem ne_sum_add : (q_sum = q_add) = False := eq_false (by decide +kernel)
@[simp] theorem ne_sum_mul : (q_sum = q_mul) = False := eq_false (by decide +kernel)
@[simp] theorem ne_sum_mod : (q_sum = q_mod) = False := eq_false (by decide +kernel)
@[simp] theorem ne_sum_size : (q_sum = q_size) = False := eq_false (by decide +kernel)
@[simp] theorem ne_sum_sort : (q_sum = q_sort) = False := eq_false (by decide +kernel)
@[simp] theorem ne_sum_reverse : (q_sum = q_reverse) = False := eq_false (by decide +kernel)
@[simp] theorem ne_sum_flat : (q_sum = q_flat) = False := eq_false (by decide +kernel)
@[simp] theorem ne_size_add : (q_size = q_add) = False := eq_false (by decide +kernel)
@[simp] theorem ne_size_mul : (q_size = q_mul) = False := eq_false (by decide +kernel)
@[simp] theorem ne_size_mod : (q_size = q_mod) = False := eq_false (by decide +kernel)
@[simp] theorem ne_size_sum : (q_size = q_sum) = False := eq_false (by decide +kernel)
@[simp] theorem ne_size_sort : (q_size = q_sort) = False := eq_false (by decide +kernel)
@[simp] theorem ne_size_reverse : (q_size = q_reverse) = False := eq_false (by decide +kernel)
@[simp] theorem ne_size_flat : (q_size = q_flat) = False := eq_false (by decide +kernel)
@[simp] theorem ne_sort_add : (q_sort = q_add) = False := eq_false (by decide +kernel)
@[simp] theorem ne_sort_mul : (q_sort = q_mul) = False := eq_false (by decide +kernel)
@[simp] theorem ne_sort_mod : (q_sort = q_mod) = False := eq_false (by decide +kernel)
@[simp] theorem ne_sort_sum : (q_sort = q_sum) = False := eq_false (by decide +kernel)
@[simp] theorem ne_sort_size : (q_sort = q_size) = False := eq_false (by decide +kernel)
@[simp] theorem ne_sort_reverse : (q_sort = q_reverse) = False := eq_false (by decide +kernel)
@[simp] theorem ne_sort_flat : (q_sort = q_flat) = False := eq_false (by decide +kernel)
@[simp] theorem ne_reverse_add : (q_reverse = q_add) = False := eq_false (by decide +kernel)
@[simp] theorem ne_reverse_mul : (q_reverse = q_mul) = False := eq_false (by decide +kernel)
@[simp] theorem ne_reverse_mod : (q_reverse = q_mod) = False := eq_false (by decide +kernel)
@[simp] theorem ne_reverse_sum : (q_reverse = q_sum) = False := eq_false (by decide +kernel)
@[simp] theorem ne_reverse_size : (q_reverse = q_size) = False := eq_false (by decide +kernel)
@[simp] theorem ne_reverse_sort : (q_reverse = q_sort) = False := eq_false (by decide +kernel)
@[simp] theorem ne_reverse_flat : (q_reverse = q_flat) = False := eq_false (by decide +kernel)
@[simp] theorem ne_flat_add : (q_flat = q_add) = False := eq_false (by decide +kernel)
@[simp] theorem ne_flat_mul : (q_flat = q_mul) = False := eq_false (by decide +kernel)
@[simp] theorem ne_flat_mod : (q_flat = q_mod) = False := eq_false (by decide +kernel)
@[simp] theorem ne_flat_sum : (q_flat = q_sum) = False := eq_false (by decide +kernel)
@[simp] theorem ne_flat_size : (q_flat = q_size) = False := eq_false (by decide +kernel)
@[simp] theorem ne_flat_sort : (q_flat = q_sort) = False := eq_false (by decide +kernel)
@[simp] theorem ne_flat_reverse : (q_flat = q_reverse) = False := eq_false (by decide +kernel)
@[simp] theorem ne_even_rising : (q_even = q_rising) = False := eq_false (by decide +kernel)
@[simp] theorem ne_even_equals : (q_even = q_equals) = False := eq_false (by decide +kernel)
@[simp] theorem ne_even_less : (q_even = q_less) = False := eq_false (by decide +kernel)
@[simp] theorem ne_even_size : (q_even = q_size) = False := eq_false (by decide +kernel)
@[simp] theorem ne_even_not : (q_even = q_not) = False := eq_false (by decide +kernel)
@[simp] theorem ne_even_all : (q_even = q_all) = False := eq_false (by decide +kernel)
@[simp] theorem ne_even_any : (q_even = q_any) = False := eq_false (by decide +kernel)
@[simp] theorem ne_even_both : (q_even = q_both) = False := eq_false (by decide +kernel)
@[simp] theorem ne_even_either : (q_even = q_either) = False := eq_false (by decide +kernel)
@[simp] theorem ne_rising_even : (q_rising = q_even) = False := eq_false (by decide +kernel)
@[simp] theorem ne_rising_equals : (q_rising = q_equals) = False := eq_false (by decide +kernel)
@[simp] theorem ne_rising_less : (q_rising = q_less) = False := eq_false (by decide +kernel)
@[simp] theorem ne_rising_size : (q_rising = q_size) = False := eq_false (by decide +kernel)
@[simp] theorem ne_rising_not : (q_rising = q_not) = False := eq_false (by decide +kernel)
@[simp] theorem ne_rising_all : (q_rising = q_all) = False := eq_false (by decide +kernel)
@[simp] theorem ne_rising_any : (q_rising = q_any) = False := eq_false (by decide +kernel)
@[simp] theorem ne_rising_both : (q_rising = q_both) = False := eq_false (by decide +kernel)
@[simp] theorem ne_rising_either : (q_rising = q_either) = False := eq_false (by decide +kernel)
@[simp] theorem ne_equals_even : (q_equals = q_even) = False := eq_false (by decide +kernel)
@[simp] theorem ne_equals_rising : (q_equals = q_rising) = False := eq_false (by decide +kernel)
@[simp] theorem ne_equals_less : (q_equals = q_less) = False := eq_false (by decide +kernel)
@[simp] theorem ne_equals_size : (q_equals = q_size) = False := eq_false (by decide +kernel)
@[simp] theorem ne_equals_not : (q_equals = q_not) = False := eq_false (by decide +kernel)
@[simp] theorem ne_equals_all : (q_equals = q_all) = False := eq_false (by decide +kernel)
@[simp] theorem ne_equals_any : (q_equals = q_any) = False := eq_false (by decide +kernel)
@[simp] theorem ne_equals_both : (q_equals = q_both) = False := eq_false (by decide +kernel)
@[simp] theorem ne_equals_either : (q_equals = q_either) = False := eq_false (by decide +kernel)
@[simp] theorem ne_less_even : (q_less = q_even) = False := eq_false (by decide +kernel)
@[simp] theorem ne_less_rising : (q_less = q_rising) = False := eq_false (by decide +kernel)
@[simp] theorem ne_less_equals : (q_less = q_equals) = False := eq_false (by decide +kernel)
@[simp] theorem ne_less_size : (q_less = q_size) = False := eq_false (by decide +kernel)
@[simp] theorem ne_less_not : (q_less = q_not) = False := eq_false (by decide +kernel)
@[simp] theorem ne_less_all : (q_less = q_all) = False := eq_false (by decide +kernel)
@[simp] theorem ne_less_any : (q_less = q_any) = False := eq_false (by decide +kernel)
@[simp] theorem ne_less_both : (q_less = q_both) = False := eq_false (by decide +kernel)
@[simp] theorem ne_less_either : (q_less = q_either) = False := eq_false (by decide +kernel)
@[simp] theorem ne_size_even : (q_size = q_even) = False := eq_false (by decide +kernel)
@[simp] theorem ne_size_rising : (q_size = q_rising) = False := eq_false (by decide +kernel)
@[simp] theorem ne_size_equals : (q_size = q_equals) = False := eq_false (by decide +kernel)
@[simp] theorem ne_size_less : (q_size = q_less) = False := eq_false (by decide +kernel)
@[simp] theorem ne_size_not : (q_size = q_not) = False := eq_false (by decide +kernel)
@[simp] theorem ne_size_all : (q_size = q_all) = False := eq_false (by decide +kernel)
@[simp] theorem ne_size_any : (q_size = q_any) = False := eq_false (by decide +kernel)
@[simp] theorem ne_size_both : (q_size = q_both) = False := eq_false (by decide +kernel)
@[simp] theorem ne_size_either : (q_size = q_either) = False := eq_false (by decide +kernel)
@[simp] theorem ne_not_even : (q_not = q_even) = False := eq_false (by decide +kernel)
@[simp] theorem ne_not_rising : (q_not = q_rising) = False := eq_false (by decide +kernel)
@[simp] theorem ne_not_equals : (q_not = q_equals) = False := eq_false (by decide +kernel)
@[simp] theorem ne_not_less : (q_not = q_less) = False := eq_false (by decide +kernel)
@[simp] theorem ne_not_size : (q_not = q_size) = False := eq_false (by decide +kernel)
@[simp] theorem ne_not_all : (q_not = q_all) = False := eq_false (by decide +kernel)
@[simp] theorem ne_not_any : (q_not = q_any) = False := eq_false (by decide +kernel)
@[simp] theorem ne_not_both : (q_not = q_both) = False := eq_false (by decide +kernel)
@[simp] theorem ne_not_either : (q_not = q_either) = False := eq_false (by decide +kernel)
@[simp] theorem ne_all_even : (q_all = q_even) = False := eq_false (by decide +kernel)
@[simp] theorem ne_all_rising : (q_all = q_rising) = False := eq_false (by decide +kernel)
@[simp] theorem ne_all_equals : (q_all = q_equals) = False := eq_false (by decide +kernel)
@[simp] theorem ne_all_less : (q_all = q_less) = False := eq_false (by decide +kernel)
@[simp] theorem ne_all_size : (q_all = q_size) = False := eq_false (by decide +kernel)
@[simp] theorem ne_all_not : (q_all = q_not) = False := eq_false (by decide +kernel)
@[simp] theorem ne_all_any : (q_all = q_any) = False := eq_false (by decide +kernel)
@[simp] theorem ne_all_both : (q_all = q_both) = False := eq_false (by decide +kernel)
@[simp] theorem ne_all_either : (q_all = q_either) = False := eq_false (by decide +kernel)
@[simp] theorem ne_any_even : (q_any = q_even) = False := eq_false (by decide +kernel)
@[simp] theorem ne_any_rising : (q_any = q_rising) = False := eq_false (by decide +kernel)
@[simp] theorem ne_any_equals : (q_any = q_equals) = False := eq_false (by decide +kernel)
@[simp] theorem ne_any_less : (q_any = q_less) = False := eq_false (by decide +kernel)
@[simp] theorem ne_any_size : (q_any = q_size) = False := eq_false (by decide +kernel)
@[simp] theorem ne_any_not : (q_any = q_not) = False := eq_false (by decide +kernel)
@[simp] theorem ne_any_all : (q_any = q_all) = False := eq_false (by decide +kernel)
@[simp] theorem ne_any_both : (q_any = q_both) = False := eq_false (by decide +kernel)
@[simp] theorem ne_any_either : (q_any = q_either) = False := eq_false (by decide +kernel)
@[simp] theorem ne_both_even : (q_both = q_even) = False := eq_false (by decide +kernel)
@[simp] theorem ne_both_rising : (q_both = q_rising) = False := eq_false (by decide +kernel)
@[simp] theorem ne_both_equals : (q_both = q_equals) = False := eq_false (by decide +kernel)
@[simp] theorem ne_both_less : (q_both = q_less) = False := eq_false (by decide +kernel)
@[simp] theorem ne_both_size : (q_both = q_size) = False := eq_false (by decide +kernel)
@[simp] theorem ne_both_not : (q_both = q_not) = False := eq_false (by decide +kernel)
@[simp] theorem ne_both_all : (q_both = q_all) = False := eq_false (by decide +kernel)
@[simp] theorem ne_both_any : (q_both = q_any) = False := eq_false (by decide +kernel)
@[simp] theorem ne_both_either : (q_both = q_either) = False := eq_false (by decide +kernel)
@[simp] theorem ne_either_even : (q_either = q_even) = False := eq_false (by decide +kernel)
@[simp] theorem ne_either_rising : (q_either = q_rising) = False := eq_false (by decide +kernel)
@[simp] theorem ne_either_equals : (q_either = q_equals) = False := eq_false (by decide +kernel)
@[simp] theorem ne_either_less : (q_either = q_less) = False := eq_false (by decide +kernel)
@[simp] theorem ne_either_size : (q_either = q_size) = False := eq_false (by decide +kernel)
@[simp] theorem ne_either_not : (q_either = q_not) = False := eq_false (by decide +kernel)
@[simp] theorem ne_either_all : (q_either = q_all) = False := eq_false (by decide +kernel)
@[simp] theorem ne_either_any : (q_either = q_any) = False := eq_false (by decide +kernel)
@[simp] theorem ne_either_both : (q_either = q_both) = False := eq_false (by decide +kernel)
end Dl
/-! The data layer: is_term on any data (plain Lean). -/
namespace Dl
open PySem
/-! ### what the checks tell -/
def inI (lo hi : Int) : PyData → Bool
  | .int i => decide (lo ≤ i) && decide (i ≤ hi)
  | _ => false
def isV : Nat → PyData → Bool
  | _, .int _ => true
  | d + 1, .tuple xs => decide (xs.length ≤ 64) && xs.all (isV d)
  | _, _ => false
def isW (z : Str) : PyData → Bool
  | .str y => decide (y = z)
  | _ => false
def isInt : PyData → Bool
  | .int _ => true
  | _ => false
def isTup : PyData → Bool
  | .tuple _ => true
  | _ => false
def isT : Nat → PyData → Bool
  | d + 1, .tuple (h :: r) =>
    if isW q_even h || isW q_rising h then r.isEmpty
    else if isW q_equals h then (match r with | [v] => isV 8 v | _ => false)
    else if isW q_less h || isW q_size h then (match r with | [v] => isInt v | _ => false)
    else if isW q_not h || (isW q_all h || isW q_any h) then (match r with | [v] => isT d v | _ => false)
    else if isW q_both h || isW q_either h then (match r with | [v, w] => isT d v && isT d w | _ => false)
    else false
  | _, _ => false
def lone (h : Str) : Bool := decide (h = q_sum ∨ h = q_size ∨ h = q_sort ∨ h = q_reverse ∨ h = q_flat)
def isO : PyData → Bool
  | .tuple (.str h :: r) =>
    if lone h then r.isEmpty
    else (match r with
      | [n] => if h = q_mod then inI 1 1000 n else decide (h = q_add ∨ h = q_mul) && inI (-1000) 1000 n
      | _ => false)
  | _ => false
def chOk (c : Nat) : Bool := !(Builtin.Str.occurrences q_abcdefghijklmnopqrstuvwxyz ⟨#[c]⟩ 0 q_abcdefghijklmnopqrstuvwxyz.length 1).isEmpty
def isN : PyData → Bool
  | .str z => decide (1 ≤ z.length) && decide (z.length ≤ 12) && z.cps.toList.all chOk
  | _ => false
def isPr : PyData → Bool
  | .tuple [w, _] => inI 1 1000000000000000 w
  | _ => false
def isF (h : Str) (r : List PyData) : Bool :=
  if h = q_discard ∨ h = q_self then r.isEmpty
  else if h = q_const then (match r with | [v] => isV 8 v | _ => false)
  else if h = q_var ∨ h = q_upto then (match r with | [v] => isN v | _ => false)
  else if h = q_range then (match r with | [.int a, b] => inI (-1000) 1000 (.int a) && inI a (a + 63) b | _ => false)
  else if h = q_shuffle then (match r with | [.tuple xs] => decide (xs.length ≤ 4) && isV 8 (.tuple xs) | _ => false)
  else false
def isS (h : Str) (r : List PyData) : Bool :=
  if h = q_pick ∨ h = q_tuple then (match r with | [.tuple xs] => decide ((if h = q_pick then 1 else 0) ≤ xs.length) && decide (xs.length ≤ 64) | _ => false)
  else if h = q_weigh then (match r with | [.tuple xs] => decide (1 ≤ xs.length) && decide (xs.length ≤ 64) && xs.all isPr | _ => false)
  else if h = q_list then (match r with | [.int a, b, _] => inI 0 6 (.int a) && inI a 6 b | _ => false)
  else if h = q_map then (match r with | [p, _] => isO p | _ => false)
  else if h = q_keep then (match r with | [t, n, _] => isT 6 t && inI 1 4 n | _ => false)
  else if h = q_let then (match r with | [x, _, _] => isN x | _ => false)
  else if h = q_grow then (match r with | [n, _, _] => inI 0 4 n | _ => false)
  else false
def snd : PyData → PyData
  | .tuple (_ :: x :: _) => x
  | _ => .none
/-- the parts of what is shaped and neither let nor grow -/
def prts (h : Str) (r : List PyData) : List PyData :=
  if h = q_pick ∨ h = q_tuple then (match r with | [.tuple xs] => xs | _ => [])
  else if h = q_weigh then (match r with | [.tuple xs] => xs.map snd | _ => [])
  else if h = q_list ∨ h = q_keep then (match r with | [_, _, x] => [x] | _ => [])
  else if h = q_map then (match r with | [_, x] => [x] | _ => [])
  else []
def strIn (ns : List Str) : PyData → Bool
  | .str x => decide (x ∈ ns)
  | _ => false
def iot : Nat → List Str → Bool → PyData → Bool
  | d + 1, ns, i, .tuple (.str h :: r) =>
    if isF h r then (if h = q_self then i else if h = q_var ∨ h = q_upto then (match r with | [x] => strIn ns x | _ => false) else true)
    else if !isS h r then false
    else if h = q_let then (match r with | [.str x, a, b] => iot d ns i a && iot d (ns ++ [x]) i b | _ => false)
    else if h = q_grow then (match r with | [_, a, b] => iot d ns i a && iot d ns true b | _ => false)
    else (prts h r).all (iot d ns i)
  | _, _, _, _ => false
/-! ### the defs -/
theorem td {s : String} (h : isTy s "dict" = false) : isTy s "dict" = false := h
theorem t1 : isTy "bool" "dict" = false := by decide
theorem t2 : isTy "int" "dict" = false := by decide
theorem t3 : isTy "tuple" "dict" = false := by decide
theorem t4 : isTy "str" "dict" = false := by decide
theorem t5 : isTy "str" "NoneType" = false := by decide
theorem t6 : isTy "str" "bool" = false := by decide
theorem t7 : isTy "str" "int" = false := by decide
theorem t8 : isTy "str" "str" = true := by decide
theorem t9 : isTy "str" "list" = false := by decide
theorem t10 : isTy "str" "tuple" = false := by decide
def IntOk (f : Nat → Cf) : Prop := ∀ k x lo hi s, 1 ≤ k → f k [.p x, DI lo, DI hi] s = .ok (DB (inI lo hi x)) s
theorem int_ok {f : Nat → Cf} (h : ∀ k ds s, f (k + 1) ds s = runB 3 tm_c_is_integer ds s) : IntOk f := by
  intro k x lo hi s hk
  obtain ⟨k, rfl⟩ : ∃ n, k = n + 1 := ⟨k - 1, by omega⟩
  rw [h, runB_eq]
  unfold tm_c_is_integer
  cases x with
  | int i => by_cases c : lo ≤ i <;> simp [inI, c]
  | _ => simp [inI, kindD, t1, t2]
def IsVA (f : Nat → Cf) : Prop := ∀ (n : Nat) k x s, n + 2 ≤ k → f k [.p x, DI (n : Nat)] s = .ok (DB (isV n x)) s
theorem isva {f : Nat → Cf} (h : ∀ k ds s, f (k + 1) ds s = runB 3 (tm_c_is_value (f k)) ds s) : IsVA f := by
  intro n
  induction n with
  | zero =>
    intro k x s hk
    obtain ⟨k, rfl⟩ : ∃ n, k = n + 1 := ⟨k - 1, by omega⟩
    rw [h, runB_eq]
    generalize f k = C
    unfold tm_c_is_value
    cases x with
    | int d => simp [isV]
    | _ => simp [isV, kindD, t1, t2, t3]
  | succ n ih =>
    intro k x s hk
    obtain ⟨k, rfl⟩ : ∃ n, k = n + 1 := ⟨k - 1, by omega⟩
    rw [h, runB_eq]
    have ih := fun x s => ih k x s (by omega)
    generalize f k = C at *
    unfold tm_c_is_value
    have e3 : ¬ ((n : Int) + 1 = 0) := by omega
    cases x with
    | int d => simp [isV]
    | tuple xs =>
      by_cases c : xs.length ≤ 64
      · have q := eLc_map (vs := [2]) (fi := iSeq (eVar 0)) (g := gSet 2) (f := eCall C [] (aCons (eVar 2) (aCons (eOp hSub (eVar 1) (eC (.int 1))) aNil))) (e := [some (.p (.tuple xs)), some (DI ((n : Int) + 1)), none]) (s := s) (xs := xs) (ys := (xs.map (isV n)).map PyData.bool) (by simp) (by simp) (by omega) (fun i h1 h2 => by
          have := ih xs[i] s
          have w : wipeE [some (.p (.tuple xs)), some (DI ((n : Int) + 1)), none] [2] = [some (.p (.tuple xs)), some (DI ((n : Int) + 1)), none] := rfl
          have e1 : (n : Int) + 1 - 1 = n := by omega
          rw [w]
          simp [this, e1])
        have hs := hAll_bools (s := s) (xs.map (isV n))
        have e2 : ¬ (64 : Int) < xs.length := by omega
        rw [List.all_map] at hs
        have e4 : (xs.all (id ∘ isV n)) = xs.all (isV n) := rfl
        rw [e4] at hs
        generalize (xs.map (isV n)).map PyData.bool = ys at *
        simp [q, hs, e2, e3, isV, c]
      · have e2 : (64 : Int) < xs.length := by omega
        simp [e2, e3, isV, c]
    | _ => simp [isV, kindD, t1, t2, t3]
def FltS (x : PyData) : Prop := ∀ z, x = .str z → z.length ≤ 1000000
theorem len_str {z : Str} {s : Sto} (h : z.length ≤ sizeLine) : hLen [.p (.str z)] s = .ok (DI z.length) s := by
  unfold hLen
  simp [h]
theorem in_ch {c : Nat} {s : Sto} : hIn (.p (.str ⟨#[c]⟩)) (.p (.str q_abcdefghijklmnopqrstuvwxyz)) s = .ok (DB (chOk c)) s := by
  unfold hIn
  simp only [hInB]
  rfl
def NameOk (f : Nat → Cf) : Prop := ∀ k x s, 1 ≤ k → FltS x → f k [.p x] s = .ok (DB (isN x)) s
theorem name_ok {f : Nat → Cf} (h : ∀ k ds s, f (k + 1) ds s = runB 2 tm_c_is_name ds s) : NameOk f := by
  intro k x s hk hx
  obtain ⟨k, rfl⟩ : ∃ n, k = n + 1 := ⟨k - 1, by omega⟩
  rw [h, runB_eq]
  unfold tm_c_is_name
  cases x with
  | str z =>
    have hz := hx z rfl
    have l := len_str (z := z) (s := s) (by rw [PySem.sizeLine_eq]; omega)
    by_cases c1 : z.length < 1
    · have c1' : (z.length : Int) < 1 := by omega
      simp [t8, l, c1', isN]
      intro h1 h2
      omega
    · have c1' : ¬ (z.length : Int) < 1 := by omega
      by_cases c2 : 12 < z.length
      · have c2' : (12 : Int) < z.length := by omega
        simp [t8, l, c1', c2', isN]
        intro h1 h2
        omega
      · have c2' : ¬ (12 : Int) < z.length := by omega
        have q : eLc false [1] (iSeq (eVar 0)) (gSet 1) tYes (eOp hIn (eVar 1) (eC (.str q_abcdefghijklmnopqrstuvwxyz))) [some (.p (.str z)), none] s = .ok (.p (.list ((z.cps.toList.map chOk).map PyData.bool))) s := by
          refine eLc_map (xs := z.cps.toList.map fun c => PyData.str ⟨#[c]⟩) ?_ (by simp) ?_ (fun i h1 h2 => ?_)
          · simp [iSeqD]
            rfl
          · simp
            have : z.cps.size = z.length := rfl
            omega
          · have w : wipeE [some (.p (.str z)), none] [1] = [some (.p (.str z)), none] := rfl
            rw [w]
            simp [in_ch]
        have hs := hAll_bools (s := s) (z.cps.toList.map chOk)
        rw [List.all_map, show (z.cps.toList.all (id ∘ chOk)) = z.cps.toList.all chOk from rfl] at hs
        generalize (z.cps.toList.map chOk).map PyData.bool = ys at *
        simp [t8, l, c1', c2', q, hs, isN]
        intro _
        omega
  | _ => simp [isN, kindD, t4, t5, t6, t7, t9, t10]
def PairOk (f : Nat → Cf) : Prop := ∀ k x s, 2 ≤ k → f k [.p x] s = .ok (DB (isPr x)) s
theorem ixp0 {a : PyData} {r : List PyData} {s : Sto} : hIx (.p (.tuple (a :: r))) (.p (.int 0)) s = .ok (.p a) s := hIx_tuple (by rw [show (0 : Int) = ((0 : Nat) : Int) by rfl, atI_nat]; rfl)
theorem ixp1 {a b : PyData} {r : List PyData} {s : Sto} : hIx (.p (.tuple (a :: b :: r))) (.p (.int 1)) s = .ok (.p b) s := hIx_tuple (by rw [show (1 : Int) = ((1 : Nat) : Int) by rfl, atI_nat]; rfl)
theorem ixp2 {a b c : PyData} {r : List PyData} {s : Sto} : hIx (.p (.tuple (a :: b :: c :: r))) (.p (.int 2)) s = .ok (.p c) s := hIx_tuple (by rw [show (2 : Int) = ((2 : Nat) : Int) by rfl, atI_nat]; rfl)
theorem ixp3 {a b c d : PyData} {r : List PyData} {s : Sto} : hIx (.p (.tuple (a :: b :: c :: d :: r))) (.p (.int 3)) s = .ok (.p d) s := hIx_tuple (by rw [show (3 : Int) = ((3 : Nat) : Int) by rfl, atI_nat]; rfl)
theorem pair_ok {f cf : Nat → Cf} (h : ∀ k ds s, f (k + 1) ds s = runB 1 (tm_c_is_pair (cf k)) ds s) (hc : IntOk cf) : PairOk f := by
  intro k x s hk
  obtain ⟨k, rfl⟩ : ∃ n, k = n + 1 := ⟨k - 1, by omega⟩
  have hc := fun x lo hi s => hc k x lo hi s (by omega)
  rw [h, runB_eq]
  generalize cf k = C at *
  unfold tm_c_is_pair
  cases x with
  | tuple xs =>
    match xs with
    | [] => simp [isPr]
    | [a] => simp [isPr]
    | [a, b] => simp [isPr, ixp0, hc, k_MAX_WEIGHT]
    | a :: b :: c :: r =>
      have e : ¬ ((r.length : Int) + 1 + 1 + 1 = 2) := by omega
      simp [isPr, e]
  | _ => simp [isPr, kindD, t3]
def OpnOk (f : Nat → Cf) : Prop := ∀ k x s, 2 ≤ k → f k [.p x] s = .ok (DB (isO x)) s
theorem in_lone {h : Str} {s : Sto} : hIn (.p (.str h)) (.p k_LONE) s = .ok (DB (lone h)) s := by
  have q := in_names (y := h) (ns := [q_sum, q_size, q_sort, q_reverse, q_flat]) (s := s)
  have e : k_LONE = .tuple ([q_sum, q_size, q_sort, q_reverse, q_flat].map PyData.str) := rfl
  rw [e, q]
  congr 3
  simp
theorem in_am {h : Str} {s : Sto} : hIn (.p (.str h)) (.p (.tuple [.str q_add, .str q_mul])) s = .ok (DB (decide (h = q_add ∨ h = q_mul))) s := by
  have q := in_names (y := h) (ns := [q_add, q_mul]) (s := s)
  have e : PyData.tuple [.str q_add, .str q_mul] = .tuple ([q_add, q_mul].map PyData.str) := rfl
  rw [e, q]
  simp
theorem opn_ok {f cf : Nat → Cf} (h : ∀ k ds s, f (k + 1) ds s = runB 1 (tm_c_is_operation (cf k)) ds s) (hc : IntOk cf) : OpnOk f := by
  intro k x s hk
  obtain ⟨k, rfl⟩ : ∃ n, k = n + 1 := ⟨k - 1, by omega⟩
  have hc := fun x lo hi s => hc k x lo hi s (by omega)
  rw [h, runB_eq]
  generalize cf k = C at *
  unfold tm_c_is_operation
  cases x with
  | tuple xs =>
    match xs with
    | [] => simp [isO, t4, t8]
    | .str h :: r =>
      have e0 : ¬ ((r.length : Int) + 1 = 0) := by omega
      by_cases l : lone h = true
      · cases r with
        | nil => simp [isO, t8, ixp0, in_lone, l]
        | cons a r =>
          have e1 : ¬ ((r.length : Int) + 1 + 1 = 0) := by omega
          have e2 : ¬ ((r.length : Int) + 1 + 1 = 1) := by omega
          simp [isO, t8, ixp0, in_lone, l, e1, e2]
      · have l : lone h = false := by simpa using l
        match r with
        | [] => simp [isO, t8, ixp0, in_lone, l]
        | [n] =>
          by_cases m : h = q_mod
          · subst m
            simp [isO, t8, ixp0, ixp1, in_lone, l, hc]
          · have am := in_am (h := h) (s := s)
            by_cases a : h = q_add ∨ h = q_mul
            · rw [decide_eq_true a] at am
              simp [isO, t8, ixp0, ixp1, in_lone, l, hc, m, am, a, PySem.sizeLine_eq]
            · rw [decide_eq_false a] at am
              simp [isO, t8, ixp0, ixp1, in_lone, l, hc, m, am, a, PySem.sizeLine_eq]
        | a :: b :: r =>
          have e1 : ¬ ((r.length : Int) + 1 + 1 + 1 = 0) := by omega
          have e2 : ¬ ((r.length : Int) + 1 + 1 + 1 = 2) := by omega
          simp [isO, t8, ixp0, in_lone, l, e1, e2]
    | .none :: r | .bool _ :: r | .int _ :: r | .tuple _ :: r | .list _ :: r | .dict _ :: r =>
      have e0 : ¬ ((r.length : Int) + 1 = 0) := by omega
      simp [isO, e0, ixp0, kindD, t4, t5, t6, t7, t9, t10]
  | _ => simp [isO, kindD, t3]

/-! ### is_test, is_flat, is_shaped -/
theorem eq_w {x : PyData} {z : Str} {s : Sto} {m : Nat} (hx : Flt m x) (hm : m ≤ 63) (hz : (PyData.str z).canLay0 = true) : hEq (.p x) (.p (.str z)) s = .ok (DB (isW z x)) s := by
  have sz : SeqAt.shaped (.str z) = true := (flt_str (m := 0) hz).shaped (by omega)
  have sx := hx.shaped hm
  unfold hEq hEqB
  cases x with
  | str y => rfl
  | none => simp [isW, toP, sx, sz, PyData.eqv]
  | bool b => simp [isW, toP, sx, sz, PyData.eqv]
  | int b => simp [isW, toP, sx, sz, PyData.eqv]
  | tuple b => simp [isW, toP, sx, sz, PyData.eqv]
  | list b => simp [isW, toP, sx, sz, PyData.eqv]
  | dict b => simp [isW, toP, sx, sz, PyData.eqv]
theorem Flt.tail {m : Nat} {a : PyData} {r : List PyData} (h : Flt (m + 1) (.tuple (a :: r))) : Flt m a ∧ FltA m r := by
  obtain ⟨h1, h2⟩ := h
  simp only [PyData.canLay0, PyData.canLayAll0, Bool.and_eq_true] at h1
  simp only [PyData.depth, PyData.depthAll] at h2
  exact ⟨⟨h1.1, by omega⟩, h1.2, by omega⟩
theorem FltA.tail {m : Nat} {a : PyData} {r : List PyData} (h : FltA m (a :: r)) : Flt m a ∧ FltA m r := by
  obtain ⟨h1, h2⟩ := h
  simp only [PyData.canLayAll0, Bool.and_eq_true] at h1
  simp only [PyData.depthAll] at h2
  exact ⟨⟨h1.1, by omega⟩, h1.2, by omega⟩
theorem FltA.mem {m : Nat} {x : PyData} : ∀ {r : List PyData}, FltA m r → x ∈ r → Flt m x
  | [], _, h => (List.not_mem_nil h).elim
  | y :: r, h, hx => by
    rcases List.mem_cons.mp hx with rfl | hx
    · exact h.tail.1
    · exact FltA.mem h.tail.2 hx
def IsTA (f : Nat → Cf) : Prop := ∀ (n : Nat) k x s m, n + 11 ≤ k → Flt m x → m ≤ 63 → f k [.p x, DI (n : Nat)] s = .ok (DB (isT n x)) s
theorem ista {f vf : Nat → Cf} (h : ∀ k ds s, f (k + 1) ds s = runB 3 (tm_c_is_test (vf k) (f k)) ds s) (hv : IsVA vf) : IsTA f := by
  intro n
  induction n with
  | zero =>
    intro k x s m hk hx hm
    obtain ⟨k, rfl⟩ : ∃ n, k = n + 1 := ⟨k - 1, by omega⟩
    rw [h, runB_eq]
    generalize f k = C
    generalize vf k = V
    unfold tm_c_is_test
    cases x with
    | tuple xs =>
      by_cases e : (xs.length : Int) = 0 <;> simp [isT, e]
    | _ => simp [isT, kindD, t3]
  | succ n ih =>
    intro k x s m hk hx hm
    obtain ⟨k, rfl⟩ : ∃ n, k = n + 1 := ⟨k - 1, by omega⟩
    rw [h, runB_eq]
    have ih := fun x s m => ih k x s m (by omega)
    have hv := fun x s => hv 8 k x s (by omega)
    generalize f k = C at *
    generalize vf k = V at *
    unfold tm_c_is_test
    have e3 : ¬ ((n : Int) + 1 = 0) := by omega
    have e4 : (n : Int) + 1 - 1 = n := by omega
    cases x with
    | tuple xs =>
      match xs with
      | [] => simp [isT]
      | a :: r =>
        obtain ⟨m, rfl⟩ : ∃ k, m = k + 1 := ⟨m - 1, by
          have := hx.2
          simp only [PyData.depth] at this
          omega⟩
        obtain ⟨ha, hr⟩ := hx.tail
        have e0 : ¬ ((r.length : Int) + 1 = 0) := by omega
        have q := fun z hz => eq_w (z := z) (s := s) ha (by omega) hz
        have q1 := q q_even (by decide +kernel)
        have q2 := q q_rising (by decide +kernel)
        have q3 := q q_equals (by decide +kernel)
        have q4 := q q_less (by decide +kernel)
        have q5 := q q_size (by decide +kernel)
        have q6 := q q_not (by decide +kernel)
        have q7 := q q_all (by decide +kernel)
        have q8 := q q_any (by decide +kernel)
        have q9 := q q_both (by decide +kernel)
        have q10 := q q_either (by decide +kernel)
        clear q
        unfold isT
        match r, hr with
        | [], hr =>
          by_cases b1 : isW q_even a = true
          · simp [e3, ixp0, q1, b1]
          rw [Bool.not_eq_true] at b1
          by_cases b2 : isW q_rising a = true
          · simp [e3, ixp0, q1, b1, q2, b2]
          rw [Bool.not_eq_true] at b2
          by_cases b3 : isW q_equals a = true
          · simp [e3, ixp0, q1, b1, q2, b2, q3, b3]
          rw [Bool.not_eq_true] at b3
          by_cases b4 : isW q_less a = true
          · simp [e3, ixp0, q1, b1, q2, b2, q3, b3, q4, b4]
          rw [Bool.not_eq_true] at b4
          by_cases b5 : isW q_size a = true
          · simp [e3, ixp0, q1, b1, q2, b2, q3, b3, q4, b4, q5, b5]
          rw [Bool.not_eq_true] at b5
          by_cases b6 : isW q_not a = true
          · simp [e3, ixp0, q1, b1, q2, b2, q3, b3, q4, b4, q5, b5, q6, b6]
          rw [Bool.not_eq_true] at b6
          by_cases b7 : isW q_all a = true
          · simp [e3, ixp0, q1, b1, q2, b2, q3, b3, q4, b4, q5, b5, q6, b6, q7, b7]
          rw [Bool.not_eq_true] at b7
          by_cases b8 : isW q_any a = true
          · simp [e3, ixp0, q1, b1, q2, b2, q3, b3, q4, b4, q5, b5, q6, b6, q7, b7, q8, b8]
          rw [Bool.not_eq_true] at b8
          by_cases b9 : isW q_both a = true
          · simp [e3, ixp0, q1, b1, q2, b2, q3, b3, q4, b4, q5, b5, q6, b6, q7, b7, q8, b8, q9, b9]
          rw [Bool.not_eq_true] at b9
          by_cases b10 : isW q_either a = true
          · simp [e3, ixp0, q1, b1, q2, b2, q3, b3, q4, b4, q5, b5, q6, b6, q7, b7, q8, b8, q9, b9, q10, b10]
          rw [Bool.not_eq_true] at b10
          simp [e3, ixp0, q1, b1, q2, b2, q3, b3, q4, b4, q5, b5, q6, b6, q7, b7, q8, b8, q9, b9, q10, b10]
        | [v], hr =>
          have i1 := ih v s m hr.tail.1 (by omega)
          have v1 := hv v s
          simp at v1
          have kv : (kindD s (.p v)).isSome = true := by cases v <;> rfl
          obtain ⟨kd, hkd⟩ := Option.isSome_iff_exists.mp kv
          have ki : (isTy "int" kd && !isTy "bool" kd) = isInt v := by
            cases v <;> cases hkd <;> first | (show _ = false; decide) | (show _ = true; decide)
          have ki2 : isTy "int" kd = false → isInt v = false := fun e => by rw [← ki, e]; rfl
          have ki3 : isTy "int" kd = true → isInt v = !isTy "bool" kd := fun e => by rw [← ki, e]; rfl
          by_cases b1 : isW q_even a = true
          · simp [e3, ixp0, ixp1, i1, v1, e4, hkd, q1, b1]
          rw [Bool.not_eq_true] at b1
          by_cases b2 : isW q_rising a = true
          · simp [e3, ixp0, ixp1, i1, v1, e4, hkd, q1, b1, q2, b2]
          rw [Bool.not_eq_true] at b2
          by_cases b3 : isW q_equals a = true
          · simp [e3, ixp0, ixp1, i1, v1, e4, hkd, q1, b1, q2, b2, q3, b3]
          rw [Bool.not_eq_true] at b3
          by_cases b4 : isW q_less a = true
          · simp [e3, ixp0, ixp1, i1, v1, e4, hkd, q1, b1, q2, b2, q3, b3, q4, b4]
            cases e : isTy "int" kd
            · simp [ki2 e]
            · simp [ki3 e]
          rw [Bool.not_eq_true] at b4
          by_cases b5 : isW q_size a = true
          · simp [e3, ixp0, ixp1, i1, v1, e4, hkd, q1, b1, q2, b2, q3, b3, q4, b4, q5, b5]
            cases e : isTy "int" kd
            · simp [ki2 e]
            · simp [ki3 e]
          rw [Bool.not_eq_true] at b5
          by_cases b6 : isW q_not a = true
          · simp [e3, ixp0, ixp1, i1, v1, e4, hkd, q1, b1, q2, b2, q3, b3, q4, b4, q5, b5, q6, b6]
          rw [Bool.not_eq_true] at b6
          by_cases b7 : isW q_all a = true
          · simp [e3, ixp0, ixp1, i1, v1, e4, hkd, q1, b1, q2, b2, q3, b3, q4, b4, q5, b5, q6, b6, q7, b7]
          rw [Bool.not_eq_true] at b7
          by_cases b8 : isW q_any a = true
          · simp [e3, ixp0, ixp1, i1, v1, e4, hkd, q1, b1, q2, b2, q3, b3, q4, b4, q5, b5, q6, b6, q7, b7, q8, b8]
          rw [Bool.not_eq_true] at b8
          by_cases b9 : isW q_both a = true
          · simp [e3, ixp0, ixp1, i1, v1, e4, hkd, q1, b1, q2, b2, q3, b3, q4, b4, q5, b5, q6, b6, q7, b7, q8, b8, q9, b9]
          rw [Bool.not_eq_true] at b9
          by_cases b10 : isW q_either a = true
          · simp [e3, ixp0, ixp1, i1, v1, e4, hkd, q1, b1, q2, b2, q3, b3, q4, b4, q5, b5, q6, b6, q7, b7, q8, b8, q9, b9, q10, b10]
          rw [Bool.not_eq_true] at b10
          simp [e3, ixp0, ixp1, i1, v1, e4, hkd, q1, b1, q2, b2, q3, b3, q4, b4, q5, b5, q6, b6, q7, b7, q8, b8, q9, b9, q10, b10]
        | [v, w], hr =>
          have i1 := ih v s m hr.tail.1 (by omega)
          have i2 := ih w s m hr.tail.2.tail.1 (by omega)
          by_cases b1 : isW q_even a = true
          · simp [e3, ixp0, ixp1, ixp2, i1, i2, e4, q1, b1]
          rw [Bool.not_eq_true] at b1
          by_cases b2 : isW q_rising a = true
          · simp [e3, ixp0, ixp1, ixp2, i1, i2, e4, q1, b1, q2, b2]
          rw [Bool.not_eq_true] at b2
          by_cases b3 : isW q_equals a = true
          · simp [e3, ixp0, ixp1, ixp2, i1, i2, e4, q1, b1, q2, b2, q3, b3]
          rw [Bool.not_eq_true] at b3
          by_cases b4 : isW q_less a = true
          · simp [e3, ixp0, ixp1, ixp2, i1, i2, e4, q1, b1, q2, b2, q3, b3, q4, b4]
          rw [Bool.not_eq_true] at b4
          by_cases b5 : isW q_size a = true
          · simp [e3, ixp0, ixp1, ixp2, i1, i2, e4, q1, b1, q2, b2, q3, b3, q4, b4, q5, b5]
          rw [Bool.not_eq_true] at b5
          by_cases b6 : isW q_not a = true
          · simp [e3, ixp0, ixp1, ixp2, i1, i2, e4, q1, b1, q2, b2, q3, b3, q4, b4, q5, b5, q6, b6]
          rw [Bool.not_eq_true] at b6
          by_cases b7 : isW q_all a = true
          · simp [e3, ixp0, ixp1, ixp2, i1, i2, e4, q1, b1, q2, b2, q3, b3, q4, b4, q5, b5, q6, b6, q7, b7]
          rw [Bool.not_eq_true] at b7
          by_cases b8 : isW q_any a = true
          · simp [e3, ixp0, ixp1, ixp2, i1, i2, e4, q1, b1, q2, b2, q3, b3, q4, b4, q5, b5, q6, b6, q7, b7, q8, b8]
          rw [Bool.not_eq_true] at b8
          by_cases b9 : isW q_both a = true
          · simp [e3, ixp0, ixp1, ixp2, i1, i2, e4, q1, b1, q2, b2, q3, b3, q4, b4, q5, b5, q6, b6, q7, b7, q8, b8, q9, b9]
            cases e : isT n v <;> simp
          rw [Bool.not_eq_true] at b9
          by_cases b10 : isW q_either a = true
          · simp [e3, ixp0, ixp1, ixp2, i1, i2, e4, q1, b1, q2, b2, q3, b3, q4, b4, q5, b5, q6, b6, q7, b7, q8, b8, q9, b9, q10, b10]
            cases e : isT n v <;> simp
          rw [Bool.not_eq_true] at b10
          simp [e3, ixp0, ixp1, ixp2, i1, i2, e4, q1, b1, q2, b2, q3, b3, q4, b4, q5, b5, q6, b6, q7, b7, q8, b8, q9, b9, q10, b10]
        | v :: w :: u :: r, hr =>
          have e5 : ¬ ((r.length : Int) + 1 + 1 + 1 + 1 = 0) := by omega
          have e6 : ¬ ((r.length : Int) + 1 + 1 + 1 + 1 = 1) := by omega
          have e7 : ¬ ((r.length : Int) + 1 + 1 + 1 + 1 = 2) := by omega
          have e8 : ¬ ((r.length : Int) + 1 + 1 + 1 + 1 = 3) := by omega
          have e9 : ¬ ((r.length : Int) + 1 + 1 + 1 + 1 < 2) := by omega
          by_cases b1 : isW q_even a = true
          · simp [e3, ixp0, e5, e6, e7, e8, e9, q1, b1]
          rw [Bool.not_eq_true] at b1
          by_cases b2 : isW q_rising a = true
          · simp [e3, ixp0, e5, e6, e7, e8, e9, q1, b1, q2, b2]
          rw [Bool.not_eq_true] at b2
          by_cases b3 : isW q_equals a = true
          · simp [e3, ixp0, e5, e6, e7, e8, e9, q1, b1, q2, b2, q3, b3]
          rw [Bool.not_eq_true] at b3
          by_cases b4 : isW q_less a = true
          · simp [e3, ixp0, e5, e6, e7, e8, e9, q1, b1, q2, b2, q3, b3, q4, b4]
          rw [Bool.not_eq_true] at b4
          by_cases b5 : isW q_size a = true
          · simp [e3, ixp0, e5, e6, e7, e8, e9, q1, b1, q2, b2, q3, b3, q4, b4, q5, b5]
          rw [Bool.not_eq_true] at b5
          by_cases b6 : isW q_not a = true
          · simp [e3, ixp0, e5, e6, e7, e8, e9, q1, b1, q2, b2, q3, b3, q4, b4, q5, b5, q6, b6]
          rw [Bool.not_eq_true] at b6
          by_cases b7 : isW q_all a = true
          · simp [e3, ixp0, e5, e6, e7, e8, e9, q1, b1, q2, b2, q3, b3, q4, b4, q5, b5, q6, b6, q7, b7]
          rw [Bool.not_eq_true] at b7
          by_cases b8 : isW q_any a = true
          · simp [e3, ixp0, e5, e6, e7, e8, e9, q1, b1, q2, b2, q3, b3, q4, b4, q5, b5, q6, b6, q7, b7, q8, b8]
          rw [Bool.not_eq_true] at b8
          by_cases b9 : isW q_both a = true
          · simp [e3, ixp0, e5, e6, e7, e8, e9, q1, b1, q2, b2, q3, b3, q4, b4, q5, b5, q6, b6, q7, b7, q8, b8, q9, b9]
          rw [Bool.not_eq_true] at b9
          by_cases b10 : isW q_either a = true
          · simp [e3, ixp0, e5, e6, e7, e8, e9, q1, b1, q2, b2, q3, b3, q4, b4, q5, b5, q6, b6, q7, b7, q8, b8, q9, b9, q10, b10]
          rw [Bool.not_eq_true] at b10
          simp [e3, ixp0, e5, e6, e7, e8, e9, q1, b1, q2, b2, q3, b3, q4, b4, q5, b5, q6, b6, q7, b7, q8, b8, q9, b9, q10, b10]
    | _ => simp [isT, kindD, t3]
/-- data of no great depth and size -/
structure Dt (m : Nat) (x : PyData) : Prop where
  flt : Flt m x
  blk : x.bulk ≤ 1000000
structure DtA (m : Nat) (x : List PyData) : Prop where
  flt : FltA m x
  blk : PyData.bulkAll x ≤ 1000000
theorem Dt.tail {m : Nat} {a : PyData} {r : List PyData} (h : Dt (m + 1) (.tuple (a :: r))) : Dt m a ∧ DtA m r := by
  obtain ⟨h1, h2⟩ := h
  simp only [PyData.bulk, PyData.bulkAll] at h2
  exact ⟨⟨h1.tail.1, by omega⟩, h1.tail.2, by omega⟩
theorem DtA.tail {m : Nat} {a : PyData} {r : List PyData} (h : DtA m (a :: r)) : Dt m a ∧ DtA m r := by
  obtain ⟨h1, h2⟩ := h
  simp only [PyData.bulkAll] at h2
  exact ⟨⟨h1.tail.1, by omega⟩, h1.tail.2, by omega⟩
theorem DtA.mem {m : Nat} {x : PyData} : ∀ {r : List PyData}, DtA m r → x ∈ r → Dt m x
  | [], _, h => (List.not_mem_nil h).elim
  | y :: r, h, hx => by
    rcases List.mem_cons.mp hx with rfl | hx
    · exact h.tail.1
    · exact DtA.mem h.tail.2 hx
theorem Dt.tup {m : Nat} {r : List PyData} (h : Dt (m + 1) (.tuple r)) : DtA m r := by
  obtain ⟨⟨h1, h2⟩, h3⟩ := h
  simp only [PyData.canLay0] at h1
  simp only [PyData.depth] at h2
  simp only [PyData.bulk] at h3
  exact ⟨⟨h1, by omega⟩, by omega⟩
theorem Dt.str {m : Nat} {x : PyData} (h : Dt m x) : FltS x := fun z e => by
  subst e
  have := h.blk
  simp only [PyData.bulk] at this
  exact this
theorem Dt.mono {m n : Nat} {x : PyData} (h : Dt m x) (hn : m ≤ n) : Dt n x := ⟨h.flt.mono hn, h.blk⟩
def FlatOk' (f : Nat → Cf) : Prop := ∀ k h r s m, 12 ≤ k → DtA m r → f k [.p (.tuple (.str h :: r))] s = .ok (DB (isF h r)) s
theorem flat_okA {f vf nf cf : Nat → Cf} (h : ∀ k ds s, f (k + 1) ds s = runB 2 (tm_c_is_flat (vf k) (nf k) (cf k)) ds s) (hv : IsVA vf) (hn : NameOk nf) (hc : IntOk cf) : FlatOk' f := by
  intro k w r s m hk hr
  obtain ⟨k, rfl⟩ : ∃ n, k = n + 1 := ⟨k - 1, by omega⟩
  rw [h, runB_eq]
  have hv := fun x s => hv 8 k x s (by omega)
  have hn := fun x s => hn k x s (by omega)
  have hc := fun x lo hi s => hc k x lo hi s (by omega)
  generalize vf k = V at *
  generalize nf k = N at *
  generalize cf k = C at *
  simp only [show ((8 : Nat) : Int) = 8 from rfl] at hv
  unfold tm_c_is_flat
  have l2 : ∀ n : Nat, ¬ ((n : Int) + 1 + 1 + 1 = 2) := fun n => by omega
  have l1 : ∀ n : Nat, ¬ ((n : Int) + 1 + 1 = 1) := fun n => by omega
  have l3 : ∀ n : Nat, ¬ ((n : Int) + 1 + 1 + 1 + 1 = 3) := fun n => by omega
  by_cases a1 : w = q_discard
  · subst a1
    match r with
    | [] => simp [isF, ixp0]
    | v :: r => simp [isF, ixp0, l1]
  by_cases a2 : w = q_self
  · subst a2
    match r with
    | [] => simp [isF, ixp0]
    | v :: r => simp [isF, ixp0, l1]
  by_cases a3 : w = q_const
  · subst a3
    match r with
    | [] => simp [isF, ixp0]
    | [v] => simp [isF, ixp0, ixp1, hv]
    | v :: u :: r => simp [isF, ixp0, l2]
  by_cases a4 : w = q_var
  · subst a4
    match r, hr with
    | [], _ => simp [isF, ixp0]
    | [v], hr => simp [isF, ixp0, ixp1, hn v s hr.tail.1.str]
    | v :: u :: r, _ => simp [isF, ixp0, l2]
  by_cases a5 : w = q_upto
  · subst a5
    match r, hr with
    | [], _ => simp [isF, ixp0]
    | [v], hr => simp [isF, ixp0, ixp1, hn v s hr.tail.1.str]
    | v :: u :: r, _ => simp [isF, ixp0, l2]
  by_cases a6 : w = q_range
  · subst a6
    match r, hr with
    | [], _ => simp [isF, ixp0]
    | [v], hr => simp [isF, ixp0]
    | [v, u], _ =>
      cases v with
      | int i =>
        have e : i + 64 - 1 = i + 63 := by omega
        cases b : inI (-1000) 1000 (.int i) <;> simp [isF, ixp0, ixp1, ixp2, hc, k_MAX_SPAN, b, e]
      | _ => simp [isF, ixp0, ixp1, hc, inI]
    | v :: u :: t :: r, _ => simp [isF, ixp0, l3]
  by_cases a7 : w = q_shuffle
  · subst a7
    match r with
    | [] => simp [isF, ixp0]
    | [v] =>
      cases v with
      | tuple xs =>
        by_cases c : xs.length ≤ 4
        · have c' : (xs.length : Int) ≤ 4 := by omega
          simp [isF, ixp0, ixp1, hv, c, c']
        · have c' : ¬ (xs.length : Int) ≤ 4 := by omega
          simp [isF, ixp0, ixp1, hv, c, c']
      | _ => simp [isF, ixp0, ixp1, kindD, t3]
    | v :: u :: r => simp [isF, ixp0, l2]
  simp [isF, ixp0, a1, a2, a3, a4, a5, a6, a7]
def ShapeOk (f : Nat → Cf) : Prop := ∀ k h r s m, 20 ≤ k → DtA m r → m ≤ 60 → f k [.p (.tuple (.str h :: r))] s = .ok (DB (isS h r)) s
theorem shape_ok {f pf cf of tf nf : Nat → Cf} (h : ∀ k ds s, f (k + 1) ds s = runB 4 (tm_c_is_shaped (pf k) (cf k) (of k) (tf k) (nf k)) ds s) (hp : PairOk pf) (hc : IntOk cf) (ho : OpnOk of) (ht : IsTA tf) (hn : NameOk nf) : ShapeOk f := by
  intro k w r s m hk hr hm
  obtain ⟨k, rfl⟩ : ∃ n, k = n + 1 := ⟨k - 1, by omega⟩
  rw [h, runB_eq]
  have hp := fun x s => hp k x s (by omega)
  have hc := fun x lo hi s => hc k x lo hi s (by omega)
  have ho := fun x s => ho k x s (by omega)
  have ht := fun x s h => ht 6 k x s m (by omega) h (by omega)
  have hn := fun x s => hn k x s (by omega)
  generalize pf k = P at *
  generalize cf k = C at *
  generalize of k = O at *
  generalize tf k = T at *
  generalize nf k = N at *
  simp only [show ((6 : Nat) : Int) = 6 from rfl] at ht
  unfold tm_c_is_shaped
  have l2 : ∀ n : Nat, ¬ ((n : Int) + 1 + 1 + 1 = 2) := fun n => by omega
  have l3 : ∀ n : Nat, ¬ ((n : Int) + 1 + 1 + 1 + 1 = 3) := fun n => by omega
  have l4 : ∀ n : Nat, ¬ ((n : Int) + 1 + 1 + 1 + 1 + 1 = 4) := fun n => by omega
  by_cases a1 : w = q_pick
  · subst a1
    match r with
    | [] => simp [isS, ixp0]
    | [v] =>
      cases v with
      | tuple xs =>
        have z1 : ((1 : Int) ≤ xs.length) = (1 ≤ xs.length) := propext (by omega)
        have z2 : ((xs.length : Int) ≤ 64) = (xs.length ≤ 64) := propext (by omega)
        by_cases c : 1 ≤ xs.length <;> simp [isS, ixp0, ixp1, k_MAX_PARTS, z1, z2, c]
      | _ => simp [isS, ixp0, ixp1, kindD, t3]
    | v :: u :: r => simp [isS, ixp0, l2]
  by_cases a2 : w = q_tuple
  · subst a2
    match r with
    | [] => simp [isS, ixp0]
    | [v] =>
      cases v with
      | tuple xs =>
        have z2 : ((xs.length : Int) ≤ 64) = (xs.length ≤ 64) := propext (by omega)
        have z3 : (0 : Int) ≤ xs.length := by omega
        simp [isS, ixp0, ixp1, k_MAX_PARTS, z2, z3]
      | _ => simp [isS, ixp0, ixp1, kindD, t3]
    | v :: u :: r => simp [isS, ixp0, l2]
  by_cases a3 : w = q_weigh
  · subst a3
    match r with
    | [] => simp [isS, ixp0]
    | [v] =>
      cases v with
      | tuple xs =>
        have z1 : ((1 : Int) ≤ xs.length) = (1 ≤ xs.length) := propext (by omega)
        have z2 : ((xs.length : Int) ≤ 64) = (xs.length ≤ 64) := propext (by omega)
        by_cases c : 1 ≤ xs.length
        · by_cases c2 : xs.length ≤ 64
          · have q := eLc_map (vs := [3]) (fi := iSeq (eOp hIx (eVar 0) (eC (.int 1)))) (g := gSet 3) (f := eCall P [] (aCons (eVar 3) aNil)) (e := [some (.p (.tuple [.str q_weigh, .tuple xs])), some (.p (.str q_weigh)), none, none]) (s := s) (xs := xs) (ys := (xs.map isPr).map PyData.bool) (by simp [ixp1]) (by simp) (by omega) (fun i h1 h2 => by
              have w : wipeE [some (.p (.tuple [.str q_weigh, .tuple xs])), some (.p (.str q_weigh)), none, none] [3] = [some (.p (.tuple [.str q_weigh, .tuple xs])), some (.p (.str q_weigh)), none, none] := rfl
              rw [w]
              simp [hp])
            have hs := hAll_bools (s := s) (xs.map isPr)
            rw [List.all_map, show (xs.all (id ∘ isPr)) = xs.all isPr from rfl] at hs
            generalize (xs.map isPr).map PyData.bool = ys at *
            simp [isS, ixp0, ixp1, k_MAX_PARTS, z1, z2, c, c2, q, hs]
          · simp [isS, ixp0, ixp1, k_MAX_PARTS, z1, z2, c, c2]
        · simp [isS, ixp0, ixp1, k_MAX_PARTS, z1, z2, c]
      | _ => simp [isS, ixp0, ixp1, kindD, t3]
    | v :: u :: r => simp [isS, ixp0, l2]
  by_cases a4 : w = q_list
  · subst a4
    match r with
    | [] => simp [isS, ixp0]
    | [v] => simp [isS, ixp0]
    | [v, u] => simp [isS, ixp0]
    | [v, u, t] =>
      cases v with
      | int i => cases b : inI 0 6 (.int i) <;> simp [isS, ixp0, ixp1, ixp2, hc, k_MAX_LIST, b]
      | _ => simp [isS, ixp0, ixp1, hc, k_MAX_LIST, inI]
    | v :: u :: t :: x :: r => simp [isS, ixp0, l4]
  by_cases a5 : w = q_map
  · subst a5
    match r with
    | [] => simp [isS, ixp0]
    | [v] => simp [isS, ixp0]
    | [v, u] => simp [isS, ixp0, ixp1, ho]
    | v :: u :: t :: r => simp [isS, ixp0, l3]
  by_cases a6 : w = q_keep
  · subst a6
    match r, hr with
    | [], _ => simp [isS, ixp0]
    | [v], _ => simp [isS, ixp0]
    | [v, u], _ => simp [isS, ixp0]
    | [v, u, t], hr =>
      have t1 := ht v s hr.tail.1.flt
      cases b : isT 6 v <;> simp [isS, ixp0, ixp1, ixp2, hc, k_MAX_TRIES, t1, b]
    | v :: u :: t :: x :: r, _ => simp [isS, ixp0, l4]
  by_cases a7 : w = q_let
  · subst a7
    match r, hr with
    | [], _ => simp [isS, ixp0]
    | [v], _ => simp [isS, ixp0]
    | [v, u], _ => simp [isS, ixp0]
    | [v, u, t], hr => simp [isS, ixp0, ixp1, hn v s hr.tail.1.str]
    | v :: u :: t :: x :: r, _ => simp [isS, ixp0, l4]
  by_cases a8 : w = q_grow
  · subst a8
    match r with
    | [] => simp [isS, ixp0]
    | [v] => simp [isS, ixp0]
    | [v, u] => simp [isS, ixp0]
    | [v, u, t] => simp [isS, ixp0, ixp1, hc, k_MAX_GROW]
    | v :: u :: t :: x :: r => simp [isS, ixp0, l4]
  simp [isS, ixp0, a1, a2, a3, a4, a5, a6, a7, a8]
theorem isPr_snd {x : PyData} (h : isPr x = true) : ∃ w y, x = .tuple [w, y] := by
  unfold isPr at h
  split at h
  · exact ⟨_, _, rfl⟩
  · cases h
def PartsA (f : Nat → Cf) : Prop := ∀ k h r s, 1 ≤ k → isS h r = true → h ≠ q_let → h ≠ q_grow → f k [.p (.tuple (.str h :: r))] s = .ok (.p (.list (prts h r))) s ∧ (prts h r).length ≤ 64
theorem partsA {f : Nat → Cf} (h : ∀ k ds s, f (k + 1) ds s = runB 3 tm_c_parts_of ds s) : PartsA f := by
  intro k w r s hk hs n1 n2
  obtain ⟨k, rfl⟩ : ∃ n, k = n + 1 := ⟨k - 1, by omega⟩
  rw [h, runB_eq]
  unfold tm_c_parts_of
  by_cases a1 : w = q_pick
  · subst a1
    simp only [isS, true_or, if_true] at hs
    split at hs
    · simp only [Bool.and_eq_true, decide_eq_true_eq] at hs
      simp [prts, ixp0, ixp1]
      exact hs.2
    · cases hs
  by_cases a2 : w = q_tuple
  · subst a2
    simp only [isS, or_true, if_true] at hs
    split at hs
    · simp only [Bool.and_eq_true, decide_eq_true_eq] at hs
      simp [prts, ixp0, ixp1]
      exact hs.2
    · cases hs
  by_cases a3 : w = q_weigh
  · subst a3
    simp [isS] at hs
    split at hs
    · rename_i xs
      simp only [Bool.and_eq_true, decide_eq_true_eq] at hs
      obtain ⟨⟨h1, h2⟩, h3⟩ := hs
      rw [List.all_eq_true] at h3
      have q := eLc_map (vs := [2]) (fi := iSeq (eOp hIx (eVar 0) (eC (.int 1)))) (g := gSet 2) (f := eOp hIx (eVar 2) (eC (.int 1))) (e := [some (.p (.tuple [.str q_weigh, .tuple xs])), some (.p (.str q_weigh)), none]) (s := s) (xs := xs) (ys := xs.map snd) (by simp [ixp1]) (by simp) (by omega) (fun i h4 h5 => by
        have w : wipeE [some (.p (.tuple [.str q_weigh, .tuple xs])), some (.p (.str q_weigh)), none] [2] = [some (.p (.tuple [.str q_weigh, .tuple xs])), some (.p (.str q_weigh)), none] := rfl
        obtain ⟨v, y, e⟩ := isPr_snd (h3 _ (List.getElem_mem h4))
        rw [w, List.getElem_map, e]
        simp [ixp1, snd])
      simp [prts, ixp0]
      generalize xs.map snd = ys at *
      simp [q, h2]
    · cases hs
  by_cases a4 : w = q_list
  · subst a4
    simp [isS] at hs
    split at hs
    · simp [prts, ixp0, ixp3, PySem.sizeLine_eq]
    · cases hs
  by_cases a5 : w = q_map
  · subst a5
    simp [isS] at hs
    split at hs
    · simp [prts, ixp0, ixp2, PySem.sizeLine_eq]
    · cases hs
  by_cases a6 : w = q_keep
  · subst a6
    simp [isS] at hs
    split at hs
    · simp [prts, ixp0, ixp3, PySem.sizeLine_eq]
    · cases hs
  simp [isS, a1, a2, a3, a4, a5, a6, n1, n2] at hs
theorem notin_names {y : Str} {ns : List Str} {s : Sto} : hNotIn (.p (.str y)) (.p (.tuple (ns.map PyData.str))) s = .ok (DB (!decide (y ∈ ns))) s := by
  have q := in_names (y := y) (ns := ns) (s := s)
  unfold hIn at q
  unfold hNotIn
  split at q
  · rename_i z e
    simp only [R.ok.injEq, D.p.injEq, PyData.bool.injEq, and_true] at q
    rw [q]
  · cases q
theorem isN_str {x : PyData} (h : isN x = true) : ∃ z, x = .str z := by
  cases x with
  | str z => exact ⟨z, rfl⟩
  | _ => cases h
def nmT (ns : List Str) : D := .p (.tuple (ns.map PyData.str))
def OpenOk (f : Nat → Cf) : Prop := ∀ (n : Nat) k ns i x s m, n + 22 ≤ k → ns.length + n ≤ 1000 → Dt m x → m ≤ 60 → f k [.p x, nmT ns, DB i, DI (n : Nat)] s = .ok (DB (iot n ns i x)) s

theorem iot_not {n : Nat} {ns : List Str} {i : Bool} {x : PyData} (h : ∀ w r, x ≠ .tuple (.str w :: r)) : iot n ns i x = false := by
  cases n with
  | zero => rfl
  | succ n =>
    unfold iot
    split
    · exact absurd rfl (h _ _)
    · rfl
theorem prts_dt {m : Nat} {w : Str} {r : List PyData} (hr : DtA m r) (hs : isS w r = true) : ∀ x ∈ prts w r, Dt m x := by
  intro x hx
  unfold prts at hx
  have tup : ∀ {xs : List PyData}, Dt m (.tuple xs) → ∀ y ∈ xs, Dt m y := fun {xs} d y hy => by
    obtain ⟨m, rfl⟩ : ∃ k, m = k + 1 := ⟨m - 1, by
      have := d.flt.2
      simp only [PyData.depth] at this
      omega⟩
    exact (d.tup.mem hy).mono (by omega)
  split at hx
  · split at hx
    · exact tup hr.tail.1 x hx
    · exact (List.not_mem_nil hx).elim
  · split at hx
    · rename_i e
      subst e
      split at hx
      · simp [isS] at hs
        obtain ⟨y, hy, rfl⟩ := List.mem_map.mp hx
        obtain ⟨a, b, rfl⟩ := isPr_snd (hs.2 y hy)
        have d := tup hr.tail.1 _ hy
        exact tup d b (by simp)
      · exact (List.not_mem_nil hx).elim
    · split at hx
      · split at hx
        · exact List.mem_singleton.mp hx ▸ hr.mem (by simp)
        · exact (List.not_mem_nil hx).elim
      · split at hx
        · split at hx
          · exact List.mem_singleton.mp hx ▸ hr.mem (by simp)
          · exact (List.not_mem_nil hx).elim
        · exact (List.not_mem_nil hx).elim
theorem open_ok {f ff sf pf : Nat → Cf} (h : ∀ k ds s, f (k + 1) ds s = runB 6 (tm_c_is_open_term (ff k) (sf k) (f k) (pf k)) ds s) (hf : FlatOk' ff) (hs : ShapeOk sf) (hp : PartsA pf) : OpenOk f := by
  intro n
  induction n with
  | zero =>
    intro k ns i x s m hk hl hx hm
    obtain ⟨k, rfl⟩ : ∃ n, k = n + 1 := ⟨k - 1, by omega⟩
    rw [h, runB_eq]
    generalize f k = C
    generalize ff k = F
    generalize sf k = S
    generalize pf k = P
    unfold tm_c_is_open_term nmT
    cases x with
    | tuple xs =>
      match xs with
      | [] => simp [iot]
      | a :: r =>
        have e0 : ¬ ((r.length : Int) + 1 = 0) := by omega
        cases a with
        | str w => simp [iot, ixp0, e0, t8]
        | _ => simp [iot, ixp0, e0, kindD, t4, t5, t6, t7, t9, t10]
    | _ => simp [iot, kindD, t3]
  | succ n ih =>
    intro k ns i x s m hk hl hx hm
    obtain ⟨k, rfl⟩ : ∃ n, k = n + 1 := ⟨k - 1, by omega⟩
    by_cases hsh : ∃ w r, x = .tuple (.str w :: r)
    · obtain ⟨w, r, rfl⟩ := hsh
      obtain ⟨m, rfl⟩ : ∃ k, m = k + 1 := ⟨m - 1, by
        have := hx.flt.2
        simp only [PyData.depth] at this
        omega⟩
      obtain ⟨_, hr⟩ := hx.tail
      rw [h, runB_eq]
      have ih := fun ns i x s m => ih k ns i x s m (by omega)
      have f1 := hf k w r s m (by omega) hr
      have s1 := hs k w r s m (by omega) hr (by omega)
      have p1 := hp k w r s (by omega)
      generalize f k = C at *
      generalize ff k = F at *
      generalize sf k = S at *
      generalize pf k = P at *
      unfold nmT at *
      unfold tm_c_is_open_term
      have e0 : ¬ ((r.length : Int) + 1 = 0) := by omega
      have e3 : ¬ ((n : Int) + 1 = 0) := by omega
      have e4 : (n : Int) + 1 - 1 = n := by omega
      unfold iot
      by_cases c1 : isF w r = true
      · rw [c1] at f1
        by_cases a1 : w = q_self
        · subst a1
          simp [ixp0, t8, e0, e3, f1, c1]
        · have ni := notin_names (y := w) (ns := [q_var, q_upto]) (s := s)
          rw [show List.map PyData.str [q_var, q_upto] = [.str q_var, .str q_upto] from rfl] at ni
          by_cases a2 : w = q_var ∨ w = q_upto
          · rw [decide_eq_true (by simpa using a2)] at ni
            have hxx : ∃ v, r = [v] := by
              unfold isF at c1
              have n1 : ¬ (w = q_discard ∨ w = q_self) := by rcases a2 with rfl | rfl <;> simp
              have n2 : ¬ w = q_const := by rcases a2 with rfl | rfl <;> simp
              rw [if_neg n1, if_neg n2, if_pos a2] at c1
              split at c1
              · exact ⟨_, rfl⟩
              · cases c1
            obtain ⟨v, rfl⟩ := hxx
            have hv : isN v = true := by
              unfold isF at c1
              have n1 : ¬ (w = q_discard ∨ w = q_self) := by rcases a2 with rfl | rfl <;> simp
              have n2 : ¬ w = q_const := by rcases a2 with rfl | rfl <;> simp
              rw [if_neg n1, if_neg n2, if_pos a2] at c1
              exact c1
            obtain ⟨z, rfl⟩ := isN_str hv
            have iz := in_names (y := z) (ns := ns) (s := s)
            simp [ixp0, ixp1, t8, e3, f1, c1, a1, a2, ni, iz, PySem.sizeLine_eq, strIn]
          · rw [decide_eq_false (by simpa using a2)] at ni
            simp [ixp0, t8, e0, e3, f1, c1, a1, a2, ni, PySem.sizeLine_eq]
      · have c1 : isF w r = false := by simpa using c1
        rw [c1] at f1
        by_cases c2 : isS w r = true
        · rw [c2] at s1
          by_cases a1 : w = q_let
          · subst a1
            have hxx : ∃ z a b, r = [.str z, a, b] := by
              simp [isS] at c2
              split at c2
              · obtain ⟨z, rfl⟩ := isN_str c2
                exact ⟨_, _, _, rfl⟩
              · cases c2
            obtain ⟨z, a, b, rfl⟩ := hxx
            have i1 := ih ns i a s m (by omega) hr.tail.2.tail.1 (by omega)
            have i2 := ih (ns ++ [z]) i b s m (by simp; omega) hr.tail.2.tail.2.tail.1 (by omega)
            rw [List.map_append, List.map_cons, List.map_nil] at i2
            have sz : ns.length + 1 ≤ 16777216 := by omega
            cases hb : iot n ns i a with
            | true =>
              rw [hb] at i1
              simp [ixp0, ixp1, ixp2, ixp3, t8, e3, e4, f1, s1, c1, c2, i1, i2, hb, PySem.sizeLine_eq, sz]
            | false =>
              rw [hb] at i1
              simp [ixp0, ixp1, ixp2, ixp3, t8, e3, e4, f1, s1, c1, c2, i1, hb, PySem.sizeLine_eq]
          · by_cases a2 : w = q_grow
            · subst a2
              have hxx : ∃ z a b, r = [z, a, b] := by
                simp [isS] at c2
                split at c2
                · exact ⟨_, _, _, rfl⟩
                · cases c2
              obtain ⟨z, a, b, rfl⟩ := hxx
              have i1 := ih ns i a s m (by omega) hr.tail.2.tail.1 (by omega)
              have i2 := ih ns true b s m (by omega) hr.tail.2.tail.2.tail.1 (by omega)
              cases hb : iot n ns i a with
              | true =>
                rw [hb] at i1
                simp [ixp0, ixp1, ixp2, ixp3, t8, e3, e4, f1, s1, c1, c2, i1, i2, hb]
              | false =>
                rw [hb] at i1
                simp [ixp0, ixp1, ixp2, ixp3, t8, e3, e4, f1, s1, c1, c2, i1, hb]
            · obtain ⟨p2, p3⟩ := p1 c2 a1 a2
              have q := eLc_map (vs := [5]) (fi := iSeq (eCall P [] (aCons (eVar 0) aNil))) (g := gSet 5) (f := eCall C [] (aCons (eVar 5) (aCons (eVar 1) (aCons (eVar 2) (aCons (eOp hSub (eVar 3) (eC (.int 1))) aNil))))) (e := [some (.p (.tuple (.str w :: r))), some (.p (.tuple (ns.map PyData.str))), some (DB i), some (DI ((n : Int) + 1)), some (.p (.str w)), none]) (s := s)
                (xs := prts w r) (ys := ((prts w r).map (iot n ns i)).map PyData.bool) (by simp [p2]) (by simp) (by omega) (fun j h1 h2 => by
                  have wp : wipeE [some (.p (.tuple (.str w :: r))), some (.p (.tuple (ns.map PyData.str))), some (DB i), some (DI ((n : Int) + 1)), some (.p (.str w)), none] [5] = [some (.p (.tuple (.str w :: r))), some (.p (.tuple (ns.map PyData.str))), some (DB i), some (DI ((n : Int) + 1)), some (.p (.str w)), none] := rfl
                  have i1 := ih ns i (prts w r)[j] s m (by omega) (prts_dt hr c2 _ (List.getElem_mem h1)) (by omega)
                  rw [wp]
                  simp [i1, e4])
              have hs := hAll_bools (s := s) ((prts w r).map (iot n ns i))
              rw [List.all_map, show ((prts w r).all (id ∘ iot n ns i)) = (prts w r).all (iot n ns i) from rfl] at hs
              generalize ((prts w r).map (iot n ns i)).map PyData.bool = ys at *
              simp [ixp0, t8, e0, e3, f1, s1, c1, c2, a1, a2, q, hs]
        · have c2 : isS w r = false := by simpa using c2
          rw [c2] at s1
          simp [ixp0, t8, e0, e3, f1, s1, c1, c2]
    · rw [iot_not fun w r e => hsh ⟨w, r, e⟩, h, runB_eq]
      generalize f k = C
      generalize ff k = F
      generalize sf k = S
      generalize pf k = P
      unfold tm_c_is_open_term nmT
      cases x with
      | tuple xs =>
        match xs with
        | [] => simp
        | a :: r =>
          have e0 : ¬ ((r.length : Int) + 1 = 0) := by omega
          cases a with
          | str w => exact absurd ⟨w, r, rfl⟩ hsh
          | _ => simp [ixp0, e0, kindD, t4, t5, t6, t7, t9, t10]
      | _ => simp [kindD, t3]
end Dl
/-! The data layer: which terms is_term takes, and that a fault anywhere is refused (plain Lean). -/
namespace Dl
open PySem
/-- a head with parts, as it may stand over k parts -/
def HdG : Hd → Nat → Prop
  | .map p, k => isO p = true ∧ k = 1
  | .keep t n, k => isT 6 t = true ∧ 1 ≤ n ∧ n ≤ 4 ∧ k = 1
  | .list a b, k => 0 ≤ a ∧ a ≤ b ∧ b ≤ 6 ∧ k = 1
  | .lett x, k => isN (.str x) = true ∧ k = 2
  | .grow n, k => 0 ≤ n ∧ n ≤ 4 ∧ k = 2
  | .pick, k => 1 ≤ k ∧ k ≤ 64
  | .weigh ws, k => k = ws.length ∧ 1 ≤ k ∧ k ≤ 64 ∧ ∀ w ∈ ws, 1 ≤ w ∧ w ≤ 1000000000000000
  | .tuple, k => k ≤ 64
  | _, _ => False
/-- a head without parts -/
def LfG (ns : List Str) (i : Bool) : Hd → Prop
  | .self => i = true
  | .discard => True
  | .var x => isN (.str x) = true ∧ x ∈ ns
  | .upto x => isN (.str x) = true ∧ x ∈ ns
  | .range a b => -1000 ≤ a ∧ a ≤ 1000 ∧ a ≤ b ∧ b ≤ a + 63
  | .shuffle v => ∃ xs, v = .tuple xs ∧ xs.length ≤ 4 ∧ isV 8 v = true
  | .const v => isV 8 v = true
  | _ => False
/-- the parts' turn -/
def brn (F : List Str → Bool → PyData → Bool) (ns : List Str) (i : Bool) : Hd → List PyData → Bool
  | .lett x, [a, b] => F ns i a && F (ns ++ [x]) i b
  | .grow _, [a, b] => F ns i a && F ns true b
  | _, ps => ps.all (F ns i)
theorem zip_prs {ws : List Int} : ∀ {ps : List PyData}, ps.length = ws.length → (∀ w ∈ ws, 1 ≤ w ∧ w ≤ 1000000000000000) → (List.zipWith wp2 ws ps).all isPr = true ∧ (List.zipWith wp2 ws ps).map snd = ps := by
  induction ws with
  | nil =>
    intro ps h _
    have : ps = [] := List.eq_nil_of_length_eq_zero h
    subst this
    exact ⟨rfl, rfl⟩
  | cons w ws ih =>
    intro ps h hw
    cases ps with
    | nil => simp at h
    | cons p ps =>
      obtain ⟨i1, i2⟩ := ih (ps := ps) (by simpa using h) fun x hx => hw x (by simp [hx])
      have hw0 := hw w (by simp)
      refine ⟨?_, ?_⟩
      · rw [List.zipWith_cons_cons, List.all_cons, i1]
        simp [wp2, isPr, inI, hw0]
      · rw [List.zipWith_cons_cons, List.map_cons, i2]
        rfl
theorem iot_node {n : Nat} {ns : List Str} {i : Bool} {h : Hd} {ps : List PyData} (g : HdG h ps.length) : iot (n + 1) ns i (encH h ps) = brn (iot n) ns i h ps := by
  cases h with
  | map p =>
    obtain ⟨g1, g2⟩ := g
    obtain ⟨a, rfl⟩ := len1 g2
    simp [encH, iot, isF, isS, g1, prts, brn]
  | keep t m =>
    obtain ⟨g1, g2, g3, g4⟩ := g
    obtain ⟨a, rfl⟩ := len1 g4
    simp [encH, iot, isF, isS, g1, g2, g3, inI, prts, brn]
  | list a b =>
    obtain ⟨g1, g2, g3, g4⟩ := g
    obtain ⟨p, rfl⟩ := len1 g4
    have : a ≤ 6 := by omega
    simp [encH, iot, isF, isS, g1, g2, g3, this, inI, prts, brn]
  | lett x =>
    obtain ⟨g1, g2⟩ := g
    obtain ⟨a, b, rfl⟩ := len2 g2
    simp [encH, iot, isF, isS, g1, brn]
  | grow m =>
    obtain ⟨g1, g2, g3⟩ := g
    obtain ⟨a, b, rfl⟩ := len2 g3
    simp [encH, iot, isF, isS, g1, g2, inI, brn]
  | pick =>
    obtain ⟨g1, g2⟩ := g
    simp [encH, iot, isF, isS, g1, g2, prts, brn]
  | weigh ws =>
    obtain ⟨g1, g2, g3, g4⟩ := g
    obtain ⟨z1, z2⟩ := zip_prs g1 g4
    have l : (List.zipWith wp2 ws ps).length = ps.length := by simp; omega
    show iot (n + 1) ns i (.tuple [.str q_weigh, .tuple (List.zipWith wp2 ws ps)]) = _
    generalize List.zipWith wp2 ws ps = qs at *
    simp [iot, isF, isS, l, g2, g3, z1, prts, brn, z2]
  | tuple =>
    simp [encH, iot, isF, isS, show ps.length ≤ 64 from g, prts, brn]
  | _ => exact g.elim
theorem iot_leaf {n : Nat} {ns : List Str} {i : Bool} {h : Hd} {ps : List PyData} (g : LfG ns i h) : iot (n + 1) ns i (encH h ps) = true := by
  cases h with
  | self =>
    have g : i = true := g
    subst g
    simp [encH, iot, isF]
  | discard => simp [encH, iot, isF]
  | var x =>
    obtain ⟨g1, g2⟩ := g
    simp [encH, iot, isF, g1, strIn, g2]
  | upto x =>
    obtain ⟨g1, g2⟩ := g
    simp [encH, iot, isF, g1, strIn, g2]
  | range a b =>
    obtain ⟨g1, g2, g3, g4⟩ := g
    simp [encH, iot, isF, inI, g1, g2, g3, g4]
  | shuffle v =>
    obtain ⟨xs, rfl, g2, g3⟩ := g
    simp [encH, iot, isF, g2, g3]
  | const v => simp [encH, iot, isF, show isV 8 v = true from g]
  | _ => exact g.elim
/-- the terms of at most that depth -/
inductive Wt (N : Str → Prop) : List Str → Bool → Nat → Tm → Prop
  | leaf (ns i d h) (g : LfG ns i h) : Wt N ns i (d + 1) (.node h [])
  | lett (ns i d x a b) (g : HdG (.lett x) 2) (nx : N x) (ha : Wt N ns i d a) (hb : Wt N (ns ++ [x]) i d b) : Wt N ns i (d + 1) (.node (.lett x) [a, b])
  | grow (ns i d n a b) (g : HdG (.grow n) 2) (ha : Wt N ns i d a) (hb : Wt N ns true d b) : Wt N ns i (d + 1) (.node (.grow n) [a, b])
  | node (ns i d h l) (g : HdG h l.length) (n1 : hdS h ≠ q_let) (n2 : hdS h ≠ q_grow) (hl : ∀ t ∈ l, Wt N ns i d t) : Wt N ns i (d + 1) (.node h l)
theorem brn_all {F : List Str → Bool → PyData → Bool} {ns : List Str} {i : Bool} {h : Hd} {ps : List PyData} (n1 : hdS h ≠ q_let) (n2 : hdS h ≠ q_grow) : brn F ns i h ps = ps.all (F ns i) := by
  cases h with
  | lett => exact absurd rfl n1
  | grow => exact absurd rfl n2
  | _ => rfl
theorem Wt.ok {N : Str → Prop} {ns : List Str} {i : Bool} {d : Nat} {t : Tm} (w : Wt N ns i d t) : ∀ {n : Nat}, d ≤ n → iot n ns i t.enc = true := by
  induction w with
  | leaf ns i d h g =>
    intro n hn
    obtain ⟨n, rfl⟩ : ∃ m, n = m + 1 := ⟨n - 1, by omega⟩
    rw [Tm.enc_node]
    exact iot_leaf g
  | lett ns i d x a b g nx ha hb ia ib =>
    intro n hn
    obtain ⟨n, rfl⟩ : ∃ m, n = m + 1 := ⟨n - 1, by omega⟩
    rw [Tm.enc_node, iot_node g]
    simp [brn, ia (n := n) (by omega), ib (n := n) (by omega)]
  | grow ns i d m a b g ha hb ia ib =>
    intro n hn
    obtain ⟨n, rfl⟩ : ∃ m, n = m + 1 := ⟨n - 1, by omega⟩
    rw [Tm.enc_node, iot_node g]
    simp [brn, ia (n := n) (by omega), ib (n := n) (by omega)]
  | node ns i d h l g n1 n2 hl ih =>
    intro n hn
    obtain ⟨n, rfl⟩ : ∃ m, n = m + 1 := ⟨n - 1, by omega⟩
    rw [Tm.enc_node, iot_node (by rw [List.length_map]; exact g), brn_all n1 n2, List.all_eq_true]
    intro x hx
    obtain ⟨t, ht, rfl⟩ := List.mem_map.mp hx
    exact ih t ht (by omega)

theorem isN_nm {x : Str} (h : isNm x) : isN (.str x) = true := by
  rcases h with rfl | rfl | rfl <;> decide +kernel
theorem Vg.isV {d : Nat} {x : PyData} (h : Vg d x) : ∀ {n : Nat}, d ≤ n → Dl.isV n x = true := by
  induction h with
  | int d i h1 h2 =>
    intro n _
    cases n <;> rfl
  | tup d xs hl h ih =>
    intro n hn
    obtain ⟨n, rfl⟩ : ∃ m, n = m + 1 := ⟨n - 1, by omega⟩
    have : xs.all (Dl.isV n) = true := List.all_eq_true.mpr fun x hx => ih x hx (by omega)
    simp only [Dl.isV, this, Bool.and_true, decide_eq_true_eq]
    omega
theorem Tedr.isT {d : Nat} {t : Te} (h : Tedr d t) : ∀ {n : Nat}, d + 1 ≤ n → Dl.isT n t.enc = true := by
  induction h with
  | equals d v h =>
    intro n hn
    obtain ⟨n, rfl⟩ : ∃ m, n = m + 1 := ⟨n - 1, by omega⟩
    simp [Te.enc, Dl.isT, isW, h.isV (n := 8) (by omega)]
  | size d i h1 h2 =>
    intro n hn
    obtain ⟨n, rfl⟩ : ∃ m, n = m + 1 := ⟨n - 1, by omega⟩
    simp [Te.enc, Dl.isT, isW, isInt]
  | less d i h1 h2 =>
    intro n hn
    obtain ⟨n, rfl⟩ : ∃ m, n = m + 1 := ⟨n - 1, by omega⟩
    simp [Te.enc, Dl.isT, isW, isInt]
  | even d =>
    intro n hn
    obtain ⟨n, rfl⟩ : ∃ m, n = m + 1 := ⟨n - 1, by omega⟩
    simp [Te.enc, Dl.isT, isW]
  | rising d =>
    intro n hn
    obtain ⟨n, rfl⟩ : ∃ m, n = m + 1 := ⟨n - 1, by omega⟩
    simp [Te.enc, Dl.isT, isW]
  | not d t h ih =>
    intro n hn
    obtain ⟨n, rfl⟩ : ∃ m, n = m + 1 := ⟨n - 1, by omega⟩
    simp [Te.enc, Dl.isT, isW, ih (n := n) (by omega)]
  | all d t h ih =>
    intro n hn
    obtain ⟨n, rfl⟩ : ∃ m, n = m + 1 := ⟨n - 1, by omega⟩
    simp [Te.enc, Dl.isT, isW, ih (n := n) (by omega)]
  | any d t h ih =>
    intro n hn
    obtain ⟨n, rfl⟩ : ∃ m, n = m + 1 := ⟨n - 1, by omega⟩
    simp [Te.enc, Dl.isT, isW, ih (n := n) (by omega)]
  | both d a b h1 h2 i1 i2 =>
    intro n hn
    obtain ⟨n, rfl⟩ : ∃ m, n = m + 1 := ⟨n - 1, by omega⟩
    simp [Te.enc, Dl.isT, isW, i1 (n := n) (by omega), i2 (n := n) (by omega)]
  | either d a b h1 h2 i1 i2 =>
    intro n hn
    obtain ⟨n, rfl⟩ : ∃ m, n = m + 1 := ⟨n - 1, by omega⟩
    simp [Te.enc, Dl.isT, isW, i1 (n := n) (by omega), i2 (n := n) (by omega)]
theorem Og.isO {p : Op} (h : Og p) : Dl.isO p.enc = true := by
  cases h with
  | add n h1 h2 =>
    have : -1000 ≤ n ∧ n ≤ 1000 := by omega
    simp [Op.enc, Dl.isO, lone, inI, this]
  | mul n h1 h2 =>
    have : -1000 ≤ n ∧ n ≤ 1000 := by omega
    simp [Op.enc, Dl.isO, lone, inI, this]
  | mod n h1 h2 =>
    have : 1 ≤ n ∧ n ≤ 1000 := by omega
    simp [Op.enc, Dl.isO, lone, inI, this]
  | _ => simp [Op.enc, Dl.isO, lone]
theorem Tg.wt {ns : List Str} {i : Bool} {d : Nat} {t : Tm} (h : Tg ns i d t) (hn : ∀ x ∈ ns, isNm x) : Wt isNm ns i (d + 1) t := by
  induction h with
  | self ns d => exact .leaf _ _ _ _ rfl
  | var ns i d x h => exact .leaf _ _ _ _ ⟨isN_nm (hn x h), h⟩
  | upto ns i d x h => exact .leaf _ _ _ _ ⟨isN_nm (hn x h), h⟩
  | range ns i d a b h1 h2 h3 h4 => exact .leaf _ _ _ _ ⟨by omega, by omega, h3, by omega⟩
  | shuffle ns i d vs h1 h2 =>
    refine .leaf _ _ _ _ ⟨_, rfl, by simpa using h1, ?_⟩
    have : (vs.map PyData.int).all (Dl.isV 7) = true := by
      rw [List.all_map]
      exact List.all_eq_true.mpr fun x _ => rfl
    simp only [Dl.isV, this, Bool.and_true, decide_eq_true_eq, List.length_map]
    omega
  | discard ns i d => exact .leaf _ _ _ _ trivial
  | const ns i d v h => exact .leaf _ _ _ _ (h.isV (by omega))
  | map ns i d p t h1 h2 ih => exact .node _ _ _ _ _ ⟨h1.isO, rfl⟩ (by simp [hdS]) (by simp [hdS]) fun _ h => List.mem_singleton.mp h ▸ ih hn
  | keep ns i d e t n h1 h2 h3 h4 ih => exact .node _ _ _ _ _ ⟨h1.isT (by omega), h2, by omega, rfl⟩ (by simp [hdS]) (by simp [hdS]) fun _ h => List.mem_singleton.mp h ▸ ih hn
  | list ns i d t a b h1 h2 h3 h4 h5 ih => exact .node _ _ _ _ _ ⟨h1, h3, by omega, rfl⟩ (by simp [hdS]) (by simp [hdS]) fun _ h => List.mem_singleton.mp h ▸ ih hn
  | lett ns i d x a b h1 h2 h3 ia ib =>
    exact .lett _ _ _ _ _ _ ⟨isN_nm h1, rfl⟩ h1 (ia hn) (ib fun z hz => by
      rcases List.mem_append.mp hz with h | h
      · exact hn z h
      · exact List.mem_singleton.mp h ▸ h1)
  | grow ns i d a b n h1 h2 h3 h4 ia ib => exact .grow _ _ _ _ _ _ ⟨h1, by omega, rfl⟩ (ia hn) (ib hn)
  | pick ns i d l h1 h2 h3 ih => exact .node _ _ _ _ _ ⟨h1, by omega⟩ (by simp [hdS]) (by simp [hdS]) fun t ht => ih t ht hn
  | weigh ns i d l ws h0 h1 h2 h4 h3 ih => exact .node _ _ _ _ _ ⟨h0, h1, by omega, fun w hw => by have := h4 w hw; omega⟩ (by simp [hdS]) (by simp [hdS]) fun t ht => ih t ht hn
  | tuple ns i d l h2 h3 ih => exact .node _ _ _ _ _ (by show l.length ≤ 64; omega) (by simp [hdS]) (by simp [hdS]) fun t ht => ih t ht hn

/-! ### a fault at a place -/
mutual
def szT : Tm → Nat
  | .node _ l => 1 + szL l
def szL : List Tm → Nat
  | [] => 0
  | t :: l => szT t + szL l
end
mutual
/-- the term with x in the place of the inner term of that number -/
def putT (x : PyData) : Tm → Nat → PyData
  | .node _ _, 0 => x
  | .node h l, n + 1 => encH h (putL x l n)
def putL (x : PyData) : List Tm → Nat → List PyData
  | [], _ => []
  | t :: l, n => if n < szT t then putT x t n :: l.map Tm.enc else t.enc :: putL x l (n - szT t)
end
def isG : Hd → Bool
  | .grow _ => true
  | _ => false
mutual
/-- stands that place in the step of a grow? -/
def insT : Tm → Nat → Bool
  | .node _ _, 0 => false
  | .node h l, n + 1 => insL (isG h) 0 l n
def insL (g : Bool) : Nat → List Tm → Nat → Bool
  | _, [], _ => false
  | k, t :: l, n => if n < szT t then (g && decide (k = 1)) || insT t n else insL g (k + 1) l (n - szT t)
end
theorem putL_len {x : PyData} : ∀ {l : List Tm} {n : Nat}, (putL x l n).length = l.length
  | [], _ => by simp [putL]
  | t :: l, n => by
    rw [putL]
    split
    · simp
    · simp [putL_len]
/-- refused wherever the names and the grows allow -/
def Bad (N : Str → Prop) (sf : Prop) (x : PyData) : Prop := ∀ (n : Nat) (ns : List Str) (i : Bool), (∀ y ∈ ns, N y) → (sf → i = false) → iot n ns i x = false
theorem putL_at {x : PyData} {g : Bool} {P : PyData → Prop} {sf : Prop} : ∀ {l : List Tm} {k n : Nat}, n < szL l → (sf → insL g k l n = false) → (∀ t ∈ l, ∀ m, m < szT t → (sf → insT t m = false) → P (putT x t m)) → ∃ y ∈ putL x l n, P y
  | [], k, n, h, _, _ => by simp [szL] at h
  | t :: l, k, n, h, q, f => by
    rw [szL] at h
    rw [insL] at q
    rw [putL]
    split
    · rename_i c
      rw [if_pos c] at q
      exact ⟨_, List.mem_cons_self, f t (by simp) n c fun s => (Bool.or_eq_false_iff.mp (q s)).2⟩
    · rename_i c
      rw [if_neg c] at q
      obtain ⟨y, hy, r⟩ := putL_at (x := x) (P := P) (sf := sf) (l := l) (k := k + 1) (n := n - szT t) (by omega) q fun u hu m hm hs => f u (by simp [hu]) m hm hs
      exact ⟨y, List.mem_cons_of_mem _ hy, r⟩
theorem rej {N : Str → Prop} {sf : Prop} {x : PyData} (bad : Bad N sf x) {ns : List Str} {i : Bool} {d : Nat} {t : Tm} (w : Wt N ns i d t) : (∀ y ∈ ns, N y) → (sf → i = false) → ∀ at', at' < szT t → (sf → insT t at' = false) → ∀ n, iot n ns i (putT x t at') = false := by
  induction w with
  | leaf ns i d h g =>
    intro hns hi at' ha hs n
    cases at' with
    | zero => rw [putT]; exact bad n ns i hns hi
    | succ m => simp [szT, szL] at ha
  | lett ns i d z a b g nz ha hb ia ib =>
    intro hns hi at' hat hs n
    cases at' with
    | zero => rw [putT]; exact bad n ns i hns hi
    | succ m =>
      cases n with
      | zero => rfl
      | succ n =>
        rw [putT, iot_node (by rw [putL_len]; exact g)]
        rw [szT, szL, szL, szL] at hat
        rw [putL]
        by_cases c : m < szT a
        · rw [if_pos c]
          have := ia hns hi m c (fun s => by
            have := hs s
            rw [insT, insL, if_pos c] at this
            exact (Bool.or_eq_false_iff.mp this).2) n
          simp [brn, this]
        · rw [if_neg c, putL, if_pos (by omega)]
          have := ib (fun y hy => by
            rcases List.mem_append.mp hy with hy | hy
            · exact hns y hy
            · exact List.mem_singleton.mp hy ▸ nz) hi (m - szT a) (by omega) (fun s => by
            have := hs s
            rw [insT, insL, if_neg c, insL, if_pos (by omega)] at this
            exact (Bool.or_eq_false_iff.mp this).2) n
          simp [brn, this]
  | grow ns i d z a b g ha hb ia ib =>
    intro hns hi at' hat hs n
    cases at' with
    | zero => rw [putT]; exact bad n ns i hns hi
    | succ m =>
      cases n with
      | zero => rfl
      | succ n =>
        rw [putT, iot_node (by rw [putL_len]; exact g)]
        rw [szT, szL, szL, szL] at hat
        rw [putL]
        by_cases c : m < szT a
        · rw [if_pos c]
          have := ia hns hi m c (fun s => by
            have := hs s
            rw [insT, insL, if_pos c] at this
            exact (Bool.or_eq_false_iff.mp this).2) n
          simp [brn, this]
        · rw [if_neg c, putL, if_pos (by omega)]
          have := ib hns (fun s => by
            have := hs s
            rw [insT, insL, if_neg c, insL, if_pos (by omega)] at this
            simp [isG] at this) (m - szT a) (by omega) (fun s => by
            have := hs s
            rw [insT, insL, if_neg c, insL, if_pos (by omega)] at this
            exact (Bool.or_eq_false_iff.mp this).2) n
          simp [brn, this]
  | node ns i d h l g n1 n2 hl ih =>
    intro hns hi at' hat hs n
    cases at' with
    | zero => rw [putT]; exact bad n ns i hns hi
    | succ m =>
      cases n with
      | zero => rfl
      | succ n =>
        rw [putT, iot_node (by rw [putL_len]; exact g), brn_all n1 n2]
        rw [szT] at hat
        obtain ⟨y, hy, q⟩ := putL_at (x := x) (g := isG h) (P := fun y => iot n ns i y = false) (sf := sf) (l := l) (k := 0) (n := m) (by omega) (fun s => by
          have := hs s
          rw [insT] at this
          exact this) fun t ht m hm hs => ih t ht hns hi m hm hs n
        rw [Bool.eq_false_iff]
        intro c
        rw [List.all_eq_true] at c
        rw [c y hy] at q
        cases q
end Dl
/-! law k04: the law keeps (plain Lean). -/
namespace Lk04
open PySem
open Dl hiding m_Invalid
theorem neg1 {xs : List PyData} {x : PyData} {s : Sto} : hIx (.p (.tuple (xs ++ [x]))) (.p (.int (-1))) s = .ok (.p x) s := hIx_tlast (by simp)
theorem parts1 {h : Hd} {ps : List PyData} {s : Sto} (ha : ar h ps.length) (hl : ps.length ≤ 64) : runB 2 tm_law_parts [.p (encH h ps)] s = .ok (.p (.list ps)) s := by
  rw [runB_eq]
  unfold tm_law_parts
  have lkm := fun y => in_lkm (y := y) (s := s)
  cases h with
  | weigh ws =>
    have q := eLc_map (vs := [1]) (fi := iSeq (eOp hIx (eVar 0) (eC (.int 1)))) (g := gSet 1) (f := eOp hIx (eVar 1) (eC (.int 1))) (e := [some (.p (.tuple [.str Dl.q_weigh, .tuple (List.zipWith wp2 ws ps)])), none]) (s := s) (xs := List.zipWith wp2 ws ps) (ys := ps) (by simp [ixp1]) (by simp; have : ps.length = ws.length := ha; omega) (by simp; omega) (fun i h1 h2 => by
      have w : wipeE [some (.p (.tuple [.str Dl.q_weigh, .tuple (List.zipWith wp2 ws ps)])), none] [1] = [some (.p (.tuple [.str Dl.q_weigh, .tuple (List.zipWith wp2 ws ps)])), none] := rfl
      rw [w]
      simp [wp2, ixp1])
    simp [encH, ixp0, q]
  | pick => simp [encH, ixp0, ixp1]
  | tuple => simp [encH, ixp0, ixp1]
  | map op =>
    obtain ⟨a, rfl⟩ := len1 ha
    have := neg1 (xs := [.str Dl.q_map, op]) (x := a) (s := s)
    simp at this
    simp [encH, ixp0, lkm, this, PySem.sizeLine_eq]
  | keep t n =>
    obtain ⟨a, rfl⟩ := len1 ha
    have := neg1 (xs := [.str Dl.q_keep, t, .int n]) (x := a) (s := s)
    simp at this
    simp [encH, ixp0, lkm, this, PySem.sizeLine_eq]
  | list b n =>
    obtain ⟨a, rfl⟩ := len1 ha
    have := neg1 (xs := [.str Dl.q_list, .int b, .int n]) (x := a) (s := s)
    simp at this
    simp [encH, ixp0, lkm, this, PySem.sizeLine_eq]
  | lett x =>
    obtain ⟨a, b, rfl⟩ := len2 ha
    simp [encH, ixp0, ixp2, ixp3, lkm, PySem.sizeLine_eq]
  | grow x =>
    obtain ⟨a, b, rfl⟩ := len2 ha
    simp [encH, ixp0, ixp2, ixp3, lkm, PySem.sizeLine_eq]
  | _ =>
    have := len0 ha
    subst this
    simp [encH, ixp0, lkm, PySem.sizeLine_eq]
theorem parts_v {d : Nat} {t : Tm} (w : Wf d t) (k : Nat) (hk : 1 ≤ k) (s : Sto) : ∃ h l, t = .node h l ∧ fnk k .law_parts [.p t.enc] s = .ok (.p (.list (l.map Tm.enc))) s := by
  cases w with
  | mk d h l ha hl hc =>
    obtain ⟨k, rfl⟩ : ∃ n, k = n + 1 := ⟨k - 1, by omega⟩
    refine ⟨h, l, rfl, ?_⟩
    rw [Tm.enc_node]
    exact (fnk_law_parts k _ _).trans (parts1 (by simpa using ha) (by simpa using hl))
theorem szL_sum : ∀ l : List Tm, ((l.map fun t => (szT t : Int))).sum = (szL l : Nat)
  | [] => rfl
  | t :: l => by
    rw [List.map_cons, List.sum_cons, szL_sum l, szL]
    omega
theorem count_v : ∀ {d : Nat} {t : Tm}, Wf d t → ∀ (k : Nat) s, d + 2 ≤ k → fnk k .law_count [.p t.enc] s = .ok (DI (szT t : Nat)) s := by
  intro d
  induction d with
  | zero => intro t w; cases w
  | succ d ih =>
    intro t w k s hk
    obtain ⟨k, rfl⟩ : ∃ n, k = n + 1 := ⟨k - 1, by omega⟩
    obtain ⟨h, l, rfl, p⟩ := parts_v w k (by omega) s
    cases w with
    | mk _ _ _ ha hl hc =>
    have ih := fun t ht s => ih (hc t ht) k s (by omega)
    rw [fnk_law_count, runB_eq]
    show rsOut (tm_law_count (fnk k .law_parts) (fnk k .law_count) _ s) = _
    generalize fnk k = C at *
    unfold tm_law_count
    have q := eLc_map (vs := [1]) (fi := iSeq (eCall (C .law_parts) [] (aCons (eVar 0) aNil))) (g := gSet 1) (f := eCall (C .law_count) [] (aCons (eVar 1) aNil)) (e := [some (.p (Tm.node h l).enc), none]) (s := s) (xs := l.map Tm.enc) (ys := (l.map fun t => (szT t : Int)).map PyData.int) (by simp [p]) (by simp) (by simp; omega) (fun i h1 h2 => by
      have w : wipeE [some (.p (Tm.node h l).enc), none] [1] = [some (.p (Tm.node h l).enc), none] := rfl
      have h3 : i < l.length := by simpa using h1
      have := ih l[i] (List.getElem_mem h3) s
      rw [w]
      simp [this])
    have hs := hSum_ints (s := s) (l.map fun t => (szT t : Int))
    rw [szL_sum] at hs
    generalize (l.map fun t => (szT t : Int)).map PyData.int = ys at *
    simp [q, hs, szT]
def putR : SV :=
  (sSeq (sIf (tOr (tB (eOp hEq (eOp hIx (eVar 0) (eC (.int 0))) (eC (.str Dl.q_pick)))) (tB (eOp hEq (eOp hIx (eVar 0) (eC (.int 0))) (eC (.str Dl.q_tuple)))))
  (sRet (eTup (aCons (eOp hIx (eVar 0) (eC (.int 0))) (aCons (eOp hAdd (eOp hAdd (eCut false (eOp hIx (eVar 0) (eC (.int 1))) oNone (oSome (eVar 4))) (eTup (aCons (eVar 6) aNil))) (eCut false (eOp hIx (eVar 0) (eC (.int 1))) (oSome (eOp hAdd (eVar 4) (eC (.int 1)))) oNone)) aNil))))
  sNil)
  (sSeq (sIf (tB (eOp hEq (eOp hIx (eVar 0) (eC (.int 0))) (eC (.str Dl.q_weigh))))
  (sRet (eTup (aCons (eOp hIx (eVar 0) (eC (.int 0))) (aCons (eOp hAdd (eOp hAdd (eCut false (eOp hIx (eVar 0) (eC (.int 1))) oNone (oSome (eVar 4))) (eTup (aCons (eTup (aCons (eOp hIx (eOp hIx (eOp hIx (eVar 0) (eC (.int 1))) (eVar 4)) (eC (.int 0))) (aCons (eVar 6) aNil))) aNil))) (eCut false (eOp hIx (eVar 0) (eC (.int 1))) (oSome (eOp hAdd (eVar 4) (eC (.int 1)))) oNone)) aNil))))
  sNil)
  (sSeq (sIf (tOr (tB (eOp hEq (eOp hIx (eVar 0) (eC (.int 0))) (eC (.str Dl.q_let)))) (tB (eOp hEq (eOp hIx (eVar 0) (eC (.int 0))) (eC (.str Dl.q_grow)))))
  (sRet (eOp hAdd (eOp hAdd (eCut false (eVar 0) oNone (oSome (eOp hAdd (eC (.int 2)) (eVar 4)))) (eTup (aCons (eVar 6) aNil))) (eCut false (eVar 0) (oSome (eOp hAdd (eC (.int 3)) (eVar 4))) oNone)))
  sNil)
  (sRet (eOp hAdd (eCut false (eVar 0) oNone (oSome (eNeg (eC (.int 1))))) (eTup (aCons (eVar 6) aNil)))))))
theorem zip_put {ws : List Int} {y : PyData} : ∀ {ps : List PyData} {k : Nat}, ps.length = ws.length → k < ps.length → (List.zipWith wp2 ws ps).take k ++ wp2 (ws.getD k 0) y :: (List.zipWith wp2 ws ps).drop (k + 1) = List.zipWith wp2 ws (ps.take k ++ y :: ps.drop (k + 1)) := by
  induction ws with
  | nil =>
    intro ps k h1 h2
    simp at h1
    subst h1
    simp at h2
  | cons w ws ih =>
    intro ps k h1 h2
    cases ps with
    | nil => simp at h2
    | cons p ps =>
      cases k with
      | zero => simp
      | succ k =>
        have := ih (ps := ps) (k := k) (by simpa using h1) (by simpa using h2)
        simp only [List.zipWith_cons_cons, List.take_succ_cons, List.drop_succ_cons, List.cons_append, List.getD_cons_succ]
        rw [this]
theorem len_put {ps : List PyData} {k : Nat} {y : PyData} (h : k < ps.length) : (ps.take k ++ y :: ps.drop (k + 1)).length = ps.length := by
  simp
  omega
@[simp] theorem hCut_td3 {xs : List PyData} {s : Sto} : hCut false (.p (.tuple xs)) (some 3) none s = .ok (.p (.tuple (xs.drop 3))) s := hCut_tdrop (n := 3)
@[simp] theorem hCut_td4 {xs : List PyData} {s : Sto} : hCut false (.p (.tuple xs)) (some 4) none s = .ok (.p (.tuple (xs.drop 4))) s := hCut_tdrop (n := 4)
theorem putR_ok {h : Hd} {ps : List PyData} {k : Nat} {y : PyData} {e1 e2 e5 : Option D} {s : Sto} (ha : ar h ps.length) (hl : ps.length ≤ 64) (hk : k < ps.length) :
    putR [some (.p (encH h ps)), e1, e2, some (.p (.list ps)), some (DI k), e5, some (.p y)] s = .rt (.p (encH h (ps.take k ++ y :: ps.drop (k + 1)))) s := by
  unfold putR
  have z1 : min k ps.length + 1 ≤ 16777216 := by omega
  have z2 : min k ps.length + 1 + (ps.length - (k + 1)) ≤ 16777216 := by omega
  cases h with
  | pick => simp [encH, ixp0, ixp1, PySem.sizeLine_eq, z1, z2]
  | tuple => simp [encH, ixp0, ixp1, PySem.sizeLine_eq, z1, z2]
  | weigh ws =>
    have ha : ps.length = ws.length := ha
    have zp := zip_put (y := y) ha hk
    have lz : (List.zipWith wp2 ws ps).length = ps.length := by simp; omega
    have ix : ∃ p, hIx (.p (.tuple (List.zipWith wp2 ws ps))) (DI k) s = .ok (.p (wp2 (ws.getD k 0) p)) s := by
      refine ⟨ps[k], hIx_tat ?_⟩
      rw [List.getElem?_eq_getElem (by rw [lz]; exact hk), List.getElem_zipWith, List.getD_eq_getElem?_getD, List.getElem?_eq_getElem (by omega)]
      rfl
    obtain ⟨p, ix⟩ := ix
    show putR [some (.p (.tuple [.str Dl.q_weigh, .tuple (List.zipWith wp2 ws ps)])), e1, e2, some (.p (.list ps)), some (DI k), e5, some (.p y)] s = .rt (.p (.tuple [.str Dl.q_weigh, .tuple (List.zipWith wp2 ws (ps.take k ++ y :: ps.drop (k + 1)))])) s
    rw [← zp]
    clear zp
    generalize List.zipWith wp2 ws ps = qs at *
    have z3 : min k qs.length ≤ 16777215 := by omega
    have z4 : min k qs.length + 1 + (qs.length - (k + 1)) ≤ 16777216 := by omega
    unfold putR wp2 at *
    simp [-List.getD_eq_getElem?_getD, ixp0, ixp1, ix, PySem.sizeLine_eq, z3, z4]
  | lett x =>
    obtain ⟨a, b, rfl⟩ := len2 ha
    have : k = 0 ∨ k = 1 := by simp at hk; omega
    rcases this with rfl | rfl
    · simp [encH, ixp0, ixp1, PySem.sizeLine_eq]
    · simp [encH, ixp0, ixp1, PySem.sizeLine_eq]
  | grow x =>
    obtain ⟨a, b, rfl⟩ := len2 ha
    have : k = 0 ∨ k = 1 := by simp at hk; omega
    rcases this with rfl | rfl
    · simp [encH, ixp0, ixp1, PySem.sizeLine_eq]
    · simp [encH, ixp0, ixp1, PySem.sizeLine_eq]
  | map op =>
    obtain ⟨a, rfl⟩ := len1 ha
    have : k = 0 := by simp at hk; omega
    subst this
    simp [encH, ixp0, ixp1, PySem.sizeLine_eq]
  | keep t n =>
    obtain ⟨a, rfl⟩ := len1 ha
    have : k = 0 := by simp at hk; omega
    subst this
    simp [encH, ixp0, ixp1, PySem.sizeLine_eq]
  | list t n =>
    obtain ⟨a, rfl⟩ := len1 ha
    have : k = 0 := by simp at hk; omega
    subst this
    simp [encH, ixp0, ixp1, PySem.sizeLine_eq]
  | _ =>
    have := len0 ha
    subst this
    simp at hk
theorem szL_take {l : List Tm} {i : Nat} (h : i < l.length) : szL (l.take (i + 1)) = szL (l.take i) + szT l[i] := by
  induction l generalizing i with
  | nil => simp at h
  | cons t l ih =>
    cases i with
    | zero => simp [szL]
    | succ i =>
      have := ih (i := i) (by simpa using h)
      simp only [List.take_succ_cons, szL, List.getElem_cons_succ]
      omega
theorem putL_eq {x : PyData} : ∀ {l : List Tm} {i n : Nat} (h : i < l.length), szL (l.take i) ≤ n → n - szL (l.take i) < szT l[i] → putL x l n = (l.map Tm.enc).take i ++ putT x l[i] (n - szL (l.take i)) :: (l.map Tm.enc).drop (i + 1)
  | [], i, n, h, _, _ => by simp at h
  | t :: l, 0, n, h, h1, h2 => by
    simp only [List.take_zero, szL, Nat.sub_zero, List.getElem_cons_zero] at h2
    rw [putL, if_pos h2]
    simp [szL]
  | t :: l, i + 1, n, h, h1, h2 => by
    simp only [List.take_succ_cons, szL, List.getElem_cons_succ] at h1 h2
    have c : ¬ n < szT t := by omega
    rw [putL, if_neg c, putL_eq (l := l) (i := i) (n := n - szT t) (by simpa using h) (by omega) (by rw [show n - szT t - szL (l.take i) = n - (szT t + szL (l.take i)) by omega]; exact h2)]
    simp only [List.take_succ_cons, szL, List.getElem_cons_succ, List.map_cons, List.drop_succ_cons, List.cons_append]
    rw [show n - szT t - szL (l.take i) = n - (szT t + szL (l.take i)) by omega]
theorem insL_eq {g : Bool} : ∀ {l : List Tm} {i k n : Nat} (h : i < l.length), szL (l.take i) ≤ n → n - szL (l.take i) < szT l[i] → insL g k l n = ((g && decide (k + i = 1)) || insT l[i] (n - szL (l.take i)))
  | [], i, k, n, h, _, _ => by simp at h
  | t :: l, 0, k, n, h, h1, h2 => by
    simp only [List.take_zero, szL, Nat.sub_zero, List.getElem_cons_zero] at h2
    rw [insL, if_pos h2]
    simp [szL]
  | t :: l, i + 1, k, n, h, h1, h2 => by
    simp only [List.take_succ_cons, szL, List.getElem_cons_succ] at h1 h2
    have c : ¬ n < szT t := by omega
    rw [insL, if_neg c, insL_eq (l := l) (i := i) (k := k + 1) (n := n - szT t) (by simpa using h) (by omega) (by rw [show n - szT t - szL (l.take i) = n - (szT t + szL (l.take i)) by omega]; exact h2)]
    simp only [List.take_succ_cons, szL, List.getElem_cons_succ]
    rw [show n - szT t - szL (l.take i) = n - (szT t + szL (l.take i)) by omega, show k + 1 + i = k + (i + 1) by omega]
def PuI (t x : PyData) (l : List Tm) (n : Nat) (s : Sto) (i : Nat) (e : En) (s' : Sto) : Prop := ∃ m : Nat, szL (l.take i) + m = n ∧ (∃ a b, e = [some (.p t), some (DI m), some (.p x), some (.p (.list (l.map Tm.enc))), a, b, none]) ∧ s' = s
theorem put_is (C : Cs) : b_law_put C = sSeq (sIf (tB (eOp hEq (eVar 1) (eC (.int 0)))) (sRet (eVar 2)) sNil) (sSeq (sSet 1 (eOp hSub (eVar 1) (eC (.int 1)))) (sSeq (sSet 3 (eCall (C .law_parts) [] (aCons (eVar 0) aNil)))
    (sSeq (sFor (iRange1 (eBlt hLen (aCons (eVar 3) aNil))) (gSet 4) (sSeq (sSet 5 (eCall (C .law_count) [] (aCons (eOp hIx (eVar 3) (eVar 4)) aNil))) (sSeq (sIf (tB (eOp hLt (eVar 1) (eVar 5))) (sSeq (sSet 6 (eCall (C .law_put) [] (aCons (eOp hIx (eVar 3) (eVar 4)) (aCons (eVar 1) (aCons (eVar 2) aNil))))) putR) sNil)
      (sSet 1 (eOp hSub (eVar 1) (eVar 5)))))) (sRet (eVar 2))))) := rfl
theorem put_v : ∀ {d : Nat} {t : Tm}, Wf d t → ∀ (k : Nat) (x : PyData) (n : Nat) s, n < szT t → 2 * d + 3 ≤ k → fnk k .law_put [.p t.enc, DI n, .p x] s = .ok (.p (putT x t n)) s := by
  intro d
  induction d with
  | zero => intro t w; cases w
  | succ d ih =>
    intro t w k x n s hn hk
    obtain ⟨k, rfl⟩ : ∃ n, k = n + 1 := ⟨k - 1, by omega⟩
    rw [fnk_law_put]
    cases n with
    | zero =>
      rw [runB_eq, put_is]
      cases t with
      | node h l => simp [putT]
    | succ n =>
      obtain ⟨h, l, rfl, p⟩ := parts_v w k (by omega) s
      cases w with
      | mk _ _ _ ha hl hc =>
      have ih := fun t ht n s hn => ih (hc t ht) k x n s hn (by omega)
      have ct := fun t ht s => count_v (hc t ht) k s (by omega)
      have ha' : ar h (l.map Tm.enc).length := by simpa using ha
      have hl' : (l.map Tm.enc).length ≤ 64 := by simpa using hl
      rw [szT] at hn
      generalize fnk k = C at *
      rw [putT, put_is]
      refine runB_P (P := fun r => r = .ok (.p (encH h (putL x l n))) s) fun Q hQ => ?_
      replace hQ : Q (.rt (.p (encH h (putL x l n))) s) := hQ _ rfl
      have e1 : ¬ ((n : Int) + 1 = 0) := by omega
      have e2 : (n : Int) + 1 - 1 = n := by omega
      have lz : (l.length : Int) < 4611686018427387904 := by omega
      simp [e1, e2, p, lz, foGo_S]
      refine rngPS (PuI (Tm.node h l).enc x l n s) ⟨n, by simp [szL], ⟨none, none, rfl⟩, rfl⟩ ?_ ?_
      · rintro e s' ⟨m, h1, _, _⟩
        rw [List.take_length] at h1
        omega
      · rintro i e s' hi ⟨m, h1, ⟨a, b, rfl⟩, rfl⟩
        have hit : l[i] ∈ l := List.getElem_mem hi
        have c := ct l[i] hit s'
        have ix : hIx (.p (.list (l.map Tm.enc))) (DI i) s' = .ok (.p l[i].enc) s' := hIx_lat (by simp [hi])
        by_cases q : m < szT l[i]
        · have i1 := ih l[i] hit m s' q
          have em : m = n - szL (l.take i) := by omega
          have pe := putL_eq (x := x) (l := l) (n := n) hi (by omega) (by rw [← em]; exact q)
          rw [← em] at pe
          rw [pe] at hQ
          have r := putR_ok (y := putT x l[i] m) (e1 := some (DI m)) (e2 := some (.p x)) (e5 := some (DI (szT l[i]))) (s := s') ha' hl' (by simpa using hi)
          rw [← Tm.enc_node] at r
          simp [ix, c, q, i1, r]
          simpa using hQ
        · have q' : ¬ ((m : Int) < szT l[i]) := by omega
          have em : (m : Int) - szT l[i] = ((m - szT l[i] : Nat) : Int) := by omega
          simp [ix, c, q, em]
          exact ⟨m - szT l[i], by rw [szL_take hi]; omega, ⟨_, _, rfl⟩, rfl⟩

def InI (t : PyData) (l : List Tm) (n : Nat) (s : Sto) (i : Nat) (e : En) (s' : Sto) : Prop := ∃ m : Nat, szL (l.take i) + m = n ∧ (∃ a b, e = [some (.p t), some (DI m), some (.p (.list (l.map Tm.enc))), a, b]) ∧ s' = s
theorem isG_hd {h : Hd} : decide (hdS h = Dl.q_grow) = isG h := by
  cases h <;> simp [hdS, isG]
theorem ins_v : ∀ {d : Nat} {t : Tm}, Wf d t → ∀ (k : Nat) (n : Nat) s, n < szT t → 2 * d + 3 ≤ k → fnk k .law_inside_grow [.p t.enc, DI n] s = .ok (DB (insT t n)) s := by
  intro d
  induction d with
  | zero => intro t w; cases w
  | succ d ih =>
    intro t w k n s hn hk
    obtain ⟨k, rfl⟩ : ∃ n, k = n + 1 := ⟨k - 1, by omega⟩
    rw [fnk_law_inside_grow]
    obtain ⟨h, l, rfl, p⟩ := parts_v w k (by omega) s
    cases w with
    | mk _ _ _ ha hl hc =>
    cases n with
    | zero =>
      rw [runB_eq]
      show rsOut (tm_law_inside_grow (fnk k .law_parts) (fnk k .law_count) (fnk k .law_inside_grow) _ s) = _
      generalize fnk k = C at *
      unfold tm_law_inside_grow
      simp [p, insT]
    | succ n =>
      have ih := fun t ht n s hn => ih (hc t ht) k n s hn (by omega)
      have ct := fun t ht s => count_v (hc t ht) k s (by omega)
      rw [szT] at hn
      have hd : hIx (.p (Tm.node h l).enc) (.p (.int 0)) s = .ok (.p (.str (hdS h))) s := by
        rw [Tm.enc_node]
        exact enc_hd
      refine runB_P (P := fun r => r = .ok (DB (insT (.node h l) (n + 1))) s) fun Q hQ => ?_
      replace hQ : Q (.rt (DB (insT (.node h l) (n + 1))) s) := hQ _ rfl
      show Q (tm_law_inside_grow (fnk k .law_parts) (fnk k .law_count) (fnk k .law_inside_grow) _ s)
      generalize fnk k = C at *
      unfold tm_law_inside_grow
      have e1 : ¬ ((n : Int) + 1 = 0) := by omega
      have e2 : (n : Int) + 1 - 1 = n := by omega
      have lz : (l.length : Int) < 4611686018427387904 := by omega
      simp [e1, e2, p, lz, foGo_S]
      refine rngPS (InI (Tm.node h l).enc l n s) ⟨n, by simp [szL], ⟨none, none, rfl⟩, rfl⟩ ?_ ?_
      · rintro e s' ⟨m, h1, _, _⟩
        rw [List.take_length] at h1
        omega
      · rintro i e s' hi ⟨m, h1, ⟨a, b, rfl⟩, rfl⟩
        have hit : l[i] ∈ l := List.getElem_mem hi
        have c := ct l[i] hit s'
        have ix : hIx (.p (.list (l.map Tm.enc))) (DI i) s' = .ok (.p l[i].enc) s' := hIx_lat (by simp [hi])
        by_cases q : m < szT l[i]
        · have i1 := ih l[i] hit m s' q
          have em : m = n - szL (l.take i) := by omega
          have pe := insL_eq (g := isG h) (l := l) (k := 0) (n := n) hi (by omega) (by rw [← em]; exact q)
          rw [← em, Nat.zero_add] at pe
          rw [insT, pe] at hQ
          rw [← isG_hd] at hQ
          have z1 : ((i : Int) = 1) = (i = 1) := propext (by omega)
          by_cases g : hdS h = Dl.q_grow
          · rw [decide_eq_true g] at hQ
            by_cases i1' : i = 1
            · subst i1'
              have ix : hIx (.p (.list (l.map Tm.enc))) (.p (.int 1)) s' = .ok (.p l[1].enc) s' := ix
              simp at hQ
              simp [ix, c, q, hd, g]
              exact hQ
            · simp [i1'] at hQ
              simp [ix, c, q, hd, g, z1, i1', i1]
              exact hQ
          · rw [decide_eq_false g] at hQ
            simp at hQ
            simp [ix, c, q, hd, g, i1]
            exact hQ
        · have q' : ¬ ((m : Int) < szT l[i]) := by omega
          have em : (m : Int) - szT l[i] = ((m - szT l[i] : Nat) : Int) := by omega
          simp [ix, c, q, em]
          exact ⟨m - szT l[i], by rw [szL_take hi]; omega, ⟨_, _, rfl⟩, rfl⟩
/-! ### the faults -/
def c1 : PyData := .tuple [.str Dl.q_const, .int 1]
def flts : List PyData := [.tuple [.str Dl.q_var, .str Dl.q_zz], .tuple [.str Dl.q_upto, .str Dl.q_zz], .tuple [.str Dl.q_self], .tuple [.str Dl.q_const], .tuple [.str Dl.q_const, .list [.int 1]], .tuple [.str Dl.q_const, .bool true], .tuple [.str Dl.q_range, .int 2, .int 1],
  .tuple [.str Dl.q_range, .int 0, .int 64], .tuple [.str Dl.q_range, .int 0], .tuple [.str Dl.q_range, .int 0, .int 1, .int 2], .tuple [.str Dl.q_range, .int 0, .none], .tuple [.str Dl.q_pick, .tuple []], .tuple [.str Dl.q_weigh, .tuple []],
  .tuple [.str Dl.q_weigh, .tuple [.tuple [.int 0, c1]]], .tuple [.str Dl.q_weigh, .tuple [.tuple [.int 1]]], .tuple [.str Dl.q_list, .int 1, .int 0, c1], .tuple [.str Dl.q_discard, .int 1],
  .tuple [.str Dl.q_list, .int 0, .int 7, c1], .tuple [.str Dl.q_map, .tuple [.str Dl.q_sum, .int 1], c1], .tuple [.str Dl.q_map, .tuple [.str Dl.q_mod, .int 0], c1],
  .tuple [.str Dl.q_map, .tuple [.str Dl.q_add], c1], .tuple [.str Dl.q_keep, .tuple [.str Dl.q_odd], .int 1, c1], .tuple [.str Dl.q_keep, .tuple [.str Dl.q_even], .int 0, c1],
  .tuple [.str Dl.q_keep, .tuple [.str Dl.q_even], .int 5, c1], .tuple [.str Dl.q_let, .str Dl.q_X, c1, c1], .tuple [.str Dl.q_tuple, .list [c1]],
  .tuple [.str Dl.q_grow, .int 5, c1, .tuple [.str Dl.q_self]], .tuple [.str Dl.q_grow, .int 1, .tuple [.str Dl.q_self], c1], .tuple [.str Dl.q_shuffle, .tuple [.int 1, .int 2, .int 3, .int 4, .int 5]],
  .tuple [.str Dl.q_shuffle, .int 3], .tuple [.str Dl.q_dice, .int 6], .tuple [], .none, .int 5, .list [.str Dl.q_const, .int 1], .tuple [.str Dl.q_let, .str Dl.q_zz, .tuple [.str Dl.q_var, .str Dl.q_zz], c1], .tuple [.int 3, .int 4]]
theorem mkT5 {a b c d e : PyData} : mkT [.p a, .p b, .p c, .p d, .p e] = .p (.tuple [a, b, c, d, e]) := rfl
theorem faults_v {k : Nat} {s : Sto} : fnk (k + 1) .law_faults [] s = .ok (.p (.list flts)) s := by
  rw [fnk_law_faults, runB_eq]
  show rsOut (tm_law_faults (fun _ _ => .bad) _ s) = _
  unfold tm_law_faults
  simp [PySem.sizeLine_eq, flts, c1, mkT5]
theorem faults_len : flts.length = 37 := rfl
/-- the two that stand well in the step of a grow -/
def sfx : PyData → Bool
  | .tuple [.str h] => decide (h = Dl.q_self)
  | .tuple [.str h, .int 1, .tuple [.str g], _] => decide (h = Dl.q_grow ∧ g = Dl.q_self)
  | _ => false
def selfs : List PyData := [.tuple [.str Dl.q_self], .tuple [.str Dl.q_grow, .int 1, .tuple [.str Dl.q_self], c1]]
def smB (x : PyData) : Bool := x.canLay0 && decide (x.depth ≤ 6) && x.showable && x.leavesShort 13 && decide (x.bulk ≤ 100)
theorem flt_facts : flts.all (fun x => smB x && SeqAt.shaped x && (selfs.any (fun z => PyData.eqv z x) == sfx x)) = true := by decide +kernel
theorem flt_sm {x : PyData} (h : x ∈ flts) : Sm 6 100 x := by
  have := List.all_eq_true.mp flt_facts x h
  simp only [smB, Bool.and_eq_true, decide_eq_true_eq] at this
  obtain ⟨⟨⟨⟨⟨⟨h1, h2⟩, h3⟩, h4⟩, h5⟩, _⟩, _⟩ := this
  exact ⟨h1, h2, h3, h4, h5⟩
theorem flt_in {x : PyData} {s : Sto} (h : x ∈ flts) : hIn (.p x) (.p (.list selfs)) s = .ok (DB (sfx x)) s := by
  have := List.all_eq_true.mp flt_facts x h
  simp only [Bool.and_eq_true, beq_iff_eq] at this
  obtain ⟨⟨_, h1⟩, h2⟩ := this
  have h3 : SeqAt.shaped (.list selfs) = true := by decide +kernel
  unfold hIn hInB
  simp only []
  simp [toP, h1, h3, h2]
theorem zz_n : isN (.str Dl.q_zz) = true := by decide +kernel
theorem X_n : isN (.str Dl.q_X) = false := by decide +kernel
theorem odd_t : Dl.isT 6 (.tuple [.str Dl.q_odd]) = false := by decide +kernel
theorem even_t : Dl.isT 6 (.tuple [.str Dl.q_even]) = true := by decide +kernel
theorem zz_no {ns : List Str} (h : ∀ y ∈ ns, isNm y) : ¬ Dl.q_zz ∈ ns := fun c => by
  have := h _ c
  unfold isNm at this
  revert this
  decide +kernel
theorem d_self : ¬ Dl.q_dice = Dl.q_self := by decide +kernel
theorem dice_F (r : List PyData) : isF Dl.q_dice r = false := by
  have h : ∀ z ∈ [Dl.q_discard, Dl.q_self, Dl.q_const, Dl.q_var, Dl.q_upto, Dl.q_range, Dl.q_shuffle], Dl.q_dice ≠ z := by decide +kernel
  simp at h
  simp [isF, h]
theorem dice_S (r : List PyData) : isS Dl.q_dice r = false := by
  have h : ∀ z ∈ [Dl.q_pick, Dl.q_tuple, Dl.q_weigh, Dl.q_list, Dl.q_map, Dl.q_keep, Dl.q_let, Dl.q_grow], Dl.q_dice ≠ z := by decide +kernel
  simp at h
  simp [isS, h]
theorem bads {x : PyData} (hx : x ∈ flts) : Bad isNm (sfx x = true) x := by
  intro n ns i hns hi
  cases n with
  | zero => rfl
  | succ n =>
    have zn := zz_no hns
    simp only [flts, List.mem_cons, List.not_mem_nil, or_false] at hx
    rcases hx with rfl | rfl | rfl | rfl | rfl | rfl | rfl | rfl | rfl | rfl | rfl | rfl | rfl | rfl | rfl | rfl | rfl | rfl | rfl | rfl | rfl | rfl | rfl | rfl | rfl | rfl | rfl | rfl | rfl | rfl | rfl | rfl | rfl | rfl | rfl | rfl | rfl
    case inr.inr.inl => simp [sfx] at hi; simp [iot, isF, hi]
    case inr.inr.inr.inr.inr.inr.inr.inr.inr.inr.inr.inr.inr.inr.inr.inr.inr.inr.inr.inr.inr.inr.inr.inr.inr.inr.inr.inl =>
      simp [sfx] at hi
      cases n with
      | zero => simp [iot, isF, isS, inI, c1]
      | succ n => simp [iot, isF, isS, inI, c1, hi]
    all_goals first
      | (simp [iot, dice_F, dice_S]; done)
      | (simp [iot, isF, isS, inI, Dl.isO, lone, isPr, Dl.isV, strIn, zz_n, X_n, odd_t, even_t, zn, c1, dice_F, dice_S, prts, snd]; done)
      | (cases n <;> simp [iot, isF, isS, inI, Dl.isO, lone, isPr, Dl.isV, strIn, zz_n, X_n, odd_t, even_t, zn, c1, dice_F, dice_S, prts, snd])

/-! ### sizes -/
def bnd : Nat → Nat
  | 0 => 100
  | d + 1 => 3 * (bnd d + 30) + 150
theorem bnd_le (d : Nat) : 100 ≤ bnd d ∧ bnd d ≤ bnd (d + 1) := by
  induction d with
  | zero => exact ⟨Nat.le_refl _, by decide⟩
  | succ d ih =>
    obtain ⟨h1, h2⟩ := ih
    refine ⟨by omega, ?_⟩
    show bnd (d + 1) ≤ 3 * (bnd (d + 1) + 30) + 150
    omega
/-- a head that adds little -/
def HdB (h : Hd) (k : Nat) : Prop := ∀ (d b : Nat) (ps : List PyData), 6 ≤ d → (∀ p ∈ ps, Sm d b p) → ps.length = k → Sm (d + 3) (3 * (b + 30) + 150) (encH h ps)
theorem sq' {z : Str} {d : Nat} (h : okS z = true) (hd : 1 ≤ d) : Sm d 9 (.str z) := (sq9 (d := 0) h).mono (by omega) (Nat.le_refl _)
theorem si' {i : Int} {d : Nat} (h1 : -50 ≤ i) (h2 : i < 150) (hd : 1 ≤ d) : Sm d 0 (.int i) := (sm_int h1 h2).mono hd (Nat.le_refl _)
section
variable {d b : Nat} {ps : List PyData}
theorem hb_leaf {h : Hd} {x : PyData} (e : encH h [] = x) (hx : Sm 9 240 x) : HdB h 0 := by
  intro d b ps hd hp hl
  have := List.eq_nil_of_length_eq_zero hl
  subst this
  rw [e]
  exact hx.mono (by omega) (by omega)
theorem hb_pre {w : Str} {as : List PyData} {h : Hd} {k : Nat} (hw : okS w = true) (ha : SmA 5 100 as) (e : ∀ ps, encH h ps = .tuple (.str w :: (as ++ ps))) (hk : k ≤ 2) : HdB h k := by
  intro d b ps hd hp hl
  rw [e]
  have ap : ∀ {xs ys : List PyData} {b1 b2 : Nat}, SmA d b1 xs → SmA d b2 ys → SmA d (b1 + b2) (xs ++ ys) := fun {xs} => by
    induction xs with
    | nil =>
      intro ys b1 b2 _ h2
      exact h2.mono (Nat.le_refl _) (by omega)
    | cons x xs ih =>
      intro ys b1 b2 h1 h2
      have t : Sm d x.bulk x ∧ SmA d (PyData.bulkAll xs) xs ∧ x.bulk + 1 + PyData.bulkAll xs ≤ b1 := by
        obtain ⟨c1, c2, c3, c4, c5⟩ := h1
        simp only [PyData.canLayAll0, PyData.showableAll, PyData.leavesShortAll, Bool.and_eq_true] at c1 c3 c4
        simp only [PyData.depthAll] at c2
        simp only [PyData.bulkAll] at c5
        exact ⟨⟨c1.1, by omega, c3.1, c4.1, Nat.le_refl _⟩, ⟨c1.2, by omega, c3.2, c4.2, Nat.le_refl _⟩, c5⟩
      exact (smA_cons t.1 (ih t.2.1 h2)).mono (Nat.le_refl _) (by have := t.2.2; omega)
  have a1 := ap (ha.mono (d' := d) (by omega) (Nat.le_refl _)) (smA_all (n := 2) hp (by omega))
  exact (sm_tup (smA_cons (sq' hw (by omega)) a1)).mono (by omega) (by omega)
theorem hb_tup {w : Str} {h : Hd} {k : Nat} (hw : okS w = true) (e : ∀ ps, encH h ps = .tuple [.str w, .tuple ps]) (hk : k ≤ 3) : HdB h k := by
  intro d b ps hd hp hl
  rw [e]
  exact (sm_tup (smA_cons (sq' (d := d + 1) hw (by omega)) (smA_cons (sm_tup (smA_all (n := 3) hp (by omega))) smA_nil))).mono (by omega) (by omega)
theorem hb_weigh {ws : List Int} (h : ∀ w ∈ ws, 1 ≤ w ∧ w ≤ 3) (hk : ws.length ≤ 3) : HdB (.weigh ws) ws.length := by
  intro d b ps hd hp hl
  have v : Sm (d + 2) ((b + 2 + 1) * 3) (.tuple (List.zipWith wp2 ws ps)) := sm_tup (smA_all (fun x hx => by
    obtain ⟨w, hw, e, he, rfl⟩ := mem_zipWith hx
    have := h w hw
    exact (sm_tup (smA_cons (si' (by omega) (by omega) (by omega)) (smA_cons (hp e he) smA_nil))).mono (by omega) (by omega)) (by simp; omega))
  exact (sm_tup (smA_cons (sq' (d := d + 2) (by decide +kernel) (by omega)) (smA_cons v smA_nil))).mono (by omega) (by omega)
end
theorem putL_mem {x y : PyData} : ∀ {l : List Tm} {n : Nat}, y ∈ putL x l n → (∃ t ∈ l, y = t.enc) ∨ ∃ t ∈ l, ∃ m, y = putT x t m
  | [], _, h => by simp [putL] at h
  | t :: l, n, h => by
    rw [putL] at h
    split at h
    · rcases List.mem_cons.mp h with rfl | h
      · exact .inr ⟨t, by simp, n, rfl⟩
      · obtain ⟨u, hu, rfl⟩ := List.mem_map.mp h
        exact .inl ⟨u, by simp [hu], rfl⟩
    · rcases List.mem_cons.mp h with rfl | h
      · exact .inl ⟨t, by simp, rfl⟩
      · rcases putL_mem h with ⟨u, hu, e⟩ | ⟨u, hu, m, e⟩
        · exact .inl ⟨u, by simp [hu], e⟩
        · exact .inr ⟨u, by simp [hu], m, e⟩
inductive Tb : Nat → Tm → Prop
  | node (d h l) (g : HdB h l.length) (hl : ∀ t ∈ l, Tb d t) : Tb (d + 1) (.node h l)
theorem Tb.sm {x : PyData} (sx : Sm 6 100 x) {d : Nat} {t : Tm} (h : Tb d t) : Sm (3 * d + 6) (bnd d) t.enc ∧ ∀ n, Sm (3 * d + 6) (bnd d) (putT x t n) := by
  induction h with
  | node d h l g hl ih =>
    have e : ∀ ps : List PyData, (∀ p ∈ ps, Sm (3 * d + 6) (bnd d) p) → ps.length = l.length → Sm (3 * (d + 1) + 6) (bnd (d + 1)) (encH h ps) := fun ps hp hk => by
      have := g (3 * d + 6) (bnd d) ps (by omega) hp hk
      rw [show 3 * (d + 1) + 6 = 3 * d + 6 + 3 by omega]
      exact this
    refine ⟨?_, fun n => ?_⟩
    · rw [Tm.enc_node]
      refine e _ (fun p hp => ?_) (by simp)
      obtain ⟨t, ht, rfl⟩ := List.mem_map.mp hp
      exact (ih t ht).1
    · cases n with
      | zero =>
        rw [putT]
        exact sx.mono (by omega) (bnd_le _).1
      | succ n =>
        rw [putT]
        refine e _ (fun p hp => ?_) putL_len
        rcases putL_mem hp with ⟨t, ht, rfl⟩ | ⟨t, ht, m, rfl⟩
        · exact (ih t ht).1
        · exact (ih t ht).2 m
theorem Tg.tb {ns : List Str} {i : Bool} {d : Nat} {t : Tm} (h : Tg ns i d t) (hn : ∀ x ∈ ns, isNm x) : Tb (d + 1) t := by
  have nol : ∀ t ∈ ([] : List Tm), Tb d t := fun _ h => (List.not_mem_nil h).elim
  have leafSm : ∀ {ns i d t}, Tg ns i d t → (∀ x ∈ ns, isNm x) → d = 0 → Sm 9 240 t.enc := fun {ns i d t} h hn e => by
    subst e
    exact (h.sm hn).mono (by omega) (by omega)
  induction h with
  | self ns d => exact .node _ _ _ (hb_leaf rfl (by have := leafSm (Tg.self ns 0) hn rfl; rwa [enc_self] at this)) (fun _ h => (List.not_mem_nil h).elim)
  | var ns i d x h => exact .node _ _ _ (hb_leaf rfl (by have := leafSm (Tg.var ns i 0 x h) hn rfl; rwa [enc_var] at this)) (fun _ h => (List.not_mem_nil h).elim)
  | upto ns i d x h => exact .node _ _ _ (hb_leaf rfl (by have := leafSm (Tg.upto ns i 0 x h) hn rfl; rwa [enc_upto] at this)) (fun _ h => (List.not_mem_nil h).elim)
  | range ns i d a b h1 h2 h3 h4 => exact .node _ _ _ (hb_leaf rfl (by have := leafSm (Tg.range ns i 0 a b h1 h2 h3 h4) hn rfl; rwa [enc_range] at this)) (fun _ h => (List.not_mem_nil h).elim)
  | shuffle ns i d vs h1 h2 => exact .node _ _ _ (hb_leaf rfl (by have := leafSm (Tg.shuffle ns i 0 vs h1 h2) hn rfl; rwa [enc_shuffle] at this)) (fun _ h => (List.not_mem_nil h).elim)
  | discard ns i d => exact .node _ _ _ (hb_leaf rfl (by have := leafSm (Tg.discard ns i 0) hn rfl; rwa [enc_discard] at this)) (fun _ h => (List.not_mem_nil h).elim)
  | const ns i d v h => exact .node _ _ _ (hb_leaf rfl (by have := leafSm (Tg.const ns i 0 v h) hn rfl; rwa [enc_const] at this)) (fun _ h => (List.not_mem_nil h).elim)
  | map ns i d p t h1 h2 ih => exact .node _ _ _ (hb_pre (w := Dl.q_map) (as := [p.enc]) (by decide +kernel) ((smA_cons (h1.sm.mono (d' := 5) (by omega) (Nat.le_refl _)) smA_nil).mono (Nat.le_refl _) (by omega)) (fun _ => rfl) (by simp)) fun _ h => List.mem_singleton.mp h ▸ ih hn (fun _ h => (List.not_mem_nil h).elim)
  | keep ns i d e t n h1 h2 h3 h4 ih => exact .node _ _ _ (hb_pre (w := Dl.q_keep) (as := [e.enc, .int n]) (by decide +kernel) ((smA_cons (h1.sm.mono (d' := 5) (by omega) (Nat.le_refl _)) (smA_cons (si' (by omega) (by omega) (by omega)) smA_nil)).mono (Nat.le_refl _) (by omega)) (fun _ => rfl) (by simp)) fun _ h => List.mem_singleton.mp h ▸ ih hn (fun _ h => (List.not_mem_nil h).elim)
  | list ns i d t a b h1 h2 h3 h4 h5 ih => exact .node _ _ _ (hb_pre (w := Dl.q_list) (as := [.int a, .int b]) (by decide +kernel) ((smA_cons (d := 5) (si' (by omega) (by omega) (by omega)) (smA_cons (si' (by omega) (by omega) (by omega)) smA_nil)).mono (Nat.le_refl _) (by omega)) (fun _ => rfl) (by simp)) fun _ h => List.mem_singleton.mp h ▸ ih hn (fun _ h => (List.not_mem_nil h).elim)
  | lett ns i d x a b h1 h2 h3 ia ib =>
    exact .node _ _ _ (hb_pre (w := Dl.q_let) (as := [.str x]) (by decide +kernel) ((smA_cons (d := 5) (sm_nm h1) smA_nil).mono (Nat.le_refl _) (by omega)) (fun _ => rfl) (by simp)) fun t h => by
      simp at h
      rcases h with rfl | rfl
      · exact ia hn (fun _ h => (List.not_mem_nil h).elim)
      · exact ib (fun z hz => by
          rcases List.mem_append.mp hz with h | h
          · exact hn z h
          · exact List.mem_singleton.mp h ▸ h1) (fun _ h => (List.not_mem_nil h).elim)
  | grow ns i d a b n h1 h2 h3 h4 ia ib =>
    exact .node _ _ _ (hb_pre (w := Dl.q_grow) (as := [.int n]) (by decide +kernel) ((smA_cons (d := 5) (si' (by omega) (by omega) (by omega)) smA_nil).mono (Nat.le_refl _) (by omega)) (fun _ => rfl) (by simp)) fun t h => by
      simp at h
      rcases h with rfl | rfl
      · exact ia hn (fun _ h => (List.not_mem_nil h).elim)
      · exact ib hn (fun _ h => (List.not_mem_nil h).elim)
  | pick ns i d l h1 h2 h3 ih => exact .node _ _ _ (hb_tup (w := Dl.q_pick) (by decide +kernel) (fun _ => rfl) h2) fun t ht => ih t ht hn (fun _ h => (List.not_mem_nil h).elim)
  | weigh ns i d l ws h0 h1 h2 h4 h3 ih => exact .node _ _ _ (by rw [h0]; exact hb_weigh h4 (by omega)) fun t ht => ih t ht hn (fun _ h => (List.not_mem_nil h).elim)
  | tuple ns i d l h2 h3 ih => exact .node _ _ _ (hb_tup (w := Dl.q_tuple) (by decide +kernel) (fun _ => rfl) h2) fun t ht => ih t ht hn (fun _ h => (List.not_mem_nil h).elim)
theorem hRepr_q {d b : Nat} {x : PyData} {s : Sto} (h : Sm d b x) (hq : isSq x = true) (hd : d ≤ 60) (hb : b ≤ 1000000) : hRepr [.p x] s = .ok (.p (.str x.shown)) s := by
  have ok : reprOk x = true := by
    unfold reprOk
    have hb2 : x.bulk ≤ 2 ^ 20 := by
      have := h.blk
      omega
    have := PyData.shown_fits_bulk (B := 13) (by decide) (by decide) h.lea hb2
    simp only [hq, h.can, h.shw, Bool.true_and, Bool.and_eq_true, decide_eq_true_eq]
    exact ⟨by have := h.dep; omega, this⟩
  cases x with
  | tuple xs =>
    show (if reprOk (.tuple xs) then R.ok (D.p (.str (PyData.tuple xs).shown)) s else R.bad) = _
    rw [if_pos ok]
  | list xs =>
    show (if reprOk (.list xs) then R.ok (D.p (.str (PyData.list xs).shown)) s else R.bad) = _
    rw [if_pos ok]
  | _ => cases hq
theorem flt_repr {x : PyData} {s : Sto} (h : x ∈ flts) : hRepr [.p x] s = .ok (.p (.str x.shown)) s := by
  have sm := flt_sm h
  have : isSq x = true ∨ x = .none ∨ x = .int 5 := by
    have f : flts.all (fun x => isSq x || (match x with | .none => true | .int i => decide (i = 5) | _ => false)) = true := by decide +kernel
    have := List.all_eq_true.mp f x h
    cases x with
    | none => exact .inr (.inl rfl)
    | int i => simp [isSq] at this; exact .inr (.inr (by rw [this]))
    | tuple xs => exact .inl rfl
    | list xs => exact .inl rfl
    | _ => simp [isSq] at this
  rcases this with q | rfl | rfl
  · exact hRepr_q sm q (by omega) (by omega)
  · rfl
  · show (if (5 : Int).natAbs.log2 < 1920 then R.ok _ s else R.bad) = _
    rw [if_pos (by decide)]
theorem enc_sq (t : Tm) : isSq t.enc = true := by
  cases t with
  | node h l =>
    rw [Tm.enc_node]
    cases h <;> rfl
theorem put_repr {d : Nat} {t : Tm} {x : PyData} {n : Nat} {s : Sto} (hx : x ∈ flts) (h : Tb d t) (hd : d ≤ 6) : hRepr [.p (putT x t n)] s = .ok (.p (.str (putT x t n).shown)) s := by
  have sm := (h.sm (flt_sm hx)).2 n
  cases t with
  | node hh l =>
    cases n with
    | zero => rw [putT]; exact flt_repr hx
    | succ n =>
      rw [putT] at sm ⊢
      have b : bnd d ≤ 1000000 := by
        have : d = 0 ∨ d = 1 ∨ d = 2 ∨ d = 3 ∨ d = 4 ∨ d = 5 ∨ d = 6 := by omega
        rcases this with rfl | rfl | rfl | rfl | rfl | rfl | rfl <;> decide
      exact hRepr_q sm (by cases hh <;> rfl) (by omega) b
theorem bnd6 {d : Nat} (h : d ≤ 6) : bnd d ≤ 1000000 := by
  have : d = 0 ∨ d = 1 ∨ d = 2 ∨ d = 3 ∨ d = 4 ∨ d = 5 ∨ d = 6 := by omega
  rcases this with rfl | rfl | rfl | rfl | rfl | rfl | rfl <;> decide
theorem Sm.dt {d b : Nat} {x : PyData} (h : Sm d b x) (hb : b ≤ 1000000) : Dt d x := ⟨h.flt, by have := h.blk; omega⟩
/-! ### the law -/
theorem openk : OpenOk (fun k => fnk k .c_is_open_term) := by
  have hI : IntOk fun k => fnk k .c_is_integer := int_ok fnk_c_is_integer
  have hV : IsVA fun k => fnk k .c_is_value := isva fnk_c_is_value
  have hT : IsTA fun k => fnk k .c_is_test := ista fnk_c_is_test hV
  have hN : NameOk fun k => fnk k .c_is_name := name_ok fnk_c_is_name
  have hF : FlatOk' fun k => fnk k .c_is_flat := flat_okA fnk_c_is_flat hV hN hI
  have hS : ShapeOk fun k => fnk k .c_is_shaped := shape_ok fnk_c_is_shaped (pair_ok fnk_c_is_pair hI) hI (opn_ok fnk_c_is_operation hI) hT hN
  exact open_ok fnk_c_is_open_term hF hS (partsA fnk_c_parts_of)
theorem term_v {k m : Nat} {x : PyData} {s : Sto} (hk : 47 ≤ k) (hx : Dt m x) (hm : m ≤ 60) : fnk k .c_is_term [.p x] s = .ok (DB (iot 24 [] false x)) s := by
  obtain ⟨k, rfl⟩ : ∃ n, k = n + 1 := ⟨k - 1, by omega⟩
  have q : fnk k .c_is_open_term [.p x, nmT [], DB false, DI (24 : Nat)] s = _ := openk 24 k [] false x s m (by omega) (by simp) hx hm
  rw [fnk_c_is_term, runB_eq]
  show rsOut (tm_c_is_term (fnk k .c_is_open_term) _ s) = _
  generalize fnk k = C at *
  unfold tm_c_is_term
  unfold nmT at q
  simp at q
  simp [Dl.k_MAX_DEPTH, q, PySem.sizeLine_eq]
theorem checked_y {k m : Nat} {x : PyData} {s : Sto} (hk : 48 ≤ k) (hx : Dt m x) (hm : m ≤ 60) (h : iot 24 [] false x = true) : fnk k .c_checked [.p x] s = .ok (.p x) s := by
  obtain ⟨k, rfl⟩ : ∃ n, k = n + 1 := ⟨k - 1, by omega⟩
  have q := term_v (k := k) (s := s) (by omega) hx hm
  rw [h] at q
  rw [fnk_c_checked, runB_eq]
  show rsOut (tm_c_checked (fnk k .c_is_term) _ s) = _
  generalize fnk k = C at *
  unfold tm_c_checked
  simp [q]
theorem checked_n {k m : Nat} {x : PyData} {s : Sto} (hk : 48 ≤ k) (hx : Dt m x) (hm : m ≤ 60) (h : iot 24 [] false x = false) : fnk k .c_checked [.p x] s = .ex 0 (.str Dl.q_term) s := by
  obtain ⟨k, rfl⟩ : ∃ n, k = n + 1 := ⟨k - 1, by omega⟩
  have q := term_v (k := k) (s := s) (by omega) hx hm
  rw [h] at q
  rw [fnk_c_checked, runB_eq]
  show rsOut (tm_c_checked (fnk k .c_is_term) _ s) = _
  generalize fnk k = C at *
  unfold tm_c_checked
  simp [q, sRaise]
theorem law_true (ns : List Int) (h : ns.length ≤ 63) : ∃ s, fnk 60 .c_law [.ro (ns.map PyData.int)] [] = .ok (.p (.bool true)) s := by
  rw [fnk_c_law]
  have hT : TakeOk fun k => fnk k .law_take := takeOk fnk_law_take
  have hV : ValOk fun k => fnk k .law_value := val_ok fnk_law_value hT
  have hE : TestOk fun k => fnk k .law_test := test_ok fnk_law_test hV hT
  have hO : OpOk fun k => fnk k .law_operation := op_ok fnk_law_operation hT
  have hL : LeafOk fun k => fnk k .law_leaf := leaf_ok fnk_law_leaf hV hT
  have hM : TermOk fun k => fnk k .law_term := term_ok fnk_law_term hL hO hE hT
  obtain ⟨o0, r0, e⟩ := stream_run ns h
  have e0 : fnk 59 .law_stream [.ro (ns.map PyData.int)] [] = .ok (.ref 0) [o0] := (fnk_law_stream 58 _ _).trans e
  obtain ⟨t, o1, t1, r1, e1⟩ := hT 59 4 o0 [] r0 (by decide) (by omega)
  obtain ⟨T, o2, r2, g, e2⟩ := hM (1 + t) 59 [] false o1 [] r1 (by simp; omega) (by omega)
  have nn : ∀ x ∈ ([] : List Str), isNm x := fun _ h => (List.not_mem_nil h).elim
  have wt := Tg.wt g nn
  have tb := Tg.tb g nn
  have wf := g.wf
  have acc : iot 24 [] false T.enc = true := wt.ok (by omega)
  have smT := (tb.sm (flt_sm (x := .none) (by simp [flts]))).1
  have dtT : Dt (3 * (1 + t + 1) + 6) T.enc := Sm.dt smT (bnd6 (by omega))
  have f1 := fun s => term_v (k := 59) (s := s) (by omega) dtT (by omega)
  rw [acc] at f1
  have f2 := fun s => checked_y (k := 59) (s := s) (by omega) dtT (by omega) acc
  have f3 : ∀ s, fnk 59 .law_faults [] s = .ok (.p (.list flts)) s := fun s => faults_v
  obtain ⟨u, o3, u1, r3, e3⟩ := hT 59 37 o2 [] r2 (by decide) (by omega)
  have hu : u < flts.length := by rw [faults_len]; omega
  have hx := List.getElem_mem hu
  have ix : ∀ s, hIx (.p (.list flts)) (DI u) s = .ok (.p flts[u]) s := fun s => hIx_lat (by rw [List.getElem?_eq_getElem hu])
  have fc := fun s => count_v wf 59 s (by omega)
  have sz1 : 0 < szT T := by
    cases T with
    | node h l => rw [szT]; omega
  obtain ⟨at', o4, v1, r4, e4⟩ := hT 59 (szT T : Nat) o3 [] r3 (by omega) (by omega)
  have v2 : at' < szT T := by omega
  have fi := fun s => ins_v wf 59 at' s v2 (by omega)
  have fp := fun s => put_v wf 59 flts[u] at' s v2 (by omega)
  have fin := fun s => flt_in (s := s) hx
  have rp := fun s => put_repr (n := at') (s := s) hx tb (by omega)
  have smP := (tb.sm (flt_sm hx)).2 at'
  have dtP := Sm.dt smP (bnd6 (by omega))
  have f5 := fun s => term_v (k := 59) (s := s) (by omega) dtP (by omega)
  have f6 := fun s => checked_n (k := 59) (s := s) (by omega) dtP (by omega)
  have rj : (sfx flts[u] = true → insT T at' = false) → iot 24 [] false (putT flts[u] T at') = false := fun hs => rej (bads hx) wt nn (fun _ => rfl) at' v2 hs 24
  have ne : ∀ s, hNe (.p T.enc) (.p T.enc) s = .ok (DB false) s := fun s => by
    have := enc_sq T
    have sh := sm_shaped smT (by omega)
    cases he : T.enc with
    | tuple xs => rw [he] at sh; exact hNe_self sh
    | list xs =>
      exfalso
      cases T with
      | node hh l => rw [Tm.enc_node] at he; cases hh <;> cases he
    | _ => rw [he] at this; cases this
  dsimp only at e1 e2 e3 e4
  rw [show ((1 + t : Nat) : Int) = 1 + (t : Int) by omega, show nmD [] = .p (.list []) from rfl] at e2
  generalize flts[u] = x at *
  generalize putT x T at' = y at *
  generalize fnk 59 = C at *
  show ∃ s, runB 9 (tm_k04_law (C .law_stream) (C .law_term) (C .law_take) (C .c_is_term) (C .c_checked) (C .law_faults) (C .law_count) (C .law_inside_grow) (C .law_put)) _ _ = .ok (.p (.bool true)) s
  rw [runB_eq]
  unfold tm_k04_law
  have lf : (flts.length : Int) = 37 := rfl
  have sl : ∀ s, newL false [D.p (.tuple [.str Dl.q_self]), D.p (.tuple [.str Dl.q_grow, .int 1, .tuple [.str Dl.q_self], .tuple [.str Dl.q_const, .int 1]])] s = .ok (.p (.list selfs)) s := fun s => rfl
  by_cases ig : insT T at' = true
  · rw [ig] at fi
    by_cases sx : sfx x = true
    · rw [sx] at fin
      simp [e0, e1, e2, f1, f2, ne, f3, lf, e3, ix, fc, e4, fi, fin, sl, PySem.sizeLine_eq]
    · have sx' : sfx x = false := by simpa using sx
      rw [sx'] at fin
      have rj := rj fun c => absurd c sx
      rw [rj] at f5
      have f6 := fun s => f6 s rj
      simp [e0, e1, e2, f1, f2, ne, f3, lf, e3, ix, fc, e4, fi, fin, sl, fp, rp, f5, f6, sTryEq, Dl.m_Invalid, PySem.sizeLine_eq]
  · have ig' : insT T at' = false := by simpa using ig
    rw [ig'] at fi
    have rj := rj fun _ => ig'
    rw [rj] at f5
    have f6 := fun s => f6 s rj
    simp [e0, e1, e2, f1, f2, ne, f3, lf, e3, ix, fc, e4, fi, fin, sl, fp, rp, f5, f6, sTryEq, Dl.m_Invalid, PySem.sizeLine_eq]
end Lk04
/-! law_k04_terms_and_near_things: what the top has left, the end (printed by gen.py). -/
namespace Lk04
open PySem PySem.Spec PyProof.Rows L2 Dl
def adOf (f0 f1 f2 f3 f4 f5 f6 f7 f8 f9 f10 f11 f12 f13 f14 f15 f16 f17 f18 f19 f20 f21 f22 f23 f24 : Addr) : Fn → Addr
  | .c_is_value => f0
  | .c_is_test => f1
  | .c_is_integer => f2
  | .c_is_operation => f3
  | .c_is_name => f4
  | .c_is_pair => f5
  | .c_parts_of => f6
  | .c_is_flat => f7
  | .c_is_shaped => f8
  | .c_is_open_term => f9
  | .c_is_term => f10
  | .c_checked => f11
  | .law_stream => f12
  | .law_take => f13
  | .law_value => f14
  | .law_test => f15
  | .law_operation => f16
  | .law_leaf => f17
  | .law_term => f18
  | .law_faults => f19
  | .law_count => f20
  | .law_parts => f21
  | .law_put => f22
  | .law_inside_grow => f23
  | .c_law => f24
def fdOf (d0 d1 d2 d3 d4 d5 d6 d7 d8 d9 d10 d11 d12 d13 d14 d15 d16 d17 d18 d19 d20 d21 d22 d23 d24 : FuncData) : Fn → FuncData
  | .c_is_value => d0
  | .c_is_test => d1
  | .c_is_integer => d2
  | .c_is_operation => d3
  | .c_is_name => d4
  | .c_is_pair => d5
  | .c_parts_of => d6
  | .c_is_flat => d7
  | .c_is_shaped => d8
  | .c_is_open_term => d9
  | .c_is_term => d10
  | .c_checked => d11
  | .law_stream => d12
  | .law_take => d13
  | .law_value => d14
  | .law_test => d15
  | .law_operation => d16
  | .law_leaf => d17
  | .law_term => d18
  | .law_faults => d19
  | .law_count => d20
  | .law_parts => d21
  | .law_put => d22
  | .law_inside_grow => d23
  | .c_law => d24
theorem all_mk {P : Program} {w : World} {K : PySem.W.Frag} {h : Heap} {mg : Str → Option Value} {fa : Addr} {CT : Nat → Addr} (X : K.In h) (G : h.Ns mainGlobals mg) (hfa : mg "law" = some (.ref fa))
    {f0 : Addr} {od0 an0 : Option Addr} {sl0 : Array (Option Value)} {oc0 dV0 kV0 dc0 pm0 cd0 ct0 : Value}
    (a0 : PySem.W.nsIn K mainGlobals "is_value" = some (some (.ref f0))) (l0 : K.lookup f0 = some ⟨oc0, od0, .func (PySem.W.fnOf "is_value" "is_value" (defArgs s_c_is_value) (defBody s_c_is_value) (defScope s_c_is_value) dV0 kV0 dc0 pm0 an0 cd0 ct0), sl0⟩) (c0 : PySem.W.codeIn K cd0 "is_value" = true) (k0 : PySem.W.keepIn K (.ref f0) = true)
    {f1 : Addr} {od1 an1 : Option Addr} {sl1 : Array (Option Value)} {oc1 dV1 kV1 dc1 pm1 cd1 ct1 : Value}
    (a1 : PySem.W.nsIn K mainGlobals "is_test" = some (some (.ref f1))) (l1 : K.lookup f1 = some ⟨oc1, od1, .func (PySem.W.fnOf "is_test" "is_test" (defArgs s_c_is_test) (defBody s_c_is_test) (defScope s_c_is_test) dV1 kV1 dc1 pm1 an1 cd1 ct1), sl1⟩) (c1 : PySem.W.codeIn K cd1 "is_test" = true) (k1 : PySem.W.keepIn K (.ref f1) = true)
    {f2 : Addr} {od2 an2 : Option Addr} {sl2 : Array (Option Value)} {oc2 kV2 dc2 pm2 cd2 ct2 : Value}
    (a2 : PySem.W.nsIn K mainGlobals "is_integer" = some (some (.ref f2))) (l2 : K.lookup f2 = some ⟨oc2, od2, .func (PySem.W.fnOf "is_integer" "is_integer" (defArgs s_c_is_integer) (defBody s_c_is_integer) (defScope s_c_is_integer) .none kV2 dc2 pm2 an2 cd2 ct2), sl2⟩) (c2 : PySem.W.codeIn K cd2 "is_integer" = true) (k2 : PySem.W.keepIn K (.ref f2) = true)
    {f3 : Addr} {od3 an3 : Option Addr} {sl3 : Array (Option Value)} {oc3 kV3 dc3 pm3 cd3 ct3 : Value}
    (a3 : PySem.W.nsIn K mainGlobals "is_operation" = some (some (.ref f3))) (l3 : K.lookup f3 = some ⟨oc3, od3, .func (PySem.W.fnOf "is_operation" "is_operation" (defArgs s_c_is_operation) (defBody s_c_is_operation) (defScope s_c_is_operation) .none kV3 dc3 pm3 an3 cd3 ct3), sl3⟩) (c3 : PySem.W.codeIn K cd3 "is_operation" = true) (k3 : PySem.W.keepIn K (.ref f3) = true)
    {f4 : Addr} {od4 an4 : Option Addr} {sl4 : Array (Option Value)} {oc4 kV4 dc4 pm4 cd4 ct4 : Value}
    (a4 : PySem.W.nsIn K mainGlobals "is_name" = some (some (.ref f4))) (l4 : K.lookup f4 = some ⟨oc4, od4, .func (PySem.W.fnOf "is_name" "is_name" (defArgs s_c_is_name) (defBody s_c_is_name) (defScope s_c_is_name) .none kV4 dc4 pm4 an4 cd4 ct4), sl4⟩) (c4 : PySem.W.codeIn K cd4 "is_name" = true) (k4 : PySem.W.keepIn K (.ref f4) = true)
    {f5 : Addr} {od5 an5 : Option Addr} {sl5 : Array (Option Value)} {oc5 kV5 dc5 pm5 cd5 ct5 : Value}
    (a5 : PySem.W.nsIn K mainGlobals "is_pair" = some (some (.ref f5))) (l5 : K.lookup f5 = some ⟨oc5, od5, .func (PySem.W.fnOf "is_pair" "is_pair" (defArgs s_c_is_pair) (defBody s_c_is_pair) (defScope s_c_is_pair) .none kV5 dc5 pm5 an5 cd5 ct5), sl5⟩) (c5 : PySem.W.codeIn K cd5 "is_pair" = true) (k5 : PySem.W.keepIn K (.ref f5) = true)
    {f6 : Addr} {od6 an6 : Option Addr} {sl6 : Array (Option Value)} {oc6 kV6 dc6 pm6 cd6 ct6 : Value}
    (a6 : PySem.W.nsIn K mainGlobals "parts_of" = some (some (.ref f6))) (l6 : K.lookup f6 = some ⟨oc6, od6, .func (PySem.W.fnOf "parts_of" "parts_of" (defArgs s_c_parts_of) (defBody s_c_parts_of) (defScope s_c_parts_of) .none kV6 dc6 pm6 an6 cd6 ct6), sl6⟩) (c6 : PySem.W.codeIn K cd6 "parts_of" = true) (k6 : PySem.W.keepIn K (.ref f6) = true)
    {f7 : Addr} {od7 an7 : Option Addr} {sl7 : Array (Option Value)} {oc7 kV7 dc7 pm7 cd7 ct7 : Value}
    (a7 : PySem.W.nsIn K mainGlobals "is_flat" = some (some (.ref f7))) (l7 : K.lookup f7 = some ⟨oc7, od7, .func (PySem.W.fnOf "is_flat" "is_flat" (defArgs s_c_is_flat) (defBody s_c_is_flat) (defScope s_c_is_flat) .none kV7 dc7 pm7 an7 cd7 ct7), sl7⟩) (c7 : PySem.W.codeIn K cd7 "is_flat" = true) (k7 : PySem.W.keepIn K (.ref f7) = true)
    {f8 : Addr} {od8 an8 : Option Addr} {sl8 : Array (Option Value)} {oc8 kV8 dc8 pm8 cd8 ct8 : Value}
    (a8 : PySem.W.nsIn K mainGlobals "is_shaped" = some (some (.ref f8))) (l8 : K.lookup f8 = some ⟨oc8, od8, .func (PySem.W.fnOf "is_shaped" "is_shaped" (defArgs s_c_is_shaped) (defBody s_c_is_shaped) (defScope s_c_is_shaped) .none kV8 dc8 pm8 an8 cd8 ct8), sl8⟩) (c8 : PySem.W.codeIn K cd8 "is_shaped" = true) (k8 : PySem.W.keepIn K (.ref f8) = true)
    {f9 : Addr} {od9 an9 : Option Addr} {sl9 : Array (Option Value)} {oc9 kV9 dc9 pm9 cd9 ct9 : Value}
    (a9 : PySem.W.nsIn K mainGlobals "is_open_term" = some (some (.ref f9))) (l9 : K.lookup f9 = some ⟨oc9, od9, .func (PySem.W.fnOf "is_open_term" "is_open_term" (defArgs s_c_is_open_term) (defBody s_c_is_open_term) (defScope s_c_is_open_term) .none kV9 dc9 pm9 an9 cd9 ct9), sl9⟩) (c9 : PySem.W.codeIn K cd9 "is_open_term" = true) (k9 : PySem.W.keepIn K (.ref f9) = true)
    {f10 : Addr} {od10 an10 : Option Addr} {sl10 : Array (Option Value)} {oc10 kV10 dc10 pm10 cd10 ct10 : Value}
    (a10 : PySem.W.nsIn K mainGlobals "is_term" = some (some (.ref f10))) (l10 : K.lookup f10 = some ⟨oc10, od10, .func (PySem.W.fnOf "is_term" "is_term" (defArgs s_c_is_term) (defBody s_c_is_term) (defScope s_c_is_term) .none kV10 dc10 pm10 an10 cd10 ct10), sl10⟩) (c10 : PySem.W.codeIn K cd10 "is_term" = true) (k10 : PySem.W.keepIn K (.ref f10) = true)
    {f11 : Addr} {od11 an11 : Option Addr} {sl11 : Array (Option Value)} {oc11 kV11 dc11 pm11 cd11 ct11 : Value}
    (a11 : PySem.W.nsIn K mainGlobals "checked" = some (some (.ref f11))) (l11 : K.lookup f11 = some ⟨oc11, od11, .func (PySem.W.fnOf "checked" "checked" (defArgs s_c_checked) (defBody s_c_checked) (defScope s_c_checked) .none kV11 dc11 pm11 an11 cd11 ct11), sl11⟩) (c11 : PySem.W.codeIn K cd11 "checked" = true) (k11 : PySem.W.keepIn K (.ref f11) = true)
    {f12 : Addr} {od12 an12 : Option Addr} {sl12 : Array (Option Value)} {oc12 kV12 dc12 pm12 cd12 ct12 : Value}
    (a12 : PySem.W.nsIn K mainGlobals "_law_stream" = some (some (.ref f12))) (l12 : K.lookup f12 = some ⟨oc12, od12, .func (PySem.W.fnOf "_law_stream" "_law_stream" (defArgs s_law_stream) (defBody s_law_stream) (defScope s_law_stream) .none kV12 dc12 pm12 an12 cd12 ct12), sl12⟩) (c12 : PySem.W.codeIn K cd12 "_law_stream" = true) (k12 : PySem.W.keepIn K (.ref f12) = true)
    {f13 : Addr} {od13 an13 : Option Addr} {sl13 : Array (Option Value)} {oc13 kV13 dc13 pm13 cd13 ct13 : Value}
    (a13 : PySem.W.nsIn K mainGlobals "_law_take" = some (some (.ref f13))) (l13 : K.lookup f13 = some ⟨oc13, od13, .func (PySem.W.fnOf "_law_take" "_law_take" (defArgs s_law_take) (defBody s_law_take) (defScope s_law_take) .none kV13 dc13 pm13 an13 cd13 ct13), sl13⟩) (c13 : PySem.W.codeIn K cd13 "_law_take" = true) (k13 : PySem.W.keepIn K (.ref f13) = true)
    {f14 : Addr} {od14 an14 : Option Addr} {sl14 : Array (Option Value)} {oc14 kV14 dc14 pm14 cd14 ct14 : Value}
    (a14 : PySem.W.nsIn K mainGlobals "_law_value" = some (some (.ref f14))) (l14 : K.lookup f14 = some ⟨oc14, od14, .func (PySem.W.fnOf "_law_value" "_law_value" (defArgs s_law_value) (defBody s_law_value) (defScope s_law_value) .none kV14 dc14 pm14 an14 cd14 ct14), sl14⟩) (c14 : PySem.W.codeIn K cd14 "_law_value" = true) (k14 : PySem.W.keepIn K (.ref f14) = true)
    {f15 : Addr} {od15 an15 : Option Addr} {sl15 : Array (Option Value)} {oc15 kV15 dc15 pm15 cd15 ct15 : Value}
    (a15 : PySem.W.nsIn K mainGlobals "_law_test" = some (some (.ref f15))) (l15 : K.lookup f15 = some ⟨oc15, od15, .func (PySem.W.fnOf "_law_test" "_law_test" (defArgs s_law_test) (defBody s_law_test) (defScope s_law_test) .none kV15 dc15 pm15 an15 cd15 ct15), sl15⟩) (c15 : PySem.W.codeIn K cd15 "_law_test" = true) (k15 : PySem.W.keepIn K (.ref f15) = true)
    {f16 : Addr} {od16 an16 : Option Addr} {sl16 : Array (Option Value)} {oc16 kV16 dc16 pm16 cd16 ct16 : Value}
    (a16 : PySem.W.nsIn K mainGlobals "_law_operation" = some (some (.ref f16))) (l16 : K.lookup f16 = some ⟨oc16, od16, .func (PySem.W.fnOf "_law_operation" "_law_operation" (defArgs s_law_operation) (defBody s_law_operation) (defScope s_law_operation) .none kV16 dc16 pm16 an16 cd16 ct16), sl16⟩) (c16 : PySem.W.codeIn K cd16 "_law_operation" = true) (k16 : PySem.W.keepIn K (.ref f16) = true)
    {f17 : Addr} {od17 an17 : Option Addr} {sl17 : Array (Option Value)} {oc17 kV17 dc17 pm17 cd17 ct17 : Value}
    (a17 : PySem.W.nsIn K mainGlobals "_law_leaf" = some (some (.ref f17))) (l17 : K.lookup f17 = some ⟨oc17, od17, .func (PySem.W.fnOf "_law_leaf" "_law_leaf" (defArgs s_law_leaf) (defBody s_law_leaf) (defScope s_law_leaf) .none kV17 dc17 pm17 an17 cd17 ct17), sl17⟩) (c17 : PySem.W.codeIn K cd17 "_law_leaf" = true) (k17 : PySem.W.keepIn K (.ref f17) = true)
    {f18 : Addr} {od18 an18 : Option Addr} {sl18 : Array (Option Value)} {oc18 kV18 dc18 pm18 cd18 ct18 : Value}
    (a18 : PySem.W.nsIn K mainGlobals "_law_term" = some (some (.ref f18))) (l18 : K.lookup f18 = some ⟨oc18, od18, .func (PySem.W.fnOf "_law_term" "_law_term" (defArgs s_law_term) (defBody s_law_term) (defScope s_law_term) .none kV18 dc18 pm18 an18 cd18 ct18), sl18⟩) (c18 : PySem.W.codeIn K cd18 "_law_term" = true) (k18 : PySem.W.keepIn K (.ref f18) = true)
    {f19 : Addr} {od19 an19 : Option Addr} {sl19 : Array (Option Value)} {oc19 kV19 dc19 pm19 cd19 ct19 : Value}
    (a19 : PySem.W.nsIn K mainGlobals "_law_faults" = some (some (.ref f19))) (l19 : K.lookup f19 = some ⟨oc19, od19, .func (PySem.W.fnOf "_law_faults" "_law_faults" (defArgs s_law_faults) (defBody s_law_faults) (defScope s_law_faults) .none kV19 dc19 pm19 an19 cd19 ct19), sl19⟩) (c19 : PySem.W.codeIn K cd19 "_law_faults" = true) (k19 : PySem.W.keepIn K (.ref f19) = true)
    {f20 : Addr} {od20 an20 : Option Addr} {sl20 : Array (Option Value)} {oc20 kV20 dc20 pm20 cd20 ct20 : Value}
    (a20 : PySem.W.nsIn K mainGlobals "_law_count" = some (some (.ref f20))) (l20 : K.lookup f20 = some ⟨oc20, od20, .func (PySem.W.fnOf "_law_count" "_law_count" (defArgs s_law_count) (defBody s_law_count) (defScope s_law_count) .none kV20 dc20 pm20 an20 cd20 ct20), sl20⟩) (c20 : PySem.W.codeIn K cd20 "_law_count" = true) (k20 : PySem.W.keepIn K (.ref f20) = true)
    {f21 : Addr} {od21 an21 : Option Addr} {sl21 : Array (Option Value)} {oc21 kV21 dc21 pm21 cd21 ct21 : Value}
    (a21 : PySem.W.nsIn K mainGlobals "_law_parts" = some (some (.ref f21))) (l21 : K.lookup f21 = some ⟨oc21, od21, .func (PySem.W.fnOf "_law_parts" "_law_parts" (defArgs s_law_parts) (defBody s_law_parts) (defScope s_law_parts) .none kV21 dc21 pm21 an21 cd21 ct21), sl21⟩) (c21 : PySem.W.codeIn K cd21 "_law_parts" = true) (k21 : PySem.W.keepIn K (.ref f21) = true)
    {f22 : Addr} {od22 an22 : Option Addr} {sl22 : Array (Option Value)} {oc22 kV22 dc22 pm22 cd22 ct22 : Value}
    (a22 : PySem.W.nsIn K mainGlobals "_law_put" = some (some (.ref f22))) (l22 : K.lookup f22 = some ⟨oc22, od22, .func (PySem.W.fnOf "_law_put" "_law_put" (defArgs s_law_put) (defBody s_law_put) (defScope s_law_put) .none kV22 dc22 pm22 an22 cd22 ct22), sl22⟩) (c22 : PySem.W.codeIn K cd22 "_law_put" = true) (k22 : PySem.W.keepIn K (.ref f22) = true)
    {f23 : Addr} {od23 an23 : Option Addr} {sl23 : Array (Option Value)} {oc23 kV23 dc23 pm23 cd23 ct23 : Value}
    (a23 : PySem.W.nsIn K mainGlobals "_law_inside_grow" = some (some (.ref f23))) (l23 : K.lookup f23 = some ⟨oc23, od23, .func (PySem.W.fnOf "_law_inside_grow" "_law_inside_grow" (defArgs s_law_inside_grow) (defBody s_law_inside_grow) (defScope s_law_inside_grow) .none kV23 dc23 pm23 an23 cd23 ct23), sl23⟩) (c23 : PySem.W.codeIn K cd23 "_law_inside_grow" = true) (k23 : PySem.W.keepIn K (.ref f23) = true)
    {f24 : Addr} {od24 an24 : Option Addr} {sl24 : Array (Option Value)} {oc24 kV24 dc24 pm24 cd24 ct24 : Value}
    (a24 : PySem.W.nsIn K mainGlobals "law" = some (some (.ref f24))) (l24 : K.lookup f24 = some ⟨oc24, od24, .func (PySem.W.fnOf "law" "law" (defArgs s_c_law) (defBody s_c_law) (defScope s_c_law) .none kV24 dc24 pm24 an24 cd24 ct24), sl24⟩) (c24 : PySem.W.codeIn K cd24 "law" = true) (k24 : PySem.W.keepIn K (.ref f24) = true)
    (z_abs : PySem.W.nsIn K mainGlobals "abs" = some none)
    (z_all : PySem.W.nsIn K mainGlobals "all" = some none)
    (z_bool : PySem.W.nsIn K mainGlobals "bool" = some none)
    (z_int : PySem.W.nsIn K mainGlobals "int" = some none)
    (z_isinstance : PySem.W.nsIn K mainGlobals "isinstance" = some none)
    (z_len : PySem.W.nsIn K mainGlobals "len" = some none)
    (z_list : PySem.W.nsIn K mainGlobals "list" = some none)
    (z_range : PySem.W.nsIn K mainGlobals "range" = some none)
    (z_repr : PySem.W.nsIn K mainGlobals "repr" = some none)
    (z_str : PySem.W.nsIn K mainGlobals "str" = some none)
    (z_sum : PySem.W.nsIn K mainGlobals "sum" = some none)
    (z_super : PySem.W.nsIn K mainGlobals "super" = some none)
    (z_tuple : PySem.W.nsIn K mainGlobals "tuple" = some none)
    {t_LONE_0 t_LONE_1 t_LONE_2 t_LONE_3 t_LONE_4 : Tok} {p_LONE : Addr} {od_LONE : Option Addr} {n_LONE : Nat} {sl_LONE : Array (Option Value)} (v_LONE : PySem.W.nsIn K mainGlobals "LONE" = some (some (.ref p_LONE))) (w_LONE : K.lookup p_LONE = some ⟨.type "tuple", od_LONE, .seq #[.str "sum" t_LONE_0, .str "size" t_LONE_1, .str "sort" t_LONE_2, .str "reverse" t_LONE_3, .str "flat" t_LONE_4] n_LONE, sl_LONE⟩)
    {t_MAX_DEPTH : Tok} (v_MAX_DEPTH : PySem.W.nsIn K mainGlobals "MAX_DEPTH" = some (some (.int 24 t_MAX_DEPTH)))
    {t_MAX_GROW : Tok} (v_MAX_GROW : PySem.W.nsIn K mainGlobals "MAX_GROW" = some (some (.int 4 t_MAX_GROW)))
    {t_MAX_LIST : Tok} (v_MAX_LIST : PySem.W.nsIn K mainGlobals "MAX_LIST" = some (some (.int 6 t_MAX_LIST)))
    {t_MAX_PARTS : Tok} (v_MAX_PARTS : PySem.W.nsIn K mainGlobals "MAX_PARTS" = some (some (.int 64 t_MAX_PARTS)))
    {t_MAX_SPAN : Tok} (v_MAX_SPAN : PySem.W.nsIn K mainGlobals "MAX_SPAN" = some (some (.int 64 t_MAX_SPAN)))
    {t_MAX_TRIES : Tok} (v_MAX_TRIES : PySem.W.nsIn K mainGlobals "MAX_TRIES" = some (some (.int 4 t_MAX_TRIES)))
    {t_MAX_WEIGHT : Tok} (v_MAX_WEIGHT : PySem.W.nsIn K mainGlobals "MAX_WEIGHT" = some (some (.int 1000000000000000 t_MAX_WEIGHT)))
    {td0_0 : Tok} {T0 : Addr} {oT0 : Value} {dT0 : Option Addr} {nT0 : Nat} {sT0 : Array (Option Value)} (u0 : dV0 = .ref T0) (r0 : K.lookup T0 = some ⟨oT0, dT0, .seq #[.int 8 td0_0] nT0, sT0⟩)
    {td1_0 : Tok} {T1 : Addr} {oT1 : Value} {dT1 : Option Addr} {nT1 : Nat} {sT1 : Array (Option Value)} (u1 : dV1 = .ref T1) (r1 : K.lookup T1 = some ⟨oT1, dT1, .seq #[.int 6 td1_0] nT1, sT1⟩)
    {Cx_Invalid fI_Invalid : Addr} (gx_Invalid : PySem.W.nsIn K mainGlobals "Invalid" = some (some (.ref Cx_Invalid))) (sx_Invalid : SupC P K Cx_Invalid fI_Invalid "name" "name")
    {Cx_Refused : Addr} (gx_Refused : PySem.W.nsIn K mainGlobals "Refused" = some (some (.ref Cx_Refused)))
    (fx_Invalid : XfC K Cx_Invalid)
    (xx_Invalid_Invalid : PySem.W.exmOne K (.ref Cx_Invalid) (.ref Cx_Invalid) = some true)
    (xx_Invalid_Refused : PySem.W.exmOne K (.ref Cx_Refused) (.ref Cx_Invalid) = some false) :
    ∃ fd : FuncData, (∀ (s : Shared) (v : Value), BindsTo s fd ⟨[v], []⟩ [("script", v)]) ∧ ∀ base : Heap, K.In base → base.Ns mainGlobals mg → FnG P w K mg base 60 fa fd ["script"] (spG K CT (exT K) 1 (fnk 60 .c_law)) := by
  have e := hfa.symm.trans (PySem.W.mg_of X G a24)
  cases e
  have ec_Invalid : (exT K).cls 0 = Cx_Invalid := clsAd_of gx_Invalid
  have M : Fx P K mg (exT K) (adOf f0 f1 f2 f3 f4 f5 f6 f7 f8 f9 f10 f11 f12 f13 f14 f15 f16 f17 f18 f19 f20 f21 f22 f23 fa) (fdOf _ _ _ _ _ _ _ _ _ _ _ _ _ _ _ _ _ _ _ _ _ _ _ _ _) fI_Invalid := ⟨fun i => match i with
    | .c_is_value => ⟨⟨_, _, _, _, _, _, _, _, _, _, rfl, l0, c0, fun h => nomatch h⟩, k0, fun _ => PySem.W.mg_of X G a0⟩
    | .c_is_test => ⟨⟨_, _, _, _, _, _, _, _, _, _, rfl, l1, c1, fun h => nomatch h⟩, k1, fun _ => PySem.W.mg_of X G a1⟩
    | .c_is_integer => ⟨⟨_, _, _, _, _, _, _, _, _, _, rfl, l2, c2, fun _ => rfl⟩, k2, fun _ => PySem.W.mg_of X G a2⟩
    | .c_is_operation => ⟨⟨_, _, _, _, _, _, _, _, _, _, rfl, l3, c3, fun _ => rfl⟩, k3, fun _ => PySem.W.mg_of X G a3⟩
    | .c_is_name => ⟨⟨_, _, _, _, _, _, _, _, _, _, rfl, l4, c4, fun _ => rfl⟩, k4, fun _ => PySem.W.mg_of X G a4⟩
    | .c_is_pair => ⟨⟨_, _, _, _, _, _, _, _, _, _, rfl, l5, c5, fun _ => rfl⟩, k5, fun _ => PySem.W.mg_of X G a5⟩
    | .c_parts_of => ⟨⟨_, _, _, _, _, _, _, _, _, _, rfl, l6, c6, fun _ => rfl⟩, k6, fun _ => PySem.W.mg_of X G a6⟩
    | .c_is_flat => ⟨⟨_, _, _, _, _, _, _, _, _, _, rfl, l7, c7, fun _ => rfl⟩, k7, fun _ => PySem.W.mg_of X G a7⟩
    | .c_is_shaped => ⟨⟨_, _, _, _, _, _, _, _, _, _, rfl, l8, c8, fun _ => rfl⟩, k8, fun _ => PySem.W.mg_of X G a8⟩
    | .c_is_open_term => ⟨⟨_, _, _, _, _, _, _, _, _, _, rfl, l9, c9, fun _ => rfl⟩, k9, fun _ => PySem.W.mg_of X G a9⟩
    | .c_is_term => ⟨⟨_, _, _, _, _, _, _, _, _, _, rfl, l10, c10, fun _ => rfl⟩, k10, fun _ => PySem.W.mg_of X G a10⟩
    | .c_checked => ⟨⟨_, _, _, _, _, _, _, _, _, _, rfl, l11, c11, fun _ => rfl⟩, k11, fun _ => PySem.W.mg_of X G a11⟩
    | .law_stream => ⟨⟨_, _, _, _, _, _, _, _, _, _, rfl, l12, c12, fun _ => rfl⟩, k12, fun _ => PySem.W.mg_of X G a12⟩
    | .law_take => ⟨⟨_, _, _, _, _, _, _, _, _, _, rfl, l13, c13, fun _ => rfl⟩, k13, fun _ => PySem.W.mg_of X G a13⟩
    | .law_value => ⟨⟨_, _, _, _, _, _, _, _, _, _, rfl, l14, c14, fun _ => rfl⟩, k14, fun _ => PySem.W.mg_of X G a14⟩
    | .law_test => ⟨⟨_, _, _, _, _, _, _, _, _, _, rfl, l15, c15, fun _ => rfl⟩, k15, fun _ => PySem.W.mg_of X G a15⟩
    | .law_operation => ⟨⟨_, _, _, _, _, _, _, _, _, _, rfl, l16, c16, fun _ => rfl⟩, k16, fun _ => PySem.W.mg_of X G a16⟩
    | .law_leaf => ⟨⟨_, _, _, _, _, _, _, _, _, _, rfl, l17, c17, fun _ => rfl⟩, k17, fun _ => PySem.W.mg_of X G a17⟩
    | .law_term => ⟨⟨_, _, _, _, _, _, _, _, _, _, rfl, l18, c18, fun _ => rfl⟩, k18, fun _ => PySem.W.mg_of X G a18⟩
    | .law_faults => ⟨⟨_, _, _, _, _, _, _, _, _, _, rfl, l19, c19, fun _ => rfl⟩, k19, fun _ => PySem.W.mg_of X G a19⟩
    | .law_count => ⟨⟨_, _, _, _, _, _, _, _, _, _, rfl, l20, c20, fun _ => rfl⟩, k20, fun _ => PySem.W.mg_of X G a20⟩
    | .law_parts => ⟨⟨_, _, _, _, _, _, _, _, _, _, rfl, l21, c21, fun _ => rfl⟩, k21, fun _ => PySem.W.mg_of X G a21⟩
    | .law_put => ⟨⟨_, _, _, _, _, _, _, _, _, _, rfl, l22, c22, fun _ => rfl⟩, k22, fun _ => PySem.W.mg_of X G a22⟩
    | .law_inside_grow => ⟨⟨_, _, _, _, _, _, _, _, _, _, rfl, l23, c23, fun _ => rfl⟩, k23, fun _ => PySem.W.mg_of X G a23⟩
    | .c_law => ⟨⟨_, _, _, _, _, _, _, _, _, _, rfl, l24, c24, fun _ => rfl⟩, k24, fun _ => PySem.W.mg_of X G a24⟩,
    PySem.W.mg_none_of X G z_abs,
    PySem.W.mg_none_of X G z_all,
    PySem.W.mg_none_of X G z_bool,
    PySem.W.mg_none_of X G z_int,
    PySem.W.mg_none_of X G z_isinstance,
    PySem.W.mg_none_of X G z_len,
    PySem.W.mg_none_of X G z_list,
    PySem.W.mg_none_of X G z_range,
    PySem.W.mg_none_of X G z_repr,
    PySem.W.mg_none_of X G z_str,
    PySem.W.mg_none_of X G z_sum,
    PySem.W.mg_none_of X G z_super,
    PySem.W.mg_none_of X G z_tuple,
    ⟨_, .ref p_LONE, PySem.W.mg_of X G v_LONE, rfl, fun _ => ⟨p_LONE, [.str q_sum, .str q_size, .str q_sort, .str q_reverse, .str q_flat], rfl, .inr ⟨_, _, _, w_LONE, rfl, rfl, by show 5 ≤ sizeLine; decide, .cons ⟨_, by rw [show q_sum = Str.ofString "sum" from e_sum.symm]⟩ (.cons ⟨_, by rw [show q_size = Str.ofString "size" from e_size.symm]⟩ (.cons ⟨_, by rw [show q_sort = Str.ofString "sort" from e_sort.symm]⟩ (.cons ⟨_, by rw [show q_reverse = Str.ofString "reverse" from e_reverse.symm]⟩ (.cons ⟨_, by rw [show q_flat = Str.ofString "flat" from e_flat.symm]⟩ (.nil)))))⟩, ⟨_, _, rfl, rfl, ⟨_, _, rfl, rfl, ⟨_, _, rfl, rfl, ⟨_, _, rfl, rfl, ⟨_, _, rfl, rfl, rfl⟩⟩⟩⟩⟩⟩⟩,
    ⟨_, .int 24, PySem.W.mg_of X G v_MAX_DEPTH, ⟨_, rfl⟩, fun _ => rfl⟩,
    ⟨_, .int 4, PySem.W.mg_of X G v_MAX_GROW, ⟨_, rfl⟩, fun _ => rfl⟩,
    ⟨_, .int 6, PySem.W.mg_of X G v_MAX_LIST, ⟨_, rfl⟩, fun _ => rfl⟩,
    ⟨_, .int 64, PySem.W.mg_of X G v_MAX_PARTS, ⟨_, rfl⟩, fun _ => rfl⟩,
    ⟨_, .int 64, PySem.W.mg_of X G v_MAX_SPAN, ⟨_, rfl⟩, fun _ => rfl⟩,
    ⟨_, .int 4, PySem.W.mg_of X G v_MAX_TRIES, ⟨_, rfl⟩, fun _ => rfl⟩,
    ⟨_, .int 1000000000000000, PySem.W.mg_of X G v_MAX_WEIGHT, ⟨_, rfl⟩, fun _ => rfl⟩,
    (by
    have FD : FunD K "is_value" "is_value" (defArgs s_c_is_value) (defBody s_c_is_value) (defScope s_c_is_value) [V.int 8] [] f0 _ := ⟨⟨_, _, _, _, _, _, _, _, _, _, rfl, l0, c0, .inr ⟨by simp, T0, _, [Value.int 8 td0_0], _, u0, r0, rfl, .cons ⟨_, rfl⟩ (.nil)⟩, .inl rfl⟩, k0⟩
    obtain ⟨dvu, h1, h2⟩ := FD.binds1 (ps := p_c_is_value) 1 0 (by simp) rfl fun _ _ _ _ _ _ _ us its h1 h2 => match us, its, h1, h2 with | [_], [_], _, _ => ⟨_, rfl, rfl⟩
    exact ⟨_, dvu, h1, h2, fun _ => ⟨_, _, rfl, rfl, rfl⟩⟩),
    (by
    have FD : FunD K "is_value" "is_value" (defArgs s_c_is_value) (defBody s_c_is_value) (defScope s_c_is_value) [V.int 8] [] f0 _ := ⟨⟨_, _, _, _, _, _, _, _, _, _, rfl, l0, c0, .inr ⟨by simp, T0, _, [Value.int 8 td0_0], _, u0, r0, rfl, .cons ⟨_, rfl⟩ (.nil)⟩, .inl rfl⟩, k0⟩
    obtain ⟨dvu, h1, h2⟩ := FD.binds1 (ps := p_c_is_value) 2 1 (by simp) rfl fun _ _ _ _ _ _ _ us its h1 h2 => match us, its, h1, h2 with | [_, _], [_], _, _ => ⟨_, rfl, rfl⟩
    exact ⟨_, dvu, h1, h2, fun _ => rfl⟩),
    (by
    have FD : FunD K "is_test" "is_test" (defArgs s_c_is_test) (defBody s_c_is_test) (defScope s_c_is_test) [V.int 6] [] f1 _ := ⟨⟨_, _, _, _, _, _, _, _, _, _, rfl, l1, c1, .inr ⟨by simp, T1, _, [Value.int 6 td1_0], _, u1, r1, rfl, .cons ⟨_, rfl⟩ (.nil)⟩, .inl rfl⟩, k1⟩
    obtain ⟨dvu, h1, h2⟩ := FD.binds1 (ps := p_c_is_test) 1 0 (by simp) rfl fun _ _ _ _ _ _ _ us its h1 h2 => match us, its, h1, h2 with | [_], [_], _, _ => ⟨_, rfl, rfl⟩
    exact ⟨_, dvu, h1, h2, fun _ => ⟨_, _, rfl, rfl, rfl⟩⟩),
    (by
    have FD : FunD K "is_test" "is_test" (defArgs s_c_is_test) (defBody s_c_is_test) (defScope s_c_is_test) [V.int 6] [] f1 _ := ⟨⟨_, _, _, _, _, _, _, _, _, _, rfl, l1, c1, .inr ⟨by simp, T1, _, [Value.int 6 td1_0], _, u1, r1, rfl, .cons ⟨_, rfl⟩ (.nil)⟩, .inl rfl⟩, k1⟩
    obtain ⟨dvu, h1, h2⟩ := FD.binds1 (ps := p_c_is_test) 2 1 (by simp) rfl fun _ _ _ _ _ _ _ us its h1 h2 => match us, its, h1, h2 with | [_, _], [_], _, _ => ⟨_, rfl, rfl⟩
    exact ⟨_, dvu, h1, h2, fun _ => rfl⟩),
    by rw [ec_Invalid]; exact sx_Invalid,
    rfl,
    by rw [ec_Invalid]; exact PySem.W.mg_of X G gx_Invalid,
    fun c => match c with | 0 => (by rw [ec_Invalid]; exact xx_Invalid_Invalid) | c + 1 => (by rw [ec_Invalid, show (exT K).cls (c + 1) = Cx_Refused from clsAd_of gx_Refused]; exact xx_Invalid_Refused),
    by rw [ec_Invalid]; exact fx_Invalid⟩
  exact ⟨_, fun s v => .of_eq rfl, fun base _ _ => ok_all M 60 .c_law⟩
end Lk04
open PySem PySem.W PyProof.Rows
set_option maxHeartbeats 0 in
theorem PySem.Challenge.cw_chance_k04_terms_and_near_things_holds : PySem.Challenge.rw_chance_k04_terms_and_near_things.Holds := by
  w_on; o_law; k_head; (case hw => w_witness2)
  k_fill
  refine Dl.walkG (l := PySem.Challenge.rw_chance_k04_terms_and_near_things) (n := 63) (k := 60) (x := "script") (sp := fun w => (fun K => Dl.spG K (fun _ => 0) (Lk04.exT K) 1 (Lk04.fnk 60 .c_law)) _) rfl (by decide) rfl ⟨rfl, rfl, by decide, by decide⟩ (fun w h Y => PySem.W.kIn_of Y) ?F (fun w H a ns hl hS => Dl.law_want hS (Lk04.law_true ns hl))
  case F =>
    intro w mg fa h KX G hmg
    refine' Lk04.all_mk KX G hmg ?a0 ?l0 ?c0 ?k0 ?a1 ?l1 ?c1 ?k1 ?a2 ?l2 ?c2 ?k2 ?a3 ?l3 ?c3 ?k3 ?a4 ?l4 ?c4 ?k4 ?a5 ?l5 ?c5 ?k5 ?a6 ?l6 ?c6 ?k6 ?a7 ?l7 ?c7 ?k7 ?a8 ?l8 ?c8 ?k8 ?a9 ?l9 ?c9 ?k9 ?a10 ?l10 ?c10 ?k10 ?a11 ?l11 ?c11 ?k11 ?a12 ?l12 ?c12 ?k12 ?a13 ?l13 ?c13 ?k13 ?a14 ?l14 ?c14 ?k14 ?a15 ?l15 ?c15 ?k15 ?a16 ?l16 ?c16 ?k16 ?a17 ?l17 ?c17 ?k17 ?a18 ?l18 ?c18 ?k18 ?a19 ?l19 ?c19 ?k19 ?a20 ?l20 ?c20 ?k20 ?a21 ?l21 ?c21 ?k21 ?a22 ?l22 ?c22 ?k22 ?a23 ?l23 ?c23 ?k23 ?a24 ?l24 ?c24 ?k24 ?z_abs ?z_all ?z_bool ?z_int ?z_isinstance ?z_len ?z_list ?z_range ?z_repr ?z_str ?z_sum ?z_super ?z_tuple ?v_LONE ?w_LONE ?v_MAX_DEPTH ?v_MAX_GROW ?v_MAX_LIST ?v_MAX_PARTS ?v_MAX_SPAN ?v_MAX_TRIES ?v_MAX_WEIGHT ?u0 ?r0 ?u1 ?r1 ?gx_Invalid ?sx_Invalid ?gx_Refused ?fx_Invalid ?xx_Invalid_Invalid ?xx_Invalid_Refused
    (case a0 => k_is); (case l0 => k_is); (case c0 => k_is); (case k0 => k_is); (case a1 => k_is); (case l1 => k_is); (case c1 => k_is); (case k1 => k_is); (case a2 => k_is); (case l2 => k_is); (case c2 => k_is); (case k2 => k_is); (case a3 => k_is); (case l3 => k_is); (case c3 => k_is); (case k3 => k_is); (case a4 => k_is); (case l4 => k_is); (case c4 => k_is); (case k4 => k_is); (case a5 => k_is); (case l5 => k_is); (case c5 => k_is); (case k5 => k_is); (case a6 => k_is); (case l6 => k_is); (case c6 => k_is); (case k6 => k_is); (case a7 => k_is); (case l7 => k_is); (case c7 => k_is); (case k7 => k_is); (case a8 => k_is); (case l8 => k_is); (case c8 => k_is); (case k8 => k_is); (case a9 => k_is); (case l9 => k_is); (case c9 => k_is); (case k9 => k_is); (case a10 => k_is); (case l10 => k_is); (case c10 => k_is); (case k10 => k_is); (case a11 => k_is); (case l11 => k_is); (case c11 => k_is); (case k11 => k_is); (case a12 => k_is); (case l12 => k_is); (case c12 => k_is); (case k12 => k_is); (case a13 => k_is); (case l13 => k_is); (case c13 => k_is); (case k13 => k_is); (case a14 => k_is); (case l14 => k_is); (case c14 => k_is); (case k14 => k_is); (case a15 => k_is); (case l15 => k_is); (case c15 => k_is); (case k15 => k_is); (case a16 => k_is); (case l16 => k_is); (case c16 => k_is); (case k16 => k_is); (case a17 => k_is); (case l17 => k_is); (case c17 => k_is); (case k17 => k_is); (case a18 => k_is); (case l18 => k_is); (case c18 => k_is); (case k18 => k_is); (case a19 => k_is); (case l19 => k_is); (case c19 => k_is); (case k19 => k_is); (case a20 => k_is); (case l20 => k_is); (case c20 => k_is); (case k20 => k_is); (case a21 => k_is); (case l21 => k_is); (case c21 => k_is); (case k21 => k_is); (case a22 => k_is); (case l22 => k_is); (case c22 => k_is); (case k22 => k_is); (case a23 => k_is); (case l23 => k_is); (case c23 => k_is); (case k23 => k_is); (case a24 => k_is); (case l24 => k_is); (case c24 => k_is); (case k24 => k_is); (case z_abs => k_is); (case z_all => k_is); (case z_bool => k_is); (case z_int => k_is); (case z_isinstance => k_is); (case z_len => k_is); (case z_list => k_is); (case z_range => k_is); (case z_repr => k_is); (case z_str => k_is); (case z_sum => k_is); (case z_super => k_is); (case z_tuple => k_is); (case v_LONE => k_is); (case w_LONE => k_is); (case v_MAX_DEPTH => k_is); (case v_MAX_GROW => k_is); (case v_MAX_LIST => k_is); (case v_MAX_PARTS => k_is); (case v_MAX_SPAN => k_is); (case v_MAX_TRIES => k_is); (case v_MAX_WEIGHT => k_is); (case u0 => rfl); (case r0 => k_is); (case u1 => rfl); (case r1 => k_is); (case gx_Invalid => k_is); (case sx_Invalid => (refine' Dl.supC_mk ?h1 ?h2 ?h3 ?h4 ?h5 ?h6 ?h7 ?h8 ?h9 ?h10 ?h11 ?h12 ?h13 ?h14 ?h15 ?h16 ?h17 ?h18 ?h19 ?h20 ?h21 ?h22 ?h23 ?h24 ?h25 ?h26 ?h27 ?h28 ?h29 ?h30 ?h31 ?h32 ?h33 ?h34 ?h35 ?h36 ?h37; (case h1 => k_is); (case h2 => decide +kernel); (case h3 => k_is); (case h4 => k_is); (case h5 => k_is); (case h6 => k_is); (case h7 => k_is); (case h8 => k_is); (case h9 => k_is); (case h10 => k_is); (case h11 => exact fun _ _ _ => BindsTo.of_eq rfl); (case h12 => rfl); (case h13 => rfl); (case h14 => k_is); (case h15 => rfl); (case h16 => decide +kernel); (case h17 => k_is); (case h18 => rfl); (case h19 => rfl); (case h20 => rfl); (case h21 => rfl); (case h22 => decide); (case h23 => rfl); (case h24 => rfl); (case h25 => rfl); (case h26 => decide +kernel); (case h27 => decide); (case h28 => decide); (case h29 => exact fun _ => ⟨_, rfl⟩); (case h30 => exact fun _ => rfl); (case h31 => exact fun _ => rfl); (case h32 => k_is); (case h33 => ks_is); (case h34 => k_is); (case h35 => k_is); (case h36 => kx_is); (case h37 => k_is))); (case gx_Refused => k_is); (case fx_Invalid => (refine' ⟨?x1, ?x2, ?x3, ?x4⟩; (case x1 => k_is); (case x2 => k_is); (case x3 => k_is); (case x4 => k_is))); (case xx_Invalid_Invalid => kernel_rfl); (case xx_Invalid_Refused => kernel_rfl)
