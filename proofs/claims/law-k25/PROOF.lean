import PyProof.Rows.All
import Wide.All
import OpenK.AllK
import Wide.FinOn
import HandS.ForMost
import HandS.Wide
import HandS.WideBits
import HandS.IsInst
import HandS.Property
import HandS.Defaults
import HandS.OwnEq
import HandS.Flow
import HandS.Style
import HandS.Gcd
import KE.KMathG
import HandS.Deep
import KE.KOpsOwn
import PyProof.NeKinds
import PySem.Challenge.RW_tracewords_k25_whole_mixtures_told
set_option Elab.async false
set_option linter.all false
set_option maxRecDepth 100000
set_option maxHeartbeats 1000000
set_option autoImplicit false
namespace TL
open PySem PySem.Spec L2

def Ex (H H' : Hp) : Prop := ∀ a o, H a = some o → H' a = some o
theorem Ex.refl (H : Hp) : Ex H H := fun _ _ h => h
theorem Ex.trans {H H1 H2 : Hp} (a : Ex H H1) (b : Ex H1 H2) : Ex H H2 := fun x o h => b x o (a x o h)
theorem Ex.new {H : Hp} {p : Addr} {o : HO} (h : H p = none) : Ex H (upd H p o) := fun a u e => by
  rw [upd_ne (ne_of_none e h)]
  exact e
/-- a pot: two numbers that are not negative -/
def PotOk (H : Hp) (a : Addr) : Prop := ∃ p q : Int, 0 ≤ p ∧ (0 ≤ q ∧ q < 4294967296) ∧ H a = some (.lst [.int p, .int q])
/-- all is kept but the pots at V, which stay pots -/
def Ev (V : List Addr) (H H' : Hp) : Prop := ∀ a o, H a = some o → (a ∉ V → H' a = some o) ∧ (a ∈ V → PotOk H' a)
theorem Ev.refl {V : List Addr} {H : Hp} (h : ∀ a ∈ V, PotOk H a) : Ev V H H := fun a _ e => ⟨fun _ => e, fun m => h a m⟩
theorem Ev.trans {V : List Addr} {H H1 H2 : Hp} (a : Ev V H H1) (b : Ev V H1 H2) : Ev V H H2 := fun x o h => by
  refine ⟨fun n => (b x o ((a x o h).1 n)).1 n, fun m => ?_⟩
  obtain ⟨p, q, _, _, e⟩ := (a x o h).2 m
  exact (b x _ e).2 m
theorem Ev.of {V : List Addr} {H H' : Hp} (e : Ex H H') (h : ∀ a ∈ V, PotOk H a) : Ev V H H' := fun a o q => ⟨fun _ => e a o q, fun m => by
  obtain ⟨x, y, hx, hy, z⟩ := h a m
  exact ⟨x, y, hx, hy, e _ _ z⟩⟩
theorem Ev.pot {V : List Addr} {H H' : Hp} (e : Ev V H H') (h : ∀ a ∈ V, PotOk H a) : ∀ a ∈ V, PotOk H' a := fun a m => by
  obtain ⟨_, _, _, _, z⟩ := h a m
  exact (e a _ z).2 m
theorem Ev.some {V : List Addr} {H H' : Hp} (e : Ev V H H') {a : Addr} (h : H a ≠ none) : H' a ≠ none := by
  cases q : H a with
  | none => exact absurd q h
  | some o =>
    by_cases m : a ∈ V
    · obtain ⟨_, _, _, _, z⟩ := (e a o q).2 m
      rw [z]; intro k; cases k
    · rw [(e a o q).1 m]; intro k; cases k
/-- the heap without the addresses of L -/
def hd (L : List Addr) (H : Hp) : Hp := fun a => if a ∈ L then none else H a
theorem hd_some {L : List Addr} {H : Hp} {a : Addr} {o : HO} (h : hd L H a = some o) : a ∉ L ∧ H a = some o := by
  unfold hd at h
  by_cases m : a ∈ L
  · rw [if_pos m] at h; cases h
  · rw [if_neg m] at h; exact ⟨m, h⟩
theorem hd_of {L : List Addr} {H : Hp} {a : Addr} {o : HO} (n : a ∉ L) (h : H a = some o) : hd L H a = some o := by
  unfold hd
  rw [if_neg n]; exact h
theorem Ex.hd {L : List Addr} {H H' : Hp} (e : Ex H H') : Ex (hd L H) (hd L H') := fun a o h =>
  let ⟨n, h⟩ := hd_some h
  hd_of n (e a o h)
theorem Ev.hd {V L : List Addr} {H H' : Hp} (e : Ev V H H') (s : ∀ a ∈ V, a ∈ L) : Ex (hd L H) (hd L H') := fun a o h =>
  let ⟨n, h⟩ := hd_some h
  hd_of n ((e a o h).1 fun m => n (s a m))
/-- fewer are hidden -/
theorem hd_less {L L' : List Addr} {H : Hp} (s : ∀ a ∈ L', a ∈ L) : Ex (hd L H) (hd L' H) := fun a o h =>
  let ⟨n, h⟩ := hd_some h
  hd_of (fun m => n (s a m)) h
/-- a new address is hidden -/
theorem hd_hide {L : List Addr} {H : Hp} {p : Addr} (hp : H p = none) : Ex (hd L H) (hd (p :: L) H) := fun a o h =>
  let ⟨n, h⟩ := hd_some h
  hd_of (fun m => by
    rcases List.mem_cons.mp m with e | m
    · rw [e, hp] at h; cases h
    · exact n m) h
theorem hd_upd {L : List Addr} {H : Hp} {p : Addr} {o : HO} (m : p ∈ L) : hd L (upd H p o) = hd L H := by
  funext a
  unfold hd
  by_cases e : a ∈ L
  · rw [if_pos e, if_pos e]
  · rw [if_neg e, if_neg e, upd_ne (fun z => e (by rw [z]; exact m))]
theorem hd_new {L : List Addr} {H : Hp} {p : Addr} {o : HO} (al : ∀ a ∈ L, H a ≠ none) (hp : H p = none) : hd L (upd H p o) p = some o :=
  hd_of (fun m => al p m hp) upd_same

structure Rp (α : Type) where
  r : Hp → α → V → Prop
  mono : ∀ {H H' : Hp} {x : α} {v : V}, Ex H H' → r H x v → r H' x v

theorem Paired.monoR {α : Type} {R : Rp α} {H H' : Hp} (e : Ex H H') : ∀ {xs : List α} {vs : List V}, Paired (R.r H) xs vs → Paired (R.r H') xs vs
  | _, _, .nil => .nil
  | _, _, .cons h t => .cons (R.mono e h) (Paired.monoR e t)

def rI : Rp Int := ⟨fun _ i v => v = .int i, fun _ h => h⟩
def rNat : Rp Nat := ⟨fun _ i v => v = .int (i : Int), fun _ h => h⟩
def rB : Rp Bool := ⟨fun _ b v => v = .bl b, fun _ h => h⟩
def rN : Rp Unit := ⟨fun _ _ v => v = .non, fun _ h => h⟩
/-- a value as it is -/
def rV : Rp V := ⟨fun _ x v => v = x, fun _ h => h⟩
/-- a list -/
def rL {α : Type} (R : Rp α) : Rp (List α) := ⟨fun H xs v => ∃ p vs, v = .ref p ∧ H p = some (.lst vs) ∧ Paired (R.r H) xs vs,
  fun e ⟨p, vs, h1, h2, h3⟩ => ⟨p, vs, h1, e _ _ h2, Paired.monoR e h3⟩⟩
/-- a tuple of alike things -/
def rTs {α : Type} (R : Rp α) : Rp (List α) := ⟨fun H xs v => ∃ p vs, v = .ref p ∧ H p = some (.tup vs) ∧ Paired (R.r H) xs vs,
  fun e ⟨p, vs, h1, h2, h3⟩ => ⟨p, vs, h1, e _ _ h2, Paired.monoR e h3⟩⟩
/-- a list or a tuple -/
def rLT {α : Type} (R : Rp α) : Rp (List α) := ⟨fun H xs v => (rL R).r H xs v ∨ (rTs R).r H xs v, fun e h => h.elim (fun h => .inl ((rL R).mono e h)) fun h => .inr ((rTs R).mono e h)⟩
/-- a pair -/
def rP {α β : Type} (R : Rp α) (S : Rp β) : Rp (α × β) := ⟨fun H x v => ∃ p a b, v = .ref p ∧ H p = some (.tup [a, b]) ∧ R.r H x.1 a ∧ S.r H x.2 b,
  fun e ⟨p, a, b, h1, h2, h3, h4⟩ => ⟨p, a, b, h1, e _ _ h2, R.mono e h3, S.mono e h4⟩⟩
/-- None or a thing -/
def rO {α : Type} (R : Rp α) : Rp (Option α) := ⟨fun H x v => match x with
    | none => v = .non
    | some x => R.r H x v,
  fun {H H' x v} e h => by
    cases x with
    | none => exact h
    | some x => exact R.mono e h⟩
/-- an instance whose fields are told -/
def rIns (C : Addr) {α : Type} (f : α → List (Str × V) → Hp → Prop) (hf : ∀ {x fs H H'}, Ex H H' → f x fs H → f x fs H') : Rp α :=
  ⟨fun H x v => ∃ p dx fs, v = .ref p ∧ H p = some (.ins C dx fs) ∧ f x fs H, fun e ⟨p, dx, fs, h1, h2, h3⟩ => ⟨p, dx, fs, h1, e _ _ h2, hf e h3⟩⟩
/-- seen through a function -/
def Rp.on {α β : Type} (R : Rp β) (f : α → β) : Rp α := ⟨fun H x v => R.r H (f x) v, fun e h => R.mono e h⟩
/-- one or the other kind -/
def Rp.or {α : Type} (R S : Rp α) : Rp α := ⟨fun H x v => R.r H x v ∨ S.r H x v, fun e h => h.elim (fun h => .inl (R.mono e h)) fun h => .inr (S.mono e h)⟩

theorem Paired.on {α β : Type} {R : Rp β} {f : α → β} {H : Hp} : ∀ {xs : List α} {vs : List V}, Paired ((R.on f).r H) xs vs → Paired (R.r H) (xs.map f) vs
  | _, _, .nil => .nil
  | _, _, .cons h t => .cons h (Paired.on t)
theorem Paired.no {α β : Type} {R : Rp β} {f : α → β} {H : Hp} : ∀ {xs : List α} {vs : List V}, Paired (R.r H) (xs.map f) vs → Paired ((R.on f).r H) xs vs
  | [], _, h => by cases h; exact .nil
  | x :: xs, _, h => by
    cases h with
    | cons a b => exact .cons a (Paired.no b)
theorem rL_on {α β : Type} {R : Rp β} {f : α → β} {H : Hp} {xs : List α} {v : V} : (rL (R.on f)).r H xs v ↔ (rL R).r H (xs.map f) v :=
  ⟨fun ⟨p, vs, a, b, c⟩ => ⟨p, vs, a, b, Paired.on c⟩, fun ⟨p, vs, a, b, c⟩ => ⟨p, vs, a, b, Paired.no c⟩⟩
theorem Paired.imp {α β : Type} {F G : α → β → Prop} (h : ∀ a b, F a b → G a b) : ∀ {xs : List α} {vs : List β}, Paired F xs vs → Paired G xs vs
  | _, _, .nil => .nil
  | _, _, .cons a t => .cons (h _ _ a) (Paired.imp h t)
theorem rL_imp {α : Type} {R S : Rp α} {H : Hp} {xs : List α} {v : V} (h : ∀ x v, R.r H x v → S.r H x v) : (rL R).r H xs v → (rL S).r H xs v :=
  fun ⟨p, vs, a, b, c⟩ => ⟨p, vs, a, b, Paired.imp h c⟩
theorem Paired.get {α β : Type} {F : α → β → Prop} : ∀ {xs : List α} {vs : List β} {i : Nat} {v : β}, Paired F xs vs → vs[i]? = some v → ∃ x, xs[i]? = some x ∧ F x v
  | _, _, _, _, .nil, e => by simp at e
  | _, _, 0, _, .cons r _, e => by simp at e; subst e; exact ⟨_, rfl, r⟩
  | _, _, i + 1, x, .cons _ t, e => by
    obtain ⟨u, h1, h2⟩ := Paired.get (i := i) (v := x) t (by simpa using e)
    exact ⟨u, by simpa using h1, h2⟩
theorem Paired.get' {α β : Type} {F : α → β → Prop} : ∀ {xs : List α} {vs : List β} {i : Nat} {x : α}, Paired F xs vs → xs[i]? = some x → ∃ v, vs[i]? = some v ∧ F x v
  | _, _, _, _, .nil, e => by simp at e
  | _, _, 0, _, .cons r _, e => by simp at e; subst e; exact ⟨_, rfl, r⟩
  | _, _, i + 1, x, .cons _ t, e => by
    obtain ⟨u, h1, h2⟩ := Paired.get' (i := i) (x := x) t (by simpa using e)
    exact ⟨u, by simpa using h1, h2⟩
theorem Paired.app {α β : Type} {F : α → β → Prop} : ∀ {xs ys : List α} {us vs : List β}, Paired F xs us → Paired F ys vs → Paired F (xs ++ ys) (us ++ vs)
  | _, _, _, _, .nil, s => s
  | _, _, _, _, .cons r t, s => .cons r (Paired.app t s)
theorem Paired.ints {H : Hp} : ∀ {ns : List Int} {vs : List V}, Paired (rI.r H) ns vs → vs = ns.map V.int
  | _, _, .nil => rfl
  | _, _, .cons h t => by rw [List.map_cons, ← Paired.ints t]; cases (show _ = _ from h); rfl
theorem Paired.bls {H : Hp} : ∀ {ns : List Bool} {vs : List V}, Paired (rB.r H) ns vs → vs = ns.map V.bl
  | _, _, .nil => rfl
  | _, _, .cons h t => by rw [List.map_cons, ← Paired.bls t]; cases (show _ = _ from h); rfl
theorem Paired.ofInts {H : Hp} : ∀ {ns : List Int}, Paired (rI.r H) ns (ns.map V.int)
  | [] => .nil
  | _ :: _ => .cons rfl Paired.ofInts
theorem Paired.take {α β : Type} {F : α → β → Prop} : ∀ {xs : List α} {us : List β} (n : Nat), Paired F xs us → Paired F (xs.take n) (us.take n)
  | _, _, 0, _ => .nil
  | _, _, _ + 1, .nil => .nil
  | _, _, n + 1, .cons r t => .cons r (Paired.take n t)
theorem Paired.drop {α β : Type} {F : α → β → Prop} : ∀ {xs : List α} {us : List β} (n : Nat), Paired F xs us → Paired F (xs.drop n) (us.drop n)
  | _, _, 0, r => r
  | _, _, _ + 1, .nil => .nil
  | _, _, n + 1, .cons _ t => Paired.drop n t
theorem Paired.setN {α β : Type} {F : α → β → Prop} {x : α} {u : β} (r : F x u) : ∀ {xs : List α} {us : List β} (i : Nat), Paired F xs us → Paired F (xs.set i x) (us.set i u)
  | _, _, _, .nil => .nil
  | _, _, 0, .cons _ t => .cons r t
  | _, _, i + 1, .cons q t => .cons q (Paired.setN r i t)

inductive Slot : Type 1 where
  | nil
  | val {α : Type} (R : Rp α) (x : α)
  /-- a list of one's own, at l: it may be changed -/
  | own (l : Addr) {α : Type} (R : Rp α) (xs : List α)
/-- a thing that no slot holds -/
structure Gh : Type 1 where
  {α : Type}
  R : Rp α
  x : α
  v : V
structure Env : Type 1 where
  /-- hidden: lists of one's own, those of the callers, pots -/
  L : List Addr
  /-- pots -/
  P : List Addr
  H0 : Hp
  L0 : List Addr
  s : List Slot
  g : List Gh := []

def Slot.ok (L : List Addr) (H : Hp) : Slot → Option (Option V) → Prop
  | .nil, _ => True
  | .val R x, o => ∃ v, o = some (some v) ∧ R.r (hd L H) x v
  | .own l R xs, o => o = some (some (.ref l)) ∧ l ∈ L ∧ ∃ vs, H l = some (.lst vs) ∧ Paired (R.r (hd L H)) xs vs
def Slot.at : Slot → Option Addr
  | .own l _ _ => some l
  | _ => none

structure Has (Γ : Env) (σ : L2.St) (H : Hp) : Prop where
  len : σ.length = Γ.s.length
  ok : ∀ (i : Nat) (t : Slot), Γ.s[i]? = some t → t.ok Γ.L H σ[i]?
  al : ∀ l ∈ Γ.L, H l ≠ none
  pot : ∀ l ∈ Γ.P, l ∈ Γ.L0 ∧ PotOk H l
  ex : Ev Γ.P Γ.H0 H
  sep : ∀ (i j : Nat) (t u : Slot) (l : Addr), Γ.s[i]? = some t → Γ.s[j]? = some u → t.at = some l → u.at = some l → i = j
  l0 : ∀ l ∈ Γ.L0, l ∈ Γ.L ∧ Γ.H0 l ≠ none
  new : ∀ (i : Nat) (t : Slot) (l : Addr), Γ.s[i]? = some t → t.at = some l → Γ.H0 l = none
  gh : ∀ q ∈ Γ.g, q.R.r (hd Γ.L H) q.x q.v

section
variable {Γ : Env} {σ : L2.St} {H H' : Hp}
theorem Has.sub (h : Has Γ σ H) : ∀ a ∈ Γ.P, a ∈ Γ.L := fun a m => (h.l0 a (h.pot a m).1).1
theorem Has.pots (h : Has Γ σ H) : ∀ a ∈ Γ.P, PotOk H a := fun a m => (h.pot a m).2
theorem Has.evr (h : Has Γ σ H) : Ev Γ.P H H := Ev.refl h.pots
theorem Has.eve (h : Has Γ σ H) (e : Ex H H') : Ev Γ.P H H' := Ev.of e h.pots
theorem Has.hdx (h : Has Γ σ H) (e : Ev Γ.P H H') : Ex (hd Γ.L H) (hd Γ.L H') := e.hd h.sub
/-- the state behind what changes nothing but pots -/
theorem Has.ev (h : Has Γ σ H) (e : Ev Γ.P H H') : Has Γ σ H' := by
  have x := h.hdx e
  refine ⟨h.len, fun i t hi => ?_, fun l m => e.some (h.al l m), fun l m => ⟨(h.pot l m).1, e.pot h.pots l m⟩, h.ex.trans e, h.sep, h.l0, h.new, fun q m => q.R.mono x (h.gh q m)⟩
  have k := h.ok i t hi
  cases t with
  | nil => trivial
  | val R y =>
    obtain ⟨v, e1, e2⟩ := k
    exact ⟨v, e1, R.mono x e2⟩
  | own l R xs =>
    obtain ⟨e1, e2, vs, e3, e4⟩ := k
    refine ⟨e1, e2, vs, ?_, Paired.monoR x e4⟩
    refine (e l _ e3).1 fun m => ?_
    have n := h.new i _ l hi rfl
    exact (h.l0 l (h.pot l m).1).2 n
theorem Has.exx (h : Has Γ σ H) (e : Ex H H') : Has Γ σ H' := h.ev (h.eve e)
/-- a slot is stored -/
theorem Has.set (h : Has Γ σ H) {i : Nat} {α : Type} {R : Rp α} {x : α} {v : V} (hi : i < Γ.s.length) (r : R.r (hd Γ.L H) x v) : Has { Γ with s := Γ.s.set i (.val R x) } (σ.set i (some v)) H := by
  have hiσ : i < σ.length := by rw [h.len]; exact hi
  have key : ∀ (j : Nat) (t : Slot), (Γ.s.set i (.val R x))[j]? = some t → (j = i ∧ t = .val R x) ∨ (j ≠ i ∧ Γ.s[j]? = some t) := fun j t hj => by
    by_cases e : j = i
    · subst e
      rw [List.getElem?_set_self hi] at hj
      exact .inl ⟨rfl, (Option.some.inj hj).symm⟩
    · rw [List.getElem?_set_ne (Ne.symm e)] at hj
      exact .inr ⟨e, hj⟩
  refine ⟨by show _ = (Γ.s.set i (.val R x)).length; simp [h.len], fun j t hj => ?_, h.al, h.pot, h.ex, fun j k t u l hj hk ht hu => ?_, h.l0, fun j t l hj ht => ?_, h.gh⟩
  · rcases key j t hj with ⟨rfl, rfl⟩ | ⟨e, hj⟩
    · exact ⟨v, by rw [List.getElem?_set_self hiσ], r⟩
    · show t.ok Γ.L H (σ.set i (some v))[j]?
      rw [List.getElem?_set_ne (Ne.symm e)]
      exact h.ok j t hj
  · rcases key j t hj with ⟨rfl, rfl⟩ | ⟨e, hj⟩
    · cases ht
    · rcases key k u hk with ⟨rfl, rfl⟩ | ⟨e', hk⟩
      · cases hu
      · exact h.sep j k t u l hj hk ht hu
  · rcases key j t hj with ⟨rfl, rfl⟩ | ⟨e, hj⟩
    · cases ht
    · exact h.new j t l hj ht
/-- slots forgotten -/
inductive Fewer : List Slot → List Slot → Prop where
  | nil : Fewer [] []
  | keep {t ss ts} : Fewer ss ts → Fewer (t :: ss) (t :: ts)
  | drop {t ss ts} : Fewer ss ts → Fewer (.nil :: ss) (t :: ts)
theorem Fewer.len {ss ts : List Slot} (f : Fewer ss ts) : ss.length = ts.length := by
  induction f with
  | nil => rfl
  | keep _ ih => simp [ih]
  | drop _ ih => simp [ih]
theorem Fewer.get {ss ts : List Slot} (f : Fewer ss ts) : ∀ (i : Nat) (t : Slot), ss[i]? = some t → t = .nil ∨ ts[i]? = some t := by
  induction f with
  | nil => intro i t h; simp at h
  | keep _ ih =>
    intro i t h
    cases i with
    | zero => exact .inr h
    | succ i => simp only [List.getElem?_cons_succ] at h ⊢; exact ih i t h
  | drop _ ih =>
    intro i t h
    cases i with
    | zero => simp at h; exact .inl h.symm
    | succ i => simp only [List.getElem?_cons_succ] at h ⊢; exact ih i t h
theorem Fewer.refl : ∀ (ss : List Slot), Fewer ss ss
  | [] => .nil
  | _ :: ss => .keep (Fewer.refl ss)
theorem Has.less (h : Has Γ σ H) {ss : List Slot} (f : Fewer ss Γ.s) : Has { Γ with s := ss } σ H := by
  refine ⟨by show _ = ss.length; rw [f.len, h.len], fun i t hi => ?_, h.al, h.pot, h.ex, fun i j t u l hi hj ht hu => ?_, h.l0, fun i t l hi ht => ?_, h.gh⟩
  · rcases f.get i t hi with rfl | e
    · trivial
    · exact h.ok i t e
  · rcases f.get i t hi with rfl | e
    · cases ht
    · rcases f.get j u hj with rfl | e'
      · cases hu
      · exact h.sep i j t u l e e' ht hu
  · rcases f.get i t hi with rfl | e
    · cases ht
    · exact h.new i t l e ht
/-- a new list of one's own, empty -/
theorem Has.own (h : Has Γ σ H) {i : Nat} {α : Type} {R : Rp α} {p : Addr} {xs : List α} {vs : List V} (hi : i < Γ.s.length) (hp : H p = none) (r : Paired (R.r (hd Γ.L H)) xs vs) :
    Has { Γ with L := p :: Γ.L, s := Γ.s.set i (.own p R xs) } (σ.set i (some (.ref p))) (upd H p (.lst vs)) := by
  have hiσ : i < σ.length := by rw [h.len]; exact hi
  have key : ∀ (j : Nat) (t : Slot), (Γ.s.set i (.own p R xs))[j]? = some t → (j = i ∧ t = .own p R xs) ∨ (j ≠ i ∧ Γ.s[j]? = some t) := fun j t hj => by
    by_cases e : j = i
    · subst e
      rw [List.getElem?_set_self hi] at hj
      exact .inl ⟨rfl, (Option.some.inj hj).symm⟩
    · rw [List.getElem?_set_ne (Ne.symm e)] at hj
      exact .inr ⟨e, hj⟩
  have x : Ex (hd Γ.L H) (hd (p :: Γ.L) (upd H p (.lst vs))) := by
    rw [hd_upd List.mem_cons_self]
    exact hd_hide hp
  have ne : ∀ (j : Nat) (t : Slot) (l : Addr), Γ.s[j]? = some t → t.at = some l → l ≠ p := fun j t l hj ht e => by
    cases t with
    | nil => cases ht
    | val => cases ht
    | own l' R' xs' =>
      cases ht
      obtain ⟨_, m, _⟩ := h.ok j _ hj
      exact h.al l m (e ▸ hp)
  refine ⟨by show _ = (Γ.s.set i (.own p R xs)).length; simp [h.len], fun j t hj => ?_, fun l m => ?_, fun l m => ⟨(h.pot l m).1, ?_⟩, h.ex.trans (h.eve (Ex.new hp)), fun j k t u l hj hk ht hu => ?_, fun l m => ⟨List.mem_cons_of_mem _ (h.l0 l m).1, (h.l0 l m).2⟩, fun j t l hj ht => ?_, fun q m => q.R.mono x (h.gh q m)⟩
  · rcases key j t hj with ⟨rfl, rfl⟩ | ⟨e, hj⟩
    · exact ⟨by rw [List.getElem?_set_self hiσ], List.mem_cons_self, vs, upd_same, Paired.monoR x r⟩
    · show t.ok (p :: Γ.L) _ (σ.set i (some (.ref p)))[j]?
      rw [List.getElem?_set_ne (Ne.symm e)]
      have k := h.ok j t hj
      cases t with
      | nil => trivial
      | val R y =>
        obtain ⟨v, e1, e2⟩ := k
        exact ⟨v, e1, R.mono x e2⟩
      | own l R' xs' =>
        obtain ⟨e1, e2, vs', e3, e4⟩ := k
        exact ⟨e1, List.mem_cons_of_mem _ e2, vs', by rw [upd_ne (ne j _ l hj rfl)]; exact e3, Paired.monoR x e4⟩
  · rcases List.mem_cons.mp m with rfl | m
    · rw [upd_same]; intro z; cases z
    · exact (h.eve (Ex.new hp)).some (h.al l m)
  · exact (h.eve (Ex.new hp)).pot h.pots l m
  · rcases key j t hj with ⟨rfl, rfl⟩ | ⟨e, hj2⟩
    · rcases key k u hk with ⟨rfl, rfl⟩ | ⟨e', hk2⟩
      · rfl
      · cases ht
        exact absurd rfl (ne k u _ hk2 hu)
    · rcases key k u hk with ⟨rfl, rfl⟩ | ⟨e', hk2⟩
      · cases hu
        exact absurd rfl (ne j t _ hj2 ht)
      · exact h.sep j k t u l hj2 hk2 ht hu
  · rcases key j t hj with ⟨rfl, rfl⟩ | ⟨e, hj⟩
    · cases ht
      cases q : Γ.H0 p with
      | none => rfl
      | some o => exact absurd hp (h.ex.some (by rw [q]; intro z; cases z))
    · exact h.new j t l hj ht
/-- a list of one's own is changed -/
theorem Has.write (h : Has Γ σ H) {i : Nat} {α : Type} {R : Rp α} {l : Addr} {xs ys : List α} {ws : List V} (hi : Γ.s[i]? = some (.own l R xs)) (r : Paired (R.r (hd Γ.L H)) ys ws) :
    Has { Γ with s := Γ.s.set i (.own l R ys) } σ (upd H l (.lst ws)) := by
  obtain ⟨e1, m, vs, e3, e4⟩ := h.ok i _ hi
  have hil : i < Γ.s.length := (List.getElem?_eq_some_iff.mp hi).1
  have key : ∀ (j : Nat) (t : Slot), (Γ.s.set i (.own l R ys))[j]? = some t → (j = i ∧ t = .own l R ys) ∨ (j ≠ i ∧ Γ.s[j]? = some t) := fun j t hj => by
    by_cases e : j = i
    · subst e
      rw [List.getElem?_set_self hil] at hj
      exact .inl ⟨rfl, (Option.some.inj hj).symm⟩
    · rw [List.getElem?_set_ne (Ne.symm e)] at hj
      exact .inr ⟨e, hj⟩
  have hn := h.new i _ l hi rfl
  have nV : l ∉ Γ.P := fun z => (h.l0 l (h.pot l z).1).2 hn
  have x : hd Γ.L (upd H l (.lst ws)) = hd Γ.L H := hd_upd m
  refine ⟨by show _ = (Γ.s.set i (.own l R ys)).length; simp [h.len], fun j t hj => ?_, fun b mb => ?_, fun b mb => ⟨(h.pot b mb).1, ?_⟩, fun a o ha => ?_, fun j k t u b hj hk ht hu => ?_, h.l0, fun j t b hj ht => ?_, fun q mq => by
    show q.R.r (hd Γ.L (upd H l (.lst ws))) q.x q.v
    rw [x]; exact h.gh q mq⟩
  · show t.ok Γ.L (upd H l (.lst ws)) σ[j]?
    rcases key j t hj with ⟨rfl, rfl⟩ | ⟨e, hj⟩
    · exact ⟨e1, m, ws, upd_same, by rw [x]; exact r⟩
    · have k := h.ok j t hj
      cases t with
      | nil => trivial
      | val R y =>
        obtain ⟨v, a1, a2⟩ := k
        exact ⟨v, a1, by rw [x]; exact a2⟩
      | own l' R' xs' =>
        obtain ⟨a1, a2, vs', a3, a4⟩ := k
        have nl : l' ≠ l := fun z => e (h.sep j i _ _ l' hj hi rfl (by rw [z]; rfl))
        exact ⟨a1, a2, vs', by rw [upd_ne nl]; exact a3, by rw [x]; exact a4⟩
  · by_cases e : b = l
    · rw [e, upd_same]; intro z; cases z
    · rw [upd_ne e]; exact h.al b mb
  · obtain ⟨p, q, hp, hq, hb⟩ := (h.pot b mb).2
    exact ⟨p, q, hp, hq, by rw [upd_ne (fun z => nV (by rw [← z]; exact mb))]; exact hb⟩
  · have ne : a ≠ l := fun z => by rw [z, hn] at ha; cases ha
    have k := h.ex a o ha
    refine ⟨fun z => by rw [upd_ne ne]; exact k.1 z, fun z => ?_⟩
    obtain ⟨p, q, hp, hq, hb⟩ := k.2 z
    exact ⟨p, q, hp, hq, by rw [upd_ne ne]; exact hb⟩
  · have at1 : ∀ (j : Nat) (t : Slot), (Γ.s.set i (.own l R ys))[j]? = some t → ∃ t', Γ.s[j]? = some t' ∧ t'.at = t.at := fun j t hj => by
      rcases key j t hj with ⟨rfl, rfl⟩ | ⟨e, hj⟩
      · exact ⟨_, hi, rfl⟩
      · exact ⟨t, hj, rfl⟩
    obtain ⟨t', a1, a2⟩ := at1 j t hj
    obtain ⟨u', b1, b2⟩ := at1 k u hk
    exact h.sep j k t' u' b a1 b1 (a2.trans ht) (b2.trans hu)
  · rcases key j t hj with ⟨rfl, rfl⟩ | ⟨e, hj⟩
    · cases ht; exact hn
    · exact h.new j t b hj ht
/-- a list of one's own is changed no more -/
theorem Has.froze (h : Has Γ σ H) {i : Nat} {α : Type} {R : Rp α} {l : Addr} {xs : List α} {L' : List Addr} (hi : Γ.s[i]? = some (.own l R xs)) (hL : ∀ a, a ∈ L' ↔ a ∈ Γ.L ∧ a ≠ l) :
    Has { Γ with L := L', s := Γ.s.set i (.val (rL R) xs) } σ H := by
  obtain ⟨e1, m, vs, e3, e4⟩ := h.ok i _ hi
  have hil : i < Γ.s.length := (List.getElem?_eq_some_iff.mp hi).1
  have key : ∀ (j : Nat) (t : Slot), (Γ.s.set i (.val (rL R) xs))[j]? = some t → (j = i ∧ t = .val (rL R) xs) ∨ (j ≠ i ∧ Γ.s[j]? = some t) := fun j t hj => by
    by_cases e : j = i
    · subst e
      rw [List.getElem?_set_self hil] at hj
      exact .inl ⟨rfl, (Option.some.inj hj).symm⟩
    · rw [List.getElem?_set_ne (Ne.symm e)] at hj
      exact .inr ⟨e, hj⟩
  have hn := h.new i _ l hi rfl
  have x : Ex (hd Γ.L H) (hd L' H) := hd_less fun a m => ((hL a).mp m).1
  refine ⟨by show _ = (Γ.s.set i (.val (rL R) xs)).length; simp [h.len], fun j t hj => ?_, fun b mb => h.al b ((hL b).mp mb).1, h.pot, h.ex, fun j k t u b hj hk ht hu => ?_, fun b mb => ⟨(hL b).mpr ⟨(h.l0 b mb).1, fun z => (h.l0 b mb).2 (z ▸ hn)⟩, (h.l0 b mb).2⟩, fun j t b hj ht => ?_, fun q mq => q.R.mono x (h.gh q mq)⟩
  · show t.ok L' H σ[j]?
    rcases key j t hj with ⟨rfl, rfl⟩ | ⟨e, hj⟩
    · exact ⟨_, e1, l, vs, rfl, hd_of (fun z => ((hL l).mp z).2 rfl) e3, Paired.monoR x e4⟩
    · have k := h.ok j t hj
      cases t with
      | nil => trivial
      | val R y =>
        obtain ⟨v, a1, a2⟩ := k
        exact ⟨v, a1, R.mono x a2⟩
      | own l' R' xs' =>
        obtain ⟨a1, a2, vs', a3, a4⟩ := k
        have nl : l' ≠ l := fun z => e (h.sep j i _ _ l' hj hi rfl (by rw [z]; rfl))
        exact ⟨a1, (hL l').mpr ⟨a2, nl⟩, vs', a3, Paired.monoR x a4⟩
  · rcases key j t hj with ⟨rfl, rfl⟩ | ⟨e, hj⟩
    · cases ht
    · rcases key k u hk with ⟨rfl, rfl⟩ | ⟨e', hk⟩
      · cases hu
      · exact h.sep j k t u b hj hk ht hu
  · rcases key j t hj with ⟨rfl, rfl⟩ | ⟨e, hj⟩
    · cases ht
    · exact h.new j t b hj ht
end
end TL

namespace TL
open PySem PySem.Spec L2

def sE (X : Cx) (e : Expr) : TE := fun σ H Q => ∀ (pins : List (Addr × Obj)) (s : Shared), Inv X pins σ H s → wpAny (model X.prog X.w) X.A (eval e X.env) (EP X pins σ Q) X.xe s
def sT (X : Cx) (e : Expr) : TT := fun σ H Q => ∀ (pins : List (Addr × Obj)) (s : Shared), Inv X pins σ H s → wpAny (model X.prog X.w) X.A (isTrue e X.env (eval e X.env)) (TP X pins σ Q) X.xe s
def sW (X : Cx) (e : Expr) : TT := fun σ H Q => ∀ (whole : Sem Value) (pins : List (Addr × Obj)) (s : Shared), Inv X pins σ H s → wpAny (model X.prog X.w) X.A (isTrue e X.env whole) (TP X pins σ Q) X.xe s
def sA (X : Cx) (es : List Expr) : TA := fun σ H Q => ∀ (pos : Pos) (pins : List (Addr × Obj)) (s : Shared), Inv X pins σ H s → wpAny (model X.prog X.w) X.A (spliced (backTo pos (starEach es X.env))) (AP X pins σ Q) X.xe s
def sS (X : Cx) (st : Stmt) : TS := fun D σ H => ∀ (pins : List (Addr × Obj)) (s : Shared), Inv X pins σ H s → wpAny (model X.prog X.w) X.A (exec st X.env) (SP X pins D) X.xe s
def sB (X : Cx) (st : List Stmt) : TS := fun D σ H => ∀ (pins : List (Addr × Obj)) (s : Shared), Inv X pins σ H s → wpAny (model X.prog X.w) X.A (execs st X.env) (SP X pins D) X.xe s
def sG (X : Cx) (tg : Expr) : TG := fun v σ H Q => ∀ (pins : List (Addr × Obj)) (s : Shared) (u : Value), Inv X pins σ H s → RelV v u →
    wpAny (model X.prog X.w) X.A (assign tg X.env u) (fun _ s' => ∃ σ' H', Inv X pins σ' H' s' ∧ Q σ' H') X.xe s
def sI (X : Cx) (tg iter : Expr) : TI := fun σ H R => ∀ (pins : List (Addr × Obj)) (s : Shared), Inv X pins σ H s →
    wpAny (model X.prog X.w) X.A (eval iter X.env) (fun v s1 => wpAny (model X.prog X.w) X.A (pyIter v) (PIE X pins σ tg R) X.xe s1) X.xe s
section
variable {X : Cx}
theorem pe_s {e : Expr} : PE X e (sE X e) := ⟨fun pins s _ _ _ I h => h pins s I⟩
theorem pt_s {e : Expr} : PT X e (sT X e) := ⟨fun pins s _ _ _ I h => h pins s I⟩
theorem pw_s {e : Expr} : PW X e (sW X e) := ⟨fun wh pins s _ _ _ I h => h wh pins s I⟩
theorem pa_s {e : List Expr} : PA X e (sA X e) := ⟨fun pos pins s _ _ _ I h => h pos pins s I⟩
theorem ps_s {e : Stmt} : PS X e (sS X e) := ⟨fun pins s _ _ _ I h => h pins s I⟩
theorem pss_s {e : List Stmt} : PSs X e (sB X e) := ⟨fun pins s _ _ _ I h => h pins s I⟩
theorem pg_s {e : Expr} : PG X e (sG X e) := ⟨fun pins s _ _ _ u _ I r h => h pins s u I r⟩
theorem pi_s {tg e : Expr} : PI X tg e (sI X tg e) := ⟨fun pins s _ _ _ I h => h pins s I⟩
theorem s_pe {e : Expr} {t : TE} {σ : L2.St} {H : Hp} {Q : VK} (h : PE X e t) (q : t σ H Q) : sE X e σ H Q := fun pins s I => h.run pins s σ H Q I q
theorem s_pt {e : Expr} {t : TT} {σ : L2.St} {H : Hp} {Q : Bool → Hp → Prop} (h : PT X e t) (q : t σ H Q) : sT X e σ H Q := fun pins s I => h.run pins s σ H Q I q
theorem s_pw {e : Expr} {t : TT} {σ : L2.St} {H : Hp} {Q : Bool → Hp → Prop} (h : PW X e t) (q : t σ H Q) : sW X e σ H Q := fun wh pins s I => h.run wh pins s σ H Q I q
theorem s_pa {e : List Expr} {t : TA} {σ : L2.St} {H : Hp} {Q : List V → Hp → Prop} (h : PA X e t) (q : t σ H Q) : sA X e σ H Q := fun pos pins s I => h.run pos pins s σ H Q I q
theorem s_ps {e : Stmt} {t : TS} {σ : L2.St} {H : Hp} {D : Ends} (h : PS X e t) (q : t D σ H) : sS X e D σ H := fun pins s I => h.run pins s σ H D I q
theorem s_pss {e : List Stmt} {t : TS} {σ : L2.St} {H : Hp} {D : Ends} (h : PSs X e t) (q : t D σ H) : sB X e D σ H := fun pins s I => h.run pins s σ H D I q
theorem s_pg {e : Expr} {t : TG} {v : V} {σ : L2.St} {H : Hp} {Q : L2.St → Hp → Prop} (h : PG X e t) (q : t v σ H Q) : sG X e v σ H Q := fun pins s u I r => h.run pins s σ H v u Q I r q
theorem s_pi {tg e : Expr} {t : TI} {σ : L2.St} {H : Hp} {R : It → Hp → Prop} (h : PI X tg e t) (q : t σ H R) : sI X tg e σ H R := fun pins s I => h.run pins s σ H R I q

/-- lists have a largest length -/
def Szd (H : Hp) : Prop := ∀ (a : Addr) (xs : List V), H a = some (.lst xs) → xs.length ≤ sizeLine
theorem szd_of {pins : List (Addr × Obj)} {σ : L2.St} {H : Hp} {s : Shared} (I : Inv X pins σ H s) : Szd H := fun a xs e => (I.hok a _ e).1
theorem sE_szd {e : Expr} {σ : L2.St} {H : Hp} {Q : VK} (h : sE X e σ H fun v H' => Szd H' → Q v H') : sE X e σ H Q := fun pins s I =>
  thn (h pins s I) fun u s' ⟨v, H', I', r, q⟩ => ⟨v, H', I', r, q (szd_of I')⟩
theorem sA_szd {e : List Expr} {σ : L2.St} {H : Hp} {Q : List V → Hp → Prop} (h : sA X e σ H fun v H' => Szd H' → Q v H') : sA X e σ H Q := fun pos pins s I =>
  thn (h pos pins s I) fun u s' ⟨v, H', I', r, q⟩ => ⟨v, H', I', r, q (szd_of I')⟩
end

/-- the very x -/
def Is {α : Type} (x : α) : α → Prop := fun y => y = x
def GE (X : Cx) (e : Expr) (Γ : Env) {α : Type} (R : Rp α) (P : α → Prop) : Prop :=
  ∀ σ H, Has Γ σ H → ∀ Q : VK, (∀ x v H', P x → Ev Γ.P H H' → Szd H' → R.r (hd Γ.L H') x v → Q v H') → sE X e σ H Q
def GT (X : Cx) (e : Expr) (Γ : Env) (P : Bool → Prop) : Prop :=
  ∀ σ H, Has Γ σ H → ∀ Q : Bool → Hp → Prop, (∀ b H', P b → Ev Γ.P H H' → Q b H') → sT X e σ H Q
def GW (X : Cx) (e : Expr) (Γ : Env) (P : Bool → Prop) : Prop :=
  ∀ σ H, Has Γ σ H → ∀ Q : Bool → Hp → Prop, (∀ b H', P b → Ev Γ.P H H' → Q b H') → sW X e σ H Q
/-- a told argument -/
structure Bd : Type 1 where
  {α : Type}
  R : Rp α
  x : α
def AllR (H : Hp) : List Bd → List V → Prop
  | [], vs => vs = []
  | b :: bs, vs => ∃ v ws, vs = v :: ws ∧ b.R.r H b.x v ∧ AllR H bs ws
theorem AllR.mono {H H' : Hp} (e : Ex H H') : ∀ {bs : List Bd} {vs : List V}, AllR H bs vs → AllR H' bs vs
  | [], _, h => h
  | _ :: _, _, ⟨v, ws, h1, h2, h3⟩ => ⟨v, ws, h1, Rp.mono _ e h2, AllR.mono e h3⟩
theorem AllR.len {H : Hp} : ∀ {bs : List Bd} {vs : List V}, AllR H bs vs → vs.length = bs.length
  | [], _, h => by rw [h]; rfl
  | _ :: _, _, ⟨v, ws, h1, _, h3⟩ => by rw [h1, List.length_cons, List.length_cons, AllR.len h3]
def GA (X : Cx) (es : List Expr) (Γ : Env) (bs : List Bd) : Prop :=
  ∀ σ H, Has Γ σ H → ∀ Q : List V → Hp → Prop, (∀ vs H', Ev Γ.P H H' → Szd H' → AllR (hd Γ.L H') bs vs → Q vs H') → sA X es σ H Q
/-- statements: P what is handed back; N what is wanted behind them -/
def GS (X : Cx) (st : List Stmt) (Γ : Env) {β : Type} (R : Rp β) (P : β → Prop) (N : L2.St → Hp → Prop) : Prop :=
  ∀ σ H, Has Γ σ H → ∀ D : Ends, (∀ σ' H', N σ' H' → D.nx σ' H') → (∀ y v H', P y → Ev Γ.P Γ.H0 H' → R.r (hd Γ.L0 H') y v → D.rt v H') → sB X st D σ H

section
variable {X : Cx} {Γ : Env} {α β γ : Type} {R : Rp α} {S : Rp β} {T : Rp γ}
theorem GE.imp {e : Expr} {P P' : α → Prop} (h : GE X e Γ R P) (k : ∀ x, P x → P' x) : GE X e Γ R P' := fun σ H hh Q q => h σ H hh Q fun x v H' p e z r => q x v H' (k x p) e z r
/-- the representation may be another one -/
theorem GE.re {e : Expr} {P : α → Prop} {P' : β → Prop} (h : GE X e Γ R P) (k : ∀ x v H, P x → R.r H x v → ∃ y, P' y ∧ S.r H y v) : GE X e Γ S P' := fun σ H hh Q q => h σ H hh Q fun x v H' p e z r =>
  let ⟨y, p', r'⟩ := k x v _ p r
  q y v H' p' e z r'
theorem GE.to {e : Expr} {x y : α} (h : GE X e Γ R (Is x)) (k : x = y) : GE X e Γ R (Is y) := k ▸ h
theorem GT.imp {e : Expr} {P P' : Bool → Prop} (h : GT X e Γ P) (k : ∀ x, P x → P' x) : GT X e Γ P' := fun σ H hh Q q => h σ H hh Q fun x H' p e => q x H' (k x p) e
theorem GT.to {e : Expr} {x y : Bool} (h : GT X e Γ (Is x)) (k : x = y) : GT X e Γ (Is y) := k ▸ h
/-- from a rule of the hand layer -/
theorem ge_of {e : Expr} {P : α → Prop} {t : TE} (h : PE X e t) (q : ∀ σ H, Has Γ σ H → ∀ Q : VK, (∀ x v H', P x → Ev Γ.P H H' → R.r (hd Γ.L H') x v → Q v H') → t σ H Q) : GE X e Γ R P :=
  fun σ H hh Q k => sE_szd (s_pe h (q σ H hh _ fun x v H' p e r z => k x v H' p e z r))
theorem gt_of {e : Expr} {P : Bool → Prop} {t : TT} (h : PT X e t) (q : ∀ σ H, Has Γ σ H → ∀ Q : Bool → Hp → Prop, (∀ x H', P x → Ev Γ.P H H' → Q x H') → t σ H Q) : GT X e Γ P :=
  fun σ H hh Q k => s_pt h (q σ H hh _ k)
theorem gw_of {e : Expr} {P : Bool → Prop} {t : TT} (h : PW X e t) (q : ∀ σ H, Has Γ σ H → ∀ Q : Bool → Hp → Prop, (∀ x H', P x → Ev Γ.P H H' → Q x H') → t σ H Q) : GW X e Γ P :=
  fun σ H hh Q k => s_pw h (q σ H hh _ k)

theorem ge_var (i : Nat) {nm : Str} {pos : Pos} {x : α} (hs : Γ.s[i]? = some (.val R x) := by rfl) (hN : X.N[i]? = some nm := by rfl)
    (hv : Vis X.env.scope nm := by first | exact Or.inl rfl | exact Or.inr (Or.inl rfl) | exact Or.inr (Or.inr rfl)) (hdb : (nm == ("__debug__" : Str)) = false := by decide)
    (hcd : (nm == ("__classdict__" : Str)) = false := by decide) : GE X (.Name nm pos) Γ R (Is x) :=
  ge_of (pe_var hN hv hdb hcd) fun σ H h Q q => by
    obtain ⟨v, e, r⟩ := h.ok i _ hs
    exact ⟨v, e, q x v H rfl h.evr r⟩
theorem ge_int {i : Int} {k : Nat} {pos : Pos} : GE X (.Constant (.int i) k pos) Γ rI (Is i) := ge_of pe_int fun σ H h Q q => q i _ H rfl h.evr rfl
theorem ge_bl {b : Bool} {k : Nat} {pos : Pos} : GE X (.Constant (.bool b) k pos) Γ rB (Is b) := ge_of pe_bl fun σ H h Q q => q b _ H rfl h.evr rfl
theorem ge_non {k : Nat} {pos : Pos} : GE X (.Constant .none k pos) Γ rN (Is ()) := ge_of pe_non fun σ H h Q q => q () _ H rfl h.evr rfl
/-- None where an option is wanted -/
theorem ge_nonO {k : Nat} {pos : Pos} : GE X (.Constant .none k pos) Γ (rO R) (Is none) := ge_of pe_non fun σ H h Q q => q none _ H rfl h.evr rfl

theorem ge_op2 {a b : Expr} {op : Operator} {pos : Pos} {r : R2} {Pa : α → Prop} {Pb : β → Prop} {P : γ → Prop} (ho : OpR X (binaryOp op) r) (ha : GE X a Γ R Pa) (hb : GE X b Γ S Pb)
    (hr : ∀ σ H x y v u, Has Γ σ H → Szd H → Pa x → Pb y → R.r (hd Γ.L H) x v → S.r (hd Γ.L H) y u → ∀ Q : VK, (∀ z w H', P z → Ev Γ.P H H' → T.r (hd Γ.L H') z w → Q w H') → r v u H Q) : GE X (.BinOp a op b pos) Γ T P :=
  ge_of (pe_op ho pe_s pe_s) fun σ H h Q q => ha σ H h _ fun x v H1 p1 e1 z1 r1 => hb σ H1 (h.ev e1) _ fun y u H2 p2 e2 z2 r2 =>
    hr σ H2 x y v u (h.ev (e1.trans e2)) z2 p1 p2 (R.mono ((h.ev e1).hdx e2) r1) r2 Q fun z w H3 p e3 r3 => q z w H3 p ((e1.trans e2).trans e3) r3
theorem ge_cmp2 {a b : Expr} {op : CmpOp} {pos : Pos} {r : R2} {Pa : α → Prop} {Pb : β → Prop} {P : Bool → Prop} (ho : OpR X (compareOp op) r) (ha : GE X a Γ R Pa) (hb : GE X b Γ S Pb) (hm : behindInMarks op b = false)
    (hr : ∀ σ H x y v u, Has Γ σ H → Szd H → Pa x → Pb y → R.r (hd Γ.L H) x v → S.r (hd Γ.L H) y u → ∀ Q : VK, (∀ z H', P z → Ev Γ.P H H' → Q (.bl z) H') → r v u H Q) : GE X (.Compare a [op] [b] pos) Γ rB P :=
  ge_of (pe_cmpR ho pe_s pe_s hm) fun σ H h Q q => ha σ H h _ fun x v H1 p1 e1 z1 r1 => hb σ H1 (h.ev e1) _ fun y u H2 p2 e2 z2 r2 =>
    hr σ H2 x y v u (h.ev (e1.trans e2)) z2 p1 p2 (R.mono ((h.ev e1).hdx e2) r1) r2 Q fun z H3 p e3 => q z _ H3 p ((e1.trans e2).trans e3) rfl
theorem ge_rI0 {a b : Expr} {op : Operator} {pos : Pos} {g : Int → Int → Int} {x y : Int} (ho : OpR X (binaryOp op) (rI0 fun i j => .int (g i j))) (ha : GE X a Γ rI (Is x)) (hb : GE X b Γ rI (Is y)) : GE X (.BinOp a op b pos) Γ rI (Is (g x y)) :=
  ge_op2 ho ha hb fun σ H x' y' v u h _ p1 p2 r1 r2 Q q => by
    cases (show _ = _ from p1); cases (show _ = _ from p2); cases (show _ = _ from r1); cases (show _ = _ from r2)
    exact ⟨_, _, rfl, rfl, q _ _ H rfl h.evr rfl⟩
theorem ge_rI {a b : Expr} {op : Operator} {pos : Pos} {C : Int → Int → Prop} {g : Int → Int → Int} {x y : Int} (ho : OpR X (binaryOp op) (L2.rI C fun i j => .int (g i j))) (ha : GE X a Γ TL.rI (Is x)) (hb : GE X b Γ TL.rI (Is y)) (hc : C x y) : GE X (.BinOp a op b pos) Γ TL.rI (Is (g x y)) :=
  ge_op2 ho ha hb fun σ H x' y' v u h _ p1 p2 r1 r2 Q q => by
    cases (show _ = _ from p1); cases (show _ = _ from p2); cases (show _ = _ from r1); cases (show _ = _ from r2)
    exact ⟨_, _, rfl, rfl, hc, q _ _ H rfl h.evr rfl⟩
variable {a b : Expr} {pos : Pos}
theorem ge_add {x y : Int} (ha : GE X a Γ TL.rI (Is x)) (hb : GE X b Γ TL.rI (Is y)) : GE X (.BinOp a .Add b pos) Γ TL.rI (Is (x + y)) := ge_rI0 op_add ha hb
theorem ge_sub {x y : Int} (ha : GE X a Γ TL.rI (Is x)) (hb : GE X b Γ TL.rI (Is y)) : GE X (.BinOp a .Sub b pos) Γ TL.rI (Is (x - y)) := ge_rI0 op_sub ha hb
theorem ge_mul {x y : Int} (ha : GE X a Γ TL.rI (Is x)) (hb : GE X b Γ TL.rI (Is y)) (hc : CMulX x y) : GE X (.BinOp a .Mult b pos) Γ TL.rI (Is (x * y)) := ge_rI op_mulX ha hb hc
/-- // by a positive divisor, by C -/
theorem op_fdivP : OpR X (binaryOp .FloorDiv) (L2.rI CDivP fun i j => .int (i / j)) := opI fun i j _ _ _ _ _ hc q => by
  have h1 : (0 : Int) < j := hc.1
  exact PyProof.Rows.floordiv_int (by omega) (by rw [Int.fdiv_eq_ediv_of_nonneg i (by omega)]; exact q) (.inl hc.2)
/-- // by any divisor but 0, by C -/
def CDivA (i j : Int) : Prop := j ≠ 0 ∧ Builtin.divisionGoesByPylong i j = false
theorem op_fdivA : OpR X (binaryOp .FloorDiv) (L2.rI CDivA fun i j => .int (i.fdiv j)) := opI fun i j _ _ _ _ _ hc q =>
  PyProof.Rows.floordiv_int hc.1 q (.inl hc.2)
theorem ge_fdiv {x y : Int} (ha : GE X a Γ TL.rI (Is x)) (hb : GE X b Γ TL.rI (Is y)) (hc : CDivP x y) : GE X (.BinOp a .FloorDiv b pos) Γ TL.rI (Is (x / y)) := ge_rI op_fdivP ha hb hc
theorem ge_fdivA {x y : Int} (ha : GE X a Γ TL.rI (Is x)) (hb : GE X b Γ TL.rI (Is y)) (hc : CDivA x y) : GE X (.BinOp a .FloorDiv b pos) Γ TL.rI (Is (x.fdiv y)) := ge_rI op_fdivA ha hb hc
theorem ge_mod {x y : Int} (ha : GE X a Γ TL.rI (Is x)) (hb : GE X b Γ TL.rI (Is y)) (hc : 0 < y) : GE X (.BinOp a .Mod b pos) Γ TL.rI (Is (x % y)) := ge_rI op_mod ha hb hc
theorem ge_neg {x : Int} (ha : GE X a Γ TL.rI (Is x)) : GE X (.UnaryOp .USub a pos) Γ TL.rI (Is (-x)) :=
  ge_of (pe_un un_neg pe_s) fun σ H h Q q => ha σ H h _ fun x' v H1 p1 e1 z1 r1 => by
    cases (show _ = _ from p1); cases (show _ = _ from r1)
    exact ⟨_, rfl, q _ _ H1 rfl e1 rfl⟩

theorem ge_cI {op : CmpOp} {g : Int → Int → Bool} {x y : Int} (ho : OpR X (compareOp op) (rI0 fun i j => .bl (g i j))) (ha : GE X a Γ TL.rI (Is x)) (hb : GE X b Γ TL.rI (Is y)) (hm : behindInMarks op b = false) : GE X (.Compare a [op] [b] pos) Γ rB (Is (g x y)) :=
  ge_cmp2 ho ha hb hm fun σ H x' y' v u h _ p1 p2 r1 r2 Q q => by
    cases (show _ = _ from p1); cases (show _ = _ from p2); cases (show _ = _ from r1); cases (show _ = _ from r2)
    exact ⟨_, _, rfl, rfl, q _ H rfl h.evr⟩
theorem ge_lt {x y : Int} (ha : GE X a Γ TL.rI (Is x)) (hb : GE X b Γ TL.rI (Is y)) : GE X (.Compare a [.Lt] [b] pos) Γ rB (Is (decide (x < y))) := ge_cI op_lt ha hb (nomark _)
theorem ge_le {x y : Int} (ha : GE X a Γ TL.rI (Is x)) (hb : GE X b Γ TL.rI (Is y)) : GE X (.Compare a [.LtE] [b] pos) Γ rB (Is (decide (x ≤ y))) := ge_cI op_le ha hb (nomark _)
theorem ge_gt {x y : Int} (ha : GE X a Γ TL.rI (Is x)) (hb : GE X b Γ TL.rI (Is y)) : GE X (.Compare a [.Gt] [b] pos) Γ rB (Is (decide (y < x))) := ge_cI op_gt ha hb (nomark _)
theorem ge_ge {x y : Int} (ha : GE X a Γ TL.rI (Is x)) (hb : GE X b Γ TL.rI (Is y)) : GE X (.Compare a [.GtE] [b] pos) Γ rB (Is (decide (y ≤ x))) := ge_cI op_ge ha hb (nomark _)
theorem ge_eq {x y : Int} (ha : GE X a Γ TL.rI (Is x)) (hb : GE X b Γ TL.rI (Is y)) : GE X (.Compare a [.Eq] [b] pos) Γ rB (Is (decide (x = y))) :=
  ge_cmp2 op_eq ha hb (nomark _) fun σ H x' y' v u h _ p1 p2 r1 r2 Q q => by
    cases (show _ = _ from p1); cases (show _ = _ from p2); cases (show _ = _ from r1); cases (show _ = _ from r2)
    have e : decide (V.int x = V.int y) = decide (x = y) := by rw [dec_int, Bool.beq_eq_decide_eq]
    refine ⟨rfl, ?_⟩
    rw [e]
    exact q _ H rfl h.evr
theorem ge_ne {x y : Int} (ha : GE X a Γ TL.rI (Is x)) (hb : GE X b Γ TL.rI (Is y)) : GE X (.Compare a [.NotEq] [b] pos) Γ rB (Is (!decide (x = y))) :=
  ge_cmp2 op_ne ha hb (nomark _) fun σ H x' y' v u h _ p1 p2 r1 r2 Q q => by
    cases (show _ = _ from p1); cases (show _ = _ from p2); cases (show _ = _ from r1); cases (show _ = _ from r2)
    have e : decide (V.int x = V.int y) = decide (x = y) := by rw [dec_int, Bool.beq_eq_decide_eq]
    refine ⟨rfl, ?_⟩
    rw [e]
    exact q _ H rfl h.evr
theorem ge_isN {x : Option α} (hR : ∀ H y v, R.r H y v → v ≠ .non) (ha : GE X a Γ (rO R) (Is x)) {k : Nat} {p2 : Pos} : GE X (.Compare a [.Is] [.Constant .none k p2] pos) Γ rB (Is x.isNone) :=
  ge_of (pe_cmpR op_isN pe_s pe_non (nomark _)) fun σ H h Q q => ha σ H h _ fun x' v H1 p1 e1 z1 r1 => by
    cases (show _ = _ from p1)
    refine ⟨rfl, ?_⟩
    cases x with
    | none => cases (show _ = _ from r1); exact q true _ H1 rfl e1 rfl
    | some y =>
      have n := hR _ y v r1
      show Q (.bl (decide (v = .non))) H1
      rw [decide_eq_false n]
      exact q false _ H1 rfl e1 rfl
theorem ge_notN {x : Option α} (hR : ∀ H y v, R.r H y v → v ≠ .non) (ha : GE X a Γ (rO R) (Is x)) {k : Nat} {p2 : Pos} : GE X (.Compare a [.IsNot] [.Constant .none k p2] pos) Γ rB (Is x.isSome) :=
  ge_of (pe_cmpR op_notN pe_s pe_non (nomark _)) fun σ H h Q q => ha σ H h _ fun x' v H1 p1 e1 z1 r1 => by
    cases (show _ = _ from p1)
    refine ⟨rfl, ?_⟩
    cases x with
    | none => cases (show _ = _ from r1); exact q false _ H1 rfl e1 rfl
    | some y =>
      have n := hR _ y v r1
      show Q (.bl (!decide (v = .non))) H1
      rw [decide_eq_false n]
      exact q true _ H1 rfl e1 rfl
/-- is True, is not True -/
theorem ge_isB {x y : Bool} (ha : GE X a Γ rB (Is x)) (hb : GE X b Γ rB (Is y)) : GE X (.Compare a [.Is] [b] pos) Γ rB (Is (decide (x = y))) :=
  ge_cmp2 op_isBl ha hb (nomark _) fun σ H x' y' v u h _ p1 p2 r1 r2 Q q => by
    cases (show _ = _ from p1); cases (show _ = _ from p2); cases (show _ = _ from r1); cases (show _ = _ from r2)
    exact ⟨_, _, rfl, rfl, q _ H rfl h.evr⟩
theorem ge_notB {x y : Bool} (ha : GE X a Γ rB (Is x)) (hb : GE X b Γ rB (Is y)) : GE X (.Compare a [.IsNot] [b] pos) Γ rB (Is (!decide (x = y))) :=
  ge_cmp2 op_notBl ha hb (nomark _) fun σ H x' y' v u h _ p1 p2 r1 r2 Q q => by
    cases (show _ = _ from p1); cases (show _ = _ from p2); cases (show _ = _ from r1); cases (show _ = _ from r2)
    exact ⟨_, _, rfl, rfl, q _ H rfl h.evr⟩
/-- a < b < c and its like, as a test -/
theorem gt_chain {c : Expr} {op op' : CmpOp} {g g' : Int → Int → Bool} {x y z : Int} (ho : OpR X (compareOp op) (rI0 fun i j => .bl (g i j))) (ho' : OpR X (compareOp op') (rI0 fun i j => .bl (g' i j)))
    (ha : GE X a Γ TL.rI (Is x)) (hb : GE X b Γ TL.rI (Is y)) (hc : GE X c Γ TL.rI (Is z)) (hm : lastMarks [op, op'] [b, c] = false := by with_unfolding_all rfl) : GT X (.Compare a [op, op'] [b, c] pos) Γ (Is (g x y && g' y z)) :=
  gt_of (pt_chain ho ho' pe_s pe_s pe_s (hm := hm)) fun σ H h Q q => ha σ H h _ fun x' v H1 p1 e1 z1 r1 => hb σ H1 (h.ev e1) _ fun y' u H2 p2 e2 z2 r2 => by
    cases (show _ = _ from p1); cases (show _ = _ from p2); cases (show _ = _ from r1); cases (show _ = _ from r2)
    refine ⟨_, _, rfl, rfl, g x y, rfl, ?_⟩
    cases hg : g x y with
    | true =>
      refine hc σ H2 (h.ev (e1.trans e2)) _ fun z' w H3 p3 e3 z3 r3 => ?_
      cases (show _ = _ from p3); cases (show _ = _ from r3)
      exact ⟨_, _, rfl, rfl, _, rfl, q _ H3 (by rw [hg]; rfl) ((e1.trans e2).trans e3)⟩
    | false => exact ⟨false, rfl, q _ H2 (by rw [hg]; rfl) (e1.trans e2)⟩

theorem gt_val {P : Bool → Prop} {e : Expr} (h : GE X e Γ rB P) (he : ∀ whole, isTrue e X.env whole = (do let v ← whole; standAt e.pos; holding [v] (truthy v)) := by intro _; rfl) : GT X e Γ P :=
  gt_of (pt_val pe_s he) fun σ H hh Q q => h σ H hh _ fun x v H' p e z r => by
    cases (show _ = _ from r)
    exact ⟨x, rfl, q x H' p e⟩
/-- a comparison as a test -/
theorem gt_cmp2 {op : CmpOp} {r : R2} {Pa : α → Prop} {Pb : β → Prop} {P : Bool → Prop} (ho : OpR X (compareOp op) r) (ha : GE X a Γ R Pa) (hb : GE X b Γ S Pb) (hm : behindInMarks op b = false)
    (hr : ∀ σ H x y v u, Has Γ σ H → Szd H → Pa x → Pb y → R.r (hd Γ.L H) x v → S.r (hd Γ.L H) y u → ∀ Q : VK, (∀ z H', P z → Ev Γ.P H H' → Q (.bl z) H') → r v u H Q) : GT X (.Compare a [op] [b] pos) Γ P :=
  gt_of (pt_cmpR ho pe_s pe_s hm) fun σ H h Q q => ha σ H h _ fun x v H1 p1 e1 z1 r1 => hb σ H1 (h.ev e1) _ fun y u H2 p2 e2 z2 r2 =>
    hr σ H2 x y v u (h.ev (e1.trans e2)) z2 p1 p2 (R.mono ((h.ev e1).hdx e2) r1) r2 _ fun z H3 p e3 => ⟨z, rfl, q z H3 p ((e1.trans e2).trans e3)⟩
theorem gt_cI {op : CmpOp} {g : Int → Int → Bool} {x y : Int} (ho : OpR X (compareOp op) (rI0 fun i j => .bl (g i j))) (ha : GE X a Γ TL.rI (Is x)) (hb : GE X b Γ TL.rI (Is y)) (hm : behindInMarks op b = false) : GT X (.Compare a [op] [b] pos) Γ (Is (g x y)) :=
  gt_cmp2 ho ha hb hm fun σ H x' y' v u h _ p1 p2 r1 r2 Q q => by
    cases (show _ = _ from p1); cases (show _ = _ from p2); cases (show _ = _ from r1); cases (show _ = _ from r2)
    exact ⟨_, _, rfl, rfl, q _ H rfl h.evr⟩
theorem gt_lt {x y : Int} (ha : GE X a Γ TL.rI (Is x)) (hb : GE X b Γ TL.rI (Is y)) : GT X (.Compare a [.Lt] [b] pos) Γ (Is (decide (x < y))) := gt_cI op_lt ha hb (nomark _)
theorem gt_le {x y : Int} (ha : GE X a Γ TL.rI (Is x)) (hb : GE X b Γ TL.rI (Is y)) : GT X (.Compare a [.LtE] [b] pos) Γ (Is (decide (x ≤ y))) := gt_cI op_le ha hb (nomark _)
theorem gt_gt {x y : Int} (ha : GE X a Γ TL.rI (Is x)) (hb : GE X b Γ TL.rI (Is y)) : GT X (.Compare a [.Gt] [b] pos) Γ (Is (decide (y < x))) := gt_cI op_gt ha hb (nomark _)
theorem gt_ge {x y : Int} (ha : GE X a Γ TL.rI (Is x)) (hb : GE X b Γ TL.rI (Is y)) : GT X (.Compare a [.GtE] [b] pos) Γ (Is (decide (y ≤ x))) := gt_cI op_ge ha hb (nomark _)
theorem gt_eq {x y : Int} (ha : GE X a Γ TL.rI (Is x)) (hb : GE X b Γ TL.rI (Is y)) : GT X (.Compare a [.Eq] [b] pos) Γ (Is (decide (x = y))) :=
  gt_cmp2 op_eq ha hb (nomark _) fun σ H x' y' v u h _ p1 p2 r1 r2 Q q => by
    cases (show _ = _ from p1); cases (show _ = _ from p2); cases (show _ = _ from r1); cases (show _ = _ from r2)
    have e : decide (V.int x = V.int y) = decide (x = y) := by rw [dec_int, Bool.beq_eq_decide_eq]
    refine ⟨rfl, ?_⟩
    rw [e]
    exact q _ H rfl h.evr
theorem gt_ne {x y : Int} (ha : GE X a Γ TL.rI (Is x)) (hb : GE X b Γ TL.rI (Is y)) : GT X (.Compare a [.NotEq] [b] pos) Γ (Is (!decide (x = y))) :=
  gt_cmp2 op_ne ha hb (nomark _) fun σ H x' y' v u h _ p1 p2 r1 r2 Q q => by
    cases (show _ = _ from p1); cases (show _ = _ from p2); cases (show _ = _ from r1); cases (show _ = _ from r2)
    have e : decide (V.int x = V.int y) = decide (x = y) := by rw [dec_int, Bool.beq_eq_decide_eq]
    refine ⟨rfl, ?_⟩
    rw [e]
    exact q _ H rfl h.evr
theorem gt_isN {x : Option α} (hR : ∀ H y v, R.r H y v → v ≠ .non) (ha : GE X a Γ (rO R) (Is x)) {k : Nat} {p2 : Pos} : GT X (.Compare a [.Is] [.Constant .none k p2] pos) Γ (Is x.isNone) :=
  gt_of (pt_cmpR op_isN pe_s pe_non (nomark _)) fun σ H h Q q => ha σ H h _ fun x' v H1 p1 e1 z1 r1 => by
    cases (show _ = _ from p1)
    refine ⟨rfl, ?_⟩
    cases x with
    | none => cases (show _ = _ from r1); exact ⟨_, rfl, q true H1 rfl e1⟩
    | some y => exact ⟨_, rfl, by rw [decide_eq_false (hR _ y v r1)]; exact q false H1 rfl e1⟩
theorem gt_notN {x : Option α} (hR : ∀ H y v, R.r H y v → v ≠ .non) (ha : GE X a Γ (rO R) (Is x)) {k : Nat} {p2 : Pos} : GT X (.Compare a [.IsNot] [.Constant .none k p2] pos) Γ (Is x.isSome) :=
  gt_of (pt_cmpR op_notN pe_s pe_non (nomark _)) fun σ H h Q q => ha σ H h _ fun x' v H1 p1 e1 z1 r1 => by
    cases (show _ = _ from p1)
    refine ⟨rfl, ?_⟩
    cases x with
    | none => cases (show _ = _ from r1); exact ⟨_, rfl, q false H1 rfl e1⟩
    | some y => exact ⟨_, rfl, by rw [decide_eq_false (hR _ y v r1)]; exact q true H1 rfl e1⟩
theorem gt_isB {x y : Bool} (ha : GE X a Γ rB (Is x)) (hb : GE X b Γ rB (Is y)) : GT X (.Compare a [.Is] [b] pos) Γ (Is (decide (x = y))) :=
  gt_cmp2 op_isBl ha hb (nomark _) fun σ H x' y' v u h _ p1 p2 r1 r2 Q q => by
    cases (show _ = _ from p1); cases (show _ = _ from p2); cases (show _ = _ from r1); cases (show _ = _ from r2)
    exact ⟨_, _, rfl, rfl, q _ H rfl h.evr⟩
theorem gt_notB {x y : Bool} (ha : GE X a Γ rB (Is x)) (hb : GE X b Γ rB (Is y)) : GT X (.Compare a [.IsNot] [b] pos) Γ (Is (!decide (x = y))) :=
  gt_cmp2 op_notBl ha hb (nomark _) fun σ H x' y' v u h _ p1 p2 r1 r2 Q q => by
    cases (show _ = _ from p1); cases (show _ = _ from p2); cases (show _ = _ from r1); cases (show _ = _ from r2)
    exact ⟨_, _, rfl, rfl, q _ H rfl h.evr⟩
theorem gt_not {e : Expr} {x : Bool} (h : GT X e Γ (Is x)) : GT X (.UnaryOp .Not e pos) Γ (Is (!x)) :=
  gt_of (pt_not pt_s) fun σ H hh Q q => h σ H hh _ fun x' H' p e => by cases (show _ = _ from p); exact q _ H' rfl e
theorem GW.gt {e : Expr} {P : Bool → Prop} (h : GW X e Γ P) : GT X e Γ P := gt_of pw_s.pt fun σ H hh Q q => h σ H hh Q q
variable {rest : List Expr}
theorem gw_and1 {x : Bool} (h : GT X a Γ (Is x)) : GW X (.BoolOp .And [a] pos) Γ (Is x) := gw_of (pw_and1 pt_s) fun σ H hh Q q => h σ H hh Q q
theorem gw_or1 {x : Bool} (h : GT X a Γ (Is x)) : GW X (.BoolOp .Or [a] pos) Γ (Is x) := gw_of (pw_or1 pt_s) fun σ H hh Q q => h σ H hh Q q
theorem gw_and {x y : Bool} (ha : GT X a Γ (Is x)) (hb : x = true → GW X (.BoolOp .And (b :: rest) pos) Γ (Is y)) : GW X (.BoolOp .And (a :: b :: rest) pos) Γ (Is (x && y)) :=
  gw_of (pw_and pt_s pw_s) fun σ H h Q q => ha σ H h _ fun x' H1 p1 e1 => by
    cases (show _ = _ from p1)
    cases x with
    | true => exact hb rfl σ H1 (h.ev e1) Q fun y' H2 p2 e2 => q _ H2 (by cases (show _ = _ from p2); rfl) (e1.trans e2)
    | false => exact q _ H1 rfl e1
theorem gw_or {x y : Bool} (ha : GT X a Γ (Is x)) (hb : x = false → GW X (.BoolOp .Or (b :: rest) pos) Γ (Is y)) : GW X (.BoolOp .Or (a :: b :: rest) pos) Γ (Is (x || y)) :=
  gw_of (pw_or pt_s pw_s) fun σ H h Q q => ha σ H h _ fun x' H1 p1 e1 => by
    cases (show _ = _ from p1)
    cases x with
    | false => exact hb rfl σ H1 (h.ev e1) Q fun y' H2 p2 e2 => q _ H2 (by cases (show _ = _ from p2); rfl) (e1.trans e2)
    | true => exact q _ H1 rfl e1
theorem ge_bone {op : BoolOp} {P : α → Prop} (h : GE X a Γ R P) : GE X (.BoolOp op [a] pos) Γ R P := ge_of (pe_one pe_s) fun σ H hh Q q => h σ H hh Q fun x v H' p e z r => q x v H' p e r
theorem ge_and {x y : Bool} (ha : GE X a Γ rB (Is x)) (hb : x = true → GE X (.BoolOp .And (b :: rest) pos) Γ rB (Is y)) : GE X (.BoolOp .And (a :: b :: rest) pos) Γ rB (Is (x && y)) :=
  ge_of (pe_and pe_s pe_s) fun σ H h Q q => ha σ H h _ fun x' v H1 p1 e1 z1 r1 => by
    cases (show _ = _ from p1); cases (show _ = _ from r1)
    refine ⟨x, rfl, ?_⟩
    cases x with
    | true => exact hb rfl σ H1 (h.ev e1) Q fun y' u H2 p2 e2 z2 r2 => q _ u H2 (by cases (show _ = _ from p2); rfl) (e1.trans e2) (by cases (show _ = _ from p2); exact r2)
    | false => exact q _ _ H1 rfl e1 rfl
theorem ge_or {x y : Bool} (ha : GE X a Γ rB (Is x)) (hb : x = false → GE X (.BoolOp .Or (b :: rest) pos) Γ rB (Is y)) : GE X (.BoolOp .Or (a :: b :: rest) pos) Γ rB (Is (x || y)) :=
  ge_of (pe_or pe_s pe_s) fun σ H h Q q => ha σ H h _ fun x' v H1 p1 e1 z1 r1 => by
    cases (show _ = _ from p1); cases (show _ = _ from r1)
    refine ⟨x, rfl, ?_⟩
    cases x with
    | false => exact hb rfl σ H1 (h.ev e1) Q fun y' u H2 p2 e2 z2 r2 => q _ u H2 (by cases (show _ = _ from p2); rfl) (e1.trans e2) (by cases (show _ = _ from p2); exact r2)
    | true => exact q _ _ H1 rfl e1 rfl
theorem ge_not {x : Bool} (ha : GE X a Γ rB (Is x)) : GE X (.UnaryOp .Not a pos) Γ rB (Is (!x)) :=
  ge_of (pe_not pe_s) fun σ H h Q q => ha σ H h _ fun x' v H1 p1 e1 z1 r1 => by
    cases (show _ = _ from p1); cases (show _ = _ from r1)
    exact ⟨x, rfl, q _ _ H1 rfl e1 rfl⟩
/-- the way of true, the way of false -/
theorem ge_ifExp {c : Expr} {Pc : Bool → Prop} {P : α → Prop} (hc : GT X c Γ Pc) (ha : Pc true → GE X a Γ R P) (hb : Pc false → GE X b Γ R P) : GE X (.IfExp c a b pos) Γ R P :=
  ge_of (pe_ifExp pt_s pe_s pe_s) fun σ H h Q q => hc σ H h _ fun k H1 p1 e1 => by
    cases k with
    | true => exact ha p1 σ H1 (h.ev e1) Q fun x v H2 p e2 z r => q x v H2 p (e1.trans e2) r
    | false => exact hb p1 σ H1 (h.ev e1) Q fun x v H2 p e2 z r => q x v H2 p (e1.trans e2) r

theorem ga_nil : GA X [] Γ [] := fun σ H h Q q => sA_szd (s_pa pa_nil fun z => q [] H h.evr z rfl)
theorem ga_cons {e : Expr} {es : List Expr} {x : α} {bs : List Bd} (h1 : GE X e Γ R (Is x)) (h2 : GA X es Γ bs) (hs : starEach (e :: es) X.env = (false, eval e X.env) :: starEach es X.env := by rfl) : GA X (e :: es) Γ (⟨R, x⟩ :: bs) :=
  fun σ H h Q q => s_pa (pa_cons pe_s pa_s hs) (h1 σ H h _ fun x' v H1 p1 e1 z1 r1 => h2 σ H1 (h.ev e1) _ fun vs H2 e2 z2 r2 => q (v :: vs) H2 (e1.trans e2) z2 (by
    cases (show _ = _ from p1)
    exact ⟨v, vs, rfl, R.mono ((h.ev e1).hdx e2) r1, r2⟩))
/-- the arguments as alike things -/
theorem AllR.alike {H : Hp} : ∀ {xs : List α} {vs : List V}, AllR H (xs.map fun x => ⟨R, x⟩) vs → Paired (R.r H) xs vs
  | [], _, h => by cases (show _ = _ from h); exact .nil
  | _ :: _, _, ⟨v, ws, h1, h2, h3⟩ => by rw [h1]; exact .cons h2 (AllR.alike h3)
theorem ge_lst {es : List Expr} {bs : List Bd} (xs : List α) (h : GA X es Γ bs) (hb : bs = xs.map (fun x => ⟨R, x⟩) := by rfl) (hz : xs.length ≤ 100 := by decide) : GE X (.List es pos) Γ (rL R) (Is xs) :=
  ge_of (pe_lst pa_s) fun σ H hh Q q => h σ H hh _ fun vs H1 e1 z1 r1 => by
    subst hb
    have k := AllR.alike r1
    have l := Paired.length k
    refine ⟨by rw [← l]; exact Nat.le_trans hz (by decide), fun p hp => q xs _ _ rfl (e1.trans ((hh.ev e1).eve (Ex.new hp))) ?_⟩
    exact ⟨p, vs, rfl, hd_new (hh.ev e1).al hp, Paired.monoR (Ex.hd (Ex.new hp)) k⟩
theorem ge_tups {es : List Expr} {k : Nat} {bs : List Bd} (xs : List α) (h : GA X es Γ bs) (hb : bs = xs.map (fun x => ⟨R, x⟩) := by rfl) (hz : xs.length ≤ 100 := by decide) : GE X (.Tuple es k pos) Γ (rTs R) (Is xs) :=
  ge_of (pe_tup pa_s) fun σ H hh Q q => h σ H hh _ fun vs H1 e1 z1 r1 => by
    subst hb
    have k := AllR.alike r1
    have l := Paired.length k
    refine ⟨by rw [← l]; exact Nat.le_trans hz (by decide), fun p hp => q xs _ _ rfl (e1.trans ((hh.ev e1).eve (Ex.new hp))) ?_⟩
    exact ⟨p, vs, rfl, hd_new (hh.ev e1).al hp, Paired.monoR (Ex.hd (Ex.new hp)) k⟩
theorem ge_pair {k : Nat} {x : α} {y : β} (ha : GE X a Γ R (Is x)) (hb : GE X b Γ S (Is y)) (hs : starEach [a, b] X.env = (false, eval a X.env) :: starEach [b] X.env := by rfl) (hs2 : starEach [b] X.env = (false, eval b X.env) :: starEach [] X.env := by rfl) :
    GE X (.Tuple [a, b] k pos) Γ (rP R S) (Is (x, y)) :=
  ge_of (pe_tup (pa_cons pe_s (pa_cons pe_s pa_nil hs2) hs)) fun σ H hh Q q => ha σ H hh _ fun x' v H1 p1 e1 z1 r1 => hb σ H1 (hh.ev e1) _ fun y' u H2 p2 e2 z2 r2 => by
    cases (show _ = _ from p1); cases (show _ = _ from p2)
    have h2 := (hh.ev e1).ev e2
    refine ⟨by show 2 ≤ sizeLine; decide, fun p hp => q _ _ _ rfl ((e1.trans e2).trans (h2.eve (Ex.new hp))) ?_⟩
    exact ⟨p, v, u, rfl, hd_new h2.al hp, R.mono (Ex.hd (Ex.new hp)) (R.mono ((hh.ev e1).hdx e2) r1), S.mono (Ex.hd (Ex.new hp)) r2⟩

/-- a promise over told arguments -/
def spG {ι : Type} (as : ι → List Bd) (ok : ι → Prop) {β : Type} (R : Rp β) (P : ι → β → Prop) : Sp := fun vs H Q _ => ∃ (i : ι) (L : List Addr), ok i ∧ (∀ l ∈ L, H l ≠ none) ∧ AllR (hd L H) (as i) vs ∧
  ∀ y v H', P i y → Ex H H' → R.r (hd L H') y v → Q v H'
theorem spG_use {ι : Type} {as : ι → List Bd} {ok : ι → Prop} {P : ι → β → Prop} {σ : L2.St} {H : Hp} (h : Has Γ σ H) (i : ι) (o : ok i) {vs : List V} (r : AllR (hd Γ.L H) (as i) vs) {Q : VK} {E : XK}
    (q : ∀ x v H', P i x → Ev Γ.P H H' → S.r (hd Γ.L H') x v → Q v H') : spG as ok S P vs H Q E := ⟨i, Γ.L, o, h.al, r, fun y v H' p e r' => q y v H' p (h.eve e) r'⟩
theorem ge_call {ι : Type} {as : ι → List Bd} {ok : ι → Prop} {P : ι → β → Prop} {k : Nat} {f : Addr} {fd : FuncData} {ps : List Str} {x : Str} {p : Pos} {e : Expr} {es : List Expr}
    (F : FnOk X.prog X.w X.K X.mg X.base CX0 k f fd ps (spG as ok S P)) (hr : Room k X.A) (hm : X.mg x = some (.ref f)) (hk : PySem.W.keepIn X.K (.ref f) = true) (hb : Binds X.K fd ps []) (i : ι) (o : ok i) (ha : GA X (e :: es) Γ (as i))
    (hg : Gl X x := by rfl) (hdb : (x == ("__debug__" : Str)) = false := by decide) (he : starEach (e :: es) X.env = (false, eval e X.env) :: starEach es X.env := by rfl) (hpl : (backTo pos (starEach es X.env)).any (·.1) = false := by rfl) :
    GE X (.Call (.Name x p) (e :: es) [] pos) Γ S (P i) :=
  ge_of (pe_call F hr hg hm hk hb .nil pass0 pa_s hdb he hpl) fun σ H h Q q => ha σ H h _ fun vs H1 e1 z1 r1 => by
    rw [List.append_nil]
    exact spG_use (h.ev e1) i o r1 fun x v H' p e r => q x v H' p (e1.trans e) r
/-- a built-in's call -/
theorem ge_callB {id : String} {r : List V → Hp → VK → Prop} {bs : List Bd} {x : Str} {p : Pos} {e : Expr} {es : List Expr} {P : β → Prop} (hc : CallR X (.builtin id) r) (hm : X.mg x = none) (hv : bootBuiltins x = some (.builtin id)) (ha : GA X (e :: es) Γ bs)
    (hr : ∀ σ H vs, Has Γ σ H → Szd H → AllR (hd Γ.L H) bs vs → ∀ Q : VK, (∀ y v H', P y → Ev Γ.P H H' → S.r (hd Γ.L H') y v → Q v H') → r vs H Q) (hg : Gl X x := by rfl) (hn : x ≠ "__name__" := by decide) (hdb : (x == ("__debug__" : Str)) = false := by decide)
    (he : starEach (e :: es) X.env = (false, eval e X.env) :: starEach es X.env := by rfl) (hpl : (backTo pos (starEach es X.env)).any (·.1) = false := by rfl) : GE X (.Call (.Name x p) (e :: es) [] pos) Γ S P :=
  ge_of (pe_callB hc hg hm hv pa_s hn hdb he hpl) fun σ H h Q q => ha σ H h _ fun vs H1 e1 z1 r1 => hr σ H1 vs (h.ev e1) z1 r1 Q fun y v H' p e r => q y v H' p (e1.trans e) r
theorem ge_callTy {id : String} {r : List V → Hp → VK → Prop} {bs : List Bd} {x : Str} {p : Pos} {e : Expr} {es : List Expr} {P : β → Prop} (hc : CallR X (.type id) r) (hm : X.mg x = none) (hv : bootBuiltins x = some (.type id)) (ha : GA X (e :: es) Γ bs)
    (hr : ∀ σ H vs, Has Γ σ H → Szd H → AllR (hd Γ.L H) bs vs → ∀ Q : VK, (∀ y v H', P y → Ev Γ.P H H' → S.r (hd Γ.L H') y v → Q v H') → r vs H Q) (hg : Gl X x := by rfl) (hn : x ≠ "__name__" := by decide) (hdb : (x == ("__debug__" : Str)) = false := by decide)
    (he : starEach (e :: es) X.env = (false, eval e X.env) :: starEach es X.env := by rfl) (hpl : (backTo pos (starEach es X.env)).any (·.1) = false := by rfl) : GE X (.Call (.Name x p) (e :: es) [] pos) Γ S P :=
  ge_of (pe_callTy hc hg hm hv pa_s hn hdb he hpl) fun σ H h Q q => ha σ H h _ fun vs H1 e1 z1 r1 => hr σ H1 vs (h.ev e1) z1 r1 Q fun y v H' p e r => q y v H' p (e1.trans e) r
end
end TL

namespace TL
open PySem PySem.Spec L2

section
variable {Γ : Env} {σ : L2.St} {H H' : Hp}
/-- a new address is hidden -/
theorem Has.hide (h : Has Γ σ H) {p : Addr} (hp : H p = none) (e : Ev Γ.P H H') (hs : H' p ≠ none) : Has { Γ with L := p :: Γ.L } σ H' := by
  have h' := h.ev e
  have x : Ex (hd Γ.L H) (hd (p :: Γ.L) H') := fun a o q => by
    obtain ⟨n, q⟩ := hd_some q
    refine hd_of (fun m => ?_) ((e a o q).1 fun m => n (h.sub a m))
    rcases List.mem_cons.mp m with z | m
    · rw [z, hp] at q; cases q
    · exact n m
  refine ⟨h.len, fun i t hi => ?_, fun l m => ?_, h'.pot, h'.ex, h.sep, fun l m => ⟨List.mem_cons_of_mem _ (h.l0 l m).1, (h.l0 l m).2⟩, h.new, fun q m => q.R.mono x (h.gh q m)⟩
  · have k := h.ok i t hi
    have k' := h'.ok i t hi
    cases t with
    | nil => trivial
    | val R y =>
      obtain ⟨v, e1, e2⟩ := k
      exact ⟨v, e1, R.mono x e2⟩
    | own l R xs =>
      obtain ⟨e1, e2, vs, e3, e4⟩ := k
      obtain ⟨_, _, vs', e3', e4'⟩ := k'
      refine ⟨e1, List.mem_cons_of_mem _ e2, vs, ?_, Paired.monoR x e4⟩
      refine (e l _ e3).1 fun m => ?_
      exact (h.l0 l (h.pot l m).1).2 (h.new i _ l hi rfl)
  · rcases List.mem_cons.mp m with z | m
    · rw [z]; exact hs
    · exact e.some (h.al l m)
/-- what is hidden and not one's own may change -/
theorem Has.wr (h : Has Γ σ H) {p : Addr} {o : HO} (m : p ∈ Γ.L) (n0 : Γ.H0 p = none) (nown : ∀ (i : Nat) (t : Slot), Γ.s[i]? = some t → t.at ≠ some p) : Has Γ σ (upd H p o) := by
  have nP : p ∉ Γ.P := fun z => (h.l0 p (h.pot p z).1).2 n0
  have x : hd Γ.L (upd H p o) = hd Γ.L H := hd_upd m
  refine ⟨h.len, fun i t hi => ?_, fun l ml => ?_, fun l ml => ⟨(h.pot l ml).1, ?_⟩, fun a u ha => ?_, h.sep, h.l0, h.new, fun q mq => by
    show q.R.r (hd Γ.L (upd H p o)) q.x q.v
    rw [x]; exact h.gh q mq⟩
  · have k := h.ok i t hi
    cases t with
    | nil => trivial
    | val R y =>
      obtain ⟨v, a1, a2⟩ := k
      exact ⟨v, a1, by rw [x]; exact a2⟩
    | own l' R' xs' =>
      obtain ⟨a1, a2, vs', a3, a4⟩ := k
      have nl : l' ≠ p := fun z => nown i _ hi (by rw [z]; rfl)
      exact ⟨a1, a2, vs', by rw [upd_ne nl]; exact a3, by rw [x]; exact a4⟩
  · by_cases e : l = p
    · rw [e, upd_same]; intro z; cases z
    · rw [upd_ne e]; exact h.al l ml
  · obtain ⟨a, b, ha, hb, hc⟩ := (h.pot l ml).2
    exact ⟨a, b, ha, hb, by rw [upd_ne (fun z => nP (by rw [← z]; exact ml))]; exact hc⟩
  · have ne : a ≠ p := fun z => by rw [z, n0] at ha; cases ha
    have k := h.ex a u ha
    refine ⟨fun z => by rw [upd_ne ne]; exact k.1 z, fun z => ?_⟩
    obtain ⟨c, d, hc, hd', hb⟩ := k.2 z
    exact ⟨c, d, hc, hd', by rw [upd_ne ne]; exact hb⟩
theorem Has.back (h : Has Γ σ H) {p : Addr} (hp : H p = none) : Γ.H0 p = none := by
  cases q : Γ.H0 p with
  | none => rfl
  | some o => exact absurd hp (h.ex.some (by rw [q]; intro z; cases z))
theorem Has.nown (h : Has Γ σ H) {p : Addr} (hp : H p = none) : ∀ (i : Nat) (t : Slot), Γ.s[i]? = some t → t.at ≠ some p := fun i t hi e => by
  cases t with
  | nil => cases e
  | val => cases e
  | own l R xs =>
    cases e
    obtain ⟨_, m, _⟩ := h.ok i _ hi
    exact h.al _ m hp
theorem Has.notL (h : Has Γ σ H) {p : Addr} (hp : H p = none) : p ∉ Γ.L := fun m => h.al p m hp
/-- a new list becomes one's own -/
theorem Has.owned (h : Has Γ σ H) {i : Nat} {α : Type} {R : Rp α} {p : Addr} {xs : List α} {vs : List V} (hi : i < Γ.s.length) (hp : H p = none) (e : Ev Γ.P H H') (hl : H' p = some (.lst vs)) (r : Paired (R.r (hd (p :: Γ.L) H')) xs vs) :
    Has { Γ with L := p :: Γ.L, s := Γ.s.set i (.own p R xs) } (σ.set i (some (.ref p))) H' := by
  have g := h.hide hp e (by rw [hl]; intro z; cases z)
  have hiσ : i < σ.length := by rw [h.len]; exact hi
  have ne := h.nown hp
  have key : ∀ (j : Nat) (t : Slot), (Γ.s.set i (.own p R xs))[j]? = some t → (j = i ∧ t = .own p R xs) ∨ (j ≠ i ∧ Γ.s[j]? = some t) := fun j t hj => by
    by_cases e : j = i
    · subst e
      rw [List.getElem?_set_self hi] at hj
      exact .inl ⟨rfl, (Option.some.inj hj).symm⟩
    · rw [List.getElem?_set_ne (Ne.symm e)] at hj
      exact .inr ⟨e, hj⟩
  refine ⟨by show _ = (Γ.s.set i (.own p R xs)).length; simp [h.len], fun j t hj => ?_, g.al, g.pot, g.ex, fun j k t u l hj hk ht hu => ?_, g.l0, fun j t l hj ht => ?_, g.gh⟩
  · rcases key j t hj with ⟨rfl, rfl⟩ | ⟨e, hj2⟩
    · exact ⟨by rw [List.getElem?_set_self hiσ], List.mem_cons_self, vs, hl, r⟩
    · show t.ok (p :: Γ.L) _ (σ.set i (some (.ref p)))[j]?
      rw [List.getElem?_set_ne (Ne.symm e)]
      exact g.ok j t hj2
  · rcases key j t hj with ⟨rfl, rfl⟩ | ⟨e, hj2⟩
    · rcases key k u hk with ⟨rfl, rfl⟩ | ⟨e', hk2⟩
      · rfl
      · cases ht
        exact absurd hu (ne k u hk2)
    · rcases key k u hk with ⟨rfl, rfl⟩ | ⟨e', hk2⟩
      · cases hu
        exact absurd ht (ne j t hj2)
      · exact h.sep j k t u l hj2 hk2 ht hu
  · rcases key j t hj with ⟨rfl, rfl⟩ | ⟨e, hj2⟩
    · cases ht
      exact h.back hp
    · exact h.new j t l hj2 ht
/-- a slot is forgotten -/
theorem Has.clr (h : Has Γ σ H) (i : Nat) : Has { Γ with s := Γ.s.set i .nil } (σ.set i none) H := by
  have key : ∀ (j : Nat) (t : Slot), (Γ.s.set i .nil)[j]? = some t → t = .nil ∨ (j ≠ i ∧ Γ.s[j]? = some t) := fun j t hj => by
    by_cases e : j = i
    · subst e
      by_cases hl : j < Γ.s.length
      · rw [List.getElem?_set_self hl] at hj
        exact .inl (Option.some.inj hj).symm
      · rw [List.getElem?_eq_none (by simpa using hl)] at hj; cases hj
    · rw [List.getElem?_set_ne (Ne.symm e)] at hj
      exact .inr ⟨e, hj⟩
  refine ⟨by show _ = (Γ.s.set i .nil).length; simp [h.len], fun j t hj => ?_, h.al, h.pot, h.ex, fun j k t u l hj hk ht hu => ?_, h.l0, fun j t l hj ht => ?_, h.gh⟩
  · rcases key j t hj with rfl | ⟨e, hj2⟩
    · trivial
    · show t.ok Γ.L H (σ.set i none)[j]?
      rw [List.getElem?_set_ne (Ne.symm e)]
      exact h.ok j t hj2
  · rcases key j t hj with rfl | ⟨e, hj2⟩
    · cases ht
    · rcases key k u hk with rfl | ⟨e', hk2⟩
      · cases hu
      · exact h.sep j k t u l hj2 hk2 ht hu
  · rcases key j t hj with rfl | ⟨e, hj2⟩
    · cases ht
    · exact h.new j t l hj2 ht
def wS (ss : List Slot) : List Nat → List Slot
  | [] => ss
  | v :: vs => (wS ss vs).set v .nil
theorem wS_len (ss : List Slot) : ∀ vs : List Nat, (wS ss vs).length = ss.length
  | [] => rfl
  | v :: vs => by unfold wS; rw [List.length_set, wS_len ss vs]
theorem Has.wipe (h : Has Γ σ H) : ∀ vs : List Nat, Has { Γ with s := wS Γ.s vs } (L2.wipe σ vs) H
  | [] => h
  | v :: vs => (Has.wipe h vs).clr v
/-- ghosts -/
theorem Has.ghost (h : Has Γ σ H) {gs : List Gh} (hg : ∀ q ∈ gs, q.R.r (hd Γ.L H) q.x q.v) : Has { Γ with g := gs ++ Γ.g } σ H :=
  ⟨h.len, h.ok, h.al, h.pot, h.ex, h.sep, h.l0, h.new, fun q m => (List.mem_append.mp m).elim (hg q) (h.gh q)⟩
theorem Has.unghost {gs : List Gh} (h : Has { Γ with g := gs ++ Γ.g } σ H) : Has Γ σ H :=
  ⟨h.len, h.ok, h.al, h.pot, h.ex, h.sep, h.l0, h.new, fun q m => h.gh q (List.mem_append_right _ m)⟩
end
theorem wipe_getE {σ : L2.St} {j : Nat} : ∀ {vs : List Nat}, (L2.wipe σ vs)[j]? = if j ∈ vs then (σ[j]?).map fun _ => none else σ[j]?
  | [] => by simp [L2.wipe]
  | v :: vs => by
    have ih := wipe_getE (σ := σ) (j := j) (vs := vs)
    unfold L2.wipe
    by_cases e : j = v
    · subst e
      rw [if_pos List.mem_cons_self]
      by_cases hl : j < (L2.wipe σ vs).length
      · rw [List.getElem?_set_self hl]
        rw [wipe_length] at hl
        rw [List.getElem?_eq_getElem hl]; rfl
      · rw [List.getElem?_eq_none (by simpa using hl)]
        rw [wipe_length] at hl
        rw [List.getElem?_eq_none (by omega)]; rfl
    · rw [List.getElem?_set_ne (Ne.symm e), ih]
      by_cases m : j ∈ vs
      · rw [if_pos m, if_pos (List.mem_cons_of_mem _ m)]
      · rw [if_neg m, if_neg (fun z => (List.mem_cons.mp z).elim e m)]
theorem wipe_set {σ : L2.St} {i : Nat} {o : Option V} {vs : List Nat} (h : i ∈ vs) : L2.wipe (σ.set i o) vs = L2.wipe σ vs := by
  apply List.ext_getElem?
  intro j
  rw [wipe_getE, wipe_getE]
  by_cases e : j = i
  · subst e
    rw [if_pos h, if_pos h]
    by_cases hl : j < σ.length
    · rw [List.getElem?_set_self hl, List.getElem?_eq_getElem hl]; rfl
    · rw [List.getElem?_eq_none (by simpa using hl), List.getElem?_eq_none (by omega)]
  · rw [List.getElem?_set_ne (Ne.symm e)]
theorem wipe_wipe {σ : L2.St} {vs : List Nat} : L2.wipe (L2.wipe σ vs) vs = L2.wipe σ vs := by
  apply List.ext_getElem?
  intro j
  rw [wipe_getE, wipe_getE]
  by_cases m : j ∈ vs
  · rw [if_pos m, if_pos m]
    cases σ[j]? <;> rfl
  · rw [if_neg m, if_neg m]

/-- a target takes what T tells: the slots is are written, as ap says -/
def GG (X : Cx) (tg : Expr) {τ : Type} (T : Rp τ) (is : List Nat) (ap : τ → List Slot → List Slot) (n : Nat) : Prop :=
  ∀ (Γ : Env) (σ : L2.St) (H : Hp) (x : τ) (v : V), Γ.s.length = n → Has Γ σ H → T.r (hd Γ.L H) x v → ∀ Q : L2.St → Hp → Prop,
    (∀ σ', Has { Γ with s := ap x Γ.s } σ' H → (∀ vs : List Nat, (∀ i ∈ is, i ∈ vs) → L2.wipe σ' vs = L2.wipe σ vs) → (ap x Γ.s).length = n → Q σ' H) → sG X tg v σ H Q
section
variable {X : Cx} {τ τ' : Type} {T : Rp τ} {T' : Rp τ'} {n : Nat} {pos : Pos}
theorem gg_name (i : Nat) {x : Str} (hN : X.N.Nodup) (hi : X.N[i]? = some x := by rfl) (hn : i < n := by decide) (hx : Loc X.env.scope x := by first | exact Or.inl rfl | exact Or.inr rfl) (hf : X.fn x = true ∨ X.env.scope.names.lookup x = some .local := by first | exact .inl rfl | exact .inr rfl) :
    GG X (.Name x pos) T [i] (fun y ss => ss.set i (.val T y)) n := fun Γ σ H y v hl h r Q q =>
  s_pg (pg_name hN hi hx hf) (q (σ.set i (some v)) (h.set (by omega) r) (fun vs m => wipe_set (m i (by simp))) (by simp [hl]))
theorem gg_pair {a b : Expr} {k : Nat} {is js : List Nat} {ap : τ → List Slot → List Slot} {ap' : τ' → List Slot → List Slot} (hc : X.calm = true) (h1 : GG X a T is ap n) (h2 : GG X b T' js ap' n)
    (hs1 : (assignEach [a, b] X.env).map (·.2) = assign a X.env :: (assignEach [b] X.env).map (·.2) := by rfl) (hs2 : (assignEach [b] X.env).map (·.2) = assign b X.env :: (assignEach [] X.env).map (·.2) := by rfl)
    (hn : (assignEach [a, b] X.env).length = 2 := by rfl) (hst : (assignEach [a, b] X.env).findIdx? (·.1) = none := by rfl) :
    GG X (.Tuple [a, b] k pos) (rP T T') (is ++ js) (fun y ss => ap' y.2 (ap y.1 ss)) n := fun Γ σ H y v hl h r Q q => by
  obtain ⟨p, u, w, rfl, hp, r1, r2⟩ := r
  refine s_pg (pg_tup hc (pgs_cons pg_s (pgs_cons pg_s pgs_nil hs2) hs1) hn hst) ⟨p, [u, w], rfl, SqT.of (hd_some hp).2, rfl, u, [w], rfl, ?_⟩
  refine h1 Γ σ H y.1 u hl h r1 _ fun σ1 g1 w1 l1 => ⟨w, [], rfl, ?_⟩
  refine h2 _ σ1 H y.2 w l1 g1 r2 _ fun σ2 g2 w2 l2 => ⟨rfl, ?_⟩
  exact q σ2 g2 (fun vs m => (w2 vs fun i mi => m i (List.mem_append_right _ mi)).trans (w1 vs fun i mi => m i (List.mem_append_left _ mi))) l2
end

def Walks (L : List Addr) (J : It) (gs : List Gh) {τ : Type} (T : Rp τ) (xs : List τ) : Prop :=
  ∀ (i : Nat) (H : Hp), (∀ l ∈ L, H l ≠ none) → (∀ q ∈ gs, q.R.r (hd L H) q.x q.v) → (i < xs.length → J.go i H) ∧ (xs.length ≤ i → J.stop i H) ∧
    ∀ x v H', xs[i]? = some x → J.yld i H v H' → Ex H H' ∧ T.r (hd L H') x v
def GI (X : Cx) (tg it : Expr) (Γ : Env) {τ : Type} (T : Rp τ) (P : List τ → Prop) : Prop :=
  ∀ σ H, Has Γ σ H → ∀ R : It → Hp → Prop, (∀ J H1 gs xs, P xs → Ev Γ.P H H1 → (∀ q ∈ gs, q.R.r (hd Γ.L H1) q.x q.v) → xs.length ≤ sizeLine → (∀ L', Walks L' J gs T xs) → R J H1) → sI X tg it σ H R
section
variable {X : Cx} {tg it : Expr} {Γ : Env} {α β : Type} {R : Rp α} {S : Rp β}
theorem walks_list {L : List Addr} {a : Addr} {xs : List α} : Walks L (Itl X.K a) [⟨rL R, xs, .ref a⟩] R xs := fun i H al hg => by
  obtain ⟨p, vs, e, hp, r⟩ := hg _ List.mem_cons_self
  cases e
  have hp := (hd_some hp).2
  have r : Paired (R.r (hd L H)) xs vs := r
  have hl := Paired.length r
  refine ⟨fun hi => ⟨vs, vs[i]'(by omega), SqL.of hp, by simp⟩, fun hi => ⟨vs, SqL.of hp, by omega⟩, fun x v H' hx hy => ?_⟩
  obtain ⟨rfl, hy⟩ := hy
  have hv := hy vs (SqL.of hp)
  obtain ⟨x', e1, e2⟩ := Paired.get r hv
  rw [hx] at e1
  cases e1
  exact ⟨Ex.refl _, e2⟩
theorem walks_tup {L : List Addr} {a : Addr} {xs : List α} : Walks L (Itt X.K a) [⟨rTs R, xs, .ref a⟩] R xs := fun i H al hg => by
  obtain ⟨p, vs, e, hp, r⟩ := hg _ List.mem_cons_self
  cases e
  have hp := (hd_some hp).2
  have r : Paired (R.r (hd L H)) xs vs := r
  have hl := Paired.length r
  refine ⟨fun hi => ⟨vs, vs[i]'(by omega), SqT.of hp, by simp⟩, fun hi => ⟨vs, SqT.of hp, by omega⟩, fun x v H' hx hy => ?_⟩
  obtain ⟨rfl, hy⟩ := hy
  have hv := hy vs (SqT.of hp)
  obtain ⟨x', e1, e2⟩ := Paired.get r hv
  rw [hx] at e1
  cases e1
  exact ⟨Ex.refl _, e2⟩
theorem gi_list {P : List α → Prop} (h : GE X it Γ (rL R) P) : GI X tg it Γ R P := fun σ H hh Q q => by
  refine s_pi (pi_list pe_s) (h σ H hh _ fun xs v H1 p e z r => ?_)
  obtain ⟨a, vs, rfl, ha, hv⟩ := id r
  refine ⟨a, rfl, ⟨vs, SqL.of (hd_some ha).2⟩, q _ H1 [⟨rL R, xs, .ref a⟩] xs p e (fun g m => ?_) ?_ fun L' => walks_list⟩
  · rw [List.mem_singleton.mp m]; exact r
  · rw [Paired.length hv]; exact z a vs (hd_some ha).2
/-- a name of a list or a tuple -/
theorem gi_lt (i : Nat) {nm : Str} {pos : Pos} {xs : List α} (hz : xs.length ≤ 1000) (hs : Γ.s[i]? = some (.val (rLT R) xs) := by rfl) (hN : X.N[i]? = some nm := by rfl)
    (hv : Vis X.env.scope nm := by first | exact Or.inl rfl | exact Or.inr (Or.inl rfl) | exact Or.inr (Or.inr rfl)) (hdb : (nm == ("__debug__" : Str)) = false := by decide)
    (hcd : (nm == ("__classdict__" : Str)) = false := by decide) : GI X tg (.Name nm pos) Γ R (Is xs) := fun σ H h Q q => by
  obtain ⟨v, e, r⟩ := h.ok i _ hs
  have hz' : xs.length ≤ sizeLine := Nat.le_trans hz (by decide)
  rcases r with r | r
  · obtain ⟨a, vs, rfl, ha, hp⟩ := id r
    refine s_pi (pi_list (pe_var hN hv hdb hcd)) ⟨_, e, a, rfl, ⟨vs, SqL.of (hd_some ha).2⟩, q _ H [⟨rL R, xs, .ref a⟩] xs rfl h.evr (fun g m => ?_) hz' fun L' => walks_list⟩
    rw [List.mem_singleton.mp m]; exact r
  · obtain ⟨a, vs, rfl, ha, hp⟩ := id r
    refine s_pi (pi_tup (pe_var hN hv hdb hcd)) ⟨_, e, a, rfl, ⟨vs, SqT.of (hd_some ha).2⟩, q _ H [⟨rTs R, xs, .ref a⟩] xs rfl h.evr (fun g m => ?_) hz' fun L' => walks_tup⟩
    rw [List.mem_singleton.mp m]; exact r
theorem gi_range {a : Expr} {p pos : Pos} {P : List Nat → Prop} {Pn : Int → Prop} (hm : X.mg "range" = none) (ha : GE X a Γ rI Pn) (hp : ∀ n, Pn n → 0 ≤ n ∧ n < 100000 ∧ P (List.range n.toNat)) (hg : Gl X "range" := by rfl)
    (hs : starEach [a] X.env = [(false, eval a X.env)] := by rfl) (hs' : starEach [a] X.env = (false, eval a X.env) :: starEach [] X.env := by rfl) :
    GI X tg (.Call (.Name "range" p) [a] [] pos) Γ rNat P := fun σ H h Q q => by
  refine s_pi (pi_range1 hg hm (pa_cons pe_s pa_nil hs') hs) (ha σ H h _ fun n v H1 p1 e1 z1 r1 => ?_)
  cases (show _ = _ from r1)
  obtain ⟨k0, k1, k2⟩ := hp n p1
  refine ⟨n, rfl, by omega, by omega, q _ H1 [] (List.range n.toNat) k2 e1 (fun g m => nomatch m) (by rw [List.length_range, sizeLine_eq]; omega) fun L' i H2 al _ => ⟨fun hi => ?_, fun hi => ?_, fun x v H' hx hy => ?_⟩⟩
  · rw [List.length_range] at hi; exact hi
  · rw [List.length_range] at hi; exact hi
  · obtain ⟨rfl, rfl⟩ := hy
    refine ⟨Ex.refl _, ?_⟩
    have hi : i < n.toNat := by
      have := (List.getElem?_eq_some_iff.mp hx).1
      rw [List.length_range] at this
      exact this
    rw [List.getElem?_range hi] at hx
    cases hx
    show V.int (0 + (i : Int)) = V.int (i : Int)
    rw [Int.zero_add]
/-- zip of two lists -/
theorem gi_zip {e1 e2 : Expr} {elts : List Expr} {kk : Nat} {tpos p pos : Pos} {xs : List α} {ys : List β} (hm : X.mg "zip" = none) (ha : GA X [e1, e2] Γ [⟨rL R, xs⟩, ⟨rL S, ys⟩]) (hg : Gl X "zip" := by rfl)
    (hs : starEach [e1, e2] X.env = (false, eval e1 X.env) :: starEach [e2] X.env := by rfl) (hpl : (backTo pos (starEach [e2] X.env)).any (·.1) = false := by rfl) :
    GI X (.Tuple elts kk tpos) (.Call (.Name "zip" p) [e1, e2] [] pos) Γ (rP R S) (Is (xs.zip ys)) := fun σ H h Q q => by
  refine s_pi (pi_zip hg hm pa_s hs hpl) (ha σ H h _ fun vs H1 e1 z1 r1 => ?_)
  obtain ⟨v, ws, rfl, rv, w, us, rfl, rw', he⟩ := r1
  cases (show _ = _ from he)
  obtain ⟨a, as, rfl, ha, hav⟩ := id rv
  obtain ⟨b, bs, rfl, hb, hbv⟩ := id rw'
  refine ⟨a, b, as, bs, rfl, SqL.of (hd_some ha).2, SqL.of (hd_some hb).2, q _ H1 [⟨rL R, xs, .ref a⟩, ⟨rL S, ys, .ref b⟩] (xs.zip ys) rfl e1 (fun g m => ?_) ?_ fun L' i H2 al hgs => ?_⟩
  · rcases List.mem_cons.mp m with rfl | m
    · exact rv
    · rw [List.mem_singleton.mp m]; exact rw'
  · have k := z1 a as (hd_some ha).2
    have l : xs.length = as.length := Paired.length hav
    rw [List.length_zip]; omega
  · obtain ⟨p1, vs1, q1, hp1, r1⟩ := hgs _ List.mem_cons_self
    obtain ⟨p2, vs2, q2, hp2, r2⟩ := hgs _ (List.mem_cons_of_mem _ List.mem_cons_self)
    cases q1
    cases q2
    have hp1 := (hd_some hp1).2
    have hp2 := (hd_some hp2).2
    have r1 : Paired (R.r (hd L' H2)) xs vs1 := r1
    have r2 : Paired (S.r (hd L' H2)) ys vs2 := r2
    have l1 := Paired.length r1
    have l2 := Paired.length r2
    refine ⟨fun hi => ?_, fun hi => ?_, fun x v H' hx hy => ?_⟩
    · rw [List.length_zip] at hi
      exact ⟨vs1, vs2, vs1[i]'(by omega), vs2[i]'(by omega), SqL.of hp1, SqL.of hp2, by simp, by simp⟩
    · rw [List.length_zip] at hi
      exact ⟨vs1, vs2, SqL.of hp1, SqL.of hp2, by omega⟩
    · obtain ⟨t, u, w, rfl, ht, rfl, h1, h2⟩ := hy
      obtain ⟨x1, a1, b1⟩ := Paired.get r1 (h1 vs1 (SqL.of hp1))
      obtain ⟨x2, a2, b2⟩ := Paired.get r2 (h2 vs2 (SqL.of hp2))
      have ex : x = (x1, x2) := by
        have := List.getElem?_zip_eq_some (z := x) |>.mp hx
        rw [a1, a2] at this
        obtain ⟨m1, m2⟩ := this
        cases x
        simp only [Option.some.injEq] at m1 m2
        rw [← m1, ← m2]
      subst ex
      exact ⟨Ex.new ht, t, u, w, rfl, hd_new al ht, R.mono (Ex.hd (Ex.new ht)) b1, S.mono (Ex.hd (Ex.new ht)) b2⟩
/-- a list by its places -/
def enumL {α : Type} (xs : List α) : List (Nat × α) := (List.range xs.length).zip xs
theorem gi_enum {e : Expr} {elts : List Expr} {kk : Nat} {tpos p pos : Pos} {xs : List α} (hm : X.mg "enumerate" = none) (ha : GE X e Γ (rL R) (Is xs)) (hg : Gl X "enumerate" := by rfl)
    (hs : starEach [e] X.env = [(false, eval e X.env)] := by rfl) (hs' : starEach [e] X.env = (false, eval e X.env) :: starEach [] X.env := by rfl) : GI X (.Tuple elts kk tpos) (.Call (.Name "enumerate" p) [e] [] pos) Γ (rP rNat R) (Is (enumL xs)) := fun σ H h Q q => by
  refine s_pi (pi_enum hg hm (pa_cons pe_s pa_nil hs') hs) (ha σ H h _ fun x' v H1 p1 e1 z1 r1 => ?_)
  cases (show _ = _ from p1)
  obtain ⟨a, as, rfl, ha, hav⟩ := id r1
  have hl := Paired.length hav
  have hle : (enumL xs).length = xs.length := by unfold enumL; rw [List.length_zip, List.length_range]; omega
  refine ⟨a, as, rfl, SqL.of (hd_some ha).2, q _ H1 [⟨rL R, xs, .ref a⟩] (enumL xs) rfl e1 (fun g m => ?_) ?_ fun L' i H2 al hgs => ?_⟩
  · rw [List.mem_singleton.mp m]; exact r1
  · rw [hle, hl]; exact z1 a as (hd_some ha).2
  · obtain ⟨p1, vs1, q1, hp1, r1⟩ := hgs _ List.mem_cons_self
    cases q1
    have hp1 := (hd_some hp1).2
    have r1 : Paired (R.r (hd L' H2)) xs vs1 := r1
    have l1 := Paired.length r1
    rw [hle]
    refine ⟨fun hi => ⟨vs1, vs1[i]'(by omega), SqL.of hp1, by simp⟩, fun hi => ⟨vs1, SqL.of hp1, by omega⟩, fun x v H' hx hy => ?_⟩
    obtain ⟨t, u, rfl, ht, rfl, h1⟩ := hy
    obtain ⟨x1, a1, b1⟩ := Paired.get r1 (h1 vs1 (SqL.of hp1))
    have ex : x = (i, x1) := by
      have := List.getElem?_zip_eq_some (z := x) |>.mp hx
      obtain ⟨m1, m2⟩ := this
      rw [a1] at m2
      have hi : i < xs.length := (List.getElem?_eq_some_iff.mp a1).1
      rw [List.getElem?_range hi] at m1
      cases x
      simp only [Option.some.injEq] at m1 m2
      rw [← m1, ← m2]
    subst ex
    exact ⟨Ex.new ht, t, .int (i : Nat), u, rfl, hd_new al ht, rfl, R.mono (Ex.hd (Ex.new ht)) b1⟩
end
end TL

namespace TL
open PySem PySem.Spec L2

/-- an expression in any block over X -/
def sEB (X : Cx) (scope : Scope) (elt : Expr) : TE := fun σ H Q => ∀ (s : Shared) (H0 : Hp) (C : Addr) (cl : List (Str × Addr)) (fp : List Addr), sE (X.blk s H0 scope (compEnvC scope cl C X.env) fp) elt σ H Q
def sTB (X : Cx) (scope : Scope) (e : Expr) : TT := fun σ H Q => ∀ (s : Shared) (H0 : Hp) (C : Addr) (cl : List (Str × Addr)) (fp : List Addr), sT (X.blk s H0 scope (compEnvC scope cl C X.env) fp) e σ H Q
def sGB (X : Cx) (scope : Scope) (tg : Expr) : TG := fun v σ H Q => ∀ (s : Shared) (H0 : Hp) (C : Addr) (cl : List (Str × Addr)) (fp : List Addr), sG (X.blk s H0 scope (compEnvC scope cl C X.env) fp) tg v σ H Q
abbrev Blk (X : Cx) (scope : Scope) (F : Cx → Prop) : Prop := ∀ (s : Shared) (H0 : Hp) (C : Addr) (cl : List (Str × Addr)) (fp : List Addr), F (X.blk s H0 scope (compEnvC scope cl C X.env) fp)

section
variable {X : Cx} {Γ : Env} {τ β : Type} {T : Rp τ} {S : Rp β} {tg it elt : Expr} {scope : Scope} {own : List (Str × Nat)} {pos : Pos} {is : List Nat} {ap : τ → List Slot → List Slot} {n : Nat}
/-- what a comprehension with a test that may be none comes to: for the turns' xs, the kept ones' values -/
theorem rd_lc {PX : List τ → Prop} {pt : τ → Bool → Prop} {Pe : τ → β → Prop} {tt : TT} (hi : GI X tg it Γ T PX) (hn : Γ.s.length = n)
    (hg : Blk X scope fun X' => GG X' tg T is ap n) (his : ∀ i ∈ is, i ∈ own.map (·.2))
    (ht : ∀ D x (Γ' : Env), Γ' = { Γ with L := D :: Γ.L, s := ap x (wS Γ.s (own.map (·.2))) } → ∀ σ H, Has Γ' σ H → ∀ Q : Bool → Hp → Prop, (∀ b H', pt x b → Ev Γ'.P H H' → Q b H') → tt σ H Q)
    (he : ∀ D xs x, PX xs → x ∈ xs → pt x true → Blk X scope fun X' => GE X' elt { Γ with L := D :: Γ.L, s := ap x (wS Γ.s (own.map (·.2))) } S (Pe x))
    {σ : L2.St} {H : Hp} (h : Has Γ σ H) {Q : VK}
    (q : ∀ xs (bs : List Bool) ys p vs H', PX xs → Paired pt xs bs → Paired Pe (((xs.zip bs).filter (·.2)).map (·.1)) ys → H p = none → Ev Γ.P H H' → H' p = some (.lst vs) → Paired (S.r (hd (p :: Γ.L) H')) ys vs → Q (.ref p) H') :
    tLc (sI X tg it) (sGB X scope tg) tt (sEB X scope elt) (own.map (·.2)) σ H Q := by
  refine hi σ H h _ fun J H1 gs xs hP e1 hgs hz hw D hD => ?_
  have hD0 : H D = none := by
    cases k : H D with
    | none => rfl
    | some o => exact absurd hD (e1.some (by rw [k]; intro z; cases z))
  have h1 := h.ev e1
  -- the state at a turn
  have g1 : Has { Γ with L := D :: Γ.L } σ (upd H1 D (.lst [])) := h1.hide hD (h1.eve (Ex.new hD)) (by rw [upd_same]; intro z; cases z)
  have x1 : Ex (hd Γ.L H1) (hd (D :: Γ.L) (upd H1 D (.lst []))) := by
    rw [hd_upd List.mem_cons_self]; exact hd_hide hD
  have n0 : Γ.H0 D = none := h1.back hD
  have nown := h1.nown hD
  refine ⟨fun i m H2 => m = xs.length - i ∧ i ≤ xs.length ∧ ∃ (bs : List Bool) (ys : List β) (vs : List V), Paired pt (xs.take i) bs ∧ Paired Pe ((((xs.take i).zip bs).filter (·.2)).map (·.1)) ys ∧
      Ev Γ.P H H2 ∧ H2 D = some (.lst vs) ∧ Paired (S.r (hd (D :: Γ.L) H2)) ys vs ∧ vs.length ≤ i ∧ Has { Γ with L := D :: Γ.L } σ H2 ∧ Ex (hd Γ.L H1) (hd (D :: Γ.L) H2),
    ⟨_, rfl, Nat.zero_le _, [], [], [], .nil, .nil, e1.trans (h1.eve (Ex.new hD)), upd_same, .nil, Nat.le_refl _, g1, x1⟩, ?_⟩
  rintro i m H2 ⟨rfl, hle, bs, ys, vs, hb, hy, eH, hDv, hv, hvl, hh2, xx⟩
  have hgs2 : ∀ q ∈ gs, q.R.r (hd (D :: Γ.L) H2) q.x q.v := fun q m => q.R.mono xx (hgs q m)
  obtain ⟨w1, w2, w3⟩ := hw (D :: Γ.L) i H2 hh2.al hgs2
  by_cases hlt : i < xs.length
  · refine .inr ⟨w1 hlt, fun H' => ∃ (b : Bool) (ys' : List β) (vs' : List V), pt xs[i] b ∧ Paired Pe ((((xs.take (i + 1)).zip (bs ++ [b])).filter (·.2)).map (·.1)) ys' ∧
        Ev Γ.P H H' ∧ H' D = some (.lst vs') ∧ Paired (S.r (hd (D :: Γ.L) H')) ys' vs' ∧ vs'.length ≤ i + 1 ∧ Has { Γ with L := D :: Γ.L } σ H' ∧ Ex (hd Γ.L H1) (hd (D :: Γ.L) H'),
      fun H' ⟨b, ys', vs', k1, k2, k3, k4, k5, k6, k7, k8⟩ => ⟨xs.length - (i + 1), by omega, rfl, hlt, bs ++ [b], ys', vs', by rw [List.take_succ, List.getElem?_eq_getElem hlt]; exact Paired.snoc hb k1, k2, k3, k4, k5, k6, k7, k8⟩, fun v H3 hy3 => ?_⟩
    obtain ⟨ex3, r3⟩ := w3 xs[i] v H3 (List.getElem?_eq_getElem hlt) hy3
    have e3 := hh2.eve ex3
    have hh3 := hh2.exx ex3
    have key : (xs.take (i + 1)) = xs.take i ++ [xs[i]] := by rw [List.take_succ, List.getElem?_eq_getElem hlt]; rfl
    have hbl : (xs.take i).length = bs.length := Paired.length hb
    intro s0 H0 C cl fp
    refine hg s0 H0 C cl fp _ _ H3 xs[i] v (by rw [wS_len]; exact hn) (hh3.wipe (own.map (·.2))) r3 _ fun σ' gg ww ll => ?_
    refine ⟨by rw [ww (own.map (·.2)) his, wipe_wipe], ?_⟩
    refine ht D xs[i] _ rfl σ' H3 gg _ fun b H4 pb e4 => ?_
    have hh4 := hh3.ev e4
    have e4' : Ev Γ.P H2 H4 := e3.trans e4
    have hx4 := hh2.hdx e4'
    have hD4 : H4 D = some (.lst vs) := (e4' D _ hDv).1 fun z => (h.l0 D (h.pot D z).1).2 n0
    cases b with
    | false =>
      simp only [Bool.false_eq_true, if_false]
      refine ⟨false, ys, vs, pb, ?_, eH.trans e4', hD4, Paired.monoR hx4 hv, by omega, hh4, xx.trans hx4⟩
      rw [key, List.zip_append hbl, List.filter_append, List.map_append]
      simpa using hy
    | true =>
      simp only [if_true]
      intro s1 H5 C1 cl1 fp1
      refine he D xs xs[i] hP (List.getElem_mem hlt) pb s1 H5 C1 cl1 fp1 σ' H4 (gg.ev e4) _ fun y w H6 py e6 z6 r6 => ?_
      have e6' : Ev Γ.P H2 H6 := e4'.trans e6
      have hx6 := hh2.hdx e6'
      have hD6 : H6 D = some (.lst vs) := (e6' D _ hDv).1 fun z => (h.l0 D (h.pot D z).1).2 n0
      have hh6 := hh2.ev e6'
      have hup : hd (D :: Γ.L) (upd H6 D (.lst (vs ++ [w]))) = hd (D :: Γ.L) H6 := hd_upd List.mem_cons_self
      refine ⟨vs, hD6, by omega, true, ys ++ [y], vs ++ [w], pb, ?_, ?_, upd_same, ?_, by rw [List.length_append]; simp; omega, hh6.wr List.mem_cons_self n0 nown, ?_⟩
      · rw [key, List.zip_append hbl, List.filter_append, List.map_append]
        exact Paired.app hy (by simpa using Paired.cons py .nil)
      · intro a o ha
        have na : a ≠ D := fun z => by rw [z, hD0] at ha; cases ha
        have k := (eH.trans e6') a o ha
        refine ⟨fun z => by rw [upd_ne na]; exact k.1 z, fun z => ?_⟩
        obtain ⟨c, d, hc, hd', hb'⟩ := k.2 z
        exact ⟨c, d, hc, hd', by rw [upd_ne na]; exact hb'⟩
      · rw [hup]
        exact Paired.app (Paired.monoR hx6 hv) (.cons r6 .nil)
      · rw [hup]
        exact xx.trans hx6
  · have hi' : i = xs.length := by omega
    subst hi'
    rw [List.take_length] at hb hy
    exact .inl ⟨w2 (Nat.le_refl _), q xs bs ys D vs H2 hP hb hy hD0 eH hDv hv⟩

/-- a fresh list: it may become one's own -/
def GF (X : Cx) (e : Expr) (Γ : Env) {α : Type} (R : Rp α) (P : List α → Prop) : Prop :=
  ∀ σ H, Has Γ σ H → ∀ Q : VK, (∀ xs p vs H', P xs → H p = none → Ev Γ.P H H' → H' p = some (.lst vs) → Paired (R.r (hd (p :: Γ.L) H')) xs vs → Q (.ref p) H') → sE X e σ H Q
theorem GF.ge {e : Expr} {P : List β → Prop} (h : GF X e Γ S P) : GE X e Γ (rL S) P := fun σ H hh Q q => sE_szd (h σ H hh _ fun xs p vs H' px hp ev hl r z => q xs _ H' px ev z
  ⟨p, vs, rfl, hd_of (fun m => hh.al p m hp) hl, Paired.monoR (hd_less fun a m => List.mem_cons_of_mem _ m) r⟩)
theorem GF.imp {e : Expr} {P P' : List β → Prop} (h : GF X e Γ S P) (k : ∀ x, P x → P' x) : GF X e Γ S P' := fun σ H hh Q q => h σ H hh Q fun xs p vs H' px => q xs p vs H' (k xs px)
theorem GF.to {e : Expr} {x y : List β} (h : GF X e Γ S (Is x)) (k : x = y) : GF X e Γ S (Is y) := k ▸ h
theorem Paired.allTrue {PX : List τ → Prop} : ∀ {xs : List τ} {bs : List Bool}, Paired (fun _ b => b = true) xs bs → ((xs.zip bs).filter (·.2)).map (·.1) = xs
  | _, _, .nil => rfl
  | _, _, .cons h t => by
    subst h
    simp only [List.zip_cons_cons, List.filter_cons, if_true, List.map_cons, Paired.allTrue (PX := PX) t]
theorem Paired.isMap {f : τ → β} : ∀ {xs : List τ} {ys : List β}, Paired (fun x y => Is (f x) y) xs ys → ys = xs.map f
  | _, _, .nil => rfl
  | _, _, .cons h t => by rw [List.map_cons, ← Paired.isMap t]; cases (show _ = _ from h); rfl
theorem Paired.isFilter {p : τ → Bool} : ∀ {xs : List τ} {bs : List Bool}, Paired (fun x b => Is (p x) b) xs bs → ((xs.zip bs).filter (·.2)).map (·.1) = xs.filter p
  | _, _, .nil => rfl
  | x :: _, _, .cons h t => by
    cases (show _ = _ from h)
    have ih := Paired.isFilter t
    simp only [List.zip_cons_cons, List.filter_cons]
    cases p x with
    | true => simp [ih]
    | false => simp [ih]

/-- [e for x in xs] -/
theorem gf_lcP {PX : List τ → Prop} {Pe : τ → β → Prop} {P : List β → Prop} (hc : X.calm = true) (hN : X.N.Nodup) (hi : GI X tg it Γ T PX) (ok : BlkOk X.N X.env.scope scope own)
    (hg : Blk X scope fun X' => GG X' tg T is ap n) (hn : Γ.s.length = n) (his : ∀ i ∈ is, i ∈ own.map (·.2))
    (he : ∀ D xs x, PX xs → x ∈ xs → Blk X scope fun X' => GE X' elt { Γ with L := D :: Γ.L, s := ap x (wS Γ.s (own.map (·.2))) } S (Pe x))
    (hP : ∀ xs ys, PX xs → Paired Pe xs ys → P ys) (hs : ∀ x, foldedSetIterable it X.env x = pure x := by intro _; rfl) : GF X (.ListComp elt [⟨tg, it, [], 0⟩] scope pos) Γ S P := fun σ H h Q q =>
  s_pe (pe_lc hc hN pi_s ok (fun s H C cl fp => (⟨fun pins s' σ H' v u Q I r k => k s H C cl fp pins s' u I r⟩ : PG _ _ (sGB X scope tg))) (fun s H C cl fp => pts_nil)
    (fun s H C cl fp => (⟨fun pins s' σ H' Q I k => k s H C cl fp pins s' I⟩ : PE _ _ (sEB X scope elt))) hs)
    (rd_lc (pt := fun _ b => b = true) hi hn hg his (fun D x Γ' _ σ H hh Q q => q true H rfl hh.evr) (fun D xs x px mx _ => he D xs x px mx) h fun xs bs ys p vs H' px pb py hp ev hl r => by
      rw [Paired.allTrue (PX := PX) pb] at py
      exact q ys p vs H' (hP xs ys px py) hp ev hl r)
theorem gf_lc {xs : List τ} (f : τ → β) (hc : X.calm = true) (hN : X.N.Nodup) (hi : GI X tg it Γ T (Is xs)) (ok : BlkOk X.N X.env.scope scope own)
    (hg : Blk X scope fun X' => GG X' tg T is ap n) (hn : Γ.s.length = n) (his : ∀ i ∈ is, i ∈ own.map (·.2))
    (he : ∀ D x, x ∈ xs → Blk X scope fun X' => GE X' elt { Γ with L := D :: Γ.L, s := ap x (wS Γ.s (own.map (·.2))) } S (Is (f x)))
    (hs : ∀ x, foldedSetIterable it X.env x = pure x := by intro _; rfl) : GF X (.ListComp elt [⟨tg, it, [], 0⟩] scope pos) Γ S (Is (xs.map f)) :=
  gf_lcP hc hN hi ok hg hn his (Pe := fun x => Is (f x)) (fun D xs' x px mx => by cases (show _ = _ from px); exact he D x mx) (fun xs' ys px py => by cases (show _ = _ from px); exact Paired.isMap py) hs
/-- [e for x in xs if t] -/
theorem gf_lcF {xs : List τ} {c : Expr} (p : τ → Bool) (f : τ → β) (hc : X.calm = true) (hN : X.N.Nodup) (hi : GI X tg it Γ T (Is xs)) (ok : BlkOk X.N X.env.scope scope own)
    (hg : Blk X scope fun X' => GG X' tg T is ap n) (hn : Γ.s.length = n) (his : ∀ i ∈ is, i ∈ own.map (·.2))
    (ht : ∀ D x, Blk X scope fun X' => GT X' c { Γ with L := D :: Γ.L, s := ap x (wS Γ.s (own.map (·.2))) } (Is (p x)))
    (he : ∀ D x, x ∈ xs → p x = true → Blk X scope fun X' => GE X' elt { Γ with L := D :: Γ.L, s := ap x (wS Γ.s (own.map (·.2))) } S (Is (f x)))
    (hs : ∀ x, foldedSetIterable it X.env x = pure x := by intro _; rfl) : GF X (.ListComp elt [⟨tg, it, [c], 0⟩] scope pos) Γ S (Is ((xs.filter p).map f)) := fun σ H h Q q =>
  s_pe (pe_lc hc hN pi_s ok (fun s H C cl fp => (⟨fun pins s' σ H' v u Q I r k => k s H C cl fp pins s' u I r⟩ : PG _ _ (sGB X scope tg)))
    (fun s H C cl fp => pts_one (⟨fun pins s' σ H' Q I k => k s H C cl fp pins s' I⟩ : PT _ _ (sTB X scope c)))
    (fun s H C cl fp => (⟨fun pins s' σ H' Q I k => k s H C cl fp pins s' I⟩ : PE _ _ (sEB X scope elt))) hs)
    (rd_lc (pt := fun x b => Is (p x) b) (Pe := fun x => Is (f x)) hi hn hg his (fun D x Γ' eΓ σ H hh Q q s0 H0 C cl fp => by
        subst eΓ
        exact ht D x s0 H0 C cl fp σ H hh Q q) (fun D xs' x px mx pt => by cases (show _ = _ from px); exact he D x mx (show true = p x from pt).symm) h fun xs' bs ys p' vs H' px pb py hp ev hl r => by
      cases (show _ = _ from px)
      rw [Paired.isFilter pb] at py
      exact q ys p' vs H' (Paired.isMap py) hp ev hl r)
end
end TL

namespace TL
open PySem PySem.Spec L2
section
variable {X : Cx} {Γ : Env} {α β τ : Type} {R : Rp α} {S : Rp β} {T : Rp τ} {P : β → Prop} {N : L2.St → Hp → Prop} {e : Expr} {rest : List Stmt} {pos : Pos}

/-- what is handed back -/
theorem Has.giv {σ : L2.St} {H H' : Hp} (h : Has Γ σ H) (e : Ev Γ.P H H') {x : α} {v : V} (r : R.r (hd Γ.L H') x v) : Ev Γ.P Γ.H0 H' ∧ R.r (hd Γ.L0 H') x v :=
  ⟨h.ex.trans e, R.mono (hd_less fun a m => (h.l0 a m).1) r⟩
theorem GS.more {N' : L2.St → Hp → Prop} {st : List Stmt} (h : GS X st Γ S P N) (k : ∀ σ H, N σ H → N' σ H) : GS X st Γ S P N' := fun σ H hh D q r => h σ H hh D (fun σ' H' n => q σ' H' (k σ' H' n)) r
theorem gs_end (h : ∀ σ H, Has Γ σ H → N σ H) : GS X [] Γ S P N := fun σ H hh D q r => s_pss pss_nil (q σ H (h σ H hh))
/-- a statement, then the rest -/
theorem gs_cons {st : Stmt} (h : ∀ σ H, Has Γ σ H → ∀ D : Ends, (∀ σ' H', N σ' H' → D.nx σ' H') → (∀ y v H', P y → Ev Γ.P Γ.H0 H' → S.r (hd Γ.L0 H') y v → D.rt v H') → sS X st { D with nx := fun σ' H' => sB X rest D σ' H' } σ H) : GS X (st :: rest) Γ S P N :=
  fun σ H hh D q r => s_pss (pss_cons ps_s pss_s) (h σ H hh D q r)
theorem gs_ret (he : GE X e Γ S P) : GS X (.Return (some e) pos :: rest) Γ S P N := gs_cons fun σ H h D q r => s_ps (ps_ret pe_s) (he σ H h _ fun y v H' p ev z k => let ⟨a, b⟩ := h.giv ev k; r y v H' p a b)
/-- a list of one's own is handed back -/
theorem gs_retOwn (i : Nat) {nm : Str} {l : Addr} {xs : List α} {P : List α → Prop} {p1 : Pos} (hp : P xs) (hs : Γ.s[i]? = some (.own l R xs) := by rfl) (hN : X.N[i]? = some nm := by rfl)
    (hv : Vis X.env.scope nm := by first | exact Or.inl rfl | exact Or.inr (Or.inl rfl) | exact Or.inr (Or.inr rfl)) (hdb : (nm == ("__debug__" : Str)) = false := by decide)
    (hcd : (nm == ("__classdict__" : Str)) = false := by decide) : GS X (.Return (some (.Name nm p1)) pos :: rest) Γ (rL R) P N := gs_cons fun σ H h D q r => s_ps (ps_ret (pe_var hN hv hdb hcd)) (by
  obtain ⟨e1, m, vs, e3, e4⟩ := h.ok i _ hs
  have hn := h.new i _ l hs rfl
  refine ⟨_, e1, r xs _ H hp h.ex ⟨l, vs, rfl, hd_of (fun z => (h.l0 l z).2 hn) e3, Paired.monoR (hd_less fun a m => (h.l0 a m).1) e4⟩⟩)
/-- a list of one's own is changed no more -/
theorem gs_froze (i : Nat) {l : Addr} {xs : List α} {L' : List Addr} {st : List Stmt} (hs : Γ.s[i]? = some (.own l R xs)) (hL : ∀ a, a ∈ L' ↔ a ∈ Γ.L ∧ a ≠ l) (h : GS X st { Γ with L := L', s := Γ.s.set i (.val (rL R) xs) } S P N) : GS X st Γ S P N :=
  fun σ H hh D q r => h σ H (hh.froze hs hL) D q r
theorem gs_froze1 (i : Nat) {l : Addr} {xs : List α} {L' : List Addr} {st : List Stmt} (hs : Γ.s[i]? = some (.own l R xs) := by rfl) (hL : Γ.L = l :: L') (hl : l ∉ L') (h : GS X st { Γ with L := L', s := Γ.s.set i (.val (rL R) xs) } S P N) : GS X st Γ S P N :=
  gs_froze i hs (fun a => by
    rw [hL]
    refine ⟨fun m => ⟨List.mem_cons_of_mem _ m, fun z => hl (z ▸ m)⟩, fun ⟨m, n⟩ => (List.mem_cons.mp m).elim (fun z => absurd z n) id⟩) h
/-- slots are forgotten -/
theorem gs_less {ss : List Slot} {st : List Stmt} (f : Fewer ss Γ.s) (h : GS X st { Γ with s := ss } S P N) : GS X st Γ S P N := fun σ H hh D q r => h σ H (hh.less f) D q r

/-- x = e -/
theorem gs_set (i : Nat) {nm : Str} {p' : Pos} {Pe : α → Prop} (hN : X.N.Nodup) (he : GE X e Γ R Pe) (k : ∀ x, Pe x → GS X rest { Γ with s := Γ.s.set i (.val R x) } S P N) (hi : X.N[i]? = some nm := by rfl) (hn : i < Γ.s.length := by exact Nat.le_of_ble_eq_true rfl)
    (hx : Loc X.env.scope nm := by first | exact Or.inl rfl | exact Or.inr rfl) (hs : swapsWith e (some (.Name nm p')) pos.line X.env = pure false := by rfl) (hf : X.fn nm = true ∨ X.env.scope.names.lookup nm = some .local := by first | exact .inl rfl | exact .inr rfl) :
    GS X (.Assign [.Name nm p'] e pos :: rest) Γ S P N := gs_cons fun σ H h D q r => s_ps (ps_set hN hi hx pe_s hs hf) (he σ H h _ fun x v H' p ev z rr =>
    k x p _ H' ((h.ev ev).set hn rr) D q r)
theorem gs_setI (i : Nat) {nm : Str} {p' : Pos} {x : α} (hN : X.N.Nodup) (he : GE X e Γ R (Is x)) (k : GS X rest { Γ with s := Γ.s.set i (.val R x) } S P N) (hi : X.N[i]? = some nm := by rfl) (hn : i < Γ.s.length := by exact Nat.le_of_ble_eq_true rfl)
    (hx : Loc X.env.scope nm := by first | exact Or.inl rfl | exact Or.inr rfl) (hs : swapsWith e (some (.Name nm p')) pos.line X.env = pure false := by rfl) (hf : X.fn nm = true ∨ X.env.scope.names.lookup nm = some .local := by first | exact .inl rfl | exact .inr rfl) :
    GS X (.Assign [.Name nm p'] e pos :: rest) Γ S P N := gs_set i hN he (fun y py => by cases (show _ = _ from py); exact k) hi hn hx hs hf
/-- x = a fresh list, to be changed -/
theorem gs_own (i : Nat) {nm : Str} {p' : Pos} {Pe : List α → Prop} (hN : X.N.Nodup) (he : GF X e Γ R Pe) (k : ∀ xs p, Pe xs → p ∉ Γ.L → GS X rest { Γ with L := p :: Γ.L, s := Γ.s.set i (.own p R xs) } S P N) (hi : X.N[i]? = some nm := by rfl) (hn : i < Γ.s.length := by exact Nat.le_of_ble_eq_true rfl)
    (hx : Loc X.env.scope nm := by first | exact Or.inl rfl | exact Or.inr rfl) (hs : swapsWith e (some (.Name nm p')) pos.line X.env = pure false := by rfl) (hf : X.fn nm = true ∨ X.env.scope.names.lookup nm = some .local := by first | exact .inl rfl | exact .inr rfl) :
    GS X (.Assign [.Name nm p'] e pos :: rest) Γ S P N := gs_cons fun σ H h D q r => s_ps (ps_set hN hi hx pe_s hs hf) (he σ H h _ fun xs p vs H' px hp ev hl rr =>
    k xs p px (h.notL hp) _ H' (h.owned hn hp ev hl rr) D q r)
/-- [] -/
theorem gf_nil {p : Pos} : GF X (.List [] p) Γ R (Is []) := fun σ H h Q q => s_pe (pe_lst pa_nil) ⟨Nat.zero_le _, fun p hp => q [] p [] _ rfl hp (h.eve (Ex.new hp)) upd_same .nil⟩
theorem gf_lst {es : List Expr} {bs : List Bd} (xs : List α) (h : GA X es Γ bs) (hb : bs = xs.map (fun x => ⟨R, x⟩) := by rfl) (hz : xs.length ≤ 100 := by decide) : GF X (.List es pos) Γ R (Is xs) := fun σ H hh Q q =>
  s_pe (pe_lst pa_s) (h σ H hh _ fun vs H1 e1 z1 r1 => by
    subst hb
    have k := AllR.alike r1
    have l := Paired.length k
    refine ⟨by rw [← l]; exact Nat.le_trans hz (by decide), fun p hp => q xs p vs _ rfl ?_ (e1.trans ((hh.ev e1).eve (Ex.new hp))) upd_same ?_⟩
    · cases k' : H p with
      | none => rfl
      | some o => exact absurd hp (e1.some (by rw [k']; intro z; cases z))
    · rw [hd_upd List.mem_cons_self]
      exact Paired.monoR (hd_hide hp) k)
/-- x = [.. for ..] on one line, x a local -/
theorem gs_setLcP (i : Nat) {nm : Str} {p' pp : Pos} {tg it elt : Expr} {scope : Scope} {own : List (Str × Nat)} {is : List Nat} {ap : τ → List Slot → List Slot} {n : Nat} {PX : List τ → Prop} {Pe : τ → α → Prop} (hc : X.calm = true) (hN : X.N.Nodup)
    (hi : GI X tg it Γ T PX) (ok : BlkOk X.N X.env.scope scope own) (hg : Blk X scope fun X' => GG X' tg T is ap n) (hnl : Γ.s.length = n) (his : ∀ i ∈ is, i ∈ own.map (·.2))
    (he : ∀ D xs x, PX xs → x ∈ xs → Blk X scope fun X' => GE X' elt { Γ with L := D :: Γ.L, s := ap x (wS Γ.s (own.map (·.2))) } R (Pe x))
    (k : ∀ xs ys, PX xs → Paired Pe xs ys → GS X rest { Γ with s := Γ.s.set i (.val (rL R) ys) } S P N) (hy : X.N[i]? = some nm := by rfl) (hn : i < Γ.s.length := by exact Nat.le_of_ble_eq_true rfl)
    (hyl : X.env.scope.names.lookup nm = some .local := by rfl) (hsw : swapsWith (.ListComp elt [⟨tg, it, [], 0⟩] scope pp) (some (.Name nm p')) pos.line X.env = pure true := by exact sw_true rfl rfl rfl (by decide +kernel)) (hs : ∀ x, foldedSetIterable it X.env x = pure x := by intro _; rfl) :
    GS X (.Assign [.Name nm p'] (.ListComp elt [⟨tg, it, [], 0⟩] scope pp) pos :: rest) Γ S P N := gs_cons fun σ H h D q r =>
  s_ps (ps_setLc hc hN hy hyl hsw pi_s ok (fun s H C cl fp => (⟨fun pins s' σ H' v u Q I r k => k s H C cl fp pins s' u I r⟩ : PG _ _ (sGB X scope tg))) (fun s H C cl fp => pts_nil)
    (fun s H C cl fp => (⟨fun pins s' σ H' Q I k => k s H C cl fp pins s' I⟩ : PE _ _ (sEB X scope elt))) hs)
    (rd_lc (pt := fun _ b => b = true) hi hnl hg his (fun D x Γ' _ σ H hh Q q => q true H rfl hh.evr) (fun D xs x px mx _ => he D xs x px mx) h fun xs bs ys p vs H' px pb py hp ev hl rr => by
      rw [Paired.allTrue (PX := PX) pb] at py
      have h' := h.ev ev
      have m : p ∉ Γ.L := h.notL hp
      exact k xs ys px py _ H' (h'.set hn (R := rL R) ⟨p, vs, rfl, hd_of m hl, Paired.monoR (hd_less fun a m => List.mem_cons_of_mem _ m) rr⟩) D q r)
theorem gs_setLc (i : Nat) {nm : Str} {p' pp : Pos} {tg it elt : Expr} {scope : Scope} {own : List (Str × Nat)} {is : List Nat} {ap : τ → List Slot → List Slot} {n : Nat} {xs : List τ} (f : τ → α) (hc : X.calm = true) (hN : X.N.Nodup)
    (hi : GI X tg it Γ T (Is xs)) (ok : BlkOk X.N X.env.scope scope own) (hg : Blk X scope fun X' => GG X' tg T is ap n) (hnl : Γ.s.length = n) (his : ∀ i ∈ is, i ∈ own.map (·.2))
    (he : ∀ D x, x ∈ xs → Blk X scope fun X' => GE X' elt { Γ with L := D :: Γ.L, s := ap x (wS Γ.s (own.map (·.2))) } R (Is (f x)))
    (k : GS X rest { Γ with s := Γ.s.set i (.val (rL R) (xs.map f)) } S P N) (hy : X.N[i]? = some nm := by rfl) (hn : i < Γ.s.length := by exact Nat.le_of_ble_eq_true rfl)
    (hyl : X.env.scope.names.lookup nm = some .local := by rfl) (hsw : swapsWith (.ListComp elt [⟨tg, it, [], 0⟩] scope pp) (some (.Name nm p')) pos.line X.env = pure true := by exact sw_true rfl rfl rfl (by decide +kernel)) (hs : ∀ x, foldedSetIterable it X.env x = pure x := by intro _; rfl) :
    GS X (.Assign [.Name nm p'] (.ListComp elt [⟨tg, it, [], 0⟩] scope pp) pos :: rest) Γ S P N :=
  gs_setLcP i (Pe := fun x => Is (f x)) hc hN hi ok hg hnl his (fun D xs' x px mx => by cases (show _ = _ from px); exact he D x mx) (fun xs' ys px py => by cases (show _ = _ from px); cases (Paired.isMap py); exact k) hy hn hyl hsw hs
/-- a, b = x, y: two locals -/
theorem gs_par (i j : Nat) {nm mm : Str} {px py pt pt2 : Pos} {kt k2 : Nat} {a b : Expr} {x : α} {y : τ} (hc : X.calm = true) (hN : X.N.Nodup) (ha : GE X a Γ R (Is x)) (hb : GE X b Γ T (Is y)) (k : GS X rest { Γ with s := (Γ.s.set i (.val R x)).set j (.val T y) } S P N)
    (hi : X.N[i]? = some nm := by rfl) (hj : X.N[j]? = some mm := by rfl) (hij : i ≠ j := by decide) (hni : i < Γ.s.length := by exact Nat.le_of_ble_eq_true rfl) (hnj : j < Γ.s.length := by exact Nat.le_of_ble_eq_true rfl)
    (hx : X.env.scope.names.lookup nm = some .local := by rfl) (hy : X.env.scope.names.lookup mm = some .local := by rfl)
    (hw : swappedStores [.Tuple [.Name nm px, .Name mm py] kt pt] (.Tuple [a, b] k2 pt2) X.env = pure (some [nm, mm]) := by rfl) (hs : swapsWithSole [.Tuple [.Name nm px, .Name mm py] kt pt] (.Tuple [a, b] k2 pt2) pos.line X.env = pure false := by rfl)
    (hs1 : starEach [a, b] X.env = (false, eval a X.env) :: starEach [b] X.env := by rfl) (hs2 : starEach [b] X.env = (false, eval b X.env) :: starEach [] X.env := by rfl) :
    GS X (.Assign [.Tuple [.Name nm px, .Name mm py] kt pt] (.Tuple [a, b] k2 pt2) pos :: rest) Γ S P N := gs_cons fun σ H h D q r =>
  s_ps (ps_par hc hN hi hj hij hx hy (pa_cons pe_s (pa_cons pe_s pa_nil hs2) hs1) hw hs) (ha σ H h _ fun x' v H1 p1 e1 z1 r1 => hb σ H1 (h.ev e1) _ fun y' u H2 p2 e2 z2 r2 => by
    cases (show _ = _ from p1); cases (show _ = _ from p2)
    refine ⟨v, u, rfl, k _ H2 ?_ D q r⟩
    have h1 := h.ev e1
    have g1 := (h1.ev e2).set hni (R.mono (h1.hdx e2) r1)
    exact g1.set (by show j < (Γ.s.set i _).length; rw [List.length_set]; exact hnj) r2)
/-- a, b = [..], y: the list is to be changed -/
theorem gs_parO (i j : Nat) {nm mm : Str} {px py pt pt2 : Pos} {kt k2 : Nat} {a b : Expr} {xs : List α} {Pe : τ → Prop} (hc : X.calm = true) (hN : X.N.Nodup) (ha : GF X a Γ R (Is xs)) (hb : ∀ p, GE X b { Γ with L := p :: Γ.L } T Pe)
    (k : ∀ p y, Pe y → p ∉ Γ.L → GS X rest { Γ with L := p :: Γ.L, s := (Γ.s.set i (.own p R xs)).set j (.val T y) } S P N)
    (hi : X.N[i]? = some nm := by rfl) (hj : X.N[j]? = some mm := by rfl) (hij : i ≠ j := by decide) (hni : i < Γ.s.length := by exact Nat.le_of_ble_eq_true rfl) (hnj : j < Γ.s.length := by exact Nat.le_of_ble_eq_true rfl)
    (hx : X.env.scope.names.lookup nm = some .local := by rfl) (hy : X.env.scope.names.lookup mm = some .local := by rfl)
    (hw : swappedStores [.Tuple [.Name nm px, .Name mm py] kt pt] (.Tuple [a, b] k2 pt2) X.env = pure (some [nm, mm]) := by rfl) (hs : swapsWithSole [.Tuple [.Name nm px, .Name mm py] kt pt] (.Tuple [a, b] k2 pt2) pos.line X.env = pure false := by rfl)
    (hs1 : starEach [a, b] X.env = (false, eval a X.env) :: starEach [b] X.env := by rfl) (hs2 : starEach [b] X.env = (false, eval b X.env) :: starEach [] X.env := by rfl) :
    GS X (.Assign [.Tuple [.Name nm px, .Name mm py] kt pt] (.Tuple [a, b] k2 pt2) pos :: rest) Γ S P N := gs_cons fun σ H h D q r =>
  s_ps (ps_par hc hN hi hj hij hx hy (pa_cons pe_s (pa_cons pe_s pa_nil hs2) hs1) hw hs) (ha σ H h _ fun xs' p vs H1 p1 hp e1 hl r1 => by
    cases (show _ = _ from p1)
    have g0 := h.hide hp e1 (by rw [hl]; intro z; cases z)
    refine hb p σ H1 g0 _ fun y' u H2 p2 e2 z2 r2 => ⟨.ref p, u, rfl, k p y' p2 (h.notL hp) _ H2 ?_ D q r⟩
    have hl2 : H2 p = some (.lst vs) := (e2 p _ hl).1 fun z => (h.l0 p (h.pot p z).1).2 (h.back hp)
    have g1 := h.owned hni hp (e1.trans e2) hl2 (Paired.monoR (g0.hdx e2) r1)
    exact g1.set (by show j < (Γ.s.set i _).length; rw [List.length_set]; exact hnj) r2)
/-- a, b = x, [..]: the second is to be changed -/
theorem gs_parVO (i j : Nat) {nm mm : Str} {px py pt pt2 : Pos} {kt k2 : Nat} {a b : Expr} {x : α} {ys : List τ} (hc : X.calm = true) (hN : X.N.Nodup) (ha : GE X a Γ R (Is x)) (hb : GF X b Γ T (Is ys))
    (k : ∀ p, p ∉ Γ.L → GS X rest { Γ with L := p :: Γ.L, s := (Γ.s.set i (.val R x)).set j (.own p T ys) } S P N)
    (hi : X.N[i]? = some nm := by rfl) (hj : X.N[j]? = some mm := by rfl) (hij : i ≠ j := by decide) (hni : i < Γ.s.length := by exact Nat.le_of_ble_eq_true rfl) (hnj : j < Γ.s.length := by exact Nat.le_of_ble_eq_true rfl)
    (hx : X.env.scope.names.lookup nm = some .local := by rfl) (hy : X.env.scope.names.lookup mm = some .local := by rfl)
    (hw : swappedStores [.Tuple [.Name nm px, .Name mm py] kt pt] (.Tuple [a, b] k2 pt2) X.env = pure (some [nm, mm]) := by rfl) (hs : swapsWithSole [.Tuple [.Name nm px, .Name mm py] kt pt] (.Tuple [a, b] k2 pt2) pos.line X.env = pure false := by rfl)
    (hs1 : starEach [a, b] X.env = (false, eval a X.env) :: starEach [b] X.env := by rfl) (hs2 : starEach [b] X.env = (false, eval b X.env) :: starEach [] X.env := by rfl) :
    GS X (.Assign [.Tuple [.Name nm px, .Name mm py] kt pt] (.Tuple [a, b] k2 pt2) pos :: rest) Γ S P N := gs_cons fun σ H h D q r =>
  s_ps (ps_par hc hN hi hj hij hx hy (pa_cons pe_s (pa_cons pe_s pa_nil hs2) hs1) hw hs) (ha σ H h _ fun x' v H1 p0 e0 z0 r0 => hb σ H1 (h.ev e0) _ fun xs' p vs H2 p1 hp e1 hl r1 => by
    cases (show _ = _ from p0)
    cases (show _ = _ from p1)
    have h1 := h.ev e0
    refine ⟨v, .ref p, rfl, k p (h1.notL hp) _ H2 ?_ D q r⟩
    have g1 := h1.set (i := i) hni r0
    exact g1.owned (by show j < (Γ.s.set i _).length; rw [List.length_set]; exact hnj) hp e1 hl r1)
/-- a target takes a value -/
theorem gs_asg {tg : Expr} {is : List Nat} {ap : α → List Slot → List Slot} {n : Nat} {Pe : α → Prop} (he : GE X e Γ R Pe) (hg : GG X tg R is ap n) (hn : Γ.s.length = n) (k : ∀ x, Pe x → GS X rest { Γ with s := ap x Γ.s } S P N)
    (hs : swapsWithSole [tg] e pos.line X.env = pure false := by rfl) (hw : swappedStores [tg] e X.env = pure none := by rfl)
    (h1 : (assignEach [tg] X.env).map (·.2) = [assign tg X.env] := by rfl) : GS X (.Assign [tg] e pos :: rest) Γ S P N := gs_cons fun σ H h D q r =>
  s_ps (ps_asg pe_s pg_s hs hw h1) (he σ H h _ fun x v H' p ev z rr => hg _ _ H' x v hn (h.ev ev) rr _ fun σ' g w l => k x p σ' H' g D q r)
/-- if: both ways come to one of the states Γs -/
theorem gs_if {ι : Type 1} (Γs : ι → Env) {c : Expr} {body orelse : List Stmt} {Pc : Bool → Prop} (hc : GT X c Γ Pc) (h1 : Pc true → GS X body Γ S P fun σ H => ∃ j, Has (Γs j) σ H) (h2 : Pc false → GS X orelse Γ S P fun σ H => ∃ j, Has (Γs j) σ H)
    (hr : ∀ j, GS X rest (Γs j) S P N) (hfr : ∀ j, (Γs j).P = Γ.P ∧ (Γs j).H0 = Γ.H0 ∧ (Γs j).L0 = Γ.L0) : GS X (.If c body orelse pos :: rest) Γ S P N := gs_cons fun σ H h D q r =>
  s_ps (ps_if pt_s pss_s pss_s) (hc σ H h _ fun b H1 p1 e1 => by
    have fin : ∀ σ' H', (∃ j, Has (Γs j) σ' H') → sB X rest D σ' H' := fun σ' H' ⟨j, g⟩ => hr j σ' H' g D q fun y v H2 py ev rr => by
      obtain ⟨a1, a2, a3⟩ := hfr j
      rw [a1, a2] at ev
      rw [a3] at rr
      exact r y v H2 py ev rr
    cases b with
    | true => exact h1 p1 σ H1 (h.ev e1) _ fin r
    | false => exact h2 p1 σ H1 (h.ev e1) _ fin r)
/-- if that hands back, then the rest -/
theorem gs_ifRet {c : Expr} {body : List Stmt} {Pc : Bool → Prop} (hc : GT X c Γ Pc) (h1 : Pc true → GS X body Γ S P fun _ _ => False) (h2 : Pc false → GS X rest Γ S P N) : GS X (.If c body [] pos :: rest) Γ S P N := gs_cons fun σ H h D q r =>
  s_ps (ps_if pt_s pss_s pss_nil) (hc σ H h _ fun b H1 p1 e1 => by
    cases b with
    | true => exact h1 p1 σ H1 (h.ev e1) _ (fun _ _ z => z.elim) r
    | false => exact h2 p1 σ H1 (h.ev e1) D q r)
/-- if .. else, both hand back -/
theorem gs_ifElse {c : Expr} {body orelse : List Stmt} {Pc : Bool → Prop} (hc : GT X c Γ Pc) (h1 : Pc true → GS X body Γ S P fun _ _ => False) (h2 : Pc false → GS X orelse Γ S P fun _ _ => False) : GS X (.If c body orelse pos :: rest) Γ S P N := gs_cons fun σ H h D q r =>
  s_ps (ps_if pt_s pss_s pss_s) (hc σ H h _ fun b H1 p1 e1 => by
    cases b with
    | true => exact h1 p1 σ H1 (h.ev e1) _ (fun _ _ z => z.elim) r
    | false => exact h2 p1 σ H1 (h.ev e1) _ (fun _ _ z => z.elim) r)
/-- if whose way is never gone -/
theorem gs_ifNever {c : Expr} {body : List Stmt} {Pc : Bool → Prop} (hc : GT X c Γ Pc) (h1 : ¬ Pc true) (h2 : GS X rest Γ S P N) : GS X (.If c body [] pos :: rest) Γ S P N :=
  gs_ifRet hc (fun p => absurd p h1) fun _ => h2
/-- x.append(e), x one's own -/
theorem gs_append (i : Nat) {nm : Str} {l : Addr} {xs : List α} {p1 apos cpos : Pos} {Pe : α → Prop} (he : GE X e Γ R Pe) (k : ∀ y, Pe y → GS X rest { Γ with s := Γ.s.set i (.own l R (xs ++ [y])) } S P N) (hz : xs.length < 100000) (hs : Γ.s[i]? = some (.own l R xs) := by rfl) (hN : X.N[i]? = some nm := by rfl)
    (hv : Vis X.env.scope nm := by first | exact Or.inl rfl | exact Or.inr (Or.inl rfl) | exact Or.inr (Or.inr rfl)) (hdb : (nm == ("__debug__" : Str)) = false := by decide)
    (hcd : (nm == ("__classdict__" : Str)) = false := by decide) (hbase : attributeBase (.Name nm p1) "append" X.env (eval (.Name nm p1) X.env) = eval (.Name nm p1) X.env := by rfl)
    (hfew : ((backTo cpos (starEach [e] X.env)).all (fun x => !x.1) && (backToKw cpos (keywordEach [] X.env)).all (fun x => x.1.isSome) && decide ([e].length + ([] : List Keyword).length + (if ([] : List Keyword).isEmpty then 0 else 1) < 30)) = true := by rfl)
    (hline : (apos.endLine == cpos.line) = true := by rfl) (hst : starEach [e] X.env = (false, eval e X.env) :: starEach [] X.env := by rfl)
    (hsw : swapsWith (.Call (.Attribute (.Name nm p1) "append" apos) [e] [] cpos) none pos.line X.env = pure false := by rfl) :
    GS X (.Expr (.Call (.Attribute (.Name nm p1) "append" apos) [e] [] cpos) pos :: rest) Γ S P N := gs_cons fun σ H h D q r =>
  s_ps (ps_expr (pe_bm PySem.F.plainAttrs_list PySem.F.slot_list_append PySem.F.type_list_append mt_append (pe_var hN hv hdb hcd) (pa_cons pe_s pa_nil hst) hbase hfew hline hst) hsw) (by
    obtain ⟨e1, m, vs, e3, e4⟩ := h.ok i _ hs
    refine ⟨_, e1, .inl ⟨rfl, vs, SqL.of e3⟩, he σ H h _ fun y v H1 p1 ev z r1 => ?_⟩
    have h1 := h.ev ev
    obtain ⟨_, _, vs', e3', e4'⟩ := h1.ok i _ hs
    have hl := Paired.length e4'
    exact ⟨l, vs', v, rfl, rfl, e3', by rw [← hl]; exact Nat.lt_of_lt_of_le hz (by decide), k y p1 σ _ (h1.write hs (Paired.snoc e4' r1)) D q r⟩)
/-- x.extend(e), x one's own -/
theorem gs_extend (i : Nat) {nm : Str} {l : Addr} {xs : List α} {p1 apos cpos : Pos} {Pe : List α → Prop} (he : GE X e Γ (rL R) Pe) (k : ∀ ys, Pe ys → GS X rest { Γ with s := Γ.s.set i (.own l R (xs ++ ys)) } S P N) (hz : ∀ ys, Pe ys → xs.length + ys.length < 100000) (hs : Γ.s[i]? = some (.own l R xs) := by rfl) (hN : X.N[i]? = some nm := by rfl)
    (hv : Vis X.env.scope nm := by first | exact Or.inl rfl | exact Or.inr (Or.inl rfl) | exact Or.inr (Or.inr rfl)) (hdb : (nm == ("__debug__" : Str)) = false := by decide)
    (hcd : (nm == ("__classdict__" : Str)) = false := by decide) (hbase : attributeBase (.Name nm p1) "extend" X.env (eval (.Name nm p1) X.env) = eval (.Name nm p1) X.env := by rfl)
    (hfew : ((backTo cpos (starEach [e] X.env)).all (fun x => !x.1) && (backToKw cpos (keywordEach [] X.env)).all (fun x => x.1.isSome) && decide ([e].length + ([] : List Keyword).length + (if ([] : List Keyword).isEmpty then 0 else 1) < 30)) = true := by rfl)
    (hline : (apos.endLine == cpos.line) = true := by rfl) (hst : starEach [e] X.env = (false, eval e X.env) :: starEach [] X.env := by rfl)
    (hsw : swapsWith (.Call (.Attribute (.Name nm p1) "extend" apos) [e] [] cpos) none pos.line X.env = pure false := by rfl) :
    GS X (.Expr (.Call (.Attribute (.Name nm p1) "extend" apos) [e] [] cpos) pos :: rest) Γ S P N := gs_cons fun σ H h D q r =>
  s_ps (ps_expr (pe_bm PySem.F.plainAttrs_list PySem.F.slot_list_extend PySem.F.type_list_extend mt_extend (pe_var hN hv hdb hcd) (pa_cons pe_s pa_nil hst) hbase hfew hline hst) hsw) (by
    obtain ⟨e1, m, vs, e3, e4⟩ := h.ok i _ hs
    refine ⟨_, e1, .inl ⟨rfl, vs, SqL.of e3⟩, he σ H h _ fun ys v H1 p1 ev z r1 => ?_⟩
    have h1 := h.ev ev
    obtain ⟨_, _, vs', e3', e4'⟩ := h1.ok i _ hs
    obtain ⟨b, us, rfl, hb, hu⟩ := r1
    have hl := Paired.length e4'
    have hl2 := Paired.length hu
    exact ⟨l, b, vs', us, rfl, rfl, e3', (hd_some hb).2, by rw [← hl, ← hl2]; exact Nat.le_trans (Nat.le_of_lt (hz ys p1)) (by decide), k ys p1 σ _ (h1.write hs (Paired.app e4' hu)) D q r⟩)
/-- x[j] = e, x one's own -/
theorem gs_setItem (i : Nat) {nm : Str} {l : Addr} {xs : List α} {p1 p2 : Pos} {ix : Expr} {y : α} {z : Int} {j : Nat} (he : GE X e Γ R (Is y)) (hx : GE X ix Γ rI (Is z)) (hz : z = (j : Int)) (hj : j < xs.length) (k : GS X rest { Γ with s := Γ.s.set i (.own l R (xs.set j y)) } S P N) (hs : Γ.s[i]? = some (.own l R xs) := by rfl) (hN : X.N[i]? = some nm := by rfl)
    (hv : Vis X.env.scope nm := by first | exact Or.inl rfl | exact Or.inr (Or.inl rfl) | exact Or.inr (Or.inr rfl)) (hdb : (nm == ("__debug__" : Str)) = false := by decide)
    (hcd : (nm == ("__classdict__" : Str)) = false := by decide)
    (ha : ∀ v, assign (.Subscript (.Name nm p1) ix p2) X.env v = (do
      let ov ← holding [v] (eval (.Name nm p1) X.env)
      let iv ← holding [v, ov] (eval ix X.env)
      standAt p2
      holding [v, ov, iv] (setItem ov iv v)
      release [v, ov, iv] []) := by intro _; rfl)
    (hs1 : swapsWithSole [.Subscript (.Name nm p1) ix p2] e pos.line X.env = pure false := by rfl) (hw : swappedStores [.Subscript (.Name nm p1) ix p2] e X.env = pure none := by rfl)
    (h1 : (assignEach [.Subscript (.Name nm p1) ix p2] X.env).map (·.2) = [assign (.Subscript (.Name nm p1) ix p2) X.env] := by rfl) :
    GS X (.Assign [.Subscript (.Name nm p1) ix p2] e pos :: rest) Γ S P N := gs_cons fun σ H h D q r =>
  s_ps (ps_asg pe_s (pg_sub (pe_var hN hv hdb hcd) pe_s set_list ha) hs1 hw h1) (he σ H h _ fun y' v H1 p1 ev1 z1 r1 => by
    have g1 := h.ev ev1
    obtain ⟨e1, m, _⟩ := g1.ok i _ hs
    refine ⟨_, e1, hx σ H1 g1 _ fun z' w H2 p2 ev2 z2 r2 => ?_⟩
    cases (show _ = _ from p1); cases (show _ = _ from p2); cases (show _ = _ from r2)
    have g2 := g1.ev ev2
    obtain ⟨_, _, vs, e3, e4⟩ := g2.ok i _ hs
    have hl := Paired.length e4
    subst hz
    refine ⟨l, vs, (j : Int), j, rfl, rfl, e3, ?_, k σ _ (g2.write hs (Paired.setN (R.mono (g1.hdx ev2) r1) j e4)) D q r⟩
    unfold ixN
    rw [if_pos (by omega), if_pos (by omega)]
    simp)

/-- for: G tells the slots at the start of the turn -/
theorem gs_forP {tg it : Expr} {body : List Stmt} {is : List Nat} {ap : τ → List Slot → List Slot} {n : Nat} {PX : List τ → Prop} (G : List τ → Nat → List Slot → Prop) (hc : X.calm = true) (hx : PassesOwn (model X.prog X.w) X.A X.env X.xe) (hi : GI X tg it Γ T PX) (hg : GG X tg T is ap n)
    (h0 : ∀ xs, PX xs → ∃ ss, G xs 0 ss ∧ Fewer ss Γ.s) (hn : ∀ xs i ss, PX xs → G xs i ss → ss.length = n)
    (hs : ∀ gs xs i x ss, PX xs → xs[i]? = some x → G xs i ss → GS X body { Γ with s := ap x ss, g := gs ++ Γ.g } S P fun σ H => ∃ ss', G xs (i + 1) ss' ∧ Has { Γ with s := ss', g := gs ++ Γ.g } σ H)
    (hd : ∀ xs ss, PX xs → G xs xs.length ss → GS X rest { Γ with s := ss } S P N) (hfs : ∀ x, foldedSetIterable it X.env x = pure x := by intro _; rfl) : GS X (.For tg it body [] pos :: rest) Γ S P N := gs_cons fun σ H h D q r =>
  s_ps (ps_for hx hc pi_s pg_s pss_s hfs) (hi σ H h _ fun J H1 gs xs hP e1 hgs hz hw => by
    have h1 := h.ev e1
    obtain ⟨ss0, G0, f0⟩ := h0 xs hP
    refine ⟨fun i m σ' H' => m = xs.length - i ∧ i ≤ xs.length ∧ ∃ ss, G xs i ss ∧ Has { Γ with s := ss, g := gs ++ Γ.g } σ' H', ⟨_, rfl, Nat.zero_le _, ss0, G0, (h1.ghost hgs).less f0⟩, ?_⟩
    rintro i m σ' H' ⟨rfl, hle, ss, Gi, hh⟩
    obtain ⟨w1, w2, w3⟩ := hw Γ.L i H' hh.al fun g mg => hh.gh g (List.mem_append_left _ mg)
    by_cases hlt : i < xs.length
    · refine .inr ⟨w1 hlt, fun σ2 H2 => ∃ ss', G xs (i + 1) ss' ∧ Has { Γ with s := ss', g := gs ++ Γ.g } σ2 H2, fun σ2 H2 ⟨ss', G', g'⟩ => ⟨_, by omega, rfl, hlt, ss', G', g'⟩, fun v H3 y3 => ?_⟩
      obtain ⟨ex3, r3⟩ := w3 xs[i] v H3 (List.getElem?_eq_getElem hlt) y3
      refine hg _ σ' H3 xs[i] v (hn xs i ss hP Gi) (hh.exx ex3) r3 _ fun σ4 g4 _ _ => ?_
      exact hs gs xs i xs[i] ss hP (List.getElem?_eq_getElem hlt) Gi σ4 H3 g4 _ (fun σ5 H5 n5 => n5) fun y v H5 py ev rr => r y v H5 py ev rr
    · have hi' : i = xs.length := by omega
      subst hi'
      exact .inl ⟨w2 (Nat.le_refl _), hd xs ss hP Gi σ' H' (Has.unghost (Γ := { Γ with s := ss }) hh) D q r⟩)
/-- the same, the slots as a function of the turn -/
theorem gs_for {tg it : Expr} {body : List Stmt} {is : List Nat} {ap : τ → List Slot → List Slot} {n : Nat} {xs : List τ} (G : Nat → List Slot) (hc : X.calm = true) (hx : PassesOwn (model X.prog X.w) X.A X.env X.xe) (hi : GI X tg it Γ T (Is xs)) (hg : GG X tg T is ap n)
    (h0 : Fewer (G 0) Γ.s) (hn : ∀ i, (G i).length = n)
    (hs : ∀ gs i x, xs[i]? = some x → GS X body { Γ with s := ap x (G i), g := gs ++ Γ.g } S P fun σ H => Has { Γ with s := G (i + 1), g := gs ++ Γ.g } σ H)
    (hd : GS X rest { Γ with s := G xs.length } S P N) (hfs : ∀ x, foldedSetIterable it X.env x = pure x := by intro _; rfl) : GS X (.For tg it body [] pos :: rest) Γ S P N :=
  gs_forP (fun _ i ss => ss = G i) hc hx hi hg (fun ys _ => ⟨_, rfl, h0⟩) (fun ys i ss _ e => by rw [e]; exact hn i) (fun gs ys i x ss py hxi e => by
    cases (show _ = _ from py)
    subst e
    exact (hs gs i x hxi).more fun σ H hh => ⟨_, rfl, hh⟩) (fun ys ss py e => by cases (show _ = _ from py); subst e; exact hd) hfs
/-- while: G tells the slots by a measure -/
theorem gs_while {c : Expr} {body : List Stmt} (G : Nat → List Slot → Prop) (hx : PassesOwn (model X.prog X.w) X.A X.env X.xe) (m0 : Nat) {ss0 : List Slot} (h0 : G m0 ss0) (f0 : Fewer ss0 Γ.s)
    (hs : ∀ m ss, G m ss → ∃ Pc : Bool → Prop, GT X c { Γ with s := ss } Pc ∧ (Pc true → GS X body { Γ with s := ss } S P fun σ H => ∃ m' ss', m' < m ∧ G m' ss' ∧ Has { Γ with s := ss' } σ H) ∧ (Pc false → GS X rest { Γ with s := ss } S P N)) :
    GS X (.While c body [] pos :: rest) Γ S P N := gs_cons fun σ H h D q r =>
  s_ps (ps_while hx pt_s pss_s) (by
    refine ⟨fun m σ' H' => ∃ ss, G m ss ∧ Has { Γ with s := ss } σ' H', ⟨m0, ss0, h0, h.less f0⟩, ?_⟩
    rintro m σ' H' ⟨ss, Gm, hh⟩
    obtain ⟨Pc, hc, h1, h2⟩ := hs m ss Gm
    refine hc σ' H' hh _ fun b H1 p1 e1 => ?_
    cases b with
    | true =>
      rw [if_pos rfl]
      exact ⟨fun σ2 H2 => ∃ m' ss', m' < m ∧ G m' ss' ∧ Has { Γ with s := ss' } σ2 H2, fun σ2 H2 ⟨m', ss', lt, g', hh'⟩ => ⟨m', lt, ss', g', hh'⟩, h1 p1 σ' H1 (hh.ev e1) _ (fun _ _ n => n) r⟩
    | false =>
      rw [if_neg Bool.false_ne_true]
      exact h2 p1 σ' H1 (hh.ev e1) D q r)
end
end TL

namespace TL
open PySem PySem.Spec L2
section
variable {X : Cx} {Γ : Env} {α β τ : Type} {R : Rp α} {S : Rp β} {T : Rp τ} {e a b : Expr} {es : List Expr} {pos p : Pos}
theorem ge_nat {n : Nat} (h : GE X e Γ rNat (Is n)) : GE X e Γ rI (Is (n : Int)) := h.re fun x v H px r => ⟨_, rfl, by cases (show _ = _ from px); exact r⟩
theorem ge_ofNat {i : Int} {n : Nat} (h : GE X e Γ rI (Is i)) (k : i = (n : Int)) : GE X e Γ rNat (Is n) := h.re fun x v H px r => ⟨_, rfl, by cases (show _ = _ from px); rw [k] at r; exact r⟩
/-- xs[j] -/
theorem ge_ix {xs : List α} {j : Int} {k : Nat} {x : α} (ha : GE X a Γ (rL R) (Is xs)) (hb : GE X b Γ rI (Is j)) (ej : j = (k : Int)) (hx : xs[k]? = some x) (hs : PlainIx b := by exact fun _ _ => rfl) : GE X (.Subscript a b pos) Γ R (Is x) :=
  ge_of (pe_ix ix_list pe_s pe_s hs) fun σ H h Q q => ha σ H h _ fun x' v H1 p1 e1 z1 r1 => hb σ H1 (h.ev e1) _ fun y' u H2 p2 e2 z2 r2 => by
    cases (show _ = _ from p1); cases (show _ = _ from p2); cases (show _ = _ from r2)
    have r1 := (rL R).mono ((h.ev e1).hdx e2) r1
    obtain ⟨l, vs, rfl, hl, hv⟩ := r1
    obtain ⟨w, hw, rw'⟩ := Paired.get' hv hx
    exact ⟨l, vs, _, w, rfl, rfl, SqL.of (hd_some hl).2, by rw [ej]; exact atI_nat hw, q x w H2 rfl (e1.trans e2) rw'⟩
theorem ge_ixT {xs : List α} {j : Int} {k : Nat} {x : α} (ha : GE X a Γ (rTs R) (Is xs)) (hb : GE X b Γ rI (Is j)) (ej : j = (k : Int)) (hx : xs[k]? = some x) (hs : PlainIx b := by exact fun _ _ => rfl) : GE X (.Subscript a b pos) Γ R (Is x) :=
  ge_of (pe_ix ix_tup pe_s pe_s hs) fun σ H h Q q => ha σ H h _ fun x' v H1 p1 e1 z1 r1 => hb σ H1 (h.ev e1) _ fun y' u H2 p2 e2 z2 r2 => by
    cases (show _ = _ from p1); cases (show _ = _ from p2); cases (show _ = _ from r2)
    have r1 := (rTs R).mono ((h.ev e1).hdx e2) r1
    obtain ⟨l, vs, rfl, hl, hv⟩ := r1
    obtain ⟨w, hw, rw'⟩ := Paired.get' hv hx
    exact ⟨l, vs, _, w, rfl, rfl, SqT.of (hd_some hl).2, by rw [ej]; exact atI_nat hw, q x w H2 rfl (e1.trans e2) rw'⟩
theorem ge_ix0 {x : α × β} {k : Nat} {p2 : Pos} (ha : GE X a Γ (rP R S) (Is x)) (hs : PlainIx (.Constant (.int 0) k p2) := by exact fun _ _ => rfl) : GE X (.Subscript a (.Constant (.int 0) k p2) pos) Γ R (Is x.1) :=
  ge_of (pe_ix ix_tup pe_s pe_int hs) fun σ H h Q q => ha σ H h _ fun x' v H1 p1 e1 z1 r1 => by
    cases (show _ = _ from p1)
    obtain ⟨l, u, w, rfl, hl, h1, h2⟩ := r1
    exact ⟨l, [u, w], 0, u, rfl, rfl, SqT.of (hd_some hl).2, rfl, q _ u H1 rfl e1 h1⟩
theorem ge_ix1 {x : α × β} {k : Nat} {p2 : Pos} (ha : GE X a Γ (rP R S) (Is x)) (hs : PlainIx (.Constant (.int 1) k p2) := by exact fun _ _ => rfl) : GE X (.Subscript a (.Constant (.int 1) k p2) pos) Γ S (Is x.2) :=
  ge_of (pe_ix ix_tup pe_s pe_int hs) fun σ H h Q q => ha σ H h _ fun x' v H1 p1 e1 z1 r1 => by
    cases (show _ = _ from p1)
    obtain ⟨l, u, w, rfl, hl, h1, h2⟩ := r1
    exact ⟨l, [u, w], 1, w, rfl, rfl, SqT.of (hd_some hl).2, rfl, q _ w H1 rfl e1 h2⟩

def GO (X : Cx) (e : Option Expr) (Γ : Env) (o : Option Int) : Prop := ∃ t : TO, PO X e t ∧ ∀ σ H, Has Γ σ H → ∀ Q : Option Int → Hp → Prop, (∀ H', Ev Γ.P H H' → Q o H') → t σ H Q
theorem go_none : GO X none Γ none := ⟨_, po_none, fun σ H h Q q => q H h.evr⟩
theorem go_some {i : Int} (h : GE X e Γ rI (Is i)) : GO X (some e) Γ (some i) := ⟨_, po_some pe_s, fun σ H hh Q q => h σ H hh _ fun x v H1 p1 e1 z1 r1 => by
  cases (show _ = _ from p1); cases (show _ = _ from r1)
  exact ⟨_, rfl, q H1 e1⟩⟩
def cut {α : Type} (xs : List α) (lo hi : Option Int) : List α := (xs.drop (HT.sIx xs.length 0 lo)).take (HT.sIx xs.length xs.length hi - HT.sIx xs.length 0 lo)
theorem Has.fresh {σ : L2.St} {H H1 : Hp} (h : Has Γ σ H) (e : Ev Γ.P H H1) {p : Addr} (hp : H1 p = none) : H p = none := by
  cases k : H p with
  | none => rfl
  | some o => exact absurd hp (e.some (by rw [k]; intro z; cases z))
theorem gf_slice {lo hi : Option Expr} {i j : Option Int} {p2 : Pos} {xs : List α} (ha : GE X a Γ (rL R) (Is xs)) (h1 : GO X lo Γ i) (h2 : GO X hi Γ j) : GF X (.Subscript a (.Slice lo hi none p2) pos) Γ R (Is (cut xs i j)) := fun σ H h Q q => by
  obtain ⟨t1, k1, g1⟩ := h1
  obtain ⟨t2, k2, g2⟩ := h2
  refine s_pe (pe_slice sl_list pe_s k1 k2) (ha σ H h _ fun x' v H1 p1 e1 z1 r1 => g1 σ H1 (h.ev e1) _ fun H2 e2 => g2 σ H2 (h.ev (e1.trans e2)) _ fun H3 e3 => ?_)
  cases (show _ = _ from p1)
  have h1 := h.ev e1
  have h3 := h1.ev (e2.trans e3)
  have r1 := (rL R).mono (h1.hdx (e2.trans e3)) r1
  obtain ⟨l, vs, rfl, hl, hv⟩ := r1
  have hlen := Paired.length hv
  refine ⟨l, vs, rfl, SqL.of (hd_some hl).2, fun p hp => q _ p _ _ rfl (h.fresh (e1.trans (e2.trans e3)) hp) ((e1.trans (e2.trans e3)).trans (h3.eve (Ex.new hp))) upd_same ?_⟩
  rw [hd_upd List.mem_cons_self]
  unfold cut cutV
  rw [hlen]
  exact Paired.monoR (hd_hide hp) (Paired.take _ (Paired.drop _ hv))
theorem gf_cat {xs ys : List α} (ha : GE X a Γ (rL R) (Is xs)) (hb : GE X b Γ (rL R) (Is ys)) (hz : xs.length + ys.length ≤ 100000) : GF X (.BinOp a .Add b pos) Γ R (Is (xs ++ ys)) := fun σ H h Q q =>
  s_pe (pe_op op_cat pe_s pe_s) (ha σ H h _ fun x' v H1 p1 e1 z1 r1 => hb σ H1 (h.ev e1) _ fun y' u H2 p2 e2 z2 r2 => by
    cases (show _ = _ from p1); cases (show _ = _ from p2)
    have h1 := h.ev e1
    have h2 := h1.ev e2
    obtain ⟨l, vs, rfl, hl, hv⟩ := (rL R).mono (h1.hdx e2) r1
    obtain ⟨m, us, rfl, hm, hu⟩ := r2
    have l1 := Paired.length hv
    have l2 := Paired.length hu
    refine ⟨l, m, vs, us, rfl, rfl, (hd_some hl).2, (hd_some hm).2, by rw [← l1, ← l2]; exact Nat.le_trans hz (by decide), fun p hp => q _ p _ _ rfl (h.fresh (e1.trans e2) hp) ((e1.trans e2).trans (h2.eve (Ex.new hp))) upd_same ?_⟩
    rw [hd_upd List.mem_cons_self]
    exact Paired.monoR (hd_hide hp) (Paired.app hv hu))
theorem Paired.rep {α β : Type} {F : α → β → Prop} {xs : List α} {us : List β} (h : Paired F xs us) : ∀ k : Nat, Paired F (List.replicate k xs).flatten (List.replicate k us).flatten
  | 0 => .nil
  | k + 1 => by
    rw [List.replicate_succ, List.replicate_succ, List.flatten_cons, List.flatten_cons]
    exact Paired.app h (Paired.rep h k)
/-- [x] * n -/
theorem gf_rep {xs : List α} {n : Nat} (ha : GE X a Γ (rL R) (Is xs)) (hb : GE X b Γ rI (Is (n : Int))) (hz : xs.length * n ≤ 100000) (hn : n ≤ 100000) : GF X (.BinOp a .Mult b pos) Γ R (Is (List.replicate n xs).flatten) := fun σ H h Q q =>
  s_pe (pe_op op_rep pe_s pe_s) (ha σ H h _ fun x' v H1 p1 e1 z1 r1 => hb σ H1 (h.ev e1) _ fun y' u H2 p2 e2 z2 r2 => by
    cases (show _ = _ from p1); cases (show _ = _ from p2); cases (show _ = _ from r2)
    have h1 := h.ev e1
    have h2 := h1.ev e2
    obtain ⟨l, vs, rfl, hl, hv⟩ := (rL R).mono (h1.hdx e2) r1
    have l1 := Paired.length hv
    refine ⟨l, (n : Int), vs, rfl, rfl, (hd_some hl).2, by omega, by omega, by rw [Int.toNat_natCast, ← l1]; exact Nat.le_trans hz (by decide), fun p hp => q _ p _ _ rfl (h.fresh (e1.trans e2) hp) ((e1.trans e2).trans (h2.eve (Ex.new hp))) upd_same ?_⟩
    rw [hd_upd List.mem_cons_self, Int.toNat_natCast]
    exact Paired.monoR (hd_hide hp) (Paired.rep hv n))

theorem ga1 {x : α} (h : GE X e Γ R (Is x)) (hs : starEach [e] X.env = (false, eval e X.env) :: starEach [] X.env := by rfl) : GA X [e] Γ [⟨R, x⟩] := ga_cons h ga_nil hs
theorem AllR.one {H : Hp} {b : Bd} {vs : List V} (h : AllR H [b] vs) : ∃ v, vs = [v] ∧ b.R.r H b.x v := by
  obtain ⟨v, ws, rfl, r, he⟩ := h
  cases (show _ = _ from he)
  exact ⟨v, rfl, r⟩
theorem AllR.two {H : Hp} {b c : Bd} {vs : List V} (h : AllR H [b, c] vs) : ∃ v w, vs = [v, w] ∧ b.R.r H b.x v ∧ c.R.r H c.x w := by
  obtain ⟨v, ws, rfl, r, he⟩ := h
  obtain ⟨w, rfl, r'⟩ := AllR.one he
  exact ⟨v, w, rfl, r, r'⟩
theorem ge_len {xs : List α} (hm : X.mg "len" = none) (h : GE X e Γ (rL R) (Is xs)) (hg : Gl X "len" := by rfl) (hs : starEach [e] X.env = (false, eval e X.env) :: starEach [] X.env := by rfl) :
    GE X (.Call (.Name "len" p) [e] [] pos) Γ rI (Is (xs.length : Int)) :=
  ge_callB call_len_seq hm PySem.boot_len (ga1 h hs) (fun σ H vs hh z r Q q => by
    obtain ⟨v, rfl, l, us, rfl, hl, hv⟩ := r.one
    have hl2 : xs.length = us.length := Paired.length hv
    refine ⟨l, us, rfl, .inl (SqL.of (hd_some hl).2), ?_⟩
    rw [← hl2]
    exact q _ _ H rfl hh.evr rfl) hg (he := hs) (hpl := by rfl)
theorem ge_lenLT {xs : List α} (hm : X.mg "len" = none) (h : GE X e Γ (rLT R) (Is xs)) (hg : Gl X "len" := by rfl) (hs : starEach [e] X.env = (false, eval e X.env) :: starEach [] X.env := by rfl) :
    GE X (.Call (.Name "len" p) [e] [] pos) Γ rI (Is (xs.length : Int)) :=
  ge_callB call_len_seq hm PySem.boot_len (ga1 h hs) (fun σ H vs hh z r Q q => by
    obtain ⟨v, rfl, r'⟩ := r.one
    have r2 : (rL R).r (hd Γ.L _) xs v ∨ (rTs R).r (hd Γ.L _) xs v := r'
    rcases r2 with ⟨l, us, rfl, hl, hv⟩ | ⟨l, us, rfl, hl, hv⟩
    · have hl2 : xs.length = us.length := Paired.length hv
      refine ⟨l, us, rfl, .inl (SqL.of (hd_some hl).2), ?_⟩
      rw [← hl2]
      exact q _ _ H rfl hh.evr rfl
    · have hl2 : xs.length = us.length := Paired.length hv
      refine ⟨l, us, rfl, .inr (SqT.of (hd_some hl).2), ?_⟩
      rw [← hl2]
      exact q _ _ H rfl hh.evr rfl) hg (he := hs) (hpl := by rfl)
/-- list(xs) -/
theorem gf_list {xs : List α} (hm : X.mg "list" = none) (h : GE X e Γ (rLT R) (Is xs)) (hg : Gl X "list" := by rfl) (hs : starEach [e] X.env = (false, eval e X.env) :: starEach [] X.env := by rfl) :
    GF X (.Call (.Name "list" p) [e] [] pos) Γ R (Is xs) := fun σ H hh Q q =>
  s_pe (pe_callTy call_list_of hg hm (by decide +kernel) pa_s (he := hs) (hpl := by rfl)) (ga1 h hs σ H hh _ fun vs H1 e1 z1 r => by
    have h1 := hh.ev e1
    obtain ⟨v, rfl, r'⟩ := r.one
    have r2 : (rL R).r (hd Γ.L _) xs v ∨ (rTs R).r (hd Γ.L _) xs v := r'
    rcases r2 with ⟨l, us, rfl, hl, hv⟩ | ⟨l, us, rfl, hl, hv⟩
    · refine ⟨l, us, rfl, .inl (SqL.of (hd_some hl).2), fun p hp => q xs p us _ rfl (hh.fresh e1 hp) (e1.trans (h1.eve (Ex.new hp))) upd_same ?_⟩
      rw [hd_upd List.mem_cons_self]
      exact Paired.monoR (hd_hide hp) hv
    · refine ⟨l, us, rfl, .inr (SqT.of (hd_some hl).2), fun p hp => q xs p us _ rfl (hh.fresh e1 hp) (e1.trans (h1.eve (Ex.new hp))) upd_same ?_⟩
      rw [hd_upd List.mem_cons_self]
      exact Paired.monoR (hd_hide hp) hv)
theorem ge_LT {P : List α → Prop} (h : GE X e Γ (rL R) P) : GE X e Γ (rLT R) P := h.re fun x v H px r => ⟨x, px, .inl r⟩
theorem ge_TL {P : List α → Prop} (h : GE X e Γ (rTs R) P) : GE X e Γ (rLT R) P := h.re fun x v H px r => ⟨x, px, .inr r⟩
/-- tuple(xs), xs a list -/
theorem ge_tuple {xs : List α} (hm : X.mg "tuple" = none) (h : GE X e Γ (rL R) (Is xs)) (hg : Gl X "tuple" := by rfl) (hs : starEach [e] X.env = (false, eval e X.env) :: starEach [] X.env := by rfl) :
    GE X (.Call (.Name "tuple" p) [e] [] pos) Γ (rTs R) (Is xs) :=
  ge_callTy call_tuple_of hm (by decide +kernel) (ga1 h hs) (fun σ H vs hh z r Q q => by
    obtain ⟨v, rfl, l, us, rfl, hl, hv⟩ := r.one
    refine ⟨l, us, rfl, .inl ⟨SqL.of (hd_some hl).2, fun p hp => q xs _ _ rfl (hh.eve (Ex.new hp)) ⟨p, us, rfl, hd_new hh.al hp, Paired.monoR (Ex.hd (Ex.new hp)) hv⟩⟩⟩) hg (he := hs) (hpl := by rfl)
theorem ge_sum {xs : List Int} (hc : X.calm = true) (hm : X.mg "sum" = none) (h : GE X e Γ (rL rI) (Is xs)) (hg : Gl X "sum" := by rfl) (hs : starEach [e] X.env = (false, eval e X.env) :: starEach [] X.env := by rfl) :
    GE X (.Call (.Name "sum" p) [e] [] pos) Γ rI (Is xs.sum) :=
  ge_callB (cr_sum hc) hm (by decide +kernel) (ga1 h hs) (fun σ H vs hh z r Q q => by
    obtain ⟨v, rfl, l, us, rfl, hl, hv⟩ := r.one
    rw [Paired.ints hv] at hl
    exact ⟨l, xs, rfl, SqL.of (hd_some hl).2, q _ _ H rfl hh.evr rfl⟩) hg (he := hs) (hpl := by rfl)
theorem ge_all {xs : List Bool} (hc : X.calm = true) (hm : X.mg "all" = none) (h : GE X e Γ (rL rB) (Is xs)) (hg : Gl X "all" := by rfl) (hs : starEach [e] X.env = (false, eval e X.env) :: starEach [] X.env := by rfl) :
    GE X (.Call (.Name "all" p) [e] [] pos) Γ rB (Is (xs.all id)) :=
  ge_callB (cr_all hc) hm (by decide +kernel) (ga1 h hs) (fun σ H vs hh z r Q q => by
    obtain ⟨v, rfl, l, us, rfl, hl, hv⟩ := r.one
    rw [Paired.bls hv] at hl
    exact ⟨l, xs, rfl, SqL.of (hd_some hl).2, q _ _ H rfl hh.evr rfl⟩) hg (he := hs) (hpl := by rfl)
theorem ge_any {xs : List Bool} (hc : X.calm = true) (hm : X.mg "any" = none) (h : GE X e Γ (rL rB) (Is xs)) (hg : Gl X "any" := by rfl) (hs : starEach [e] X.env = (false, eval e X.env) :: starEach [] X.env := by rfl) :
    GE X (.Call (.Name "any" p) [e] [] pos) Γ rB (Is (xs.any id)) :=
  ge_callB (cr_any hc) hm (by decide +kernel) (ga1 h hs) (fun σ H vs hh z r Q q => by
    obtain ⟨v, rfl, l, us, rfl, hl, hv⟩ := r.one
    rw [Paired.bls hv] at hl
    exact ⟨l, xs, rfl, SqL.of (hd_some hl).2, q _ _ H rfl hh.evr rfl⟩) hg (he := hs) (hpl := by rfl)
/-- any(row), a row of ints -/
def rAnyI (K : PySem.W.Frag) : List V → Hp → VK → Prop := fun vs H Q => ∃ (a : Addr) (ns : List Int), vs = [V.ref a] ∧ SqL K H a (ns.map V.int) ∧ Q (.bl (ns.any fun n => n != 0)) H
theorem truth_ints {prog : Program} {w : World} {A : Around} {ns : List Int} {its : List Value} (e : PyProof.Rows.IntsAre its ns) :
    TruthOf prog w A (fun i v => its.toArray[i]? = some v) (fun i => ns.getD i 0 != 0) := fun i v s Q E hv hq => by
  have hv' : its[i]? = some v := by simpa using hv
  have rv := vals_of_ints e
  obtain ⟨hl, he⟩ := List.getElem?_eq_some_iff.mp hv'
  have hl2 : i < ns.length := by have := rv.length; simp at this; omega
  obtain ⟨u, hu, ru⟩ := rv.get (i := i) (x := .int ns[i]) (by rw [List.getElem?_map, List.getElem?_eq_getElem hl2]; rfl)
  rw [hv'] at hu
  cases hu
  obtain ⟨t, rfl⟩ := ru
  have hg : ns.getD i 0 = ns[i] := by rw [List.getD_eq_getElem?_getD, List.getElem?_eq_getElem hl2]; rfl
  have hq' : Q (ns.getD i 0 != 0) s := hq
  rw [hg] at hq'
  exact PyProof.Rows.truthy_int hq'
theorem any_rangeI : ∀ ns : List Int, (List.range ns.length).any (fun i => ns.getD i 0 != 0) = ns.any fun n => n != 0
  | [] => rfl
  | b :: bs => by
    rw [List.length_cons, List.range_succ_eq_map, List.any_cons, List.any_map, List.any_cons, ← any_rangeI bs]
    all_goals rfl
theorem cr_anyI (hc : X.calm = true) : CallR X (.builtin "any") (rAnyI X.K) := by
  intro pins s σ H vs us Q I r h
  obtain ⟨a, ns, rfl, hs, q⟩ := h
  obtain ⟨its, rv, hl, _⟩ := I.list hs
  rw [Vals.ref1 r]
  have hi := rv.ints
  refine call_any_walk (iter_any hl.isList fun s₂ e2 st hne => ?_)
  subst e2
  refine ⟨_, _, _, _, _, _, _, rfl, PySem.Walks.list (A := X.A.in1) (I.ok.hd hc) _ a hne its.toArray, st, truth_ints hi, fun h' tk hk => ?_⟩
  refine ⟨.bl _, H, I.kept fun b o eo => hk b o (fun hmem => ?_) (Heap.get?_push_of_some _ eo), ?_, q⟩
  · rcases List.mem_cons.mp hmem with e1 | hmem
    · exact absurd (e1 ▸ Heap.lt_size eo) (Nat.lt_irrefl _)
    · cases hmem
  · show Value.bool _ = Value.bool _
    have l := rv.length
    rw [List.length_map] at l
    rw [← any_rangeI, List.size_toArray, l]
theorem ge_anyI {xs : List Int} (hc : X.calm = true) (hm : X.mg "any" = none) (h : GE X e Γ (rL rI) (Is xs)) (hg : Gl X "any" := by rfl) (hs : starEach [e] X.env = (false, eval e X.env) :: starEach [] X.env := by rfl) :
    GE X (.Call (.Name "any" p) [e] [] pos) Γ rB (Is (xs.any fun n => n != 0)) :=
  ge_callB (cr_anyI hc) hm (by decide +kernel) (ga1 h hs) (fun σ H vs hh z r Q q => by
    obtain ⟨v, rfl, l, us, rfl, hl, hv⟩ := r.one
    rw [Paired.ints hv] at hl
    exact ⟨l, xs, rfl, SqL.of (hd_some hl).2, q _ _ H rfl hh.evr rfl⟩) hg (he := hs) (hpl := by rfl)
/-- int(b), int(n) -/
theorem ge_intB {x : Bool} (hm : X.mg "int" = none) (h : GE X e Γ rB (Is x)) (hg : Gl X "int" := by rfl) (hs : starEach [e] X.env = (false, eval e X.env) :: starEach [] X.env := by rfl) :
    GE X (.Call (.Name "int" p) [e] [] pos) Γ rI (Is (if x then 1 else 0)) :=
  ge_callTy call_int1 hm (by decide +kernel) (ga1 h hs) (fun σ H vs hh z r Q q => by
    obtain ⟨v, rfl, r'⟩ := r.one
    cases (show _ = _ from r')
    exact .inr ⟨x, rfl, q _ _ H rfl hh.evr rfl⟩) hg (he := hs) (hpl := by rfl)
theorem ge_intI {x : Int} (hm : X.mg "int" = none) (h : GE X e Γ rI (Is x)) (hg : Gl X "int" := by rfl) (hs : starEach [e] X.env = (false, eval e X.env) :: starEach [] X.env := by rfl) :
    GE X (.Call (.Name "int" p) [e] [] pos) Γ rI (Is x) :=
  ge_callTy call_int1 hm (by decide +kernel) (ga1 h hs) (fun σ H vs hh z r Q q => by
    obtain ⟨v, rfl, r'⟩ := r.one
    cases (show _ = _ from r')
    exact .inl ⟨x, rfl, q _ _ H rfl hh.evr rfl⟩) hg (he := hs) (hpl := by rfl)
theorem ge_abs {x : Int} (hm : X.mg "abs" = none) (h : GE X e Γ rI (Is x)) (hg : Gl X "abs" := by rfl) (hs : starEach [e] X.env = (false, eval e X.env) :: starEach [] X.env := by rfl) :
    GE X (.Call (.Name "abs" p) [e] [] pos) Γ rI (Is (if x < 0 then -x else x)) :=
  ge_callB call_abs hm (by decide +kernel) (ga1 h hs) (fun σ H vs hh z r Q q => by
    obtain ⟨v, rfl, r'⟩ := r.one
    cases (show _ = _ from r')
    exact ⟨x, rfl, q _ _ H rfl hh.evr rfl⟩) hg (he := hs) (hpl := by rfl)
theorem ge_max2 {x y : Int} (hc : X.calm = true) (hm : X.mg "max" = none) (ha : GE X a Γ rI (Is x)) (hb : GE X b Γ rI (Is y)) (hg : Gl X "max" := by rfl) (hs : starEach [a, b] X.env = (false, eval a X.env) :: starEach [b] X.env := by rfl) (hs2 : starEach [b] X.env = (false, eval b X.env) :: starEach [] X.env := by rfl)
    (hpl : (backTo pos (starEach [b] X.env)).any (·.1) = false := by rfl) :
    GE X (.Call (.Name "max" p) [a, b] [] pos) Γ rI (Is (if y > x then y else x)) :=
  ge_callB (call_max2 hc) hm (by decide +kernel) (ga_cons ha (ga1 hb hs2) hs) (fun σ H vs hh z r Q q => by
    obtain ⟨v, w, rfl, r1, r2⟩ := r.two
    cases (show _ = _ from r1); cases (show _ = _ from r2)
    exact ⟨x, y, rfl, q _ _ H rfl hh.evr rfl⟩) hg (he := hs) (hpl := hpl)
/-- divmod by a small positive number: a new pair -/
theorem call_divmodS : CallR X (.builtin "divmod") (fun xs H Q => ∃ i j, xs = [.int i, .int j] ∧ CDivP i j ∧ ∀ p, H p = none → Q (.ref p) (upd H p (.tup [.int (i / j), .int (i % j)]))) := call_divmodW
theorem ge_divmod {x y : Int} (hm : X.mg "divmod" = none) (ha : GE X a Γ rI (Is x)) (hb : GE X b Γ rI (Is y)) (hd : CDivP x y) (hg : Gl X "divmod" := by rfl) (hs : starEach [a, b] X.env = (false, eval a X.env) :: starEach [b] X.env := by rfl) (hs2 : starEach [b] X.env = (false, eval b X.env) :: starEach [] X.env := by rfl)
    (hpl : (backTo pos (starEach [b] X.env)).any (·.1) = false := by rfl) :
    GE X (.Call (.Name "divmod" p) [a, b] [] pos) Γ (rP rI rI) (Is (x / y, x % y)) :=
  ge_callB call_divmodS hm (by decide +kernel) (ga_cons ha (ga1 hb hs2) hs) (fun σ H vs hh z r Q q => by
    obtain ⟨v, w, rfl, r1, r2⟩ := r.two
    cases (show _ = _ from r1); cases (show _ = _ from r2)
    exact ⟨x, y, rfl, hd, fun p hp => q _ _ _ rfl (hh.eve (Ex.new hp)) ⟨p, _, _, rfl, hd_new hh.al hp, rfl, rfl⟩⟩) hg (he := hs) (hpl := hpl)
/-- gcd, lcm: names of a module -/
theorem ge_gcd {x y : Int} (hm : X.mg "gcd" = some (.builtin "math.gcd")) (ha : GE X a Γ rI (Is x)) (hb : GE X b Γ rI (Is y)) (hg : Gl X "gcd" := by rfl) (hs : starEach [a, b] X.env = (false, eval a X.env) :: starEach [b] X.env := by rfl) (hs2 : starEach [b] X.env = (false, eval b X.env) :: starEach [] X.env := by rfl)
    (hpl : (backTo pos (starEach [b] X.env)).any (·.1) = false := by rfl) :
    GE X (.Call (.Name "gcd" p) [a, b] [] pos) Γ rI (Is ((Nat.gcd x.natAbs y.natAbs : Nat) : Int)) :=
  ge_of (pe_callBfun cr_gcd hg hm pa_s (he := hs) (hpl := hpl)) fun σ H h Q q => ga_cons ha (ga1 hb hs2) hs σ H h _ fun vs H1 e1 z1 r => by
    obtain ⟨v, w, rfl, r1, r2⟩ := r.two
    cases (show _ = _ from r1); cases (show _ = _ from r2)
    exact ⟨x, y, rfl, q _ _ H1 rfl e1 rfl⟩
def rLcm : List V → Hp → VK → Prop := fun vs H Q => ∃ a b : Int, vs = [.int a, .int b] ∧ (0 < a ∧ a < 1000000 ∧ 0 < b ∧ b < 1000000) ∧ Q (.int ((Nat.lcm a.natAbs b.natAbs : Nat) : Int)) H
theorem cr_lcm : CallR X (.builtin "math.lcm") rLcm := by
  intro pins s σ H vs us Q I r h
  obtain ⟨a, b, rfl, ⟨h1, h2, h3, h4⟩, q⟩ := h
  obtain ⟨t, u, rfl⟩ := Vals.int2 r
  have e1 : Nat.lcm 1 a.natAbs = a.natAbs := Nat.lcm_one_left _
  have hb : Nat.lcm a.natAbs b.natAbs ≤ a.natAbs * b.natAbs := Nat.le_of_dvd (Nat.mul_pos (by omega) (by omega)) (Nat.lcm_dvd_mul _ _)
  have hb2 : a.natAbs * b.natAbs < 2 ^ 40 := Nat.lt_of_lt_of_le (Nat.mul_lt_mul'' (show a.natAbs < 1000000 by omega) (show b.natAbs < 1000000 by omega)) (by decide)
  refine PySem.W.mg_lcm_v (c := ((Nat.lcm a.natAbs b.natAbs : Nat) : Int)) (by omega) (by omega) (by rw [e1]) ?_ ⟨.int _, H, I.tok _, ⟨_, rfl⟩, q⟩
  rw [Int.natAbs_natCast]
  exact Nat.lt_of_lt_of_le (PySem.Flt.log2_lt_of (by decide) (Nat.lt_of_le_of_lt hb hb2)) (by decide)
theorem ge_lcm {x y : Int} (hm : X.mg "lcm" = some (.builtin "math.lcm")) (ha : GE X a Γ rI (Is x)) (hb : GE X b Γ rI (Is y)) (hxy : 0 < x ∧ x < 1000000 ∧ 0 < y ∧ y < 1000000) (hg : Gl X "lcm" := by rfl) (hs : starEach [a, b] X.env = (false, eval a X.env) :: starEach [b] X.env := by rfl) (hs2 : starEach [b] X.env = (false, eval b X.env) :: starEach [] X.env := by rfl)
    (hpl : (backTo pos (starEach [b] X.env)).any (·.1) = false := by rfl) :
    GE X (.Call (.Name "lcm" p) [a, b] [] pos) Γ rI (Is ((Nat.lcm x.natAbs y.natAbs : Nat) : Int)) :=
  ge_of (pe_callBfun cr_lcm hg hm pa_s (he := hs) (hpl := hpl)) fun σ H h Q q => ga_cons ha (ga1 hb hs2) hs σ H h _ fun vs H1 e1 z1 r => by
    obtain ⟨v, w, rfl, r1, r2⟩ := r.two
    cases (show _ = _ from r1); cases (show _ = _ from r2)
    exact ⟨x, y, rfl, hxy, q _ _ H1 rfl e1 rfl⟩
end

def slotsOf (as : List Bd) (n : Nat) : List Slot := as.map (fun b => .val b.R b.x) ++ List.replicate (n - as.length) .nil
theorem AllR.get {H : Hp} : ∀ {bs : List Bd} {vs : List V} {i : Nat} {b : Bd}, AllR H bs vs → bs[i]? = some b → ∃ v, vs[i]? = some v ∧ b.R.r H b.x v
  | [], _, _, _, _, e => by simp at e
  | _ :: _, _, 0, _, ⟨v, ws, h1, h2, h3⟩, e => by simp at e; subst e; subst h1; exact ⟨v, rfl, h2⟩
  | _ :: _, _, i + 1, b, ⟨v, ws, h1, h2, h3⟩, e => by
    subst h1
    obtain ⟨u, k1, k2⟩ := AllR.get (i := i) (b := b) h3 (by simpa using e)
    exact ⟨u, by simpa using k1, k2⟩
theorem has_start {as : List Bd} {N : List Str} {L : List Addr} {H : Hp} {vs : List V} (hN : as.length ≤ N.length) (al : ∀ l ∈ L, H l ≠ none) (r : AllR (hd L H) as vs) : Has ⟨L, [], H, L, slotsOf as N.length, []⟩ (start N vs) H := by
  have hl := AllR.len r
  have key : ∀ (i : Nat) (t : Slot), (slotsOf as N.length)[i]? = some t → t = .nil ∨ ∃ b, as[i]? = some b ∧ t = .val b.R b.x := fun i t hi => by
    unfold slotsOf at hi
    by_cases h : i < as.length
    · rw [List.getElem?_append_left (by simpa using h), List.getElem?_map, List.getElem?_eq_getElem h] at hi
      exact .inr ⟨as[i], List.getElem?_eq_getElem h, (Option.some.inj hi).symm⟩
    · rw [List.getElem?_append_right (by simpa using h), List.getElem?_replicate] at hi
      split at hi
      · exact .inl (Option.some.inj hi).symm
      · cases hi
  refine ⟨?_, fun i t hi => ?_, al, fun l m => (nomatch m), fun a o e => ⟨fun _ => e, fun m => (nomatch m)⟩, fun i j t u l hi hj ht hu => ?_, fun l m => ⟨m, al l m⟩, fun i t l hi ht => ?_, fun q m => (nomatch m)⟩
  · show (L2.start N vs).length = (slotsOf as N.length).length
    unfold L2.start slotsOf
    simp only [List.length_append, List.length_map, List.length_replicate]
    omega
  · rcases key i t hi with rfl | ⟨b, hb, rfl⟩
    · trivial
    · obtain ⟨v, hv, rv⟩ := AllR.get r hb
      refine ⟨v, ?_, rv⟩
      unfold L2.start
      have hi' : i < vs.length := (List.getElem?_eq_some_iff.mp hv).1
      rw [List.getElem?_append_left (by simpa using hi'), List.getElem?_map, hv]; rfl
  · rcases key i t hi with rfl | ⟨b, hb, rfl⟩ <;> cases ht
  · rcases key i t hi with rfl | ⟨b, hb, rfl⟩ <;> cases ht
section
variable {Pg : Program} {w : World} {K : PySem.W.Frag} {mg : Str → Option Value} {base : Heap}
/-- a def keeps a promise over told arguments -/
theorem fn_typed {ι β : Type} {as : ι → List Bd} {ok : ι → Prop} {R : Rp β} {P : ι → β → Prop} {x qual : Str} {st : Stmt} {f : Addr} {fd : FuncData} {N ps : List Str} {k : Nat} (F : Fun K x qual st f fd) (S : FnScope N ps (defScope st)) (hl : ∀ i, (as i).length = ps.length) (hN : ps.length ≤ N.length)
    (body : ∀ (i : ι), ok i → ∀ (cdv : Value) (A : Around) (outer : List PySem.Env) (s : Shared) (H : Hp) (E : XK) (L : List Addr), Room k (A.deeper (PyProof.Rows.envOfC qual (defScope st) s.heap.objs.size f cdv)) →
      GS (cxOf CX0 Pg w K mg base N qual (defScope st) f cdv A outer s H E).nox (defBody st) ⟨L, [], H, L, slotsOf (as i) N.length, []⟩ R (P i) fun _ _ => False) : FnOk Pg w K mg base CX0 (k + 1) f fd ps (spG as ok R P) := by
  refine F.ok S (fun vs H Q E h => ?_) (fun cdv A outer s H vs Q E hr h => ?_)
  · obtain ⟨i, L, _, _, r, _⟩ := h
    rw [AllR.len r, hl]
  · obtain ⟨i, L, o, al, r, q⟩ := h
    refine ⟨_, pss_s, body i o cdv A outer s H E L hr _ H (has_start (by rw [hl]; exact hN) al r) _ (fun _ _ z => z.elim) fun y v H' py ev rr => q y v H' py (fun a o e => (ev a o e).1 (fun m => (nomatch m))) rr⟩
end
end TL

namespace TW
open PySem PySem.Spec L2 TL

def tp (i : Nat) : Stmt := PySem.Challenge.pw_tracewords_k25_whole_mixtures_told.main.body.getD i (.Pass ⟨0, 0, 0, 0⟩)

/-- a def of the top, as it stands there -/
def Df (K : PySem.W.Frag) (mg : Str → Option Value) (x : Str) (st : Stmt) (ps : List Str) : Prop := ∃ (f : Addr) (fd : FuncData), Fun K x x st f fd ∧ mg x = some (.ref f) ∧ Binds K fd ps []
/-- a def that keeps its promise -/
structure Fn (Pg : Program) (w : World) (K : PySem.W.Frag) (mg : Str → Option Value) (base : Heap) (x : Str) (ps : List Str) (k : Nat) (sp : Sp) : Prop where
  ex : ∃ (f : Addr) (fd : FuncData), FnOk Pg w K mg base CX0 k f fd ps sp ∧ mg x = some (.ref f) ∧ PySem.W.keepIn K (.ref f) = true ∧ Binds K fd ps []
theorem Fn.up {Pg : Program} {w : World} {K : PySem.W.Frag} {mg : Str → Option Value} {base : Heap} {x : Str} {ps : List Str} {j k : Nat} {sp : Sp} (F : Fn Pg w K mg base x ps j sp) (h : j ≤ k) : Fn Pg w K mg base x ps k sp :=
  let ⟨f, fd, G, m, kp, b⟩ := F.ex
  ⟨f, fd, G.mono h, m, kp, b⟩
theorem ge_fn {X : Cx} {Γ : TL.Env} {β : Type} {S : Rp β} {ι : Type} {as : ι → List Bd} {ok : ι → Prop} {P : ι → β → Prop} {k : Nat} {ps : List Str} {x : Str} {p pos : Pos} {e : Expr} {es : List Expr}
    (F : Fn X.prog X.w X.K X.mg X.base x ps k (spG as ok S P)) (hr : Room k X.A) (i : ι) (o : ok i) (ha : GA X (e :: es) Γ (as i))
    (hg : Gl X x := by rfl) (hdb : (x == ("__debug__" : Str)) = false := by decide) (he : starEach (e :: es) X.env = (false, eval e X.env) :: starEach es X.env := by rfl) (hpl : (backTo pos (starEach es X.env)).any (·.1) = false := by rfl) {P' : β → Prop} (hP : ∀ y, P i y → P' y := by exact fun _ h => h) :
    GE X (.Call (.Name x p) (e :: es) [] pos) Γ S P' :=
  let ⟨_, _, G, m, kp, b⟩ := F.ex
  (ge_call G hr m kp b i o ha hg hdb he hpl).imp hP
theorem gfn {X : Cx} {Γ : TL.Env} {β : Type} {S : Rp β} {ι : Type} {as : ι → List Bd} {ok : ι → Prop} {P : ι → β → Prop} {k j : Nat} {ps : List Str} {x : Str} {p pos : Pos} {e : Expr} {es : List Expr}
    (F : Fn X.prog X.w X.K X.mg X.base x ps k (spG as ok S P)) (hr : Room j X.A) (i : ι) (o : ok i) (ha : GA X (e :: es) Γ (as i)) (hj : k ≤ j := by decide)
    (hg : Gl X x := by rfl) (hdb : (x == ("__debug__" : Str)) = false := by decide) (he : starEach (e :: es) X.env = (false, eval e X.env) :: starEach es X.env := by rfl) (hpl : (backTo pos (starEach es X.env)).any (·.1) = false := by rfl) {P' : β → Prop} (hP : ∀ y, P i y → P' y := by exact fun _ h => h) :
    GE X (.Call (.Name x p) (e :: es) [] pos) Γ S P' := ge_fn F (hr.mono hj) i o ha hg hdb he hpl hP
theorem fn_df {Pg : Program} {w : World} {K : PySem.W.Frag} {mg : Str → Option Value} {base : Heap} {ι β : Type} {as : ι → List Bd} {ok : ι → Prop} {R : Rp β} {P : ι → β → Prop} {x : Str} {st : Stmt} {N ps : List Str} {k : Nat} (D : Df K mg x st ps) (S : FnScope N ps (defScope st)) (hl : ∀ i, (as i).length = ps.length) (hN : ps.length ≤ N.length)
    (body : ∀ (i : ι), ok i → ∀ (f : Addr) (cdv : Value) (A : Around) (outer : List PySem.Env) (s : Shared) (H : Hp) (E : XK) (L : List Addr), Room k (A.deeper (PyProof.Rows.envOfC x (defScope st) s.heap.objs.size f cdv)) →
      GS (cxOf CX0 Pg w K mg base N x (defScope st) f cdv A outer s H E).nox (defBody st) ⟨L, [], H, L, slotsOf (as i) N.length, []⟩ R (P i) fun _ _ => False) : Fn Pg w K mg base x ps (k + 1) (spG as ok R P) :=
  let ⟨f, fd, F, m, b⟩ := D
  ⟨⟨f, fd, fn_typed F S hl hN (fun i o => body i o f), m, F.kp, b⟩⟩

structure Blt (mg : Str → Option Value) : Prop where
  isi : mg "isinstance" = none
  int : mg "int" = none
  bool : mg "bool" = none
  list : mg "list" = none
  tuple : mg "tuple" = none
  len : mg "len" = none
  range : mg "range" = none
  zip : mg "zip" = none
  enum : mg "enumerate" = none
  sum : mg "sum" = none
  all : mg "all" = none
  any : mg "any" = none
  abs : mg "abs" = none
  max : mg "max" = none
  divmod : mg "divmod" = none
  gcd : mg "gcd" = some (.builtin "math.gcd")
  lcm : mg "lcm" = some (.builtin "math.lcm")
/-- an own class that isinstance asks -/
structure OwnC (K : PySem.W.Frag) (mg : Str → Option Value) (x : Str) (C : Addr) : Prop where
  m : mg x = some (.ref C)
  cl : Cls K C
  ha : PySem.W.findIn K (.ref C) "__class__" = some (some (.builtin "object.__class__"))
  hn : PySem.W.specialIn K (.builtin "object.__class__") "__get__" = some (some (.builtin "getset_descriptor.__get__"))
  htk : PySem.W.takesIn K (.builtin "object.__class__") = some true
  hm : PySem.W.mroIn K C (.type "object") = some true
  kInt : PySem.W.kitOne K (.type "int") (.ref C) = some false
  kI : PySem.W.kitOne K (.ref C) (.type "int") = some false
  kp : PySem.W.keepIn K (.ref C) = true

/-- a Ratio of the class at C -/
def qF (a b : Int) : List (Str × V) := [(("own_top" : Str), V.int a), (("own_bottom" : Str), V.int b)]
def rQ (C : Addr) : Rp Rat := rIns C (fun q fs _ => fs = qF q.num (q.den : Int)) (fun _ h => h)
/-- an int as a Ratio -/
def rZ (C : Addr) : Rp Int := (rQ C).on fun i : Int => (i : Rat)
/-- an int, or a Ratio -/
def rIQ (C : Addr) : Rp (Int ⊕ Rat) := ⟨fun H x v => match x with
    | .inl i => v = .int i
    | .inr q => (rQ C).r H q v,
  fun {H H' x v} e h => by
    cases x with
    | inl i => exact h
    | inr q => exact (rQ C).mono e h⟩
def worth : Int ⊕ Rat → Rat
  | .inl i => (i : Rat)
  | .inr q => q
section
variable {X : Cx} {Γ : TL.Env} {α : Type} {R : Rp α} {e c : Expr} {pos p : Pos} {C : Addr}
/-- isinstance(e, c) -/
theorem ge_isi {x : α} {b : Bool} {cv : V} {u : Value} (hm : X.mg "isinstance" = none) (he : GE X e Γ R (Is x)) (hcl : PE X c (tC cv)) (k : ClsV cv u) (hty : ∀ L H v, R.r (hd L H) x v → ∃ t, TyX X.K H v t ∧ PySem.W.kitOne X.K t u = some b)
    (hg : Gl X "isinstance" := by rfl) (hs : starEach [e, c] X.env = (false, eval e X.env) :: starEach [c] X.env := by rfl) (hs2 : starEach [c] X.env = (false, eval c X.env) :: starEach [] X.env := by rfl) (hpl : (backTo pos (starEach [c] X.env)).any (·.1) = false := by rfl) :
    GE X (.Call (.Name "isinstance" p) [e, c] [] pos) Γ rB (Is b) :=
  ge_of (pe_callB call_isi hg hm (by decide +kernel) (pa_cons pe_s (pa_cons hcl pa_nil hs2) hs) (he := hs) (hpl := hpl)) fun σ H h Q q => he σ H h _ fun x' v H1 p1 e1 z1 r1 => by
    cases (show _ = _ from p1)
    obtain ⟨t, ty, kk⟩ := hty _ _ _ r1
    exact ⟨v, cv, t, u, b, rfl, k, ty, kk, q b _ H1 rfl e1 rfl⟩
/-- isinstance(e, (c, d)) -/
theorem ge_isi2 {x : α} {d : Expr} {kk : Nat} {p2 : Pos} {b : Bool} {cv dv : V} {u w : Value} (hm : X.mg "isinstance" = none) (he : GE X e Γ R (Is x)) (hcl : PE X c (tC cv)) (hdl : PE X d (tC dv)) (k : ClsV cv u) (k2 : ClsV dv w) (hty : ∀ L H v, R.r (hd L H) x v → ∃ t, TyX X.K H v t ∧ PySem.W.kitAny X.K t [u, w] = some b)
    (hg : Gl X "isinstance" := by rfl) (hs : starEach [e, .Tuple [c, d] kk p2] X.env = (false, eval e X.env) :: starEach [.Tuple [c, d] kk p2] X.env := by rfl) (hs2 : starEach [.Tuple [c, d] kk p2] X.env = (false, eval (.Tuple [c, d] kk p2) X.env) :: starEach [] X.env := by rfl)
    (hs3 : starEach [c, d] X.env = (false, eval c X.env) :: starEach [d] X.env := by rfl) (hs4 : starEach [d] X.env = (false, eval d X.env) :: starEach [] X.env := by rfl) (hpl : (backTo pos (starEach [.Tuple [c, d] kk p2] X.env)).any (·.1) = false := by rfl) :
    GE X (.Call (.Name "isinstance" p) [e, .Tuple [c, d] kk p2] [] pos) Γ rB (Is b) :=
  ge_of (pe_callB call_isiT hg hm (by decide +kernel) (pa_cons pe_s (pa_cons (pe_tup (pa_cons hcl (pa_cons hdl pa_nil hs4) hs3)) pa_nil hs2) hs) (he := hs) (hpl := hpl)) fun σ H h Q q => he σ H h _ fun x' v H1 p1 e1 z1 r1 => by
    cases (show _ = _ from p1)
    have h1 := h.ev e1
    refine ⟨by show 2 ≤ sizeLine; decide, fun tpl htp => ?_⟩
    have ex := Ex.new (o := .tup [cv, dv]) htp
    obtain ⟨t, ty, kk⟩ := hty Γ.L (upd H1 tpl (.tup [cv, dv])) v (R.mono (Ex.hd ex) r1)
    exact ⟨v, tpl, [cv, dv], t, [u, w], b, rfl, upd_same, .cons k (.cons k2 .nil), ty, kk, q b _ _ rfl (e1.trans (h1.eve ex)) rfl⟩
theorem pe_tyv {T : String} {x : Str} (hm : X.mg x = none) (hv : bootBuiltins x = some (.type T) := by decide +kernel) (hg : Gl X x := by rfl) (hn : x ≠ "__name__" := by decide) (hd : (x == ("__debug__" : Str)) = false := by decide) : PE X (.Name x pos) (tC (.ty T)) :=
  pe_bltn hg hm hv rfl hn hd
theorem tyx_int {K : PySem.W.Frag} {H : Hp} {i : Int} : TyX K H (.int i) (.type "int") := .base (.int i)
theorem tyx_ratio {K : PySem.W.Frag} {mg : Str → Option Value} {x : Str} (O : OwnC K mg x C) {L : List Addr} {H : Hp} {q : Rat} {v : V} (r : (rQ C).r (hd L H) q v) : TyX K H v (.ref C) := by
  obtain ⟨p, dx, fs, rfl, hp, _⟩ := r
  exact .base (.ins (hd_some hp).2 O.cl O.ha O.hn O.htk O.hm)
theorem kit_self {K : PySem.W.Frag} {C : Addr} : PySem.W.kitOne K (.ref C) (.ref C) = some true := by
  unfold PySem.W.kitOne
  rw [if_pos (by simp)]
theorem kit_int {K : PySem.W.Frag} : PySem.W.kitOne K (.type "int") (.type "int") = some true := kit_ty (by decide +kernel)
theorem kit_ib {K : PySem.W.Frag} : PySem.W.kitOne K (.type "int") (.type "bool") = some false := kit_ty (by decide +kernel)
end

section
variable {Pg : Program} {w : World} {K : PySem.W.Frag} {mg : Str → Option Value} {base : Heap} {C : Addr}
theorem sc_is_integer : FnScope ["value"] ["value"] (defScope (tp 12)) := ⟨rfl, rfl, rfl, by decide +kernel, rfl, by decide +kernel, by decide +kernel⟩
abbrev spIsInteger (C : Addr) : Sp := spG (fun x : Int ⊕ Rat => [⟨rIQ C, x⟩]) (fun _ => True) rB (fun x => Is x.isLeft)
theorem ok_is_integer (B : Blt mg) (O : OwnC K mg "Ratio" C) (D : Df K mg "is_integer" (tp 12) ["value"]) : Fn Pg w K mg base "is_integer" ["value"] 1 (spIsInteger C) := by
  refine fn_df D sc_is_integer (fun _ => rfl) (by decide) fun i _ f cdv A outer s H E L hr => ?_
  cases i with
  | inl i =>
    exact gs_ret (ge_and (ge_isi (b := true) (R := rIQ C) B.isi (ge_var 0) (pe_tyv (T := "int") B.int) (.ty _) (fun L H v r => ⟨_, by cases (show _ = _ from r); exact tyx_int, kit_int⟩))
      (fun _ => ge_bone (ge_not (ge_isi (b := false) (R := rIQ C) B.isi (ge_var 0) (pe_tyv (T := "bool") B.bool) (.ty _) (fun L H v r => ⟨_, by cases (show _ = _ from r); exact tyx_int, kit_ib⟩)))))
  | inr q =>
    exact gs_ret (ge_and (y := true) (ge_isi (b := false) (R := rIQ C) (x := Sum.inr q) B.isi (ge_var 0) (pe_tyv (T := "int") B.int) (.ty _) (fun L H v r => ⟨_, tyx_ratio O (q := q) r, O.kI⟩)) (fun z => by cases z))
end
end TW

namespace TW
open PySem PySem.Spec L2 TL

theorem Int.natCast_dvd_left' {n : Nat} {z : Int} (h : n ∣ z.natAbs) : (n : Int) ∣ z := Int.dvd_natAbs.mp (Int.ofNat_dvd.mpr h)
theorem fdiv_exact {a g k : Int} (hg : g ≠ 0) (h : a = g * k) : a.fdiv g = k := by
  rw [h, Int.mul_fdiv_cancel_left _ hg]
/-- what __init__ divides by -/
def comm (t b : Int) : Int := if b < 0 then 0 - ((Nat.gcd t.natAbs b.natAbs : Nat) : Int) else ((Nat.gcd t.natAbs b.natAbs : Nat) : Int)
theorem comm_ne {t b : Int} (h : b ≠ 0) : comm t b ≠ 0 := by
  have : 0 < Nat.gcd t.natAbs b.natAbs := Nat.gcd_pos_of_pos_right _ (Int.natAbs_pos.mpr h)
  unfold comm
  split <;> omega
theorem comm_num {t b : Int} (h : b ≠ 0) : t.fdiv (comm t b) = (Rat.divInt t b).num := by
  have hg : 0 < Nat.gcd t.natAbs b.natAbs := Nat.gcd_pos_of_pos_right _ (Int.natAbs_pos.mpr h)
  have hd : ((Nat.gcd t.natAbs b.natAbs : Nat) : Int) ∣ t := Int.natCast_dvd_left' (Nat.gcd_dvd_left _ _)
  obtain ⟨k, hk⟩ := hd
  have e : Int.gcd b t = Nat.gcd t.natAbs b.natAbs := by rw [Int.gcd_comm]; rfl
  rw [Rat.num_divInt, e]
  generalize hG : ((Nat.gcd t.natAbs b.natAbs : Nat) : Int) = g at hk
  have g0 : g ≠ 0 := by omega
  unfold comm
  rw [hG]
  by_cases hb : b < 0
  · rw [if_pos hb, Int.sign_eq_neg_one_of_neg hb]
    rw [fdiv_exact (k := -k) (by omega) (by rw [hk, Int.zero_sub, Int.neg_mul_neg])]
    rw [hk, show -1 * (g * k) = g * (-k) by rw [Int.neg_one_mul, Int.mul_neg], Int.mul_ediv_cancel_left _ g0]
  · rw [if_neg hb, Int.sign_eq_one_of_pos (by omega), Int.one_mul, fdiv_exact g0 hk, hk, Int.mul_ediv_cancel_left _ g0]
theorem comm_den {t b : Int} (h : b ≠ 0) : b.fdiv (comm t b) = ((Rat.divInt t b).den : Int) := by
  have hg : 0 < Nat.gcd t.natAbs b.natAbs := Nat.gcd_pos_of_pos_right _ (Int.natAbs_pos.mpr h)
  have hd : ((Nat.gcd t.natAbs b.natAbs : Nat) : Int) ∣ b := Int.natCast_dvd_left' (Nat.gcd_dvd_right _ _)
  obtain ⟨k, hk⟩ := hd
  have e : Int.gcd b t = Nat.gcd t.natAbs b.natAbs := by rw [Int.gcd_comm]; rfl
  rw [Rat.den_divInt, if_neg h, e, Int.natCast_ediv]
  generalize hG : ((Nat.gcd t.natAbs b.natAbs : Nat) : Int) = g at hk
  have g0 : g ≠ 0 := by omega
  unfold comm
  rw [hG]
  by_cases hb : b < 0
  · rw [if_pos hb, fdiv_exact (k := -k) (by omega) (by rw [Int.zero_sub, Int.neg_mul_neg]; exact hk)]
    have : ((b.natAbs : Nat) : Int) = g * (-k) := by rw [Int.mul_neg, ← hk]; omega
    rw [this, Int.mul_ediv_cancel_left _ g0]
  · rw [if_neg hb, fdiv_exact g0 hk]
    have : ((b.natAbs : Nat) : Int) = g * k := by rw [← hk]; omega
    rw [this, Int.mul_ediv_cancel_left _ g0]
theorem ic_num (i : Int) : ((i : Rat)).num = i := Rat.num_intCast i
theorem ic_den (i : Int) : ((i : Rat)).den = 1 := Rat.den_intCast i
theorem divInt_one' (i : Int) : Rat.divInt i 1 = (i : Rat) := by
  rw [Rat.divInt_eq_div]; grind
theorem add_divInt (q r : Rat) : Rat.divInt (q.num * (r.den : Int) + r.num * (q.den : Int)) ((q.den : Int) * (r.den : Int)) = q + r := by
  have h1 : (q.den : Int) ≠ 0 := by have := q.den_pos; omega
  have h2 : (r.den : Int) ≠ 0 := by have := r.den_pos; omega
  rw [← Rat.divInt_add_divInt _ _ h1 h2, Rat.num_divInt_den, Rat.num_divInt_den]
theorem mul_divInt (q r : Rat) : Rat.divInt (q.num * r.num) ((q.den : Int) * (r.den : Int)) = q * r := by
  rw [← Rat.divInt_mul_divInt, Rat.num_divInt_den, Rat.num_divInt_den]
theorem gcd_le_of_dvd {a b : Nat} {n : Nat} (hb : 0 < b) (h : b < 2 ^ n) : Nat.gcd a b < 2 ^ n := Nat.lt_of_le_of_lt (Nat.le_of_dvd hb (Nat.gcd_dvd_right _ _)) h
/-- the divisor is small enough -/
def Gs (t b : Int) : Prop := b ≠ 0 ∧ Nat.gcd t.natAbs b.natAbs < 2 ^ 9000
theorem Gs.pyl {t b x : Int} (h : Gs t b) : CDivA x (comm t b) := by
  refine ⟨comm_ne h.1, PyProof.noPylong_of_log2 ?_⟩
  have e : (comm t b).natAbs = Nat.gcd t.natAbs b.natAbs := by unfold comm; split <;> omega
  rw [e]
  exact PySem.Flt.log2_lt_of (by decide) h.2

theorem tb_ : ¬ (("own_top" : Str) = "own_bottom") := by decide +kernel
theorem qF_put (t b : Int) : putF "own_bottom" (.int b) (putF "own_top" (.int t) []) = qF t b := by
  show (if ("own_top" : Str) = "own_bottom" then [(("own_bottom" : Str), V.int b)] else (("own_top" : Str), V.int t) :: putF "own_bottom" (V.int b) []) = qF t b
  rw [if_neg tb_]
  rfl
theorem qF_top (t b : Int) : (qF t b).lookup ("own_top" : Str) = some (.int t) := by
  rw [← qF_put, lookup_putF, if_neg tb_, lookup_putF, if_pos rfl]
theorem qF_bot (t b : Int) : (qF t b).lookup ("own_bottom" : Str) = some (.int b) := by
  rw [← qF_put, lookup_putF, if_pos rfl]

section
variable {X : Cx} {Γ : TL.Env} {e a b : Expr} {pos : Pos} {C : Addr}
theorem ge_top {q : Rat} (cl : Cls X.K C) (nT : NoAttr X.K C "own_top") (h : GE X e Γ (rQ C) (Is q)) (hb : attributeBase e "own_top" X.env (eval e X.env) = eval e X.env := by rfl) : GE X (.Attribute e "own_top" pos) Γ rI (Is q.num) :=
  ge_of (pe_fld pe_s hb) fun σ H hh Q k => h σ H hh _ fun x v H1 p1 e1 z1 r1 => by
    cases (show _ = _ from p1)
    obtain ⟨p, dx, fs, rfl, hp, rfl⟩ := r1
    exact ⟨p, C, dx, _, _, rfl, (hd_some hp).2, cl, nT, qF_top _ _, k _ _ H1 rfl e1 rfl⟩
theorem ge_bot {q : Rat} (cl : Cls X.K C) (nB : NoAttr X.K C "own_bottom") (h : GE X e Γ (rQ C) (Is q)) (hb : attributeBase e "own_bottom" X.env (eval e X.env) = eval e X.env := by rfl) : GE X (.Attribute e "own_bottom" pos) Γ rI (Is (q.den : Int)) :=
  ge_of (pe_fld pe_s hb) fun σ H hh Q k => h σ H hh _ fun x v H1 p1 e1 z1 r1 => by
    cases (show _ = _ from p1)
    obtain ⟨p, dx, fs, rfl, hp, rfl⟩ := r1
    exact ⟨p, C, dx, _, _, rfl, (hd_some hp).2, cl, nB, qF_bot _ _, k _ _ H1 rfl e1 rfl⟩
theorem ge_IQi {i : Int} (h : GE X e Γ rI (Is i)) : GE X e Γ (rIQ C) (Is (.inl i)) := h.re fun x v H p r => ⟨_, rfl, by cases (show _ = _ from p); exact r⟩
theorem ge_IQq {q : Rat} (h : GE X e Γ (rQ C) (Is q)) : GE X e Γ (rIQ C) (Is (.inr q)) := h.re fun x v H p r => ⟨_, rfl, by cases (show _ = _ from p); exact r⟩
end

section
variable {Pg : Program} {w : World} {K : PySem.W.Frag} {mg : Str → Option Value} {base : Heap} {C : Addr}
theorem sc_is_count : FnScope ["value"] ["value"] (defScope (tp 13)) := ⟨rfl, rfl, rfl, by decide +kernel, rfl, by decide +kernel, by decide +kernel⟩
abbrev spIsCount : Sp := spG (fun x : Int => [⟨rI, x⟩]) (fun _ => True) rB (fun x => Is (decide (0 ≤ x)))
theorem ok_is_count (G : Fn Pg w K mg base "is_integer" ["value"] 1 (spIsInteger C)) (D : Df K mg "is_count" (tp 13) ["value"]) : Fn Pg w K mg base "is_count" ["value"] 2 spIsCount := by
  refine fn_df D sc_is_count (fun _ => rfl) (by decide) fun i _ f cdv A outer s H E L hr => ?_
  refine gs_ret ?_
  refine ge_and (x := true) ?_ fun _ => ge_bone (ge_ge (ge_var 0) ge_int)
  exact ge_fn G hr (Sum.inl i) trivial (ga1 (ge_IQi (ge_var 0)))
/-- a list or a tuple of whatever -/
def rSeq : Rp Unit := ⟨fun H _ v => ∃ p, v = .ref p ∧ ((∃ vs, H p = some (.lst vs)) ∨ ∃ vs, H p = some (.tup vs)), fun e ⟨p, h1, h2⟩ => ⟨p, h1, h2.elim (fun ⟨vs, h⟩ => .inl ⟨vs, e _ _ h⟩) fun ⟨vs, h⟩ => .inr ⟨vs, e _ _ h⟩⟩⟩
theorem ge_seqLT {X : Cx} {Γ : TL.Env} {e : Expr} {α : Type} {R : Rp α} {P : List α → Prop} (h : GE X e Γ (rLT R) P) : GE X e Γ rSeq (Is ()) := h.re fun x v H p r => ⟨(), rfl, by
  rcases r with ⟨l, vs, a, b, c⟩ | ⟨l, vs, a, b, c⟩
  · exact ⟨l, a, .inl ⟨vs, b⟩⟩
  · exact ⟨l, a, .inr ⟨vs, b⟩⟩⟩
theorem kit_list2 : PySem.W.kitAny K (.type "list") [.type "list", .type "tuple"] = some true := kitAny_cons (b := true) (kit_ty (by decide +kernel)) (fun z => by cases z) (fun _ => rfl)
theorem kit_tup2 : PySem.W.kitAny K (.type "tuple") [.type "list", .type "tuple"] = some true :=
  kitAny_cons (b := false) (kit_ty (by decide +kernel)) (fun _ => kitAny_cons (b := true) (kit_ty (by decide +kernel)) (fun z => by cases z) (fun _ => rfl)) (fun z => by cases z)
theorem sc_is_list : FnScope ["value"] ["value"] (defScope (tp 14)) := ⟨rfl, rfl, rfl, by decide +kernel, rfl, by decide +kernel, by decide +kernel⟩
abbrev spIsList : Sp := spG (fun _ : Unit => [⟨rSeq, ()⟩]) (fun _ => True) rB (fun _ => Is true)
theorem ok_is_list (B : Blt mg) (D : Df K mg "is_list" (tp 14) ["value"]) : Fn Pg w K mg base "is_list" ["value"] 1 spIsList := by
  refine fn_df D sc_is_list (fun _ => rfl) (by decide) fun i _ f cdv A outer s H E L hr => ?_
  exact gs_ret (ge_isi2 (b := true) (R := rSeq) (x := ()) B.isi (ge_var 0) (pe_tyv (T := "list") B.list) (pe_tyv (T := "tuple") B.tuple) (.ty _) (.ty _) (fun L H v r => by
    obtain ⟨p, rfl, ⟨vs, hp⟩ | ⟨vs, hp⟩⟩ := r
    · exact ⟨_, .base (.lst (hd_some hp).2), kit_list2⟩
    · exact ⟨_, .base (.tup (hd_some hp).2), kit_tup2⟩))
theorem sc_divisor_of : FnScope ["one", "other"] ["one", "other"] (defScope (tp 18)) := ⟨rfl, rfl, rfl, by decide +kernel, rfl, by decide +kernel, by decide +kernel⟩
abbrev spDivisorOf : Sp := spG (fun x : Int × Int => [⟨rI, x.1⟩, ⟨rI, x.2⟩]) (fun _ => True) rI (fun x => Is ((Nat.gcd x.1.natAbs x.2.natAbs : Nat) : Int))
theorem ok_divisor_of (B : Blt mg) (D : Df K mg "divisor_of" (tp 18) ["one", "other"]) : Fn Pg w K mg base "divisor_of" ["one", "other"] 1 spDivisorOf := by
  refine fn_df D sc_divisor_of (fun _ => rfl) (by decide) fun i _ f cdv A outer s H E L hr => ?_
  exact gs_ret (ge_gcd B.gcd (ge_var 0) (ge_var 1))

def sInit : Stmt := inClass (tp 19) 0
theorem sc_init : FnScope ["self", "top", "bottom", "common"] ["self", "top", "bottom"] (defScope sInit) := ⟨rfl, rfl, rfl, by decide +kernel, rfl, by decide +kernel, by decide +kernel⟩
def spInit (C : Addr) : Sp := fun vs H Q _ => ∃ (p dx : Addr) (t b : Int), vs = [.ref p, .int t, .int b] ∧ H p = some (.ins C dx []) ∧ Gs t b ∧
  ∀ H1, Ex H H1 → Q .non (upd H1 p (.ins C dx (qF (Rat.divInt t b).num ((Rat.divInt t b).den : Int))))
structure RatC (K : PySem.W.Frag) (mg : Str → Option Value) (C : Addr) : Prop where
  O : OwnC K mg "Ratio" C
  nT : NoAttr K C "own_top"
  nB : NoAttr K C "own_bottom"
theorem ok_init {f : Addr} {fd : FuncData} (RC : RatC K mg C) (F : FunD K "__init__" "Ratio.__init__" (defArgs sInit) (defBody sInit) (defScope sInit) [.int 1] [] f fd) (G : Fn Pg w K mg base "is_integer" ["value"] 1 (spIsInteger C))
    (GD : Fn Pg w K mg base "divisor_of" ["one", "other"] 1 spDivisorOf) : FnOk Pg w K mg base CX0 2 f fd ["self", "top", "bottom"] (spInit C) := by
  refine F.ok sc_init (fun vs H Q E h => ?_) (fun cdv A outer s H vs Q E hr h => ?_)
  · obtain ⟨p, dx, t, b, rfl, _⟩ := h
    rfl
  · obtain ⟨p, dx, t, b, rfl, hp, hG, q⟩ := h
    have key : GS (cxOf CX0 Pg w K mg base ["self", "top", "bottom", "common"] "Ratio.__init__" (defScope sInit) f cdv A outer s H E).nox (defBody sInit) ⟨[], [], H, [], slotsOf [⟨rV, .ref p⟩, ⟨rI, t⟩, ⟨rI, b⟩] 4, []⟩ rN (fun _ => False) (fun _ H' => ∃ H1, Ex H H1 ∧ H' = upd H1 p (.ins C dx (qF (Rat.divInt t b).num ((Rat.divInt t b).den : Int)))) := by
      refine gs_ifNever (Pc := Is false) (by refine gt_not (x := true) (gt_val ?_); exact ge_fn G hr (Sum.inl t) trivial (ga1 (ge_IQi (ge_var 1)))) (fun z => by cases (show _ = _ from z)) ?_
      refine gs_ifNever (Pc := Is (false || decide (b = 0))) (by refine GW.gt (gw_or (x := false) ?_ (fun _ => gw_or1 (gt_eq (ge_var 2) ge_int))); refine gt_not (x := true) (gt_val ?_); exact ge_fn G hr (Sum.inl b) trivial (ga1 (ge_IQi (ge_var 2)))) (fun z => by
        have z2 : true = (false || decide (b = 0)) := z
        rw [decide_eq_false hG.1] at z2; cases z2) ?_
      refine gs_setI 3 sc_init.nd (by exact ge_fn GD hr (t, b) trivial (ga_cons (ge_var 1) (ga1 (ge_var 2)))) ?_
      refine gs_if (ι := PUnit) (fun _ => ⟨[], [], H, [], [.val rV (.ref p), .val rI t, .val rI b, .val rI (comm t b)], []⟩) (Pc := Is (decide (b < 0))) (gt_lt (ge_var 2) ge_int) (fun z => ?_) (fun z => ?_) (fun _ => ?_) (fun _ => ⟨rfl, rfl, rfl⟩)
      · have hb : b < 0 := of_decide_eq_true (show true = _ from z).symm
        refine gs_setI 3 sc_init.nd (ge_sub ge_int (ge_var 3)) (gs_end fun σ H hh => ⟨⟨⟩, ?_⟩)
        have e : comm t b = 0 - ((Nat.gcd t.natAbs b.natAbs : Nat) : Int) := if_pos hb
        rw [e]; exact hh
      · have hb : ¬ b < 0 := of_decide_eq_false (show false = _ from z).symm
        refine gs_end fun σ H hh => ⟨⟨⟩, ?_⟩
        have e : comm t b = ((Nat.gcd t.natAbs b.natAbs : Nat) : Int) := if_neg hb
        rw [e]; exact hh
      · intro σ H1 hh D qn _
        obtain ⟨v0, s0, r0⟩ := hh.ok 0 _ rfl
        cases (show _ = _ from r0)
        obtain ⟨v1, s1, r1⟩ := hh.ok 1 _ rfl
        cases (show _ = _ from r1)
        obtain ⟨v2, s2, r2⟩ := hh.ok 2 _ rfl
        cases (show _ = _ from r2)
        obtain ⟨v3, s3, r3⟩ := hh.ok 3 _ rfl
        cases (show _ = _ from r3)
        have hp2 : H1 p = some (.ins C dx []) := (hh.ex p _ hp).1 (fun m => (nomatch m))
        have ex1 : Ex H H1 := fun a o e => (hh.ex a o e).1 (fun m => (nomatch m))
        refine s_pss (pss_cons (ps_fld (pv 0) (pe_op op_fdivA (pv 1) (pv 3)) rfl) (pss_one (ps_fld (pv 0) (pe_op op_fdivA (pv 2) (pv 3)) rfl))) ?_
        refine ⟨_, s1, _, s3, _, _, rfl, rfl, hG.pyl, _, s0, p, C, dx, [], rfl, hp2, RC.O.cl, RC.nT, (by show 0 < 1000; decide), ?_⟩
        refine ⟨_, s2, _, s3, _, _, rfl, rfl, hG.pyl, _, s0, p, C, dx, _, rfl, upd_same, RC.O.cl, RC.nB, (by show 1 < 1000; decide), ?_⟩
        refine qn _ _ ⟨H1, ex1, ?_⟩
        rw [upd_upd, qF_put, comm_num hG.1, comm_den hG.1]
    refine ⟨_, PSs.nox pss_s, key _ H (has_start (as := [⟨rV, .ref p⟩, ⟨rI, t⟩, ⟨rI, b⟩]) (N := ["self", "top", "bottom", "common"]) (Nat.le_of_ble_eq_true rfl) (fun l m => nomatch m) ⟨_, _, rfl, rfl, _, _, rfl, rfl, _, _, rfl, rfl, rfl⟩) _ (fun σ' H' ⟨H1, ex, e⟩ => ?_) (fun _ _ _ z => z.elim)⟩
    rw [e]
    exact q H1 ex
end
/-- how a Ratio is made -/
structure RatF (Pg : Program) (w : World) (K : PySem.W.Frag) (mg : Str → Option Value) (base : Heap) (C : Addr) : Prop where
  RC : RatC K mg C
  how : ∃ (f : Addr) (fd : FuncData), Mk K C f ∧ FnOk Pg w K mg base CX0 2 f fd ["self", "top", "bottom"] (spInit C) ∧ (∃ ds, Vals [] ds ∧ Binds K fd ["self", "top", "bottom"] ds) ∧ ∃ ds, Vals [.int 1] ds ∧ Binds K fd ["self", "top", "bottom"] ds
section
variable {X : Cx} {Γ : TL.Env} {e a b : Expr} {p pos : Pos} {C : Addr}
theorem made_q {σ : L2.St} {H1 : Hp} (h : Has Γ σ H1) {x dx : Addr} {t b : Int} (nx : H1 x = none) (nd : H1 dx = none) (hG : Gs t b) {Q : VK} {E : XK}
    (q : ∀ v H', Ev Γ.P H1 H' → (rQ C).r (hd Γ.L H') (Rat.divInt t b) v → Q v H') (hne : dx ≠ x) : spInit C [.ref x, .int t, .int b] (upd (upd H1 dx (.own x)) x (.ins C dx [])) (fun v H2 => v = .non ∧ Q (.ref x) H2) E := by
  refine ⟨x, dx, t, b, rfl, upd_same, hG, fun H2 ex => ⟨rfl, ?_⟩⟩
  have ex2 : Ex H1 (upd H2 x (.ins C dx (qF (Rat.divInt t b).num ((Rat.divInt t b).den : Int)))) := fun c o hc => by
    have n1 : c ≠ x := fun z => by rw [z, nx] at hc; cases hc
    have n2 : c ≠ dx := fun z => by rw [z, nd] at hc; cases hc
    rw [upd_ne n1]
    exact ex c o (by rw [upd_ne n1, upd_ne n2]; exact hc)
  refine q _ _ (h.eve ex2) ⟨x, dx, _, rfl, hd_of (h.notL nx) upd_same, rfl⟩
theorem ge_mk2 {t c : Int} (F : RatF X.prog X.w X.K X.mg X.base C) (hr : Room 3 X.A) (ha : GE X a Γ TL.rI (Is t)) (hb : GE X b Γ TL.rI (Is c)) (hG : Gs t c) (hg : Gl X "Ratio" := by rfl) (hs : starEach [a, b] X.env = (false, eval a X.env) :: starEach [b] X.env := by rfl)
    (hs2 : starEach [b] X.env = (false, eval b X.env) :: starEach [] X.env := by rfl) (hpl : (backTo pos (starEach [b] X.env)).any (·.1) = false := by rfl) : GE X (.Call (.Name "Ratio" p) [a, b] [] pos) Γ (rQ C) (Is (Rat.divInt t c)) := by
  obtain ⟨f, fd, M, G, ⟨ds, hds, hbi⟩, _⟩ := F.how
  refine ge_of (pe_make M G hr hg F.RC.O.m hbi hds pass0 pa_s (he := hs) (hpl := hpl)) fun σ H h Q q => ga_cons ha (ga1 hb hs2) hs σ H h _ fun vs H1 e1 z1 r => ?_
  obtain ⟨v, u, rfl, r1, r2⟩ := r.two
  cases (show _ = _ from r1); cases (show _ = _ from r2)
  intro x dx nx nd ne
  exact made_q (h.ev e1) nx nd hG (fun v H' ev rv => q _ v H' rfl (e1.trans ev) rv) ne
theorem ge_mk1 {t : Int} (F : RatF X.prog X.w X.K X.mg X.base C) (hr : Room 3 X.A) (ha : GE X a Γ TL.rI (Is t)) (hg : Gl X "Ratio" := by rfl) (hs : starEach [a] X.env = (false, eval a X.env) :: starEach [] X.env := by rfl) : GE X (.Call (.Name "Ratio" p) [a] [] pos) Γ (rQ C) (Is (t : Rat)) := by
  obtain ⟨f, fd, M, G, _, ⟨ds, hds, hbi⟩⟩ := F.how
  refine ge_of (pe_make M G hr hg F.RC.O.m hbi hds pass0 pa_s (he := hs) (hpl := by rfl)) fun σ H h Q q => ga1 ha hs σ H h _ fun vs H1 e1 z1 r => ?_
  obtain ⟨v, rfl, r1⟩ := r.one
  cases (show _ = _ from r1)
  intro x dx nx nd ne
  have hG : Gs t 1 := ⟨by decide, by rw [show (1 : Int).natAbs = 1 from rfl, Nat.gcd_one_right]; exact Nat.one_lt_two_pow (by decide)⟩
  exact made_q (h.ev e1) nx nd hG (fun v H' ev rv => q _ v H' (show (t : Rat) = (t : Rat) from rfl) (e1.trans ev) (by rw [divInt_one'] at rv; exact rv)) ne
end
end TW

namespace TW
open PySem PySem.Spec L2 TL
section
variable {Pg : Program} {w : World} {K : PySem.W.Frag} {mg : Str → Option Value} {base : Heap} {C : Addr}
theorem ge_isRatio {X : Cx} {Γ : TL.Env} {e : Expr} {pos p p2 : Pos} {x : Int ⊕ Rat} (hm : X.mg "isinstance" = none) (O : OwnC X.K X.mg "Ratio" C) (he : GE X e Γ (rIQ C) (Is x)) (hg2 : Gl X "Ratio" := by rfl)
    (hg : Gl X "isinstance" := by rfl) (hs : starEach [e, .Name "Ratio" p2] X.env = (false, eval e X.env) :: starEach [.Name "Ratio" p2] X.env := by rfl) (hs2 : starEach [.Name "Ratio" p2] X.env = (false, eval (.Name "Ratio" p2) X.env) :: starEach [] X.env := by rfl) (hpl : (backTo pos (starEach [.Name "Ratio" p2] X.env)).any (·.1) = false := by rfl) :
    GE X (.Call (.Name "isinstance" p) [e, .Name "Ratio" p2] [] pos) Γ rB (Is x.isRight) := by
  refine ge_isi hm he (pe_glob (v := .ref C) hg2 O.m rfl) (.own C) (fun L H v r => ?_) hg hs hs2 hpl
  cases x with
  | inl i => cases (show _ = _ from r); exact ⟨_, tyx_int, O.kInt⟩
  | inr q => exact ⟨_, tyx_ratio O (q := q) r, kit_self⟩
theorem sc_told_pair : FnScope ["value"] ["value"] (defScope (tp 20)) := ⟨rfl, rfl, rfl, by decide +kernel, rfl, by decide +kernel, by decide +kernel⟩
abbrev spToldPair (C : Addr) : Sp := spG (fun x : Int ⊕ Rat => [⟨rIQ C, x⟩]) (fun _ => True) (rP rI rI) (fun x => Is ((worth x).num, ((worth x).den : Int)))
theorem ok_told_pair (B : Blt mg) (RC : RatC K mg C) (G : Fn Pg w K mg base "is_integer" ["value"] 1 (spIsInteger C)) (D : Df K mg "told_pair" (tp 20) ["value"]) : Fn Pg w K mg base "told_pair" ["value"] 2 (spToldPair C) := by
  refine fn_df D sc_told_pair (fun _ => rfl) (by decide) fun x _ f cdv A outer s H E L hr => ?_
  refine gs_ifRet (gt_val (ge_isRatio B.isi RC.O (ge_var 0))) (fun z => ?_) (fun z => ?_)
  · cases x with
    | inl i => cases (show _ = _ from z)
    | inr q =>
      have v0 : ∀ {pos : Pos}, GE (cxOf CX0 Pg w K mg base ["value"] "told_pair" (defScope (tp 20)) f cdv A outer s H E).nox (.Name "value" pos) ⟨L, [], H, L, slotsOf [⟨rIQ C, Sum.inr q⟩] 1, []⟩ (rQ C) (Is q) := fun {pos} =>
        (ge_var 0 : GE (cxOf CX0 Pg w K mg base ["value"] "told_pair" (defScope (tp 20)) f cdv A outer s H E).nox (.Name "value" pos) ⟨L, [], H, L, slotsOf [⟨rIQ C, Sum.inr q⟩] 1, []⟩ (rIQ C) (Is (Sum.inr q))).re fun x v H p r => ⟨q, rfl, by cases (show _ = _ from p); exact r⟩
      exact gs_ret (ge_pair (ge_top RC.O.cl RC.nT v0) (ge_bot RC.O.cl RC.nB v0))
  · cases x with
    | inr q => cases (show _ = _ from z)
    | inl i =>
      refine gs_ifNever (Pc := Is false) (by refine gt_not (x := true) (gt_val ?_); exact ge_fn G hr (Sum.inl i) trivial (ga1 (ge_var 0))) (fun z => by cases (show _ = _ from z)) ?_
      have v0 : ∀ {pos : Pos}, GE (cxOf CX0 Pg w K mg base ["value"] "told_pair" (defScope (tp 20)) f cdv A outer s H E).nox (.Name "value" pos) ⟨L, [], H, L, slotsOf [⟨rIQ C, Sum.inl i⟩] 1, []⟩ rI (Is i) := fun {pos} =>
        (ge_var 0 : GE (cxOf CX0 Pg w K mg base ["value"] "told_pair" (defScope (tp 20)) f cdv A outer s H E).nox (.Name "value" pos) ⟨L, [], H, L, slotsOf [⟨rIQ C, Sum.inl i⟩] 1, []⟩ (rIQ C) (Is (Sum.inl i))).re fun x v H p r => ⟨i, rfl, by cases (show _ = _ from p); exact r⟩
      refine gs_ret ((ge_pair v0 ge_int).to ?_)
      show (i, 1) = ((i : Rat).num, (((i : Rat).den : Nat) : Int))
      rw [ic_num, ic_den]; rfl
theorem sc_is_number : FnScope ["value"] ["value"] (defScope (tp 21)) := ⟨rfl, rfl, rfl, by decide +kernel, rfl, by decide +kernel, by decide +kernel⟩
abbrev spIsNumber (C : Addr) : Sp := spG (fun x : Int ⊕ Rat => [⟨rIQ C, x⟩]) (fun _ => True) rB (fun _ => Is true)
theorem ok_is_number (B : Blt mg) (RC : RatC K mg C) (G : Fn Pg w K mg base "is_integer" ["value"] 1 (spIsInteger C)) (D : Df K mg "is_number" (tp 21) ["value"]) : Fn Pg w K mg base "is_number" ["value"] 2 (spIsNumber C) := by
  refine fn_df D sc_is_number (fun _ => rfl) (by decide) fun x _ f cdv A outer s H E L hr => ?_
  refine gs_ret (GE.to (x := x.isLeft || x.isRight) (ge_or ?_ fun _ => ge_bone (ge_isRatio B.isi RC.O (ge_var 0))) (by cases x <;> rfl))
  exact ge_fn G hr x trivial (ga1 (ge_var 0))
theorem sc_ratio_of : FnScope ["number"] ["number"] (defScope (tp 22)) := ⟨rfl, rfl, rfl, by decide +kernel, rfl, by decide +kernel, by decide +kernel⟩
abbrev spRatioOf (C : Addr) : Sp := spG (fun x : Int ⊕ Rat => [⟨rIQ C, x⟩]) (fun _ => True) (rQ C) (fun x => Is (worth x))
theorem ok_ratio_of (B : Blt mg) (F : RatF Pg w K mg base C) (D : Df K mg "ratio_of" (tp 22) ["number"]) : Fn Pg w K mg base "ratio_of" ["number"] 4 (spRatioOf C) := by
  refine fn_df D sc_ratio_of (fun _ => rfl) (by decide) fun x _ f cdv A outer s H E L hr => ?_
  refine gs_ret (ge_ifExp (gt_val (ge_isRatio B.isi F.RC.O (ge_var 0))) (fun z => ?_) (fun z => ?_))
  · cases x with
    | inl i => cases (show _ = _ from z)
    | inr q => exact (ge_var 0 (R := rIQ C) (x := Sum.inr q)).re fun x v H p r => ⟨q, rfl, by cases (show _ = _ from p); exact r⟩
  · cases x with
    | inr q => cases (show _ = _ from z)
    | inl i =>
      refine ge_mk1 F hr ?_
      exact (ge_var 0 (R := rIQ C) (x := Sum.inl i)).re fun x v H p r => ⟨i, rfl, by cases (show _ = _ from p); exact r⟩

def lcmD (rs : List Rat) : Nat := rs.foldl (fun b r => Nat.lcm b r.den) 1
def wholesR (rs : List Rat) : List Int := rs.map fun r => r.num * ((lcmD rs : Int) / (r.den : Int))
theorem lcmD_snoc (rs : List Rat) (r : Rat) : lcmD (rs ++ [r]) = Nat.lcm (lcmD rs) r.den := by
  unfold lcmD; rw [List.foldl_append]; rfl
theorem lcmD_dvd {n : Nat} : ∀ {rs : List Rat} {b : Nat}, b ∣ n → (∀ r ∈ rs, r.den ∣ n) → rs.foldl (fun b r => Nat.lcm b r.den) b ∣ n
  | [], _, hb, _ => hb
  | r :: rs, b, hb, h => lcmD_dvd (rs := rs) (Nat.lcm_dvd hb (h r List.mem_cons_self)) fun x m => h x (List.mem_cons_of_mem _ m)
theorem lcmD_6 {rs : List Rat} (h : ∀ r ∈ rs, r.den ∣ 6) : lcmD rs ∣ 6 := lcmD_dvd (Nat.one_dvd _) h
theorem dvd6_le {n : Nat} (h : n ∣ 6) : 0 < n ∧ n ≤ 6 := ⟨Nat.pos_of_dvd_of_pos h (by decide), Nat.le_of_dvd (by decide) h⟩
theorem sc_wholes : FnScope ["ratios", "bottom", "ratio"] ["ratios"] (defScope (tp 23)) := ⟨rfl, rfl, rfl, by decide +kernel, rfl, by decide +kernel, by decide +kernel⟩
/-- a number not too great -/
def Big (i : Int) : Prop := i.natAbs < 2 ^ 200000
theorem big_mul {i j : Int} (hi : Big i) (hj : Big j) : CMulX i j := mulx_ok hi hj (by decide)
theorem big_small {i : Int} (h : i.natAbs < 1000000) : Big i := Nat.lt_of_lt_of_le (Nat.lt_of_lt_of_le h (show 1000000 ≤ 2 ^ 20 by decide)) (Nat.pow_le_pow_right (by decide) (by decide))
abbrev spWholes (C : Addr) : Sp := spG (fun rs : List Rat => [⟨rL (rQ C), rs⟩]) (fun rs => ∀ r ∈ rs, r.den ∣ 6 ∧ Big r.num) (rP rI (rL rI)) (fun rs => Is ((lcmD rs : Int), wholesR rs))
theorem ok_wholes (B : Blt mg) (RC : RatC K mg C) (D : Df K mg "wholes" (tp 23) ["ratios"]) : Fn Pg w K mg base "wholes" ["ratios"] 1 (spWholes C) := by
  refine fn_df D sc_wholes (fun _ => rfl) (by decide) fun rs hrs f cdv A outer s H E L hr => ?_
  refine gs_setI 1 sc_wholes.nd ge_int ?_
  refine gs_for (fun i => [.val (rL (rQ C)) rs, .val rI (lcmD (rs.take i) : Int), .nil]) rfl PassesOwn.never (gi_list (ge_var 0)) (gg_name (n := 3) 2 sc_wholes.nd) (.keep (.keep (.keep .nil))) (fun _ => rfl) (fun gs i x hx => ?_) ?_
  · have hm := List.mem_of_getElem? hx
    have h1 := dvd6_le (lcmD_6 (rs := rs.take i) fun r m => (hrs r (List.mem_of_mem_take m)).1)
    have h2 := dvd6_le (hrs x hm).1
    refine gs_setI 1 sc_wholes.nd (ge_lcm B.lcm (ge_var 1) (ge_bot RC.O.cl RC.nB (ge_var 2)) (by omega)) (gs_end fun σ H hh => ?_)
    have e : rs.take (i + 1) = rs.take i ++ [x] := by rw [List.take_succ, hx]; rfl
    rw [e, lcmD_snoc]
    exact hh.less (.keep (.keep (.drop .nil)))
  · rw [List.take_length]
    have h1 := dvd6_le (lcmD_6 fun r m => (hrs r m).1)
    refine gs_ret (ge_pair (ge_var 1) (GF.ge ?_))
    refine gf_lc (own := [("ratio", 2)]) (fun r : Rat => r.num * ((lcmD rs : Int) / (r.den : Int))) rfl sc_wholes.nd (gi_list (ge_var 0)) (blkOk_by (N := ["ratios", "bottom", "ratio"]) (sc := defScope (tp 23)) (by decide +kernel)) (fun _ _ _ _ _ => gg_name (n := 3) 2 sc_wholes.nd) rfl (by decide) (fun D x hx _ _ _ _ _ => ?_)
    have h2 := dvd6_le (hrs x hx).1
    have h3 : (lcmD rs : Int) / (x.den : Int) ≤ 6 := by
      have := Int.ediv_le_self (x.den : Int) (show (0 : Int) ≤ (lcmD rs : Int) by omega)
      omega
    have h4 : 0 ≤ (lcmD rs : Int) / (x.den : Int) := Int.ediv_nonneg (by omega) (by omega)
    refine ge_mul (ge_top RC.O.cl RC.nT (ge_var 2)) (ge_fdiv (ge_var 1) (ge_bot RC.O.cl RC.nB (ge_var 2)) ?_) (big_mul (hrs x hx).2 (big_small (by omega)))
    exact ⟨by omega, PyProof.noPylong_small (by omega)⟩
end
end TW

namespace TW
open PySem PySem.Spec L2 TL

def Lt (n : Nat) (row : List Int) : Prop := ∀ x ∈ row, x.natAbs < 2 ^ n
def rowG (row : List Int) : Nat := row.foldl (fun c x => Nat.gcd c x.natAbs) 0
def bareR (row : List Int) : List Int := if 1 < rowG row then row.map fun x => x / (rowG row : Int) else row
def clearedR (row head : List Int) (p : Nat) : List Int :=
  if row.getD p 0 = 0 then row else bareR ((row.zip head).map fun x => head.getD p 0 * x.1 - row.getD p 0 * x.2)
def firstR (rows : List (List Int)) (p : Nat) : Option Nat := rows.findIdx? fun r => r.getD p 0 != 0
def firstI (rows : List (List Int)) (p : Nat) : Int := match firstR rows p with
  | some a => (a : Int)
  | none => -1
def headedR (row : List Int) (p : Nat) : List Int := if 0 < (bareR row).getD p 0 then bareR row else (bareR row).map fun x => 0 - x
def stepR (p : Nat) (s : List (List Int) × List (List Int)) : List (List Int) × List (List Int) :=
  match firstR s.1 p with
  | none => s
  | some k => ((s.1.take k ++ s.1.drop (k + 1)).map fun r => clearedR r (headedR (s.1.getD k []) p) p, (s.2.map fun r => clearedR r (headedR (s.1.getD k []) p) p) ++ [headedR (s.1.getD k []) p])
def wideR (rows : List (List Int)) : Nat := (rows.getD 0 []).length
def stepsR (rows : List (List Int)) (p : Nat) : List (List Int) × List (List Int) := (List.range p).foldl (fun s p => stepR p s) (rows, [])
def intSteps (rows : List (List Int)) : List (List Int) := (stepsR rows (wideR rows)).2
def headOf (row : List Int) : Nat := row.findIdx fun x => x != 0
def toldRows (rows : List (List Int)) : List (List Rat) := rows.map fun r => r.map fun x => Rat.divInt x (r.getD (headOf r) 0)

theorem getD_get {α : Type} {xs : List α} {p : Nat} {d : α} (h : p < xs.length) : xs[p]? = some (xs.getD p d) := by
  simp [List.getD, List.getElem?_eq_getElem h]
theorem getD_mem {α : Type} {xs : List α} {p : Nat} {d : α} (h : p < xs.length) : xs.getD p d ∈ xs := List.mem_of_getElem? (getD_get h)
theorem rowG_from {n : Nat} : ∀ {row : List Int} {c : Nat}, c < 2 ^ n → Lt n row → row.foldl (fun c x => Nat.gcd c x.natAbs) c < 2 ^ n
  | [], _, hc, _ => hc
  | x :: row, c, hc, h => by
    refine rowG_from (row := row) ?_ fun y m => h y (List.mem_cons_of_mem _ m)
    show Nat.gcd c x.natAbs < 2 ^ n
    by_cases hx : x.natAbs = 0
    · rw [hx, Nat.gcd_zero_right]; exact hc
    · exact Nat.lt_of_le_of_lt (Nat.gcd_le_right _ (Nat.pos_of_ne_zero hx)) (h x List.mem_cons_self)
theorem rowG_lt {n : Nat} {row : List Int} (h : Lt n row) : rowG row < 2 ^ n := rowG_from (Nat.two_pow_pos n) h
theorem rowG_snoc (r : List Int) (x : Int) : rowG (r ++ [x]) = Nat.gcd (rowG r) x.natAbs := by unfold rowG; rw [List.foldl_append]; rfl
theorem Lt.mono {n m : Nat} {r : List Int} (h : Lt n r) (k : n ≤ m) : Lt m r := fun x hx => Nat.lt_of_lt_of_le (h x hx) (Nat.pow_le_pow_right (by decide) k)
theorem ediv_natAbs_le (x : Int) (g : Nat) : (x / (g : Int)).natAbs ≤ x.natAbs := by
  rcases Nat.eq_zero_or_pos g with h | h
  · subst h; simp
  · have h1 := Int.natAbs_ediv_le_natAbs x (g : Int)
    exact h1
theorem Lt.bare {n : Nat} {r : List Int} (h : Lt n r) : Lt n (bareR r) := by
  unfold bareR
  split
  · intro y hy
    obtain ⟨x, hx, rfl⟩ := List.mem_map.mp hy
    exact Nat.lt_of_le_of_lt (ediv_natAbs_le _ _) (h x hx)
  · exact h
theorem bareR_len (r : List Int) : (bareR r).length = r.length := by
  unfold bareR; split <;> simp
theorem Lt.headed {n p : Nat} {r : List Int} (h : Lt n r) : Lt n (headedR r p) := by
  unfold headedR
  split
  · exact h.bare
  · intro y hy
    obtain ⟨x, hx, rfl⟩ := List.mem_map.mp hy
    have := h.bare x hx
    omega
theorem headedR_len (r : List Int) (p : Nat) : (headedR r p).length = r.length := by
  unfold headedR; split <;> simp [bareR_len]
theorem natAbs_mulsub_lt {a b c d : Int} {n m : Nat} (ha : a.natAbs < 2 ^ n) (hb : b.natAbs < 2 ^ m) (hc : c.natAbs < 2 ^ n) (hd : d.natAbs < 2 ^ m) : (a * b - c * d).natAbs < 2 ^ (n + m + 1) := by
  have h1 : (a * b).natAbs < 2 ^ (n + m) := by rw [Int.natAbs_mul, Nat.pow_add]; exact Nat.mul_lt_mul'' ha hb
  have h2 : (c * d).natAbs < 2 ^ (n + m) := by rw [Int.natAbs_mul, Nat.pow_add]; exact Nat.mul_lt_mul'' hc hd
  rw [Nat.pow_succ]
  omega
theorem lt_getD {n : Nat} {r : List Int} (h : Lt n r) {p : Nat} (hp : p < r.length) : (r.getD p 0).natAbs < 2 ^ n := h _ (getD_mem hp)
theorem Big.of_lt {n : Nat} {x : Int} (h : x.natAbs < 2 ^ n) (k : n ≤ 200000) : Big x := Nat.lt_of_lt_of_le h (Nat.pow_le_pow_right (by decide) k)
theorem zip_len {α β : Type} {xs : List α} {ys : List β} {x : α × β} (h : x ∈ xs.zip ys) : x.1 ∈ xs ∧ x.2 ∈ ys := List.of_mem_zip h

section
variable {X : Cx} {Γ : TL.Env} {e a b : Expr} {pos : Pos} {α : Type} {R : Rp α}
theorem ge_ixN {xs : List α} {p : Nat} {d : α} (ha : GE X a Γ (rL R) (Is xs)) (hb : GE X b Γ rNat (Is p)) (hp : p < xs.length) (hs : PlainIx b := by exact fun _ _ => rfl) : GE X (.Subscript a b pos) Γ R (Is (xs.getD p d)) :=
  ge_ix ha (ge_nat hb) rfl (getD_get hp) hs
theorem gs_forF {τ β : Type} {T : Rp τ} {S : Rp β} {P : β → Prop} {N : L2.St → Hp → Prop} {tg it : Expr} {body rest : List Stmt} {is : List Nat} {ap : τ → List Slot → List Slot} {n : Nat} {xs : List τ} (F : Nat → Prop) (G : Nat → List Slot) (hc : X.calm = true) (hx : PassesOwn (model X.prog X.w) X.A X.env X.xe) (hi : GI X tg it Γ T (Is xs)) (hg : GG X tg T is ap n)
    (h0 : Fewer (G 0) Γ.s) (f0 : F 0) (hn : ∀ i, (G i).length = n)
    (hs : ∀ gs i x, xs[i]? = some x → F i → GS X body { Γ with s := ap x (G i), g := gs ++ Γ.g } S P fun σ H => F (i + 1) ∧ Has { Γ with s := G (i + 1), g := gs ++ Γ.g } σ H)
    (hd : F xs.length → GS X rest { Γ with s := G xs.length } S P N) (hfs : ∀ x, foldedSetIterable it X.env x = pure x := by intro _; rfl) : GS X (.For tg it body [] pos :: rest) Γ S P N :=
  gs_forP (fun _ i ss => ss = G i ∧ F i) hc hx hi hg (fun ys _ => ⟨_, ⟨rfl, f0⟩, h0⟩) (fun ys i ss _ e => by rw [e.1]; exact hn i) (fun gs ys i x ss py hxi e => by
    cases (show _ = _ from py)
    obtain ⟨rfl, e2⟩ := e
    exact (hs gs i x hxi e2).more fun σ H hh => ⟨_, ⟨rfl, hh.1⟩, hh.2⟩) (fun ys ss py e => by cases (show _ = _ from py); obtain ⟨rfl, e2⟩ := e; exact hd e2) hfs
theorem ge_some {x : α} (h : GE X e Γ R (Is x)) : GE X e Γ (rO R) (Is (some x)) := h.re fun y v H p r => ⟨_, rfl, by cases (show _ = _ from p); exact r⟩
end

section
variable {Pg : Program} {w : World} {K : PySem.W.Frag} {mg : Str → Option Value} {base : Heap} {C : Addr}
abbrev N_bare_row : List Str := ["row", "common", "number"]
abbrev S_bare_row : Stmt := tp 26
theorem sc_bare_row : FnScope N_bare_row ["row"] (defScope S_bare_row) := ⟨rfl, rfl, rfl, by decide +kernel, rfl, by decide +kernel, by decide +kernel⟩
abbrev spBareRow : Sp := spG (fun r : List Int => [⟨rL rI, r⟩]) (fun r => Lt 9000 r) (rL rI) (fun r => Is (bareR r))
theorem ok_bare_row (G : Fn Pg w K mg base "divisor_of" ["one", "other"] 1 (spDivisorOf)) (D : Df K mg "bare_row" (tp 26) ["row"]) : Fn Pg w K mg base "bare_row" ["row"] 2 (spBareRow) := by
  refine fn_df D sc_bare_row (fun _ => rfl) (by decide) fun r hr0 f cdv A outer s H E L hr => ?_
  refine gs_setI 1 sc_bare_row.nd ge_int ?_
  refine gs_for (fun i => [.val (rL rI) r, .val rI (rowG (r.take i) : Int), .nil]) rfl PassesOwn.never (gi_list (ge_var 0)) (gg_name (n := 3) 2 sc_bare_row.nd) (.keep (.keep (.keep .nil))) (fun _ => rfl) (fun gs i x hx => ?_) ?_
  · have e : r.take (i + 1) = r.take i ++ [x] := by rw [List.take_succ, hx]; rfl
    refine gs_if (ι := PUnit) (fun _ => ⟨L, [], H, L, [.val (rL rI) r, .val rI (rowG (r.take (i + 1)) : Int), .val rI x], gs ++ []⟩) (gt_ne (ge_var 2) ge_int) (fun z => ?_) (fun z => ?_) (fun _ => ?_) (fun _ => ⟨rfl, rfl, rfl⟩)
    · refine gs_setI 1 sc_bare_row.nd (by exact ge_fn G hr ((rowG (r.take i) : Int), x) trivial (ga_cons (ge_var 1) (ga1 (ge_var 2)))) (gs_end fun σ H hh => ⟨⟨⟩, ?_⟩)
      rw [e, rowG_snoc]; exact hh
    · refine gs_end fun σ H hh => ⟨⟨⟩, ?_⟩
      have z2 : x = 0 := by
        have : false = !decide (x = 0) := z
        simpa using this.symm
      rw [e, rowG_snoc, show x.natAbs = 0 by rw [z2]; rfl, Nat.gcd_zero_right]; exact hh
    · exact gs_end fun σ H hh => hh.less (.keep (.keep (.drop .nil)))
  · rw [List.take_length]
    refine gs_ret (ge_ifExp (gt_gt (ge_var 1) ge_int) (fun z => ?_) (fun z => ?_))
    · have hg : 1 < rowG r := by
        have := of_decide_eq_true (show true = decide ((1 : Int) < (rowG r : Int)) from z).symm
        omega
      refine GF.ge ?_
      refine GF.to (x := r.map fun x => x / (rowG r : Int)) ?_ (if_pos hg).symm
      refine gf_lc (own := [("number", 2)]) (fun x : Int => x / (rowG r : Int)) rfl sc_bare_row.nd (gi_list (ge_var 0)) (blkOk_by (N := N_bare_row) (sc := defScope S_bare_row) (by decide +kernel)) (fun _ _ _ _ _ => (gg_name (n := 3) 2 sc_bare_row.nd)) rfl (by decide) (fun D x hx _ _ _ _ _ => ?_)
      refine ge_fdiv (ge_var 2) (ge_var 1) ⟨by omega, PyProof.noPylong_of_log2 (PySem.Flt.log2_lt_of (by decide) ?_)⟩
      exact rowG_lt hr0
    · have hg : ¬ 1 < rowG r := by
        have := of_decide_eq_false (show false = decide ((1 : Int) < (rowG r : Int)) from z).symm
        omega
      exact (ge_var 0).to (if_neg hg).symm
abbrev N_cleared : List Str := ["row", "head", "place", "near", "far"]
abbrev S_cleared : Stmt := tp 27
theorem sc_cleared : FnScope N_cleared ["row", "head", "place"] (defScope S_cleared) := ⟨rfl, rfl, rfl, by decide +kernel, rfl, by decide +kernel, by decide +kernel⟩
abbrev spCleared : Sp := spG (fun x : List Int × List Int × Nat => [⟨rL rI, x.1⟩, ⟨rL rI, x.2.1⟩, ⟨rNat, x.2.2⟩]) (fun x => Lt 4400 x.1 ∧ Lt 4400 x.2.1 ∧ x.2.2 < x.1.length ∧ x.2.2 < x.2.1.length) (rL rI) (fun x => Is (clearedR x.1 x.2.1 x.2.2))
theorem ok_cleared (B : Blt mg) (G : Fn Pg w K mg base "bare_row" ["row"] 2 (spBareRow)) (D : Df K mg "cleared" (tp 27) ["row", "head", "place"]) : Fn Pg w K mg base "cleared" ["row", "head", "place"] 3 (spCleared) := by
  refine fn_df D sc_cleared (fun _ => rfl) (by decide) fun x hx0 f cdv A outer s H E L hr => ?_
  obtain ⟨row, head, p⟩ := x
  obtain ⟨h1, h2, h3, h4⟩ : Lt 4400 row ∧ Lt 4400 head ∧ p < row.length ∧ p < head.length := hx0
  refine gs_ifRet (gt_eq (ge_ixN (d := 0) (ge_var 0 (R := rL rI) (x := row)) (ge_var 2 (R := rNat) (x := p)) h3) ge_int) (fun z => ?_) (fun z => ?_)
  · have z2 : row.getD p 0 = 0 := of_decide_eq_true (show true = decide (row.getD p 0 = 0) from z).symm
    exact gs_ret ((ge_var 0).to (if_pos z2).symm)
  · have z2 : ¬ row.getD p 0 = 0 := of_decide_eq_false (show false = decide (row.getD p 0 = 0) from z).symm
    refine gs_ret (GE.to (x := bareR ((row.zip head).map fun x => head.getD p 0 * x.1 - row.getD p 0 * x.2)) ?_ (if_neg z2).symm)
    refine ge_fn G hr ((row.zip head).map fun x => head.getD p 0 * x.1 - row.getD p 0 * x.2) ?_ (ga1 (GF.ge ?_))
    · intro y hy
      obtain ⟨⟨a, b⟩, hab, rfl⟩ := List.mem_map.mp hy
      have hz := zip_len hab
      exact Nat.lt_of_lt_of_le (natAbs_mulsub_lt (lt_getD h2 h4) (h1 _ hz.1) (lt_getD h1 h3) (h2 _ hz.2)) (Nat.pow_le_pow_right (by decide) (by decide))
    · refine gf_lc (own := [("near", 3), ("far", 4)]) (fun x : Int × Int => head.getD p 0 * x.1 - row.getD p 0 * x.2) rfl sc_cleared.nd (gi_zip (by exact B.zip) (by exact ga_cons (ge_var 0) (ga1 (ge_var 1)))) (blkOk_by (N := N_cleared) (sc := defScope S_cleared) (by decide +kernel)) (fun _ _ _ _ _ => (gg_pair rfl (gg_name (n := 5) 3 sc_cleared.nd) (gg_name (n := 5) 4 sc_cleared.nd))) rfl (by decide) (fun D x hx _ _ _ _ _ => ?_)
      have hz := zip_len hx
      refine ge_sub (ge_mul (ge_ixN (d := 0) (ge_var 1 (R := rL rI) (x := head)) (ge_var 2 (R := rNat) (x := p)) h4) (ge_var 3) ?_) (ge_mul (ge_ixN (d := 0) (ge_var 0 (R := rL rI) (x := row)) (ge_var 2 (R := rNat) (x := p)) h3) (ge_var 4) ?_)
      · exact big_mul (Big.of_lt (lt_getD h2 h4) (by decide)) (Big.of_lt (h1 _ hz.1) (by decide))
      · exact big_mul (Big.of_lt (lt_getD h1 h3) (by decide)) (Big.of_lt (h2 _ hz.2) (by decide))

theorem find_none {α : Type} {p : α → Bool} {xs : List α} (h : ∀ (i : Nat) (x : α), xs[i]? = some x → p x = false) : xs.findIdx? p = none := by
  rw [List.findIdx?_eq_none_iff]
  intro x hx
  obtain ⟨i, hi⟩ := List.getElem?_of_mem hx
  exact h i x hi
theorem find_some {α : Type} {p : α → Bool} {xs : List α} {k : Nat} {x : α} (hx : xs[k]? = some x) (hp : p x = true) (h : ∀ (i : Nat) (y : α), i < k → xs[i]? = some y → p y = false) : xs.findIdx? p = some k := by
  rw [List.findIdx?_eq_some_iff_getElem]
  obtain ⟨hk, e⟩ := List.getElem?_eq_some_iff.mp hx
  refine ⟨hk, by rw [e]; exact hp, fun j hj => ?_⟩
  have := h j xs[j] hj (List.getElem?_eq_getElem (by omega))
  simp [this]
theorem enum_at {α : Type} {xs : List α} {i k : Nat} {x : α} (h : (enumL xs)[i]? = some (k, x)) : k = i ∧ xs[i]? = some x := by
  unfold enumL at h
  rw [List.getElem?_zip_eq_some] at h
  obtain ⟨h1, h2⟩ := h
  refine ⟨?_, h2⟩
  have := List.getElem?_eq_some_iff.mp h1
  obtain ⟨_, e⟩ := this
  simpa using e.symm
theorem enum_len {α : Type} (xs : List α) : (enumL xs).length = xs.length := by simp [enumL]
abbrev N_first_at : List Str := ["rows", "place", "at", "row"]
abbrev S_first_at : Stmt := tp 28
theorem sc_first_at : FnScope N_first_at ["rows", "place"] (defScope S_first_at) := ⟨rfl, rfl, rfl, by decide +kernel, rfl, by decide +kernel, by decide +kernel⟩
abbrev spFirstAt : Sp := spG (fun x : List (List Int) × Nat => [⟨rL (rL rI), x.1⟩, ⟨rNat, x.2⟩]) (fun x => ∀ r ∈ x.1, x.2 < r.length) rI (fun x => Is (firstI x.1 x.2))
theorem ok_first_at (B : Blt mg) (D : Df K mg "first_at" (tp 28) ["rows", "place"]) : Fn Pg w K mg base "first_at" ["rows", "place"] 1 (spFirstAt) := by
  refine fn_df D sc_first_at (fun _ => rfl) (by decide) fun x hx0 f cdv A outer s H E L hr => ?_
  obtain ⟨rows, p⟩ := x
  have hx1 : ∀ r ∈ rows, p < r.length := hx0
  refine gs_forF (fun i => ∀ (j : Nat) (y : List Int), j < i → rows[j]? = some y → (y.getD p 0 != 0) = false) (fun i => [.val (rL (rL rI)) rows, .val rNat p, .nil, .nil]) rfl PassesOwn.never (gi_enum (by exact B.enum) (ge_var 0 (x := rows))) (gg_pair rfl (gg_name (n := 4) 2 sc_first_at.nd) (gg_name (n := 4) 3 sc_first_at.nd)) (.keep (.keep (.keep (.keep .nil)))) (fun j y hj => by omega) (fun _ => rfl) (fun gs i z hzi hj => ?_) (fun hj => ?_)
  · obtain ⟨k, row⟩ := z
    obtain ⟨rfl, hr1⟩ := enum_at hzi
    have hm := List.mem_of_getElem? hr1
    refine gs_ifRet (gt_ne (ge_ixN (d := 0) (ge_var 3 (R := rL rI) (x := row)) (ge_var 1 (R := rNat) (x := p)) (hx1 _ hm)) ge_int) (fun z => ?_) (fun z => ?_)
    · have z2 : ¬ row.getD p 0 = 0 := by
        have : true = !decide (row.getD p 0 = 0) := z
        simpa using this.symm
      refine gs_ret ((ge_nat (ge_var 2 (R := rNat) (x := k))).to ?_)
      have : firstR rows p = some k := find_some hr1 (by simpa using z2) hj
      unfold firstI; rw [this]
    · have z2 : row.getD p 0 = 0 := by
        have : false = !decide (row.getD p 0 = 0) := z
        simpa using this.symm
      refine gs_end fun σ H hh => ⟨fun j y hj' hy => ?_, hh.less (.keep (.keep (.drop (.drop .nil))))⟩
      by_cases hjk : j = k
      · subst hjk
        rw [hr1] at hy; cases hy
        simpa using z2
      · exact hj j y (by omega) hy
  · refine gs_ret (GE.to (x := -1) (ge_neg ge_int) ?_)
    have : firstR rows p = none := find_none fun i y hy => hj i y (by rw [enum_len]; exact (List.getElem?_eq_some_iff.mp hy).1) hy
    unfold firstI; rw [this]
abbrev N_headed_row : List Str := ["row", "place", "found", "number"]
abbrev S_headed_row : Stmt := tp 29
theorem sc_headed_row : FnScope N_headed_row ["row", "place"] (defScope S_headed_row) := ⟨rfl, rfl, rfl, by decide +kernel, rfl, by decide +kernel, by decide +kernel⟩
abbrev spHeadedRow : Sp := spG (fun x : List Int × Nat => [⟨rL rI, x.1⟩, ⟨rNat, x.2⟩]) (fun x => Lt 9000 x.1 ∧ x.2 < x.1.length) (rL rI) (fun x => Is (headedR x.1 x.2))
theorem ok_headed_row (G : Fn Pg w K mg base "bare_row" ["row"] 2 (spBareRow)) (D : Df K mg "headed_row" (tp 29) ["row", "place"]) : Fn Pg w K mg base "headed_row" ["row", "place"] 3 (spHeadedRow) := by
  refine fn_df D sc_headed_row (fun _ => rfl) (by decide) fun x hx0 f cdv A outer s H E L hr => ?_
  obtain ⟨row, p⟩ := x
  obtain ⟨h1, h2⟩ : Lt 9000 row ∧ p < row.length := hx0
  refine gs_setI 2 sc_headed_row.nd (by exact ge_fn G hr row h1 (ga1 (ge_var 0))) ?_
  refine gs_ret (ge_ifExp (gt_gt (ge_ixN (d := 0) (ge_var 2 (R := rL rI) (x := bareR row)) (ge_var 1 (R := rNat) (x := p)) (by rw [bareR_len]; exact h2)) ge_int) (fun z => ?_) (fun z => ?_))
  · have z2 := of_decide_eq_true (show true = decide (0 < (bareR row).getD p 0) from z).symm
    exact (ge_var 2).to (if_pos z2).symm
  · have z2 := of_decide_eq_false (show false = decide (0 < (bareR row).getD p 0) from z).symm
    refine GF.ge (GF.to (x := (bareR row).map fun x => 0 - x) ?_ (if_neg z2).symm)
    refine gf_lc (own := [("number", 3)]) (fun x : Int => 0 - x) rfl sc_headed_row.nd (gi_list (ge_var 2)) (blkOk_by (N := N_headed_row) (sc := defScope S_headed_row) (by decide +kernel)) (fun _ _ _ _ _ => (gg_name (n := 4) 3 sc_headed_row.nd)) rfl (by decide) (fun D x hx _ _ _ _ _ => ?_)
    exact ge_sub ge_int (ge_var 3)
abbrev N_head_of : List Str := ["row", "place"]
abbrev S_head_of : Stmt := tp 31
theorem sc_head_of : FnScope N_head_of ["row"] (defScope S_head_of) := ⟨rfl, rfl, rfl, by decide +kernel, rfl, by decide +kernel, by decide +kernel⟩
abbrev spHeadOf : Sp := spG (fun r : List Int => [⟨rL rI, r⟩]) (fun r => ∃ x ∈ r, x ≠ 0) rI (fun r => Is (headOf r : Int))
theorem headOf_lt {r : List Int} (h : ∃ x ∈ r, x ≠ 0) : headOf r < r.length := by
  unfold headOf
  rw [List.findIdx_lt_length]
  obtain ⟨x, hx, hn⟩ := h
  exact ⟨x, hx, by simpa using hn⟩
theorem ok_head_of (D : Df K mg "head_of" (tp 31) ["row"]) : Fn Pg w K mg base "head_of" ["row"] 1 (spHeadOf) := by
  refine fn_df D sc_head_of (fun _ => rfl) (by decide) fun r h0 f cdv A outer s H E L hr => ?_
  have hl := headOf_lt h0
  refine gs_setI 1 sc_head_of.nd ge_int ?_
  refine gs_while (fun m ss => ∃ k, k ≤ headOf r ∧ m = headOf r - k ∧ ss = [.val (rL rI) r, .val rI ((k : Nat) : Int)]) PassesOwn.never (headOf r) ⟨0, Nat.zero_le _, rfl, rfl⟩ (.keep (.keep .nil)) (fun m ss hG => ?_)
  obtain ⟨k, hk, rfl, rfl⟩ := hG
  refine ⟨Is (decide (r.getD k 0 = 0)), gt_eq (ge_ix (ge_var 0 (R := rL rI) (x := r)) (ge_var 1) rfl (getD_get (by omega))) ge_int, fun z => ?_, fun z => ?_⟩
  · have z2 : r.getD k 0 = 0 := of_decide_eq_true (show true = decide (r.getD k 0 = 0) from z).symm
    have hne : k ≠ headOf r := fun e => by
      have h1 : (r[headOf r]'hl != 0) = true := List.findIdx_getElem (w := hl)
      have h2 : r.getD k 0 = r[headOf r]'hl := by
        subst e
        simp [List.getD, List.getElem?_eq_getElem hl]
      rw [← h2, z2] at h1
      simp at h1
    refine gs_setI (x := ((k + 1 : Nat) : Int)) 1 sc_head_of.nd ((ge_add (ge_var 1) ge_int).to (by omega)) (gs_end fun σ H hh => ⟨headOf r - (k + 1), _, by omega, ⟨k + 1, by omega, rfl, rfl⟩, hh⟩)
  · have z2 : ¬ r.getD k 0 = 0 := of_decide_eq_false (show false = decide (r.getD k 0 = 0) from z).symm
    refine gs_ret ((ge_var 1).to ?_)
    have : k = headOf r := by
      rcases Nat.lt_or_ge k (headOf r) with h | h
      · exfalso
        have h1 := List.not_of_lt_findIdx h
        apply z2
        simp [List.getD, List.getElem?_eq_getElem (show k < r.length by omega)]
        simpa using h1
      · omega
    rw [← this]
end
end TW

namespace TW
open PySem PySem.Spec L2 TL
theorem cut_take {α : Type} (xs : List α) (k : Nat) : cut xs none (some (k : Int)) = xs.take k := by
  unfold cut
  rw [HT.sIx_nat, HT.sIx_none]
  simp only [List.drop_zero, Nat.sub_zero]
  rcases Nat.le_total k xs.length with h | h
  · rw [Nat.min_eq_left h]
  · rw [Nat.min_eq_right h, List.take_length, List.take_of_length_le h]
theorem cut_drop {α : Type} (xs : List α) (k : Nat) : cut xs (some (k : Int)) none = xs.drop k := by
  unfold cut
  rw [HT.sIx_nat, HT.sIx_none]
  rcases Nat.le_total k xs.length with h | h
  · rw [Nat.min_eq_left h, List.take_of_length_le (by simp)]
  · rw [Nat.min_eq_right h, Nat.sub_self, List.take_zero, List.drop_eq_nil_of_le h]
theorem stepsR_succ (rows : List (List Int)) (p : Nat) : stepsR rows (p + 1) = stepR p (stepsR rows p) := by
  unfold stepsR
  rw [List.range_succ, List.foldl_append]
  rfl
theorem range_at {n i x : Nat} (h : (List.range n)[i]? = some x) : x = i ∧ i < n := by
  obtain ⟨h1, h2⟩ := List.getElem?_eq_some_iff.mp h
  rw [List.length_range] at h1
  rw [List.getElem_range] at h2
  exact ⟨h2.symm, h1⟩
def OkSteps (rows : List (List Int)) : Prop := rows.length < 1000 ∧ wideR rows < 1000 ∧ ∀ p, p < wideR rows → ∀ r ∈ (stepsR rows p).1 ++ (stepsR rows p).2, r.length = wideR rows ∧ Lt 4400 r
theorem stepR_len (p : Nat) (s : List (List Int) × List (List Int)) : (stepR p s).1.length + (stepR p s).2.length = s.1.length + s.2.length := by
  unfold stepR
  split
  · rfl
  · rename_i k hk
    have : k < s.1.length := by
      unfold firstR at hk
      rw [List.findIdx?_eq_some_iff_getElem] at hk
      exact hk.1
    simp
    omega
theorem stepsR_len (rows : List (List Int)) : ∀ p, (stepsR rows p).1.length + (stepsR rows p).2.length = rows.length
  | 0 => by simp [stepsR]
  | p + 1 => by rw [stepsR_succ, stepR_len]; exact stepsR_len rows p
section
variable {Pg : Program} {w : World} {K : PySem.W.Frag} {mg : Str → Option Value} {base : Heap} {C : Addr}
abbrev N_ints_of : List Str := ["rows", "row"]
abbrev S_ints_of : Stmt := tp 25
theorem sc_ints_of : FnScope N_ints_of ["rows"] (defScope S_ints_of) := ⟨rfl, rfl, rfl, by decide +kernel, rfl, by decide +kernel, by decide +kernel⟩
abbrev spIntsOf (C : Addr) : Sp := spG (fun x : List (List Rat) => [⟨rL (rL (rQ C)), x⟩]) (fun x => ∀ r ∈ x, ∀ q ∈ r, q.den ∣ 6 ∧ Big q.num) (rL (rL rI)) (fun x => Is (x.map wholesR))
theorem ok_ints_of (G : Fn Pg w K mg base "wholes" ["ratios"] 1 (spWholes C)) (D : Df K mg "ints_of" (tp 25) ["rows"]) : Fn Pg w K mg base "ints_of" ["rows"] 2 (spIntsOf C) := by
  refine fn_df D sc_ints_of (fun _ => rfl) (by decide) fun x hx0 f cdv A outer s H E L hr => ?_
  refine gs_ret (GF.ge ?_)
  refine gf_lc (own := [("row", 1)]) wholesR rfl sc_ints_of.nd (gi_list (ge_var 0)) (blkOk_by (N := N_ints_of) (sc := defScope S_ints_of) (by decide +kernel)) (fun _ _ _ _ _ => (gg_name (n := 2) 1 sc_ints_of.nd)) rfl (by decide) (fun D r hr1 _ _ _ _ _ => ?_)
  exact ge_ix1 (R := rI) (x := ((lcmD r : Int), wholesR r)) (by exact gfn G hr r (hx0 r hr1) (ga1 (ge_var 1)))
abbrev N_int_steps : List Str := ["rows", "place", "left", "found", "at", "head", "others", "row"]
abbrev S_int_steps : Stmt := tp 30
theorem sc_int_steps : FnScope N_int_steps ["rows"] (defScope S_int_steps) := ⟨rfl, rfl, rfl, by decide +kernel, rfl, by decide +kernel, by decide +kernel⟩
abbrev spIntSteps : Sp := spG (fun x : List (List Int) => [⟨rL (rL rI), x⟩]) OkSteps (rL (rL rI)) (fun x => Is (intSteps x))
theorem ok_int_steps (B : Blt mg) (GF1 : Fn Pg w K mg base "first_at" ["rows", "place"] 1 (spFirstAt)) (GH : Fn Pg w K mg base "headed_row" ["row", "place"] 3 (spHeadedRow)) (GC : Fn Pg w K mg base "cleared" ["row", "head", "place"] 3 (spCleared)) (D : Df K mg "int_steps" (tp 30) ["rows"]) : Fn Pg w K mg base "int_steps" ["rows"] 4 (spIntSteps) := by
  refine fn_df D sc_int_steps (fun _ => rfl) (by decide) fun rows ok0 f cdv A outer s H E L hr => ?_
  obtain ⟨hz, hw, hok⟩ := ok0
  refine gs_parVO (R := rL (rL rI)) (T := rL rI) (x := rows) (ys := []) 2 3 rfl sc_int_steps.nd (ge_var 0) gf_nil (fun l hl => ?_)
  refine gs_froze1 (R := rL rI) (xs := []) 3 rfl rfl hl ?_
  refine gs_for (T := rNat) (xs := List.range (wideR rows)) (fun p => [.val (rL (rL rI)) rows, .nil, .val (rL (rL rI)) (stepsR rows p).1, .val (rL (rL rI)) (stepsR rows p).2, .nil, .nil, .nil, .nil]) rfl PassesOwn.never ?_ (gg_name (n := 8) 1 sc_int_steps.nd) (.keep (.keep (.keep (.keep (.keep (.keep (.keep (.keep .nil)))))))) (fun _ => rfl) (fun gs p x hx => ?_) ?_
  · refine gi_range (Pn := Is (wideR rows : Int)) B.range ?_ (fun n pn => ?_)
    · refine ge_ifExp (gt_gt (ge_len (xs := rows) B.len (ge_var 0)) ge_int) (fun z => ?_) (fun z => ?_)
      · have z2 := of_decide_eq_true (show true = decide ((0 : Int) < (rows.length : Int)) from z).symm
        exact (ge_len (xs := rows.getD 0 []) B.len (ge_ix (xs := rows) (k := 0) (ge_var 0) ge_int rfl (getD_get (by omega))))
      · have z2 := of_decide_eq_false (show false = decide ((0 : Int) < (rows.length : Int)) from z).symm
        refine ge_int.to ?_
        have : rows = [] := List.length_eq_zero_iff.mp (by omega)
        subst this
        rfl
    · cases (show _ = _ from pn)
      exact ⟨by omega, by omega, by rw [Int.toNat_natCast]; rfl⟩
  · obtain ⟨rfl, hp⟩ := range_at hx
    have ok1 := hok x hp
    have hlen := stepsR_len rows x
    generalize hs : stepsR rows x = S at ok1 hlen
    obtain ⟨l, f⟩ := S
    have okl : ∀ r ∈ l, r.length = wideR rows ∧ Lt 4400 r := fun r m => ok1 r (List.mem_append_left _ m)
    have okf : ∀ r ∈ f, r.length = wideR rows ∧ Lt 4400 r := fun r m => ok1 r (List.mem_append_right _ m)
    have hlen' : l.length + f.length = rows.length := hlen
    refine gs_setI 4 sc_int_steps.nd (by exact gfn GF1 hr (l, x) (fun r m => by rw [(okl r m).1]; exact hp) (ga_cons (ge_var 2) (ga1 (ge_var 1)))) ?_
    refine gs_if (ι := PUnit) (fun _ => ⟨L, [], H, L, [.val (rL (rL rI)) rows, .nil, .val (rL (rL rI)) (stepsR rows (x + 1)).1, .val (rL (rL rI)) (stepsR rows (x + 1)).2, .nil, .nil, .nil, .nil], gs ++ []⟩) (gt_ge (ge_var 4) ge_int) (fun z => ?_) (fun z => ?_) (fun _ => ?_) (fun _ => ⟨rfl, rfl, rfl⟩)
    · have z2 := of_decide_eq_true (show true = decide (0 ≤ firstI l x) from z).symm
      obtain ⟨k, hk⟩ : ∃ k, firstR l x = some k := by
        cases h : firstR l x with
        | none => unfold firstI at z2; rw [h] at z2; exact absurd z2 (by decide)
        | some k => exact ⟨k, rfl⟩
      have hI : firstI l x = (k : Int) := by unfold firstI; rw [hk]
      have hkl : k < l.length := by
        unfold firstR at hk
        rw [List.findIdx?_eq_some_iff_getElem] at hk
        exact hk.1
      have okk := okl _ (getD_mem (d := []) hkl)
      have eS : stepsR rows (x + 1) = ((l.take k ++ l.drop (k + 1)).map fun r => clearedR r (headedR (l.getD k []) x) x, (f.map fun r => clearedR r (headedR (l.getD k []) x) x) ++ [headedR (l.getD k []) x]) := by
        rw [stepsR_succ, hs]
        unfold stepR
        simp only
        rw [hk]
      rw [eS, hI]
      have okh : Lt 4400 (headedR (l.getD k []) x) := okk.2.headed
      have okhl : (headedR (l.getD k []) x).length = wideR rows := by rw [headedR_len]; exact okk.1
      refine gs_setI 5 sc_int_steps.nd (by exact gfn GH hr (l.getD k [], x) ⟨okk.2.mono (by decide), by rw [okk.1]; exact hp⟩ (ga_cons (ge_ix (ge_var 2 (R := rL (rL rI)) (x := l)) (ge_var 4) rfl (getD_get hkl)) (ga1 (ge_var 1)))) ?_
      generalize headedR (l.getD k []) x = h at okh okhl ⊢
      refine gs_setI (R := rL (rL rI)) (x := l.take k ++ l.drop (k + 1)) 6 sc_int_steps.nd (GF.ge ?_) ?_
      · refine GF.to (x := cut l none (some (k : Int)) ++ cut l (some ((k : Int) + 1)) none) (gf_cat (GF.ge (gf_slice (ge_var 2 (R := rL (rL rI)) (x := l)) go_none (go_some (ge_var 4)))) (GF.ge (gf_slice (ge_var 2 (R := rL (rL rI)) (x := l)) (go_some (ge_add (ge_var 4) ge_int)) go_none)) ?_) ?_
        · rw [cut_take, show (k : Int) + 1 = ((k + 1 : Nat) : Int) by omega, cut_drop]; simp; omega
        · rw [cut_take, show (k : Int) + 1 = ((k + 1 : Nat) : Int) by omega, cut_drop]
      refine gs_setI (R := rL (rL rI)) (x := (f.map fun r => clearedR r h x) ++ [h]) 3 sc_int_steps.nd (GF.ge ?_) ?_
      · refine gf_cat (GF.ge ?_) (ge_lst [h] (ga1 (ge_var 5)) rfl (Nat.le_of_ble_eq_true rfl)) (by simp; omega)
        refine gf_lc (own := [("row", 7)]) (fun r => clearedR r h x) rfl sc_int_steps.nd (gi_list (ge_var 3)) (blkOk_by (N := N_int_steps) (sc := defScope S_int_steps) (by decide +kernel)) (fun _ _ _ _ _ => (gg_name (n := 8) 7 sc_int_steps.nd)) rfl (by decide) (fun D r hr1 _ _ _ _ _ => ?_)
        exact gfn GC hr (r, h, x) ⟨(okf r hr1).2, okh, by rw [(okf r hr1).1]; exact hp, by rw [okhl]; exact hp⟩ (ga_cons (ge_var 7) (ga_cons (ge_var 5) (ga1 (ge_var 1))))
      refine gs_setLc (R := rL rI) (own := [("row", 7)]) 2 (fun r => clearedR r h x) rfl sc_int_steps.nd (gi_list (ge_var 6)) (blkOk_by (N := N_int_steps) (sc := defScope S_int_steps) (by decide +kernel)) (fun _ _ _ _ _ => (gg_name (n := 8) 7 sc_int_steps.nd)) rfl (by decide) (fun D r hr1 _ _ _ _ _ => ?_) ?_
      · have hr2 : r ∈ l := by
          rcases List.mem_append.mp hr1 with m | m
          · exact List.mem_of_mem_take m
          · exact List.mem_of_mem_drop m
        exact gfn GC hr (r, h, x) ⟨(okl r hr2).2, okh, by rw [(okl r hr2).1]; exact hp, by rw [okhl]; exact hp⟩ (ga_cons (ge_var 7) (ga_cons (ge_var 5) (ga1 (ge_var 1))))
      exact gs_end fun σ H hh => ⟨⟨⟩, hh.less (.keep (.drop (.keep (.keep (.drop (.drop (.drop (.drop .nil))))))))⟩
    · have z2 := of_decide_eq_false (show false = decide (0 ≤ firstI l x) from z).symm
      have hk : firstR l x = none := by
        cases h : firstR l x with
        | none => rfl
        | some k => unfold firstI at z2; rw [h] at z2; exact absurd (Int.natCast_nonneg k) z2
      have eS : stepsR rows (x + 1) = (l, f) := by
        rw [stepsR_succ, hs]
        unfold stepR
        simp only
        rw [hk]
      rw [eS]
      exact gs_end fun σ H hh => ⟨⟨⟩, hh.less (.keep (.drop (.keep (.keep (.drop (.drop (.drop (.drop .nil))))))))⟩
    · exact gs_end fun σ H hh => hh
  · exact gs_ret ((ge_var 3).to (by rw [List.length_range]; rfl))
abbrev N_told_rows : List Str := ["steps_now", "found", "row", "head", "number"]
abbrev S_told_rows : Stmt := tp 32
theorem sc_told_rows : FnScope N_told_rows ["steps_now"] (defScope S_told_rows) := ⟨rfl, rfl, rfl, by decide +kernel, rfl, by decide +kernel, by decide +kernel⟩
abbrev spToldRows (C : Addr) : Sp := spG (fun x : List (List Int) => [⟨rL (rL rI), x⟩]) (fun x => x.length < 1000 ∧ ∀ r ∈ x, (∃ y ∈ r, y ≠ 0) ∧ Lt 9000 r) (rL (rL (rQ C))) (fun x => Is (toldRows x))
theorem ok_told_rows (F : RatF Pg w K mg base C) (G : Fn Pg w K mg base "head_of" ["row"] 1 (spHeadOf)) (D : Df K mg "told_rows" (tp 32) ["steps_now"]) : Fn Pg w K mg base "told_rows" ["steps_now"] 4 (spToldRows C) := by
  refine fn_df D sc_told_rows (fun _ => rfl) (by decide) fun x hx0 f cdv A outer s H E L hr => ?_
  obtain ⟨hz, hx1⟩ := hx0
  refine gs_own (R := rL (rQ C)) (Pe := Is []) 1 sc_told_rows.nd gf_nil (fun xs p pxs hp => ?_)
  cases (show _ = _ from pxs)
  refine gs_for (xs := x) (fun i => [.val (rL (rL rI)) x, .own p (rL (rQ C)) (toldRows (x.take i)), .nil, .nil, .nil]) rfl PassesOwn.never (gi_list (ge_var 0)) (gg_name (n := 5) 2 sc_told_rows.nd) (.keep (.keep (.keep (.keep (.keep .nil))))) (fun _ => rfl) (fun gs i r hx => ?_) ?_
  · have hm := List.mem_of_getElem? hx
    obtain ⟨h1, h2⟩ := hx1 r hm
    have hl := headOf_lt h1
    have hn : r.getD (headOf r) 0 ≠ 0 := by
      have h3 : (r[headOf r]'hl != 0) = true := List.findIdx_getElem (w := hl)
      have h4 : r.getD (headOf r) 0 = r[headOf r]'hl := by simp [List.getD, List.getElem?_eq_getElem hl]
      rw [h4]; simpa using h3
    refine gs_setI 3 sc_told_rows.nd (ge_ix (ge_var 2) (by exact gfn G hr r h1 (ga1 (ge_var 2))) rfl (getD_get (d := 0) hl)) ?_
    refine gs_append (Pe := Is (r.map fun y => Rat.divInt y (r.getD (headOf r) 0))) 1 (GF.ge ?_) (fun y py => ?_) (by show (toldRows (x.take i)).length < 100000; unfold toldRows; simp; omega)
    · refine gf_lc (own := [("number", 4)]) (fun y => Rat.divInt y (r.getD (headOf r) 0)) rfl sc_told_rows.nd (gi_list (ge_var 2)) (blkOk_by (N := N_told_rows) (sc := defScope S_told_rows) (by decide +kernel)) (fun _ _ _ _ _ => (gg_name (n := 5) 4 sc_told_rows.nd)) rfl (by decide) (fun D y hy _ _ _ _ _ => ?_)
      refine ge_mk2 F hr (ge_var 4) (ge_var 3) ⟨hn, ?_⟩
      exact gcd_le_of_dvd (Int.natAbs_pos.mpr hn) (lt_getD h2 hl)
    · cases (show _ = _ from py)
      have e : toldRows (x.take (i + 1)) = toldRows (x.take i) ++ [r.map fun y => Rat.divInt y (r.getD (headOf r) 0)] := by
        unfold toldRows
        rw [List.take_succ, hx]; simp
      rw [e]
      exact gs_end fun σ H hh => hh.less (.keep (.keep (.drop (.drop (.keep .nil)))))
  · rw [List.take_length]
    exact gs_retOwn 1 rfl
abbrev N_steps_of : List Str := ["rows"]
abbrev S_steps_of : Stmt := tp 33
theorem sc_steps_of : FnScope N_steps_of ["rows"] (defScope S_steps_of) := ⟨rfl, rfl, rfl, by decide +kernel, rfl, by decide +kernel, by decide +kernel⟩
abbrev spStepsOf (C : Addr) : Sp := spG (fun x : List (List Rat) => [⟨rL (rL (rQ C)), x⟩]) (fun x => (∀ r ∈ x, ∀ q ∈ r, q.den ∣ 6 ∧ Big q.num) ∧ OkSteps (x.map wholesR) ∧ ∀ r ∈ intSteps (x.map wholesR), (∃ y ∈ r, y ≠ 0) ∧ Lt 9000 r) (rL (rL (rQ C))) (fun x => Is (toldRows (intSteps (x.map wholesR))))
theorem ok_steps_of (G1 : Fn Pg w K mg base "ints_of" ["rows"] 2 (spIntsOf C)) (G2 : Fn Pg w K mg base "int_steps" ["rows"] 4 (spIntSteps)) (G3 : Fn Pg w K mg base "told_rows" ["steps_now"] 4 (spToldRows C)) (D : Df K mg "steps_of" (tp 33) ["rows"]) : Fn Pg w K mg base "steps_of" ["rows"] 5 (spStepsOf C) := by
  refine fn_df D sc_steps_of (fun _ => rfl) (by decide) fun x hx0 f cdv A outer s H E L hr => ?_
  obtain ⟨h1, h2, h3⟩ := hx0
  have hl : (intSteps (x.map wholesR)).length < 1000 := by
    have h4 := stepsR_len (x.map wholesR) (wideR (x.map wholesR))
    have h5 := h2.1
    unfold intSteps
    omega
  exact gs_ret (by exact gfn G3 hr (intSteps (x.map wholesR)) ⟨hl, h3⟩ (ga1 (by exact gfn G2 hr (x.map wholesR) h2 (ga1 (by exact gfn G1 hr x h1 (ga1 (ge_var 0)))))))
end
end TW

namespace TW
open PySem PySem.Spec L2 TL

section
variable {X : Cx} {Γ : TL.Env} {e a b : Expr} {pos : Pos} {C : Addr} {α β : Type} {R : Rp α} {S : Rp β}
/-- e.f where f is a property of the class at C -/
structure PropF (Pg : Program) (w : World) (K : PySem.W.Frag) (mg : Str → Option Value) (base : Heap) (C : Addr) (name : Str) (k : Nat) (sp : Sp) : Prop where
  ex : ∃ (p g : Addr) (fd : FuncData), PropOf K C name p g ∧ FnOk Pg w K mg base CX0 k g fd ["self"] sp ∧ Binds K fd ["self"] []
theorem ge_propF {name : Str} {k j : Nat} {ι : Type} {as : ι → List Bd} {ok : ι → Prop} {P : ι → β → Prop} {x : α} (F : PropF X.prog X.w X.K X.mg X.base C name k (spG as ok S P)) (cl : Cls X.K C) (hr : Room j X.A) (i : ι) (o : ok i) (ha : GE X e Γ R (Is x)) (eas : as i = [⟨R, x⟩])
    (hi : ∀ H v, R.r H x v → ∃ p dx fs, v = .ref p ∧ H p = some (.ins C dx fs)) (hj : k + 1 ≤ j := by decide) (hab : attributeBase e name X.env (eval e X.env) = eval e X.env := by rfl) :
    GE X (.Attribute e name pos) Γ S (P i) := by
  obtain ⟨p, g, fd, PO, G, hb⟩ := F.ex
  refine ge_of (pe_prop pe_s cl PO G (hr.mono hj) hb .nil pass0 hab) fun σ H h Q q => ha σ H h _ fun x' v H1 p1 e1 z1 r1 => ?_
  cases (show _ = _ from p1)
  obtain ⟨p, dx, fs, rfl, hp⟩ := hi _ _ r1
  refine ⟨p, dx, fs, rfl, (hd_some hp).2, spG_use (h.ev e1) i o ?_ fun y v' H' py ev ry => q y v' H' py (e1.trans ev) ry⟩
  rw [eas]
  exact ⟨_, _, rfl, r1, rfl⟩

/-- an own operator: the def, and what of ints it stands beside -/
structure OprF (Pg : Program) (w : World) (K : PySem.W.Frag) (mg : Str → Option Value) (base : Heap) (C : Addr) (op : Operator) (k : Nat) (sp : Sp) : Prop where
  self : PySem.W.selfFirst K C = true
  ex : ∃ (f : Addr) (fd : FuncData) (ps : List Str) (fo ro rc : Option Value), PySem.W.findIn K (.ref C) (PySem.dunder op.info.2) = some (some (.ref f)) ∧ PySem.W.isFn K (.ref f) = true ∧ FnOk Pg w K mg base CX0 k f fd ps sp ∧ Binds K fd ps [] ∧
    PySem.W.findIn K (.ref C) (dunderR op.info.2) = some rc ∧ (rc = none ∨ ∃ g : Addr, rc = some (.ref g)) ∧ PySem.W.findIn K (.type "int") (PySem.dunder op.info.2) = some fo ∧ PySem.W.findIn K (.type "int") (dunderR op.info.2) = some ro ∧ PySem.W.subIn K (.type "int") (.ref C) = some false
def rOwn (C : Addr) (sp : Sp) : R2 := fun x y H Q => (∃ a dx fs, x = .ref a ∧ H a = some (.ins C dx fs)) ∧ ((∃ b dy gs, y = .ref b ∧ H b = some (.ins C dy gs)) ∨ ∃ i, y = .int i) ∧ sp [x, y] H (fun v H' => (∃ p, v = .ref p) ∧ Q v H') fun _ _ _ => False
theorem op_own {op : Operator} {k : Nat} {sp : Sp} (F : OprF X.prog X.w X.K X.mg X.base C op k sp) (hr : Room k X.A) : OpR X (binaryOp op) (rOwn C sp) := by
  obtain ⟨f, fd, ps, fo, ro, rc, hs, hf, G, hb, hrc, hp, h1, h2, hsub⟩ := F.ex
  intro pins s σ H x y v u Q I rx ry h
  obtain ⟨⟨a, dx, fs, rfl, ha⟩, hy, h⟩ := h
  obtain rfl : v = Value.ref a := rx
  obtain ⟨mA, J, _⟩ := ins_get I.hok ha
  obtain ⟨od, J, _⟩ := J.look
  obtain ⟨m, hF⟩ := I.fr
  have run : wpAny (model X.prog X.w) X.A (call (.ref f) [.ref a, u]) (PySem.W.CmpBack fun v s' => EP X pins σ Q v s') X.xe s := by
    refine wpAny_mono (run_fn G hr hb .nil pass0 I (us := [.ref a, u]) (vs := [.ref a, y]) (.cons rfl (.cons ry .nil)) h) (fun r s' z => ?_) fun _ _ e => e
    obtain ⟨z, H', I', rz, ⟨p, rfl⟩, q⟩ := z
    obtain rfl : r = Value.ref p := rz
    exact ⟨.ref p, H', I', rfl, q⟩
  rcases hy with ⟨b, dy, gs, rfl, hb'⟩ | ⟨i, rfl⟩
  · obtain rfl : u = Value.ref b := ry
    obtain ⟨mB, J', _⟩ := ins_get I.hok hb'
    obtain ⟨od', J', _⟩ := J'.look
    exact PySem.W.binop_K hF I.ok.mod.kin J J'.type F.self hs hf run
  · obtain ⟨t, rfl⟩ : ∃ t, u = Value.int i t := ry
    exact PySem.W.ksp_binT hF I.ok.mod.kin J rfl F.self hs hf hrc hp h1 h2 hsub run
end
theorem hd_nil (H : Hp) : hd [] H = H := by funext a; simp [hd]
def BigQ (q : Rat) : Prop := Big q.num ∧ Big (q.den : Int)
def OkAdd (q r : Rat) : Prop := BigQ q ∧ BigQ r ∧ Gs (q.num * (r.den : Int) + r.num * (q.den : Int)) ((q.den : Int) * (r.den : Int))
def OkMul (q r : Rat) : Prop := BigQ q ∧ BigQ r ∧ Gs (q.num * r.num) ((q.den : Int) * (r.den : Int))
def sgn (q : Rat) : Int := (if 0 < q.num then 1 else 0) - (if q.num < 0 then 1 else 0)
section
variable {Pg : Program} {w : World} {K : PySem.W.Frag} {mg : Str → Option Value} {base : Heap} {C : Addr}
abbrev N_Ratio___add : List Str := ["self", "other", "top", "bottom"]
abbrev S_Ratio___add : Stmt := inClass (tp 19) 6
theorem sc_Ratio___add : FnScope N_Ratio___add ["self", "other"] (defScope S_Ratio___add) := ⟨rfl, rfl, rfl, by decide +kernel, rfl, by decide +kernel, by decide +kernel⟩
abbrev spAdd (C : Addr) : Sp := spG (fun x : Rat × (Int ⊕ Rat) => [⟨rQ C, x.1⟩, ⟨rIQ C, x.2⟩]) (fun x => OkAdd x.1 (worth x.2)) (rQ C) (fun x => Is (x.1 + worth x.2))
theorem ok_add {f : Addr} {fd : FuncData} (F : RatF Pg w K mg base C) (G : Fn Pg w K mg base "told_pair" ["value"] 2 (spToldPair C)) (D : Fun K "__add__" "Ratio.__add__" S_Ratio___add f fd) : FnOk Pg w K mg base CX0 4 f fd ["self", "other"] (spAdd C) := by
  refine fn_typed D sc_Ratio___add (fun _ => rfl) (by decide) fun x hx cdv A outer s H E L hr => ?_
  obtain ⟨q, x⟩ := x
  obtain ⟨⟨h1, h2⟩, ⟨h3, h4⟩, h5⟩ : OkAdd q (worth x) := hx
  refine gs_asg (Pe := Is ((worth x).num, ((worth x).den : Int))) (by exact gfn G hr x trivial (ga1 (ge_var 1))) (gg_pair rfl (gg_name (n := 4) 2 sc_Ratio___add.nd) (gg_name (n := 4) 3 sc_Ratio___add.nd)) rfl (fun y py => ?_)
  cases (show _ = _ from py)
  refine gs_ret (GE.to (ge_mk2 F (hr.mono (by decide)) (ge_add (ge_mul (ge_top F.RC.O.cl F.RC.nT (ge_var 0)) (ge_var 3) (big_mul h1 h4)) (ge_mul (ge_var 2) (ge_bot F.RC.O.cl F.RC.nB (ge_var 0)) (big_mul h3 h2))) (ge_mul (ge_bot F.RC.O.cl F.RC.nB (ge_var 0)) (ge_var 3) (big_mul h2 h4)) h5) ?_)
  exact add_divInt q (worth x)
abbrev N_Ratio___mul : List Str := ["self", "other", "top", "bottom"]
abbrev S_Ratio___mul : Stmt := inClass (tp 19) 10
theorem sc_Ratio___mul : FnScope N_Ratio___mul ["self", "other"] (defScope S_Ratio___mul) := ⟨rfl, rfl, rfl, by decide +kernel, rfl, by decide +kernel, by decide +kernel⟩
abbrev spMul (C : Addr) : Sp := spG (fun x : Rat × (Int ⊕ Rat) => [⟨rQ C, x.1⟩, ⟨rIQ C, x.2⟩]) (fun x => OkMul x.1 (worth x.2)) (rQ C) (fun x => Is (x.1 * worth x.2))
theorem ok_mul {f : Addr} {fd : FuncData} (F : RatF Pg w K mg base C) (G : Fn Pg w K mg base "told_pair" ["value"] 2 (spToldPair C)) (D : Fun K "__mul__" "Ratio.__mul__" S_Ratio___mul f fd) : FnOk Pg w K mg base CX0 4 f fd ["self", "other"] (spMul C) := by
  refine fn_typed D sc_Ratio___mul (fun _ => rfl) (by decide) fun x hx cdv A outer s H E L hr => ?_
  obtain ⟨q, x⟩ := x
  obtain ⟨⟨h1, h2⟩, ⟨h3, h4⟩, h5⟩ : OkMul q (worth x) := hx
  refine gs_asg (Pe := Is ((worth x).num, ((worth x).den : Int))) (by exact gfn G hr x trivial (ga1 (ge_var 1))) (gg_pair rfl (gg_name (n := 4) 2 sc_Ratio___mul.nd) (gg_name (n := 4) 3 sc_Ratio___mul.nd)) rfl (fun y py => ?_)
  cases (show _ = _ from py)
  refine gs_ret (GE.to (ge_mk2 F (hr.mono (by decide)) (ge_mul (ge_top F.RC.O.cl F.RC.nT (ge_var 0)) (ge_var 2) (big_mul h1 h3)) (ge_mul (ge_bot F.RC.O.cl F.RC.nB (ge_var 0)) (ge_var 3) (big_mul h2 h4)) h5) ?_)
  exact mul_divInt q (worth x)
abbrev N_Ratio_top : List Str := ["self"]
abbrev S_Ratio_top : Stmt := inClass (tp 19) 1
theorem sc_Ratio_top : FnScope N_Ratio_top ["self"] (defScope S_Ratio_top) := ⟨rfl, rfl, rfl, by decide +kernel, rfl, by decide +kernel, by decide +kernel⟩
abbrev spTop (C : Addr) : Sp := spG (fun q : Rat => [⟨rQ C, q⟩]) (fun _ => True) rI (fun q => Is q.num)
theorem ok_top {f : Addr} {fd : FuncData} (RC : RatC K mg C) (D : Fun K "top" "Ratio.top" S_Ratio_top f fd) : FnOk Pg w K mg base CX0 1 f fd ["self"] (spTop C) := by
  refine fn_typed D sc_Ratio_top (fun _ => rfl) (by decide) fun x hx cdv A outer s H E L hr => ?_
  exact gs_ret (ge_top RC.O.cl RC.nT (ge_var 0))
abbrev N_Ratio_sign : List Str := ["self"]
abbrev S_Ratio_sign : Stmt := inClass (tp 19) 3
theorem sc_Ratio_sign : FnScope N_Ratio_sign ["self"] (defScope S_Ratio_sign) := ⟨rfl, rfl, rfl, by decide +kernel, rfl, by decide +kernel, by decide +kernel⟩
abbrev spSign (C : Addr) : Sp := spG (fun q : Rat => [⟨rQ C, q⟩]) (fun _ => True) rI (fun q => Is (sgn q))
theorem ok_sign {f : Addr} {fd : FuncData} (B : Blt mg) (RC : RatC K mg C) (D : Fun K "sign" "Ratio.sign" S_Ratio_sign f fd) : FnOk Pg w K mg base CX0 1 f fd ["self"] (spSign C) := by
  refine fn_typed D sc_Ratio_sign (fun _ => rfl) (by decide) fun x hx cdv A outer s H E L hr => ?_
  refine gs_ret (GE.to (ge_sub (ge_intB B.int (ge_gt (ge_top RC.O.cl RC.nT (ge_var 0)) ge_int)) (ge_intB B.int (ge_lt (ge_top RC.O.cl RC.nT (ge_var 0)) ge_int))) ?_)
  unfold sgn
  by_cases h1 : 0 < x.num <;> by_cases h2 : x.num < 0 <;> simp [h1, h2]
abbrev N_Ratio___eq : List Str := ["self", "other"]
abbrev S_Ratio___eq : Stmt := inClass (tp 19) 17
theorem sc_Ratio___eq : FnScope N_Ratio___eq ["self", "other"] (defScope S_Ratio___eq) := ⟨rfl, rfl, rfl, by decide +kernel, rfl, by decide +kernel, by decide +kernel⟩
def SameQ (C : Addr) : Addr → Addr → Hp → Prop := fun a b H => ∃ q, (rQ C).r H q (.ref a) ∧ (rQ C).r H q (.ref b)
theorem ok_eq {f : Addr} {fd : FuncData} (B : Blt mg) (RC : RatC K mg C) (D : Fun K "__eq__" "Ratio.__eq__" S_Ratio___eq f fd) : FnOk Pg w K mg base CX0 1 f fd ["self", "other"] (spEq (SameQ C)) := by
  have G : FnOk Pg w K mg base CX0 1 f fd ["self", "other"] (spG (fun q : Rat => [⟨rQ C, q⟩, ⟨rQ C, q⟩]) (fun _ => True) rB (fun _ => Is true)) := by
    refine fn_typed D sc_Ratio___eq (fun _ => rfl) (by decide) fun x hx cdv A outer s H E L hr => ?_
    refine gs_ifNever (Pc := Is false) ?_ (fun z => by cases (show _ = _ from z)) ?_
    · refine gt_not (x := true) (gt_val ?_)
      exact ge_isi (R := rQ C) (x := x) (b := true) B.isi (ge_var 1) (pe_glob (v := .ref C) rfl RC.O.m rfl) (.own C) (fun L H v r => ⟨_, tyx_ratio RC.O (q := x) r, kit_self⟩)
    · refine gs_ret (GE.to (x := (decide (x.num = x.num) && decide ((x.den : Int) = (x.den : Int)))) (ge_and (ge_eq (ge_top RC.O.cl RC.nT (ge_var 0)) (ge_top RC.O.cl RC.nT (ge_var 1))) fun _ => ge_bone (ge_eq (ge_bot RC.O.cl RC.nB (ge_var 0)) (ge_bot RC.O.cl RC.nB (ge_var 1)))) (by simp))
  refine G.imp fun vs H Q E h => ?_
  obtain ⟨a, b, rfl, ⟨q, h1, h2⟩, k⟩ := h
  refine ⟨q, [], trivial, (fun _ m => nomatch m), ⟨_, _, rfl, ?_, _, _, rfl, ?_, rfl⟩, fun y v H' py ex ry => ?_⟩
  · rw [hd_nil]; exact h1
  · rw [hd_nil]; exact h2
  · cases (show _ = _ from py); cases (show _ = _ from ry); exact k H' ex
/-- what is told of Ratios -/
structure RatAll (Pg : Program) (w : World) (K : PySem.W.Frag) (mg : Str → Option Value) (base : Heap) (C : Addr) : Prop where
  F : RatF Pg w K mg base C
  add : OprF Pg w K mg base C .Add 4 (spAdd C)
  mul : OprF Pg w K mg base C .Mult 4 (spMul C)
  top : PropF Pg w K mg base C "top" 1 (spTop C)
  sign : PropF Pg w K mg base C "sign" 1 (spSign C)
  eq : ∃ (f : Addr) (fd : FuncData), FnOk Pg w K mg base CX0 1 f fd ["self", "other"] (spEq (SameQ C)) ∧ PySem.W.findIn K (.ref C) "__eq__" = some (some (.ref f)) ∧ PySem.W.isFn K (.ref f) = true ∧ Binds K fd ["self", "other"] []
end
section
variable {X : Cx} {Γ : TL.Env} {e a b : Expr} {pos : Pos} {C : Addr}
theorem rQ_ins {q : Rat} {H : Hp} {v : V} (h : (rQ C).r H q v) : ∃ p dx fs, v = .ref p ∧ H p = some (.ins C dx fs) := let ⟨p, dx, fs, e, h1, _⟩ := h; ⟨p, dx, fs, e, h1⟩
theorem ge_qtop {q : Rat} (F : RatAll X.prog X.w X.K X.mg X.base C) (hr : Room 2 X.A) (h : GE X e Γ (rQ C) (Is q)) (hab : attributeBase e "top" X.env (eval e X.env) = eval e X.env := by rfl) : GE X (.Attribute e "top" pos) Γ rI (Is q.num) :=
  ge_propF F.top F.F.RC.O.cl hr q trivial h rfl (fun _ _ => rQ_ins) (by decide) hab
theorem ge_qsign {q : Rat} (F : RatAll X.prog X.w X.K X.mg X.base C) (hr : Room 2 X.A) (h : GE X e Γ (rQ C) (Is q)) (hab : attributeBase e "sign" X.env (eval e X.env) = eval e X.env := by rfl) : GE X (.Attribute e "sign" pos) Γ rI (Is (sgn q)) :=
  ge_propF F.sign F.F.RC.O.cl hr q trivial h rfl (fun _ _ => rQ_ins) (by decide) hab
theorem ge_ownQ {op : Operator} {q : Rat} {x : Int ⊕ Rat} {ok : Rat × (Int ⊕ Rat) → Prop} {g : Rat × (Int ⊕ Rat) → Rat} (F : OprF X.prog X.w X.K X.mg X.base C op 4 (spG (fun x : Rat × (Int ⊕ Rat) => [⟨rQ C, x.1⟩, ⟨rIQ C, x.2⟩]) ok (rQ C) (fun x => Is (g x)))) (hr : Room 4 X.A)
    (ha : GE X a Γ (rQ C) (Is q)) (hb : GE X b Γ (rIQ C) (Is x)) (o : ok (q, x)) : GE X (.BinOp a op b pos) Γ (rQ C) (Is (g (q, x))) := by
  refine ge_op2 (op_own F hr) ha hb fun σ H x' y' v u h _ p1 p2 r1 r2 Q k => ?_
  cases (show _ = _ from p1); cases (show _ = _ from p2)
  obtain ⟨p, dx, fs, rfl, hp, e0⟩ := id r1
  refine ⟨⟨p, dx, fs, rfl, (hd_some hp).2⟩, ?_, spG_use (as := fun x : Rat × (Int ⊕ Rat) => [⟨rQ C, x.1⟩, ⟨rIQ C, x.2⟩]) h (q, x) o ⟨_, _, rfl, r1, _, _, rfl, r2, rfl⟩ fun y v' H' py ev ry => ⟨?_, k y v' H' py ev ry⟩⟩
  · cases x with
    | inl i => exact .inr ⟨i, r2⟩
    | inr r =>
      obtain ⟨p', dx', fs', rfl, hp'⟩ := rQ_ins (q := r) r2
      exact .inl ⟨p', dx', fs', rfl, (hd_some hp').2⟩
  · obtain ⟨p', dx', fs', rfl, hp'⟩ := rQ_ins ry
    exact ⟨p', rfl⟩
theorem ge_qadd {q r : Rat} (F : RatAll X.prog X.w X.K X.mg X.base C) (hr : Room 4 X.A) (ha : GE X a Γ (rQ C) (Is q)) (hb : GE X b Γ (rQ C) (Is r)) (o : OkAdd q r) : GE X (.BinOp a .Add b pos) Γ (rQ C) (Is (q + r)) :=
  ge_ownQ (x := .inr r) F.add hr ha (ge_IQq hb) o
theorem ge_qmul {q r : Rat} (F : RatAll X.prog X.w X.K X.mg X.base C) (hr : Room 4 X.A) (ha : GE X a Γ (rQ C) (Is q)) (hb : GE X b Γ (rQ C) (Is r)) (o : OkMul q r) : GE X (.BinOp a .Mult b pos) Γ (rQ C) (Is (q * r)) :=
  ge_ownQ (x := .inr r) F.mul hr ha (ge_IQq hb) o
theorem ge_qmulX {q : Rat} {x : Int ⊕ Rat} (F : RatAll X.prog X.w X.K X.mg X.base C) (hr : Room 4 X.A) (ha : GE X a Γ (rQ C) (Is q)) (hb : GE X b Γ (rIQ C) (Is x)) (o : OkMul q (worth x)) : GE X (.BinOp a .Mult b pos) Γ (rQ C) (Is (q * worth x)) :=
  ge_ownQ (x := x) F.mul hr ha hb o
end
end TW

namespace TWN
open PySem PySem.SeqAt GQ
open AutoSeq1 (wpAny_loadPart')
open MeetsSeq MeetsSeq2 MeetsSeq3 SeqRoads2
section
variable {prog : Program} {w : World} {A : Around} {R : Result → Shared → Prop}
/-- all alike: the loop of != ends with False -/
theorem ne_walk (l b : Addr) (N : Nat) (I : Nat → Shared → Prop) (hl : ListI prog w A (fun e t => R (.error e) t) l b N I) (fin : ∀ t, I N t → R (.ok (.ret (.bool false))) t) :
    ∀ (k i : Nat), N - i = k → i ≤ N → ∀ t, I i t → wpAny (model prog w) A.in1 (Builtin.«list.__eq__.loop» ⟨[.ref l, .ref b, rawInt i, rawInt 3], []⟩) (FinOf prog w A R) (fun e t => R (.error e) t) t := by
  intro k
  induction k with
  | zero =>
    intro i hk hi t h
    obtain ⟨us, vs, n1, n2, g1, g2, z1, z2, _⟩ := hl _ _ h
    obtain rfl : i = N := by omega
    have done : R (.ok (.ret (.bool false))) t := fin t h
    obtain ⟨t1, t2, t3, t4, t5⟩ := t
    wp_walk using wpAny_loadPart' g1, wpAny_loadPart' g2
    rw [show us[((i : Nat) : Int).toNat]? = none by simp; omega, show vs[((i : Nat) : Int).toNat]? = none by simp; omega]
    wp_walk using wpAny_loadPart' g1, wpAny_loadPart' g2
    show R (.ok (.ret (.bool (us.size != vs.size)))) _
    rw [z1, z2]
    simpa using done
  | succ k ih =>
    intro i hk hi t h
    obtain ⟨us, vs, n1, n2, g1, g2, z1, z2, turn⟩ := hl _ _ h
    have q1 : i < us.size := by omega
    have q2 : i < vs.size := by omega
    have one := turn q1 q2
    obtain ⟨t1, t2, t3, t4, t5⟩ := t
    wp_walk using wpAny_loadPart' g1, wpAny_loadPart' g2
    have next : ((i : Int) + 1) = ((i + 1 : Nat) : Int) := by omega
    rw [show us[((i : Nat) : Int).toNat]? = some us[i] by simp [q1], show vs[((i : Nat) : Int).toNat]? = some vs[i] by simp [q2]]
    refine wpAny_bind (wpAny_mono one (fun r t' both => ?_) fun _ _ z => z)
    obtain ⟨rfl, both⟩ := both
    have more := ih (i + 1) (by omega) (by omega) t' both
    obtain ⟨t1', t2', t3', t4', t5'⟩ := t'
    wp_walk
    rw [next]
    exact ⟨plainId_quiet plain_eq_loop _, codeAny_builtin entry_eq_loop (by rw [Around.under_plainId plain_eq_loop _]; exact more)⟩
theorem ne_list (l b : Addr) (N : Nat) (I : Nat → Shared → Prop) (hl : ListI prog w A (fun e t => R (.error e) t) l b N I) (fin : ∀ t, I N t → R (.ok (.ret (.bool false))) t) {t : Shared} (h : I 0 t) :
    wpAny (model prog w) A.in1 (Builtin.«list.__ne__» ⟨[.ref l, .ref b], []⟩) (FinOf prog w A R) (fun e t => R (.error e) t) t := by
  obtain ⟨us, vs, n1, n2, g1, g2, z1, z2, _⟩ := hl _ _ h
  have more := ne_walk (A := A) (R := R) l b N I hl fin _ 0 rfl (Nat.zero_le _) t h
  obtain ⟨t1, t2, t3, t4, t5⟩ := t
  have f3 := AutoSeq1.sub_list_list
  have same : ¬ (us.size != vs.size) = true := by simp [z1, z2]
  wp_walk using wpAny_loadPart' g1, wpAny_loadPart' g2
  exact ⟨plainId_quiet plain_eq_loop _, codeAny_builtin entry_eq_loop (by rw [Around.under_plainId plain_eq_loop _]; exact more)⟩
end
section
variable {prog : Program} {w : World} {A : Around} {E : Value → Shared → Prop} {s : Shared}
theorem rc_ne {l b : Addr} {N : Nat} {Q : Value → Shared → Prop} (hu : A.units < cLine) (I : Nat → Shared → Prop) (hl : ListI prog w A E l b N I) (fin : ∀ t, I N t → Q (.bool false) t) (h : I 0 s) :
    wpAny (model prog w) A (richCompare .NotEq (.ref l) (.ref b)) Q E s := by
  obtain ⟨us, vs, n1, n2, g1, g2, _, _, _⟩ := hl _ _ h
  refine wpAny_richCompare_same_room (op := .NotEq) ⟨_, g1, rfl⟩ ⟨_, g2, rfl⟩ F.slot_list_ne (call_here F.slot_list_ne ⟨_, g1, rfl⟩ F.entry_list_ne (F.args_list_ne_2 _ _) ?_) hu
  exact ne_list (R := wants (fun v t => v ≠ .notImplemented ∧ Q v t) E) l b N I hl (fun t q => ⟨(fun z => nomatch z), fin t q⟩) h
end
end TWN
namespace TW
open PySem PySem.Spec L2 TL
/-- two that stand for the same -/
def Dr {α : Type} (R : Rp α) : Eqv := fun x y H => ∃ a, R.r H a x ∧ R.r H a y
theorem mon_Dr {α : Type} (R : Rp α) : Mon (Dr R) := fun x y H H' e ⟨a, h1, h2⟩ => ⟨a, R.mono e h1, R.mono e h2⟩
def RcN (X : Cx) (n : Nat) (D : Eqv) : Prop :=
  ∀ (A : Around) (pins : List (Addr × Obj)) (s : Shared) (σ : L2.St) (H : Hp) (x y : V) (u v : Value), Sub X n A → Inv X pins σ H s → RelV x u → RelV y v → D x y H →
    wpAny (model X.prog X.w) A (richCompare .NotEq u v) (fun r s' => r = .bool false ∧ ∃ H', Inv X pins σ H' s' ∧ Ext H H') X.xe s
section
variable {X : Cx} {n : Nat} {α β : Type} {R : Rp α} {S : Rp β} {C : Addr}
theorem rcN_list {D : Eqv} (hD : Mon D) (h : EqG X n D) : RcN X (n + 1) (DList D) := by
  intro A pins s σ H x y u v sb I rx ry d
  obtain ⟨a, b, xs, ys, rfl, rfl, ha, hb, p⟩ := d
  cases rx
  cases ry
  refine TWN.rc_ne (N := xs.length) sb.room.units0 (fun _ t => LoopI X pins σ H t) (fun i t q => ?_) (fun t q => ⟨rfl, q⟩) ⟨H, I, Ext.rfl'⟩
  obtain ⟨H1, I1, e1⟩ := id q
  obtain ⟨z, us, k, r, e⟩ := I1.hok a _ (e1 _ _ ha)
  obtain ⟨z2, vs, k2, r2, e2⟩ := I1.hok b _ (e1 _ _ hb)
  exact ⟨us.toArray, vs.toArray, k, k2, e, e2, by rw [List.size_toArray, ← r.length], by rw [List.size_toArray, ← r2.length, ← p.1], fun h1 h2 => turnG hD h sb p r r2 i h1 h2 t q⟩
theorem dr_int {x y : V} {H : Hp} (h : Dr TL.rI x y H) : DFlat x y H := by
  obtain ⟨i, h1, h2⟩ := h
  cases (show _ = _ from h1); cases (show _ = _ from h2)
  exact ⟨rfl, rfl, by simp [eqV]⟩
theorem eqk_int : EqG X 0 (Dr TL.rI) := eqG_flat.imp fun _ _ _ => dr_int
theorem paired_two {α : Type} {r : α → V → Prop} : ∀ {as : List α} {xs ys : List V}, Paired r as xs → Paired r as ys → xs.length = ys.length ∧ ∀ (i : Nat) x y, xs[i]? = some x → ys[i]? = some y → ∃ a, r a x ∧ r a y
  | [], _, _, .nil, .nil => ⟨rfl, fun i x y h _ => by simp at h⟩
  | a :: as, x :: xs, y :: ys, .cons h1 t1, .cons h2 t2 => by
    obtain ⟨e, k⟩ := paired_two t1 t2
    refine ⟨by simp [e], fun i u v h h' => ?_⟩
    cases i with
    | zero => simp at h h'; subst h; subst h'; exact ⟨a, h1, h2⟩
    | succ i => simp at h h'; exact k i u v h h'
theorem dr_list {x y : V} {H : Hp} (h : Dr (rL R) x y H) : DList (Dr R) x y H := by
  obtain ⟨as, ⟨p, vs, rfl, hp, h1⟩, q, ws, rfl, hq, h2⟩ := h
  obtain ⟨e, k⟩ := paired_two h1 h2
  exact ⟨p, q, vs, ws, rfl, rfl, hp, hq, e, k⟩
theorem eqk_list (h : EqG X n (Dr R)) : EqG X (n + 1) (Dr (rL R)) := (eqG_list (mon_Dr R) h).imp fun _ _ _ => dr_list
theorem rck_list (h : EqG X n (Dr R)) : RcG X (n + 1) (Dr (rL R)) := fun A pins s σ H x y u v sb I rx ry d => rcG_list (mon_Dr R) h A pins s σ H x y u v sb I rx ry (dr_list d)
theorem nek_list (h : EqG X n (Dr R)) : RcN X (n + 1) (Dr (rL R)) := fun A pins s σ H x y u v sb I rx ry d => rcN_list (mon_Dr R) h A pins s σ H x y u v sb I rx ry (dr_list d)
theorem eqk_pair {m k : Nat} (h1 : EqG X n (Dr R)) (h2 : EqG X m (Dr S)) (hn : n ≤ k) (hm : m ≤ k) : EqG X (k + 1) (Dr (rP R S)) :=
  (eqG_tup (Mon.or (mon_Dr R) (mon_Dr S)) (EqG.or (h1.mono hn) (h2.mono hm))).imp fun x y H h => by
    obtain ⟨a, ⟨p, u, v, rfl, hp, r1, r2⟩, q, u', v', rfl, hq, r1', r2'⟩ := h
    exact ⟨p, q, [u, v], [u', v'], rfl, rfl, .inl (.inl hp), .inl (.inl hq), .cons (.inl ⟨_, r1, r1'⟩) (.cons (.inr ⟨_, r2, r2'⟩) .nil)⟩
theorem eqk_q (F : RatAll X.prog X.w X.K X.mg X.base C) : EqG X 1 (Dr (rQ C)) := by
  obtain ⟨f, fd, G, hs, hf, hb⟩ := F.eq
  refine (eqG_ins G hs hf hb pass0).imp fun x y H h => ?_
  obtain ⟨q, h1, h2⟩ := h
  obtain ⟨p, dx, fs, rfl, hp⟩ := rQ_ins h1
  obtain ⟨p', dx', fs', rfl, hp'⟩ := rQ_ins h2
  exact ⟨p, p', dx, dx', fs, fs', rfl, rfl, hp, hp', q, h1, h2⟩
def rNeG (D : Eqv) : R2 := fun x y H Q => D x y H ∧ ∀ H', Ext H H' → Q (.bl false) H'
theorem op_neG {D : Eqv} (h : RcN X n D) (hr : Room n X.A) : OpR X (compareOp .NotEq) (rNeG D) := by
  intro pins s σ H x y v u Q I rx ry hq
  obtain ⟨d, q⟩ := hq
  show wpAny (model X.prog X.w) X.A (richCompare .NotEq v u) (EP X pins σ Q) X.xe s
  refine wpAny_mono (h X.A pins s σ H x y v u ⟨hr, rfl⟩ I rx ry d) (fun r t z => ?_) fun _ _ z => z
  obtain ⟨e0, H', I', e⟩ := z
  subst e0
  exact ⟨.bl false, H', I', rfl, q H' e⟩
/-- x != []: is it not empty -/
def rNeNil (K : PySem.W.Frag) : R2 := fun x y H Q => ∃ a b xs, x = .ref a ∧ y = .ref b ∧ H a = some (.lst xs) ∧ H b = some (.lst []) ∧ Q (.bl (!xs.isEmpty)) H
theorem op_neNil (hr : Room 0 X.A) : OpR X (compareOp .NotEq) (rNeNil X.K) := by
  intro pins s σ H x y v u Q I rx ry hq
  obtain ⟨a, b, xs, rfl, rfl, ha, hb, q⟩ := hq
  obtain rfl : v = Value.ref a := rx
  obtain rfl : u = Value.ref b := ry
  obtain ⟨z, its, k, r, e⟩ := I.hok a _ ha
  obtain ⟨z2, its2, k2, r2, e2⟩ := I.hok b _ hb
  have l2 : its2 = [] := by cases r2; rfl
  subst l2
  show wpAny (model X.prog X.w) X.A (richCompare .NotEq (.ref a) (.ref b)) (EP X pins σ Q) X.xe s
  cases xs with
  | nil =>
    have l1 : its = [] := by cases r; rfl
    subst l1
    exact SeqAt.RcNeAt.lists (e := fun _ => true) ⟨_, e, rfl, _, rfl⟩ ⟨_, e2, rfl, _, rfl⟩ rfl hr.units0 (fun j h1 => absurd h1 (by simp)) X.prog X.w X.xe _ ⟨.bl false, H, I, by simp; rfl, q⟩
  | cons x xs =>
    have l1 : its ≠ [] := by intro z; subst z; cases r
    exact SeqAt.RcNeAt.lists_lengths ⟨_, e, rfl, _, rfl⟩ ⟨_, e2, rfl, _, rfl⟩ (by cases its with | nil => exact absurd rfl l1 | cons _ _ => simp) hr.units0 X.prog X.w X.xe _ ⟨.bl true, H, I, rfl, q⟩
end
section
variable {X : Cx} {Γ : TL.Env} {e a b : Expr} {pos : Pos} {C : Addr} {α β : Type} {R : Rp α} {S : Rp β} {n : Nat}
theorem hd_Ex {L : List Addr} {H : Hp} : Ex (hd L H) H := fun _ _ e => (hd_some e).2
theorem ge_same {x : α} (h : RcG X n (Dr R)) (hr : Room n X.A) (ha : GE X a Γ R (Is x)) (hb : GE X b Γ R (Is x)) : GE X (.Compare a [.Eq] [b] pos) Γ rB (Is true) :=
  ge_cmp2 (op_eqG h hr) ha hb (nomark _) fun σ H x' y' v u hh _ p1 p2 r1 r2 Q k => by
    cases (show _ = _ from p1); cases (show _ = _ from p2)
    exact ⟨⟨_, R.mono hd_Ex r1, R.mono hd_Ex r2⟩, fun H' ex => k _ _ rfl (hh.eve ex)⟩
theorem gt_differ {x : α} (h : RcN X n (Dr R)) (hr : Room n X.A) (ha : GE X a Γ R (Is x)) (hb : GE X b Γ R (Is x)) : GT X (.Compare a [.NotEq] [b] pos) Γ (Is false) :=
  gt_cmp2 (op_neG h hr) ha hb (nomark _) fun σ H x' y' v u hh _ p1 p2 r1 r2 Q k => by
    cases (show _ = _ from p1); cases (show _ = _ from p2)
    exact ⟨⟨_, R.mono hd_Ex r1, R.mono hd_Ex r2⟩, fun H' ex => k _ _ rfl (hh.eve ex)⟩
theorem neNil_of {xs : List α} {σ : L2.St} {H : Hp} {v u : V} {Q : VK} (hh : Has Γ σ H) (r1 : (rL R).r (hd Γ.L H) xs v) (r2 : (rL R).r (hd Γ.L H) [] u) (k : ∀ (z : Bool) H', Is (!xs.isEmpty) z → Ev Γ.P H H' → Q (.bl z) H') : rNeNil X.K v u H Q := by
  obtain ⟨p, vs, rfl, hp, t⟩ := r1
  obtain ⟨q, ws, rfl, hq, t2⟩ := r2
  cases t2
  refine ⟨p, q, vs, rfl, rfl, (hd_some hp).2, (hd_some hq).2, k _ _ ?_ hh.evr⟩
  cases t <;> rfl
theorem ge_neNil {xs : List α} (hr : Room 0 X.A) (ha : GE X a Γ (rL R) (Is xs)) (hb : GE X b Γ (rL R) (Is [])) : GE X (.Compare a [.NotEq] [b] pos) Γ rB (Is (!xs.isEmpty)) :=
  ge_cmp2 (op_neNil hr) ha hb (nomark _) fun σ H x' y' v u hh _ p1 p2 r1 r2 Q k => by
    cases (show _ = _ from p1); cases (show _ = _ from p2)
    exact neNil_of hh r1 r2 k
theorem gt_neNil {xs : List α} (hr : Room 0 X.A) (ha : GE X a Γ (rL R) (Is xs)) (hb : GE X b Γ (rL R) (Is [])) : GT X (.Compare a [.NotEq] [b] pos) Γ (Is (!xs.isEmpty)) :=
  gt_cmp2 (op_neNil hr) ha hb (nomark _) fun σ H x' y' v u hh _ p1 p2 r1 r2 Q k => by
    cases (show _ = _ from p1); cases (show _ = _ from p2)
    exact neNil_of hh r1 r2 k
end
end TW

namespace TW
open PySem PySem.Spec L2 TL
def wD (w : List Nat) : PyData := .list (w.map fun n : Nat => PyData.int (n : Int))
theorem wD_lays : ∀ w : List Nat, PyData.canLayAll0 (w.map fun n : Nat => PyData.int (n : Int)) = true
  | [] => by rw [List.map_nil, PyData.canLayAll0]
  | n :: w => by rw [List.map_cons, PyData.canLayAll0, wD_lays w, PyData.canLay0]; rfl
theorem wD_deps : ∀ w : List Nat, PyData.depthAll (w.map fun n : Nat => PyData.int (n : Int)) = 0
  | [] => by rw [List.map_nil, PyData.depthAll]
  | n :: w => by rw [List.map_cons, PyData.depthAll, wD_deps w, PyData.depth]; rfl
theorem wD_dep (w : List Nat) : (wD w).depth = 1 := by unfold wD; rw [PyData.depth, wD_deps]
theorem wD_lay (w : List Nat) : (wD w).canLay0 = true := by unfold wD; rw [PyData.canLay0]; exact wD_lays w
theorem wDs_lays : ∀ ws : List (List Nat), PyData.canLayAll0 (ws.map wD) = true
  | [] => by rw [List.map_nil, PyData.canLayAll0]
  | w :: ws => by rw [List.map_cons, PyData.canLayAll0, wDs_lays ws, wD_lay]; rfl
theorem wDs_deps : ∀ ws : List (List Nat), PyData.depthAll (ws.map wD) ≤ 1
  | [] => by rw [List.map_nil, PyData.depthAll]; omega
  | w :: ws => by rw [List.map_cons, PyData.depthAll, wD_dep]; have := wDs_deps ws; omega
theorem shaped_of {d : PyData} (h1 : d.canLay0 = true) (h2 : d.depth ≤ 64) : SeqAt.shaped d = true := by
  unfold SeqAt.shaped
  rw [h1, decide_eq_true h2]; rfl
theorem wD_shaped (w : List Nat) : SeqAt.shaped (wD w) = true := shaped_of (wD_lay w) (by rw [wD_dep]; omega)
theorem wDs_shaped (ws : List (List Nat)) : SeqAt.shaped (.list (ws.map wD)) = true :=
  shaped_of (by rw [PyData.canLay0]; exact wDs_lays ws) (by rw [PyData.depth]; have := wDs_deps ws; omega)
theorem wD_eqvs : ∀ v w : List Nat, PyData.eqvAll (v.map fun n : Nat => PyData.int (n : Int)) (w.map fun n : Nat => PyData.int (n : Int)) = decide (v = w)
  | [], [] => by rw [List.map_nil, PyData.eqvAll]; rfl
  | [], n :: w => by rw [List.map_nil, List.map_cons, PyData.eqvAll]; rfl
  | n :: v, [] => by rw [List.map_nil, List.map_cons, PyData.eqvAll]; rfl
  | n :: v, m :: w => by
    rw [List.map_cons, List.map_cons, PyData.eqvAll, wD_eqvs v w, PyData.eqv]
    by_cases h : n = m
    · subst h; simp
    · have : ¬ (n : Int) = (m : Int) := by omega
      simp [h, this]
theorem wD_eqv (v w : List Nat) : PyData.eqv (wD v) (wD w) = decide (v = w) := by unfold wD; rw [PyData.eqv]; exact wD_eqvs v w
theorem dp_nats {K : PySem.W.Frag} {H : Hp} : ∀ {w : List Nat} {vs : List V}, Paired (rNat.r H) w vs → DpAll K H vs (w.map fun n : Nat => PyData.int (n : Int))
  | [], _, .nil => .nil
  | n :: w, _, .cons h t => by cases (show _ = _ from h); exact .cons (.int _) (dp_nats t)
theorem dp_word {K : PySem.W.Frag} {L : List Addr} {H : Hp} {w : List Nat} {v : V} (h : (rL rNat).r (hd L H) w v) : Dp K H v (wD w) := by
  obtain ⟨p, vs, rfl, hp, t⟩ := h
  exact .lst (SqL.of (hd_some hp).2) (dp_nats (Paired.monoR hd_Ex t))
theorem dp_words {K : PySem.W.Frag} {L : List Addr} {H : Hp} : ∀ {ws : List (List Nat)} {vs : List V}, Paired ((rL rNat).r (hd L H)) ws vs → DpAll K H vs (ws.map wD)
  | [], _, .nil => .nil
  | w :: ws, _, .cons h t => .cons (dp_word h) (dp_words t)
section
variable {X : Cx} {Γ : TL.Env} {e a b : Expr} {pos : Pos} {C : Addr}
theorem any_eqv (w : List Nat) (ws : List (List Nat)) : ((ws.map wD).any fun z => PyData.eqv z (wD w)) = decide (w ∈ ws) := by
  induction ws with
  | nil => simp
  | cons v ws ih =>
    rw [List.map_cons, List.any_cons, ih, wD_eqv]
    by_cases h : w = v
    · subst h; simp
    · have : ¬ v = w := fun z => h z.symm
      simp [h, this]
theorem gt_in {w : List Nat} {ws : List (List Nat)} (hr : Room 0 X.A) (ha : GE X a Γ (rL rNat) (Is w)) (hb : GE X b Γ (rL (rL rNat)) (Is ws)) (hm : behindInMarks .In b = false := by rfl) : GT X (.Compare a [.In] [b] pos) Γ (Is (decide (w ∈ ws))) :=
  gt_cmp2 (op_inD (by have := hr.un; omega)) ha hb hm fun σ H x' y' v u hh _ p1 p2 r1 r2 Q k => by
    cases (show _ = _ from p1); cases (show _ = _ from p2)
    obtain ⟨p, vs, rfl, hp, t⟩ := r2
    refine ⟨wD w, ws.map wD, dp_word r1, .lst (SqL.of (hd_some hp).2) (dp_words t), wD_shaped w, wDs_shaped ws, ?_⟩
    rw [any_eqv]
    exact k _ H rfl hh.evr
end

def solveRows (rows : List (List Rat)) (goals : List Rat) : List (List Int) := ((rows.zip goals).map fun x => x.1 ++ [x.2]).map wholesR
def placeR (wide : Nat) (acc : Option (List Rat)) (row : List Rat) : Option (List Rat) :=
  acc.bind fun f => if headOf (row.map (·.num)) = wide then none else some (f.set (headOf (row.map (·.num))) (row.getD wide 0))
def solutionR (rows : List (List Rat)) (goals : List Rat) : Option (List Rat) :=
  (toldRows (intSteps (solveRows rows goals))).foldl (placeR (rows.getD 0 []).length) (some (List.replicate (rows.getD 0 []).length 0))
def OkSolve (rows : List (List Rat)) (goals : List Rat) : Prop :=
  0 < rows.length ∧ rows.length ≤ 1000 ∧ (rows.getD 0 []).length < 1000 ∧ (∀ r ∈ rows, r.length = (rows.getD 0 []).length) ∧ (∀ x ∈ rows.zip goals, ∀ q ∈ x.1 ++ [x.2], q.den ∣ 6 ∧ Big q.num) ∧ OkSteps (solveRows rows goals) ∧
    (∀ r ∈ intSteps (solveRows rows goals), (∃ y ∈ r, y ≠ 0) ∧ Lt 9000 r) ∧ ∀ row ∈ toldRows (intSteps (solveRows rows goals)), row.length = (rows.getD 0 []).length + 1 ∧ ∃ q ∈ row, q ≠ 0
theorem placeR_none (wide : Nat) : ∀ rs : List (List Rat), rs.foldl (placeR wide) none = none
  | [] => rfl
  | r :: rs => placeR_none wide rs
theorem num_ne {q : Rat} (h : q ≠ 0) : q.num ≠ 0 := fun z => h (Rat.num_eq_zero.mp z)
section
variable {Pg : Program} {w : World} {K : PySem.W.Frag} {mg : Str → Option Value} {base : Heap} {C : Addr}
abbrev N_solution_of : List Str := ["rows", "goals", "wide", "solved", "found", "row", "head", "goal", "number"]
abbrev S_solution_of : Stmt := tp 34
theorem sc_solution_of : FnScope N_solution_of ["rows", "goals"] (defScope S_solution_of) := ⟨rfl, rfl, rfl, by decide +kernel, rfl, by decide +kernel, by decide +kernel⟩
abbrev spSolutionOf (C : Addr) : Sp := spG (fun x : List (List Rat) × List Rat => [⟨rL (rL (rQ C)), x.1⟩, ⟨rL (rQ C), x.2⟩]) (fun x => OkSolve x.1 x.2) (rO (rL (rQ C))) (fun x => Is (solutionR x.1 x.2))
theorem ok_solution_of (B : Blt mg) (F : RatAll Pg w K mg base C) (GS0 : Fn Pg w K mg base "steps_of" ["rows"] 5 (spStepsOf C)) (GH : Fn Pg w K mg base "head_of" ["row"] 1 (spHeadOf)) (D : Df K mg "solution_of" (tp 34) ["rows", "goals"]) : Fn Pg w K mg base "solution_of" ["rows", "goals"] 6 (spSolutionOf C) := by
  refine fn_df D sc_solution_of (fun _ => rfl) (by decide) fun x hx0 f cdv A outer s H E L hr => ?_
  obtain ⟨rows, goals⟩ := x
  obtain ⟨h0, hz, hwz, hlen, hd6, hst, htold, hrow⟩ : OkSolve rows goals := hx0
  generalize hw : (rows.getD 0 []).length = wide at *
  refine gs_setI (x := (wide : Int)) 2 sc_solution_of.nd (by rw [← hw]; exact ge_len (xs := rows.getD 0 []) B.len (ge_ix (xs := rows) (k := 0) (ge_var 0) ge_int rfl (getD_get h0))) ?_
  refine gs_setI (R := rL (rL (rQ C))) (x := toldRows (intSteps (solveRows rows goals))) 3 sc_solution_of.nd ?_ ?_
  · have h1 : ∀ r ∈ (rows.zip goals).map fun x => x.1 ++ [x.2], ∀ q ∈ r, q.den ∣ 6 ∧ Big q.num := by
      intro r hr1 q hq
      obtain ⟨y, hy, rfl⟩ := List.mem_map.mp hr1
      exact hd6 y hy q hq
    refine gfn GS0 hr ((rows.zip goals).map fun x => x.1 ++ [x.2]) ⟨h1, hst, htold⟩ (ga1 (GF.ge ?_))
    refine gf_lc (own := [("row", 5), ("goal", 7)]) (fun x : List Rat × Rat => x.1 ++ [x.2]) rfl sc_solution_of.nd (gi_zip (by exact B.zip) (by exact ga_cons (ge_var 0) (ga1 (ge_var 1)))) (blkOk_by (N := N_solution_of) (sc := defScope S_solution_of) (by decide +kernel)) (fun _ _ _ _ _ => (gg_pair rfl (gg_name (n := 9) 5 sc_solution_of.nd) (gg_name (n := 9) 7 sc_solution_of.nd))) rfl (by decide) (fun D x hx _ _ _ _ _ => ?_)
    refine GF.ge (gf_cat (ge_var 5) (ge_lst [x.2] (ga1 (ge_var 7)) rfl (Nat.le_of_ble_eq_true rfl)) ?_)
    have := hlen _ (zip_len hx).1
    simp; omega
  have hfin : solutionR rows goals = (toldRows (intSteps (solveRows rows goals))).foldl (placeR wide) (some (List.replicate wide 0)) := by unfold solutionR; rw [hw]
  rw [hfin]
  generalize toldRows (intSteps (solveRows rows goals)) = told at hrow htold hfin ⊢
  clear hfin
  refine gs_own (R := rQ C) (Pe := Is (List.replicate wide 0)) 4 sc_solution_of.nd ?_ (fun xs p pxs hp => ?_)
  · refine GF.to (gf_rep (xs := [(0 : Rat)]) (ge_lst [(0 : Rat)] (ga1 ((ge_mk1 F.F (hr.mono (by decide)) ge_int).to ?_)) rfl (Nat.le_of_ble_eq_true rfl)) (ge_var 2) ?_ ?_) ?_
    · rfl
    · simp; omega
    · omega
    · simp
  cases (show _ = _ from pxs)
  refine gs_forP (fun _ i ss => ∃ f, f.length = wide ∧ (told.take i).foldl (placeR wide) (some (List.replicate wide 0)) = some f ∧ ss = [.nil, .nil, .val rI (wide : Int), .nil, .own p (rQ C) f, .nil, .nil, .nil, .nil]) rfl PassesOwn.never (gi_list (ge_var 3 (R := rL (rL (rQ C))) (x := told))) (gg_name (n := 9) 5 sc_solution_of.nd) (fun ys _ => ⟨_, ⟨_, by simp, rfl, rfl⟩, .drop (.drop (.keep (.drop (.keep (.keep (.keep (.keep (.keep .nil))))))))⟩) (fun ys i ss _ e => by obtain ⟨f, _, _, rfl⟩ := e; rfl) (fun gs ys i row ss py hxi e => ?_) (fun ys ss py e => ?_)
  · cases (show _ = _ from py)
    obtain ⟨f, hf, hfold, rfl⟩ := e
    have hm := List.mem_of_getElem? hxi
    obtain ⟨hl, q, hq, hq0⟩ := hrow row hm
    have hne : ∃ x ∈ row.map (·.num), x ≠ 0 := ⟨q.num, List.mem_map_of_mem hq, num_ne hq0⟩
    have hhead := headOf_lt hne
    rw [List.length_map, hl] at hhead
    have estep : (told.take (i + 1)).foldl (placeR wide) (some (List.replicate wide 0)) = placeR wide (some f) row := by
      rw [List.take_succ, hxi, List.foldl_append, hfold]; rfl
    refine gs_setI (R := rI) (x := (headOf (row.map (·.num)) : Int)) 6 sc_solution_of.nd ?_ ?_
    · refine gfn GH hr (row.map (·.num)) hne (ga1 (GF.ge ?_))
      refine gf_lc (own := [("number", 8)]) (fun x : Rat => x.num) rfl sc_solution_of.nd (gi_list (ge_var 5)) (blkOk_by (N := N_solution_of) (sc := defScope S_solution_of) (by decide +kernel)) (fun _ _ _ _ _ => (gg_name (n := 9) 8 sc_solution_of.nd)) rfl (by decide) (fun D x hx _ _ _ _ _ => ?_)
      exact ge_qtop F (hr.mono (by decide)) (ge_var 8)
    refine gs_ifRet (gt_eq (ge_var 6) (ge_var 2)) (fun z => ?_) (fun z => ?_)
    · have z2 := of_decide_eq_true (show true = decide ((headOf (row.map (·.num)) : Int) = (wide : Int)) from z).symm
      refine gs_ret (ge_nonO.to ?_)
      have e1 : placeR wide (some f) row = none := by
        show (if headOf (row.map (·.num)) = wide then none else some (f.set (headOf (row.map (·.num))) (row.getD wide 0))) = none
        rw [if_pos (by omega)]
      rw [e1] at estep
      rw [← List.take_append_drop (i + 1) told, List.foldl_append, estep, placeR_none]
    · have z2 := of_decide_eq_false (show false = decide ((headOf (row.map (·.num)) : Int) = (wide : Int)) from z).symm
      refine gs_setItem 4 (ge_ix (ge_var 5) (ge_var 2) rfl (getD_get (d := 0) (by omega))) (ge_var 6) rfl (by omega) (gs_end fun σ H hh => ⟨_, ⟨f.set (headOf (row.map (·.num))) (row.getD wide 0), by simp [hf], ?_, rfl⟩, hh.less (.keep (.keep (.keep (.keep (.keep (.drop (.drop (.keep (.keep .nil)))))))))⟩)
      rw [estep]
      show (if headOf (row.map (·.num)) = wide then none else some (f.set (headOf (row.map (·.num))) (row.getD wide 0))) = _
      rw [if_neg (by omega)]
  · cases (show _ = _ from py)
    obtain ⟨f, hf, hfold, rfl⟩ := e
    rw [List.take_length] at hfold
    rw [hfold]
    refine gs_froze1 (R := rQ C) (xs := f) 4 rfl rfl hp ?_
    exact gs_ret (ge_some (ge_var 4))
end
end TW

namespace TW
open PySem PySem.Spec L2 TL
theorem rL_on {α β : Type} {R : Rp β} {f : α → β} {H : Hp} {xs : List α} {v : V} : (rL (R.on f)).r H xs v ↔ (rL R).r H (xs.map f) v :=
  ⟨fun ⟨p, vs, a, b, c⟩ => ⟨p, vs, a, b, Paired.on c⟩, fun ⟨p, vs, a, b, c⟩ => ⟨p, vs, a, b, Paired.no c⟩⟩
theorem rL_up {α β : Type} {R : Rp α} {S : Rp β} {f : α → β} {H : Hp} (h : ∀ x v, R.r H x v → S.r H (f x) v) {xs : List α} {v : V} (r : (rL R).r H xs v) : (rL S).r H (xs.map f) v := by
  obtain ⟨p, vs, a, b, c⟩ := r
  exact ⟨p, vs, a, b, Paired.on (R := S) (f := f) (Paired.imp (fun x v k => h x v k) c)⟩
theorem rL_dn {α β : Type} {R : Rp α} {S : Rp β} {f : α → β} {H : Hp} (h : ∀ x v, S.r H (f x) v → R.r H x v) {xs : List α} {v : V} (r : (rL S).r H (xs.map f) v) : (rL R).r H xs v := by
  obtain ⟨p, vs, a, b, c⟩ := r
  exact ⟨p, vs, a, b, Paired.imp (fun x v k => h x v k) (Paired.no (R := S) (f := f) c)⟩
def castL (xs : List Int) : List Rat := xs.map fun i : Int => (i : Rat)
def castT (t : List (List Int)) : List (List Rat) := t.map castL
section
variable {X : Cx} {Γ : TL.Env} {e a b : Expr} {p pos : Pos} {C : Addr} {α β : Type} {R : Rp α} {S : Rp β}
theorem GE.on {x : α} {y : β} (h : GE X e Γ R (Is x)) (k : ∀ H v, R.r H x v → S.r H y v) : GE X e Γ S (Is y) := h.re fun x' v H p r => ⟨y, rfl, by cases (show _ = _ from p); exact k H v r⟩
theorem rZ_L {H : Hp} {xs : List Int} {v : V} : (rL (rZ C)).r H xs v ↔ (rL (rQ C)).r H (castL xs) v := rL_on
theorem rZ_T {H : Hp} {t : List (List Int)} {v : V} : (rL (rL (rZ C))).r H t v ↔ (rL (rL (rQ C))).r H (castT t) v :=
  ⟨fun r => rL_up (fun _ _ => rZ_L.mp) r, fun r => rL_dn (fun _ _ => rZ_L.mpr) r⟩
theorem ge_get {x : α} (h : GE X e Γ (rO R) (Is (some x))) : GE X e Γ R (Is x) := GE.on h fun _ _ r => r
theorem ge_const {x : Str} {i : Int} (hm : ∃ t, X.mg x = some (.int i t)) (hg : Gl X x := by rfl) (hd : (x == ("__debug__" : Str)) = false := by decide) : GE X (.Name x pos) Γ rI (Is i) := by
  obtain ⟨t, hm⟩ := hm
  exact ge_of (pe_glob (v := .int i) hg hm ⟨t, rfl⟩ hd) fun σ H h Q q => q i _ H rfl h.evr rfl
theorem Rp.notNon_list {H : Hp} {x : List α} {v : V} (h : (rL R).r H x v) : v ≠ .non := by
  obtain ⟨p, vs, rfl, _⟩ := h
  exact fun z => nomatch z
end
theorem relabel_cf (f : Str × NameKind → Str × NameKind) (h1 : ∀ y, (f y).1 = y.1) (h2 : ∀ y, y.2 = .cell ∨ y.2 = .free → (f y).2 = .cell ∨ (f y).2 = .free) : ∀ (names : List (Str × NameKind)) (x : Str), names.lookup x = some .cell ∨ names.lookup x = some .free → (names.map f).lookup x = some .cell ∨ (names.map f).lookup x = some .free
  | [], x, h => by simp at h
  | (n, k) :: r, x, h => by
    have ih := relabel_cf f h1 h2 r x
    have g1 := h1 (n, k)
    have g2 := h2 (n, k)
    rw [List.map_cons]
    rcases hf : f (n, k) with ⟨n', k'⟩
    rw [hf] at g1 g2
    simp only at g1 g2
    subst g1
    rw [List.lookup_cons] at h ⊢
    by_cases hx : (x == n') = true
    · rw [hx] at h ⊢
      simp only [Option.some.injEq] at h ⊢
      exact g2 h
    · rw [Bool.eq_false_iff.mpr hx] at h ⊢
      exact ih h
theorem blkOk_in {X : Cx} {s : Shared} {H0 : Hp} {scope sc2 : Scope} {cl : List (Str × Addr)} {C : Addr} {fp : List Addr} {own : List (Str × Nat)} (N : List Str) (h : blkC N scope sc2 own = true) (hN : X.N = N := by rfl) :
    BlkOk (X.blk s H0 scope (compEnvC scope cl C X.env) fp).N (X.blk s H0 scope (compEnvC scope cl C X.env) fp).env.scope sc2 own := by
  subst hN
  obtain ⟨a, b, c, d, e⟩ := blkOk_by h
  refine ⟨a, b, c, fun y hy hf => ?_, e⟩
  refine relabel_cf (fun (n, k) => if (k == NameKind.free && X.env.scope.kind == .function && X.env.kindOf n == some .cell) then (n, NameKind.cell) else (n, k)) (fun y => ?_) (fun y hy => ?_) scope.names y.1 (d y hy hf)
  · obtain ⟨n, k⟩ := y
    dsimp only
    split <;> rfl
  · obtain ⟨n, k⟩ := y
    dsimp only
    split
    · exact .inl rfl
    · exact hy
def cellT (row : List Int) (b : List (List Int)) (to : Nat) : Int := ((row.zip b).map fun x => x.1 * x.2.getD to 0).sum
def mulT (a b : List (List Int)) : List (List Int) := a.map fun row => (List.range (b.getD 0 []).length).map fun to => cellT row b to
def idleT (n : Nat) : List (List Int) := (List.range n).map fun at_ => (List.range n).map fun to => if at_ = to then 1 else 0
def Sq {α : Type} (n : Nat) (t : List (List α)) : Prop := t.length = n ∧ ∀ r ∈ t, r.length = n
def mixT (t o : List (List Rat)) (q : Rat) : List (List Rat) := (t.zip o).map fun x => (x.1.zip x.2).map fun y => y.1 + q * y.2
def scaleT (t : List (List Rat)) (q : Rat) : List (List Rat) := t.map fun r => r.map fun y => q * y
theorem lcmD_ints : ∀ (xs : List Int), lcmD (castL xs) = 1 := by
  have h : ∀ (xs : List Int), (castL xs).foldl (fun b (r : Rat) => Nat.lcm b r.den) 1 = 1 := by
    intro xs
    unfold castL
    rw [List.foldl_map]
    induction xs with
    | nil => rfl
    | cons x xs ih =>
      rw [List.foldl_cons, ic_den]
      exact ih
  exact h
theorem wholesR_ints (xs : List Int) : wholesR (castL xs) = xs := by
  unfold wholesR
  rw [lcmD_ints]
  unfold castL
  rw [List.map_map]
  conv => rhs; rw [← List.map_id xs]
  refine List.map_congr_left fun x _ => ?_
  show (x : Rat).num * (((1 : Nat) : Int) / (((x : Rat).den : Nat) : Int)) = x
  rw [ic_num, ic_den]
  simp
theorem worth_l (xs : List Int) : xs.map (fun i => worth (.inl i)) = castL xs := rfl
/-- rows of one length, laid one behind the other, are cut out again -/
theorem cut_rows {α : Type} {w : Nat} : ∀ {t : List (List α)} {k : Nat} {r : List α}, (∀ r ∈ t, r.length = w) → t[k]? = some r → (t.flatten.drop (k * w)).take w = r
  | [], k, r, _, h => by simp at h
  | x :: t, 0, r, hw, h => by
    have h1 := hw x List.mem_cons_self
    simp at h; subst h
    simp [← h1]
  | x :: t, k + 1, r, hw, h => by
    have h1 := hw x List.mem_cons_self
    have h2 : t[k]? = some r := by simpa using h
    have ih := cut_rows (w := w) (fun r m => hw r (List.mem_cons_of_mem _ m)) h2
    rw [List.flatten_cons, show (k + 1) * w = x.length + k * w by rw [Nat.succ_mul, h1, Nat.add_comm], List.drop_append, List.drop_of_length_le (by omega), List.nil_append]
    simpa using ih
theorem cut_at {α : Type} (xs : List α) (i j : Nat) (h : i ≤ j) (hl : j ≤ xs.length) : cut xs (some (i : Int)) (some (j : Int)) = (xs.drop i).take (j - i) := by
  unfold cut
  rw [HT.sIx_nat, HT.sIx_nat, Nat.min_eq_left hl, Nat.min_eq_left (Nat.le_trans h hl)]
theorem castT_flat (t : List (List Int)) : (castT t).flatten = castL t.flatten := by
  unfold castT castL
  rw [List.map_flatten]

theorem lcmD_one {rs : List Rat} (h : ∀ q ∈ rs, q.den = 1) : lcmD rs = 1 := Nat.dvd_one.mp (lcmD_dvd (Nat.one_dvd _) fun r m => by rw [h r m]; exact Nat.one_dvd _)
structure Consts (mg : Str → Option Value) : Prop where
  size : ∃ t, mg "MOST_SIZE" = some (.int 4 t)
  letters : ∃ t, mg "MOST_LETTERS" = some (.int 3 t)
  word : ∃ t, mg "MOST_WORD" = some (.int 16 t)
  mixed : ∃ t, mg "MOST_MIXED" = some (.int 40 t)
section
variable {Pg : Program} {w : World} {K : PySem.W.Frag} {mg : Str → Option Value} {base : Heap} {C : Addr}
abbrev N_are_numbers : List Str := ["value", "wide", "number"]
abbrev S_are_numbers : Stmt := tp 35
theorem sc_are_numbers : FnScope N_are_numbers ["value", "wide"] (defScope S_are_numbers) := ⟨rfl, rfl, rfl, by decide +kernel, rfl, by decide +kernel, by decide +kernel⟩
abbrev spAreNumbers (C : Addr) : Sp := spG (fun x : List (Int ⊕ Rat) => [⟨rL (rIQ C), x⟩, ⟨rI, (x.length : Int)⟩]) (fun _ => True) rB (fun _ => Is true)
theorem ok_are_numbers (B : Blt mg) (GL : Fn Pg w K mg base "is_list" ["value"] 1 (spIsList)) (GN : Fn Pg w K mg base "is_number" ["value"] 2 (spIsNumber C)) (D : Df K mg "are_numbers" (tp 35) ["value", "wide"]) : Fn Pg w K mg base "are_numbers" ["value", "wide"] 3 (spAreNumbers C) := by
  refine fn_df D sc_are_numbers (fun _ => rfl) (by decide) fun x hx f cdv A outer s H E L hr => ?_
  refine gs_ret (GE.to (x := true && (decide ((x.length : Int) = (x.length : Int)) && (x.map fun _ => true).all id)) (ge_and ?_ fun _ => ge_and (ge_eq (ge_len (xs := x) B.len (ge_var 0)) (ge_var 1)) fun _ => ge_bone (ge_all rfl B.all (GF.ge ?_))) (by simp))
  · exact gfn GL hr () trivial (ga1 (ge_seqLT (ge_LT (ge_var 0 (R := rL (rIQ C)) (x := x)))))
  · refine gf_lc (own := [("number", 2)]) (fun _ : Int ⊕ Rat => true) rfl sc_are_numbers.nd (gi_list (ge_var 0)) (blkOk_by (N := N_are_numbers) (sc := defScope S_are_numbers) (by decide +kernel)) (fun _ _ _ _ _ => (gg_name (n := 3) 2 sc_are_numbers.nd)) rfl (by decide) (fun D y hy _ _ _ _ _ => ?_)
    exact gfn GN hr y trivial (ga1 (ge_var 2))
abbrev N_table_in : List Str := ["value", "row", "number"]
abbrev S_table_in : Stmt := tp 38
theorem sc_table_in : FnScope N_table_in ["value"] (defScope S_table_in) := ⟨rfl, rfl, rfl, by decide +kernel, rfl, by decide +kernel, by decide +kernel⟩
abbrev spTableIn (C : Addr) : Sp := spG (fun x : List (List (Int ⊕ Rat)) => [⟨rLT (rL (rIQ C)), x⟩]) (fun x => 1 ≤ x.length ∧ x.length ≤ 4 ∧ ∀ r ∈ x, r.length = x.length) (rO (rL (rL (rQ C)))) (fun x => Is (some (x.map fun r => r.map worth)))
theorem ok_table_in (B : Blt mg) (Cn : Consts mg) (GL : Fn Pg w K mg base "is_list" ["value"] 1 (spIsList)) (GN : Fn Pg w K mg base "are_numbers" ["value", "wide"] 3 (spAreNumbers C)) (GR : Fn Pg w K mg base "ratio_of" ["number"] 4 (spRatioOf C)) (D : Df K mg "table_in" (tp 38) ["value"]) : Fn Pg w K mg base "table_in" ["value"] 5 (spTableIn C) := by
  refine fn_df D sc_table_in (fun _ => rfl) (by decide) fun x hx0 f cdv A outer s H E L hr => ?_
  obtain ⟨h1, h2, h3⟩ := hx0
  refine gs_ifNever (Pc := Is false) (by
    refine GT.to (x := !true || !(decide ((1 : Int) ≤ (x.length : Int)) && decide ((x.length : Int) ≤ 4))) (GW.gt (gw_or (gt_not (gt_val ?_)) fun _ => gw_or1 (gt_not (gt_chain (g := fun i j => decide (i ≤ j)) (g' := fun i j => decide (i ≤ j)) op_le op_le ge_int (ge_lenLT (xs := x) B.len (ge_var 0)) (ge_const Cn.size))))) ?_
    · exact gfn GL hr () trivial (ga1 (ge_seqLT (ge_var 0 (R := rLT (rL (rIQ C))) (x := x))))
    · have e1 : decide ((1 : Int) ≤ (x.length : Int)) = true := decide_eq_true (by omega)
      have e2 : decide ((x.length : Int) ≤ 4) = true := decide_eq_true (by omega)
      rw [e1, e2]; rfl) (fun z => by cases (show _ = _ from z)) ?_
  refine gs_ifNever (Pc := Is false) (by
    refine GT.to (x := !((x.map fun _ => true).all id)) (gt_not (gt_val (ge_all rfl B.all (GF.ge ?_)))) (by simp)
    refine gf_lc (own := [("row", 1)]) (fun _ : List (Int ⊕ Rat) => true) rfl sc_table_in.nd (gi_lt 0 (xs := x) (by omega)) (blkOk_by (N := N_table_in) (sc := defScope S_table_in) (by decide +kernel)) (fun _ _ _ _ _ => (gg_name (n := 3) 1 sc_table_in.nd)) rfl (by decide) (fun D r hr1 _ _ _ _ _ => ?_)
    refine gfn GN hr r trivial (ga_cons (ge_var 1) (ga1 ((ge_lenLT (xs := x) B.len (ge_var 0)).to ?_)))
    rw [h3 r hr1]) (fun z => by cases (show _ = _ from z)) ?_
  refine gs_ret (ge_some (GF.ge ?_))
  refine gf_lc (own := [("row", 1)]) (fun r : List (Int ⊕ Rat) => r.map worth) rfl sc_table_in.nd (gi_lt 0 (xs := x) (by omega)) (blkOk_by (N := N_table_in) (sc := defScope S_table_in) (by decide +kernel)) (fun _ _ _ _ _ => (gg_name (n := 3) 1 sc_table_in.nd)) rfl (by decide) (fun D r hr1 _ _ _ _ _ => ?_)
  refine GF.ge ?_
  refine gf_lc (own := [("number", 2)]) worth rfl sc_table_in.nd (gi_list (ge_var 1)) (blkOk_in N_table_in (by decide +kernel)) (fun _ _ _ _ _ => (gg_name (n := 3) 2 sc_table_in.nd)) rfl (by decide) (fun D q hq _ _ _ _ _ => ?_)
  exact gfn GR hr q trivial (ga1 (ge_var 2))
end
end TW

namespace TW
open PySem PySem.Spec L2 TL
section
variable {X : Cx} {Γ : TL.Env} {e a b : Expr} {p pos : Pos} {C : Addr} {α β : Type} {R : Rp α} {S : Rp β}
theorem ge_zL {xs : List Int} (h : GE X e Γ (rL (rQ C)) (Is (castL xs))) : GE X e Γ (rL (rZ C)) (Is xs) := GE.on h fun _ _ r => rZ_L.mpr r
theorem ge_qL {xs : List Int} (h : GE X e Γ (rL (rZ C)) (Is xs)) : GE X e Γ (rL (rQ C)) (Is (castL xs)) := GE.on h fun _ _ r => rZ_L.mp r
theorem ge_zT {t : List (List Int)} (h : GE X e Γ (rL (rL (rQ C))) (Is (castT t))) : GE X e Γ (rL (rL (rZ C))) (Is t) := GE.on h fun _ _ r => rZ_T.mpr r
theorem ge_qT {t : List (List Int)} (h : GE X e Γ (rL (rL (rZ C))) (Is t)) : GE X e Γ (rL (rL (rQ C))) (Is (castT t)) := GE.on h fun _ _ r => rZ_T.mp r
theorem ge_z {x : Int} (h : GE X e Γ (rQ C) (Is (x : Rat))) : GE X e Γ (rZ C) (Is x) := GE.on h fun _ _ r => r
theorem ge_q {x : Int} (h : GE X e Γ (rZ C) (Is x)) : GE X e Γ (rQ C) (Is (x : Rat)) := GE.on h fun _ _ r => r
end
section
variable {X : Cx} {Γ : TL.Env} {α τ β : Type} {R : Rp α} {T : Rp τ} {S : Rp β} {P : β → Prop} {N : L2.St → Hp → Prop} {rest : List Stmt} {pos : Pos}
/-- a, b = [..], y where not both are plain locals: the list is to be changed -/
theorem gs_parOg (i j : Nat) {nm mm : Str} {px py pt pt2 : Pos} {kt k2 : Nat} {a b : Expr} {xs : List α} {Pe : τ → Prop} (hc : X.calm = true) (hN : X.N.Nodup) (ha : GF X a Γ R (Is xs)) (hb : ∀ p, GE X b { Γ with L := p :: Γ.L } T Pe)
    (k : ∀ p y, Pe y → p ∉ Γ.L → GS X rest { Γ with L := p :: Γ.L, s := (Γ.s.set i (.own p R xs)).set j (.val T y) } S P N)
    (hi : X.N[i]? = some nm := by rfl) (hj : X.N[j]? = some mm := by rfl) (hni : i < Γ.s.length := by exact Nat.le_of_ble_eq_true rfl) (hnj : j < Γ.s.length := by exact Nat.le_of_ble_eq_true rfl)
    (hx : Loc X.env.scope nm := by first | exact Or.inl rfl | exact Or.inr rfl) (hy : Loc X.env.scope mm := by first | exact Or.inl rfl | exact Or.inr rfl)
    (fx : X.fn nm = true ∨ X.env.scope.names.lookup nm = some .local := by first | exact .inl rfl | exact .inr rfl) (fy : X.fn mm = true ∨ X.env.scope.names.lookup mm = some .local := by first | exact .inl rfl | exact .inr rfl)
    (hs : swapsWithSole [.Tuple [.Name nm px, .Name mm py] kt pt] (.Tuple [a, b] k2 pt2) pos.line X.env = pure false := by rfl) (hw : swappedStores [.Tuple [.Name nm px, .Name mm py] kt pt] (.Tuple [a, b] k2 pt2) X.env = pure none := by rfl)
    (h1 : (assignEach [.Tuple [.Name nm px, .Name mm py] kt pt] X.env).map (·.2) = [assign (.Tuple [.Name nm px, .Name mm py] kt pt) X.env] := by rfl)
    (hs1 : starEach [a, b] X.env = (false, eval a X.env) :: starEach [b] X.env := by rfl) (hs2 : starEach [b] X.env = (false, eval b X.env) :: starEach [] X.env := by rfl)
    (q1 : (assignEach [.Name nm px, .Name mm py] X.env).map (·.2) = assign (.Name nm px) X.env :: (assignEach [.Name mm py] X.env).map (·.2) := by rfl) (q2 : (assignEach [.Name mm py] X.env).map (·.2) = assign (.Name mm py) X.env :: (assignEach [] X.env).map (·.2) := by rfl)
    (q3 : (assignEach [.Name nm px, .Name mm py] X.env).length = 2 := by rfl) (q4 : (assignEach [.Name nm px, .Name mm py] X.env).findIdx? (·.1) = none := by rfl) :
    GS X (.Assign [.Tuple [.Name nm px, .Name mm py] kt pt] (.Tuple [a, b] k2 pt2) pos :: rest) Γ S P N := gs_cons fun σ H h D q r =>
  s_ps (ps_asg (pe_tup (pa_cons pe_s (pa_cons pe_s pa_nil hs2) hs1)) (pg_tup hc (pgs_cons (pg_name hN hi hx fx) (pgs_cons (pg_name hN hj hy fy) pgs_nil q2) q1) q3 q4) hs hw h1) (ha σ H h _ fun xs' p vs H1 p1 hp e1 hl r1 => by
    cases (show _ = _ from p1)
    have g0 := h.hide hp e1 (by rw [hl]; intro z; cases z)
    refine hb p σ H1 g0 _ fun y' u H2 p2 e2 z2 r2 => ⟨by show 2 ≤ sizeLine; decide, fun t ht => ⟨t, [.ref p, u], rfl, SqT.of upd_same, rfl, .ref p, [u], rfl, u, [], rfl, rfl, k p y' p2 (h.notL hp) _ _ ?_ D q r⟩⟩
    have hl2 : H2 p = some (.lst vs) := (e2 p _ hl).1 fun z => (h.l0 p (h.pot p z).1).2 (h.back hp)
    have ex := Ex.new (o := .tup [.ref p, u]) ht
    have g3 := (g0.ev e2).eve ex
    have g1 := h.owned hni hp ((e1.trans e2).trans g3) (ex _ _ hl2) (Paired.monoR (Ex.hd ex) (Paired.monoR (g0.hdx e2) r1))
    exact g1.set (by show j < (Γ.s.set i _).length; rw [List.length_set]; exact hnj) (T.mono (Ex.hd ex) r2))
end
theorem cast_den {xs : List Int} {q : Rat} (h : q ∈ castL xs) : q.den = 1 := by
  obtain ⟨i, _, rfl⟩ := List.mem_map.mp h
  exact ic_den i
theorem Sq.flat {α : Type} {n m : Nat} : ∀ {t : List (List α)}, (∀ r ∈ t, r.length = n) → t.length = m → t.flatten.length = m * n
  | [], _, h => by simp at h; subst h; simp
  | r :: t, h, hm => by
    obtain ⟨k, rfl⟩ : ∃ k, m = k + 1 := ⟨t.length, by simpa using hm.symm⟩
    have ih := Sq.flat (t := t) (m := k) (fun r m => h r (List.mem_cons_of_mem _ m)) (by simpa using hm)
    rw [List.flatten_cons, List.length_append, ih, h r List.mem_cons_self, Nat.succ_mul, Nat.add_comm]
theorem map_range_get {α : Type} (t : List α) (f : Nat → α) (h : ∀ k x, t[k]? = some x → f k = x) : (List.range t.length).map f = t := by
  refine List.ext_getElem? fun i => ?_
  rcases Nat.lt_or_ge i t.length with hi | hi
  · rw [List.getElem?_map, List.getElem?_range hi, Option.map_some, List.getElem?_eq_getElem hi, h i _ (List.getElem?_eq_getElem hi)]
  · rw [List.getElem?_eq_none (by simpa using hi), List.getElem?_eq_none hi]
section
variable {Pg : Program} {w : World} {K : PySem.W.Frag} {mg : Str → Option Value} {base : Heap} {C : Addr}
abbrev N_want_sized : List Str := ["value", "size", "found"]
abbrev S_want_sized : Stmt := tp 39
theorem sc_want_sized : FnScope N_want_sized ["value", "size"] (defScope S_want_sized) := ⟨rfl, rfl, rfl, by decide +kernel, rfl, by decide +kernel, by decide +kernel⟩
abbrev spWantSized (C : Addr) : Sp := spG (fun x : List (List (Int ⊕ Rat)) => [⟨rLT (rL (rIQ C)), x⟩, ⟨rI, (x.length : Int)⟩]) (fun x => 1 ≤ x.length ∧ x.length ≤ 4 ∧ ∀ r ∈ x, r.length = x.length) (rL (rL (rQ C))) (fun x => Is (x.map fun r => r.map worth))
theorem ok_want_sized (B : Blt mg) (GT0 : Fn Pg w K mg base "table_in" ["value"] 5 (spTableIn C)) (D : Df K mg "want_sized" (tp 39) ["value", "size"]) : Fn Pg w K mg base "want_sized" ["value", "size"] 6 (spWantSized C) := by
  refine fn_df D sc_want_sized (fun _ => rfl) (by decide) fun x hx0 f cdv A outer s H E L hr => ?_
  refine gs_setI 2 sc_want_sized.nd (by exact gfn GT0 hr x hx0 (ga1 (ge_var 0))) ?_
  refine gs_ifNever (Pc := Is false) (by
    refine GT.to (x := (some (x.map fun r => r.map worth)).isNone || !decide (((x.map fun r => r.map worth).length : Int) = (x.length : Int))) (GW.gt (gw_or (gt_isN (fun _ _ _ => Rp.notNon_list) (ge_var 2)) fun _ => gw_or1 (gt_ne (ge_len (xs := x.map fun r => r.map worth) B.len (ge_get (ge_var 2))) (ge_var 1)))) ?_
    simp) (fun z => by cases (show _ = _ from z)) ?_
  exact gs_ret (ge_get (ge_var 2))
abbrev N_bare_table : List Str := ["table", "row", "flat", "wide", "bottom", "numbers", "at"]
abbrev S_bare_table : Stmt := tp 40
theorem sc_bare_table : FnScope N_bare_table ["table"] (defScope S_bare_table) := ⟨rfl, rfl, rfl, by decide +kernel, rfl, by decide +kernel, by decide +kernel⟩
abbrev spBareTable (C : Addr) : Sp := spG (fun x : List (List Int) => [⟨rL (rL (rZ C)), x⟩]) (fun x => (∃ n, Sq n x ∧ 1 ≤ n ∧ n ≤ 4) ∧ ∀ r ∈ x, ∀ i ∈ r, Big i) (rP rI (rL (rL rI))) (fun x => Is (1, x))
theorem ok_bare_table (B : Blt mg) (GW0 : Fn Pg w K mg base "wholes" ["ratios"] 1 (spWholes C)) (D : Df K mg "bare_table" (tp 40) ["table"]) : Fn Pg w K mg base "bare_table" ["table"] 2 (spBareTable C) := by
  refine fn_df D sc_bare_table (fun _ => rfl) (by decide) fun t ht0 f cdv A outer s H E L hr => ?_
  obtain ⟨⟨n, ⟨hn, hsq⟩, h1, h2⟩, hbig⟩ := ht0
  have hg : (t.getD 0 []).length = n := hsq _ (getD_mem (by omega))
  refine gs_ifNever (Pc := Is (decide ((t.length : Int) = 0))) (gt_eq (ge_len (xs := t) B.len (ge_var 0)) ge_int) (fun z => by
    have := of_decide_eq_true (show true = decide ((t.length : Int) = 0) from z).symm
    omega) ?_
  refine gs_parOg (R := rZ C) (T := rI) (xs := []) (Pe := Is (n : Int)) 2 3 rfl sc_bare_table.nd gf_nil (fun p => by rw [← hg]; exact ge_len (xs := t.getD 0 []) B.len (ge_ix (xs := t) (k := 0) (ge_var 0) ge_int rfl (getD_get (by omega)))) (fun p y py hp => ?_)
  cases (show _ = _ from py)
  refine gs_for (xs := t) (fun i => [.val (rL (rL (rZ C))) t, .nil, .own p (rZ C) (t.take i).flatten, .val rI (n : Int), .nil, .nil, .nil]) rfl PassesOwn.never (gi_list (ge_var 0)) (gg_name (n := 7) 1 sc_bare_table.nd) (.keep (.drop (.keep (.keep (.keep (.keep (.keep .nil))))))) (fun _ => rfl) (fun gs i r hx => ?_) ?_
  · have hlen : (t.take i).flatten.length = (t.take i).length * n := Sq.flat (fun r m => hsq r (List.mem_of_mem_take m)) rfl
    have hm : (t.take i).length ≤ 4 := by rw [List.length_take]; omega
    have hr1 := hsq r (List.mem_of_getElem? hx)
    refine gs_extend (Pe := Is r) 2 (ge_var 1) (fun ys py => ?_) (fun ys py => ?_)
    · cases (show _ = _ from py)
      have e : (t.take (i + 1)).flatten = (t.take i).flatten ++ r := by rw [List.take_succ, hx]; simp
      rw [e]
      exact gs_end fun σ H hh => hh.less (.keep (.drop (.keep (.keep (.keep (.keep (.keep .nil)))))))
    · cases (show _ = _ from py)
      rw [hlen, hr1]
      have := Nat.mul_le_mul hm h2
      omega
  rw [List.take_length]
  refine gs_froze1 (R := rZ C) (xs := t.flatten) 2 rfl rfl hp ?_
  refine gs_asg (R := rP rI (rL rI)) (Pe := Is ((1 : Int), t.flatten)) ?_ (gg_pair rfl (gg_name (n := 7) 4 sc_bare_table.nd) (gg_name (n := 7) 5 sc_bare_table.nd)) rfl (fun y py => ?_)
  · refine GE.to (x := ((lcmD (castL t.flatten) : Int), wholesR (castL t.flatten))) ?_ (by rw [lcmD_ints, wholesR_ints]; rfl)
    refine gfn GW0 hr (castL t.flatten) (fun q hq => ?_) (ga1 (ge_qL (ge_var 2 (R := rL (rZ C)) (x := t.flatten))))
    obtain ⟨i, hi, rfl⟩ := List.mem_map.mp hq
    obtain ⟨r, hr1, hr2⟩ := List.mem_flatten.mp hi
    exact ⟨by rw [ic_den]; exact Nat.one_dvd _, by rw [ic_num]; exact hbig r hr1 i hr2⟩
  cases (show _ = _ from py)
  refine gs_ret (ge_pair (ge_var 4) (GF.ge (GF.to (x := (List.range t.length).map fun k => (t.flatten.drop (k * n)).take n) ?_ (map_range_get t _ fun k x hk => cut_rows hsq hk))))
  refine gf_lc (T := rNat) (own := [("at", 6)]) (fun k => (t.flatten.drop (k * n)).take n) rfl sc_bare_table.nd ?_ (blkOk_by (N := N_bare_table) (sc := defScope S_bare_table) (by decide +kernel)) (fun _ _ _ _ _ => (gg_name (n := 7) 6 sc_bare_table.nd)) rfl (by decide) (fun D k hk _ _ _ _ _ => ?_)
  · refine gi_range (Pn := Is (t.length : Int)) B.range (ge_len (xs := t) B.len (ge_var 0)) (fun m pm => ?_)
    cases (show _ = _ from pm)
    exact ⟨by omega, by omega, by rw [Int.toNat_natCast]; rfl⟩
  · have hkt : k < t.length := List.mem_range.mp hk
    have hfl : t.flatten.length = n * n := Sq.flat hsq hn
    have hkn : (k + 1) * n ≤ n * n := Nat.mul_le_mul_right n (by omega)
    have hk4 : k * n ≤ (k + 1) * n := Nat.mul_le_mul_right n (by omega)
    refine GF.ge (GF.to (x := cut t.flatten (some ((k : Int) * (n : Int))) (some (((k : Int) + 1) * (n : Int)))) (gf_slice (ge_var 5) (go_some (ge_mul (ge_nat (ge_var 6)) (ge_var 3) ?_)) (go_some (ge_mul (ge_add (ge_nat (ge_var 6)) ge_int) (ge_var 3) ?_))) ?_)
    · exact big_mul (big_small (by omega)) (big_small (by omega))
    · exact big_mul (big_small (by omega)) (big_small (by omega))
    · rw [show (k : Int) * (n : Int) = ((k * n : Nat) : Int) by push_cast; rfl, show ((k : Int) + 1) * (n : Int) = (((k + 1) * n : Nat) : Int) by push_cast; rfl, cut_at _ _ _ hk4 (by rw [hfl]; exact hkn)]
      congr 1
      rw [Nat.succ_mul]; omega

theorem range_GI {X : Cx} {Γ : TL.Env} {tg e : Expr} {p pos : Pos} {n : Nat} (hm : X.mg "range" = none) (he : GE X e Γ rI (Is (n : Int))) (h : n < 100000) (hg : Gl X "range" := by rfl) (hs : starEach [e] X.env = [(false, eval e X.env)] := by rfl)
    (hs' : starEach [e] X.env = (false, eval e X.env) :: starEach [] X.env := by rfl) : GI X tg (.Call (.Name "range" p) [e] [] pos) Γ rNat (Is (List.range n)) :=
  gi_range hm he (fun m pm => by
    cases (show _ = _ from pm)
    exact ⟨by omega, by omega, by rw [Int.toNat_natCast]; rfl⟩) hg hs hs'
abbrev N_int_product : List Str := ["rows", "others", "wide", "row", "to", "number", "line"]
abbrev S_int_product : Stmt := tp 41
theorem sc_int_product : FnScope N_int_product ["rows", "others"] (defScope S_int_product) := ⟨rfl, rfl, rfl, by decide +kernel, rfl, by decide +kernel, by decide +kernel⟩
abbrev spIntProduct : Sp := spG (fun x : List (List Int) × List (List Int) => [⟨rL (rL rI), x.1⟩, ⟨rL (rL rI), x.2⟩]) (fun x => 1 ≤ x.2.length ∧ (x.2.getD 0 []).length < 1000 ∧ (∀ r ∈ x.2, r.length = (x.2.getD 0 []).length) ∧ (∀ r ∈ x.1, ∀ i ∈ r, Big i) ∧ ∀ r ∈ x.2, ∀ i ∈ r, Big i) (rL (rL rI)) (fun x => Is (mulT x.1 x.2))
theorem ok_int_product (B : Blt mg) (D : Df K mg "int_product" (tp 41) ["rows", "others"]) : Fn Pg w K mg base "int_product" ["rows", "others"] 1 (spIntProduct) := by
  refine fn_df D sc_int_product (fun _ => rfl) (by decide) fun x hx0 f cdv A outer s H E L hr => ?_
  obtain ⟨a, b⟩ := x
  obtain ⟨h0, hz, hw, ha, hb⟩ := hx0
  generalize hwd : (b.getD 0 []).length = n at hz hw
  have hmul : mulT a b = a.map fun row => (List.range n).map fun to => cellT row b to := by unfold mulT; rw [hwd]
  have h0' : 1 ≤ b.length := h0
  refine gs_setI (R := rI) (x := (n : Int)) 2 sc_int_product.nd (ge_ifExp (gt_gt (ge_len (xs := b) B.len (ge_var 1)) ge_int) (fun z => ?_) (fun z => ?_)) ?_
  · rw [← hwd]; exact ge_len (xs := b.getD 0 []) B.len (ge_ix (xs := b) (k := 0) (ge_var 1) ge_int rfl (getD_get h0'))
  · have := of_decide_eq_false (show false = decide ((0 : Int) < (b.length : Int)) from z).symm
    omega
  refine gs_ret (GF.ge (GF.to (x := a.map fun row => (List.range n).map fun to => cellT row b to) ?_ hmul.symm))
  refine gf_lc (own := [("row", 3)]) (fun row : List Int => (List.range n).map fun to => cellT row b to) rfl sc_int_product.nd (gi_list (ge_var 0)) (blkOk_by (N := N_int_product) (sc := defScope S_int_product) (by decide +kernel)) (fun _ _ _ _ _ => (gg_name (n := 7) 3 sc_int_product.nd)) rfl (by decide) (fun D row hrow _ _ _ _ _ => ?_)
  refine GF.ge ?_
  refine gf_lc (T := rNat) (own := [("to", 4)]) (fun to => cellT row b to) rfl sc_int_product.nd (range_GI B.range (ge_var 2) (by omega)) (blkOk_in N_int_product (by decide +kernel)) (fun _ _ _ _ _ => (gg_name (n := 7) 4 sc_int_product.nd)) rfl (by decide) (fun D to hto _ _ _ _ _ => ?_)
  refine GE.to (x := ((row.zip b).map fun x => x.1 * x.2.getD to 0).sum) (ge_sum rfl B.sum (GF.ge ?_)) rfl
  refine gf_lc (own := [("number", 5), ("line", 6)]) (fun x : Int × List Int => (x.1 * x.2.getD to 0 : Int)) rfl sc_int_product.nd (gi_zip (by exact B.zip) (by exact ga_cons (ge_var 3) (ga1 (ge_var 1)))) (blkOk_in N_int_product (by decide +kernel)) (fun _ _ _ _ _ => (gg_pair rfl (gg_name (n := 7) 5 sc_int_product.nd) (gg_name (n := 7) 6 sc_int_product.nd))) rfl (by decide) (fun D x hx _ _ _ _ _ => ?_)
  have hm := zip_len hx
  have ht : to < x.2.length := by rw [hw _ hm.2]; exact List.mem_range.mp hto
  exact ge_mul (ge_var 5) (ge_ixN (d := 0) (ge_var 6) (ge_var 4 (R := rNat) (x := to)) ht) (big_mul (ha _ hrow _ hm.1) (hb _ hm.2 _ (getD_mem ht)))
abbrev N_over_bottom : List Str := ["rows", "bottom", "row", "number"]
abbrev S_over_bottom : Stmt := tp 42
theorem sc_over_bottom : FnScope N_over_bottom ["rows", "bottom"] (defScope S_over_bottom) := ⟨rfl, rfl, rfl, by decide +kernel, rfl, by decide +kernel, by decide +kernel⟩
abbrev spOverBottom (C : Addr) : Sp := spG (fun x : List (List Int) => [⟨rL (rL rI), x⟩, ⟨rI, 1⟩]) (fun _ => True) (rL (rL (rZ C))) (fun x => Is x)
theorem gs_one (t : Int) : Gs t 1 := ⟨by decide, by rw [show (1 : Int).natAbs = 1 from rfl, Nat.gcd_one_right]; exact Nat.one_lt_two_pow (by decide)⟩
theorem ok_over_bottom (F : RatF Pg w K mg base C) (D : Df K mg "over_bottom" (tp 42) ["rows", "bottom"]) : Fn Pg w K mg base "over_bottom" ["rows", "bottom"] 4 (spOverBottom C) := by
  refine fn_df D sc_over_bottom (fun _ => rfl) (by decide) fun x hx0 f cdv A outer s H E L hr => ?_
  refine gs_ret (GF.ge (GF.to (x := x.map fun r => r.map fun i => i) ?_ (by simp)))
  refine gf_lc (own := [("row", 2)]) (fun r : List Int => r.map fun i => i) rfl sc_over_bottom.nd (gi_list (ge_var 0)) (blkOk_by (N := N_over_bottom) (sc := defScope S_over_bottom) (by decide +kernel)) (fun _ _ _ _ _ => (gg_name (n := 4) 2 sc_over_bottom.nd)) rfl (by decide) (fun D row hrow _ _ _ _ _ => ?_)
  refine GF.ge ?_
  refine gf_lc (own := [("number", 3)]) (fun i : Int => i) rfl sc_over_bottom.nd (gi_list (ge_var 2)) (blkOk_in N_over_bottom (by decide +kernel)) (fun _ _ _ _ _ => (gg_name (n := 4) 3 sc_over_bottom.nd)) rfl (by decide) (fun D i hi _ _ _ _ _ => ?_)
  exact ge_z ((ge_mk2 F hr (ge_var 3) (ge_var 1) (gs_one i)).to (divInt_one' i))
abbrev N_idle_of : List Str := ["size", "at", "to"]
abbrev S_idle_of : Stmt := tp 43
theorem sc_idle_of : FnScope N_idle_of ["size"] (defScope S_idle_of) := ⟨rfl, rfl, rfl, by decide +kernel, rfl, by decide +kernel, by decide +kernel⟩
abbrev spIdleOf (C : Addr) : Sp := spG (fun n : Nat => [⟨rI, (n : Int)⟩]) (fun n => n < 1000) (rL (rL (rZ C))) (fun n => Is (idleT n))
theorem ok_idle_of (B : Blt mg) (F : RatF Pg w K mg base C) (D : Df K mg "idle_of" (tp 43) ["size"]) : Fn Pg w K mg base "idle_of" ["size"] 4 (spIdleOf C) := by
  refine fn_df D sc_idle_of (fun _ => rfl) (by decide) fun n hn0 f cdv A outer s H E L hr => ?_
  have hn : n < 1000 := hn0
  refine gs_ret (GF.ge ?_)
  refine gf_lc (T := rNat) (own := [("at", 1)]) (fun at_ => (List.range n).map fun to => if at_ = to then 1 else 0) rfl sc_idle_of.nd (range_GI B.range (ge_var 0) (by omega)) (blkOk_by (N := N_idle_of) (sc := defScope S_idle_of) (by decide +kernel)) (fun _ _ _ _ _ => (gg_name (n := 3) 1 sc_idle_of.nd)) rfl (by decide) (fun D k hk _ _ _ _ _ => ?_)
  refine GF.ge ?_
  refine gf_lc (T := rNat) (own := [("to", 2)]) (fun to => if k = to then 1 else 0) rfl sc_idle_of.nd (range_GI B.range (ge_var 0) (by omega)) (blkOk_in N_idle_of (by decide +kernel)) (fun _ _ _ _ _ => (gg_name (n := 3) 2 sc_idle_of.nd)) rfl (by decide) (fun D to hto _ _ _ _ _ => ?_)
  refine ge_z (ge_mk1 F hr ((ge_intB B.int (ge_eq (ge_nat (ge_var 1 (R := rNat) (x := k))) (ge_nat (ge_var 2 (R := rNat) (x := to))))).to ?_))
  by_cases h : k = to
  · simp [h]
  · have : ¬ (k : Int) = (to : Int) := by omega
    simp [h, this]
abbrev N_product_of : List Str := ["table", "other", "bottom", "rows", "below", "others"]
abbrev S_product_of : Stmt := tp 44
theorem sc_product_of : FnScope N_product_of ["table", "other"] (defScope S_product_of) := ⟨rfl, rfl, rfl, by decide +kernel, rfl, by decide +kernel, by decide +kernel⟩
abbrev spProductOf (C : Addr) : Sp := spG (fun x : List (List Int) × List (List Int) => [⟨rL (rL (rZ C)), x.1⟩, ⟨rL (rL (rZ C)), x.2⟩]) (fun x => (∃ n, Sq n x.1 ∧ Sq n x.2 ∧ 1 ≤ n ∧ n ≤ 4) ∧ (∀ r ∈ x.1, ∀ i ∈ r, Big i) ∧ ∀ r ∈ x.2, ∀ i ∈ r, Big i) (rL (rL (rZ C))) (fun x => Is (mulT x.1 x.2))
theorem ok_product_of (GB : Fn Pg w K mg base "bare_table" ["table"] 2 (spBareTable C)) (GI0 : Fn Pg w K mg base "int_product" ["rows", "others"] 1 (spIntProduct)) (GO0 : Fn Pg w K mg base "over_bottom" ["rows", "bottom"] 4 (spOverBottom C)) (D : Df K mg "product_of" (tp 44) ["table", "other"]) : Fn Pg w K mg base "product_of" ["table", "other"] 5 (spProductOf C) := by
  refine fn_df D sc_product_of (fun _ => rfl) (by decide) fun x hx0 f cdv A outer s H E L hr => ?_
  obtain ⟨a, b⟩ := x
  obtain ⟨⟨n, ha, hb, h1, h2⟩, hba, hbb⟩ := hx0
  have ha' : Sq n a := ha
  have hb' : Sq n b := hb
  refine gs_asg (R := rP rI (rL (rL rI))) (Pe := Is ((1 : Int), a)) (by exact gfn GB hr a ⟨⟨n, ha, h1, h2⟩, hba⟩ (ga1 (ge_var 0))) (gg_pair rfl (gg_name (n := 6) 2 sc_product_of.nd) (gg_name (n := 6) 3 sc_product_of.nd)) rfl (fun y py => ?_)
  cases (show _ = _ from py)
  refine gs_asg (R := rP rI (rL (rL rI))) (Pe := Is ((1 : Int), b)) (by exact gfn GB hr b ⟨⟨n, hb, h1, h2⟩, hbb⟩ (ga1 (ge_var 1))) (gg_pair rfl (gg_name (n := 6) 4 sc_product_of.nd) (gg_name (n := 6) 5 sc_product_of.nd)) rfl (fun y py => ?_)
  cases (show _ = _ from py)
  have hg : (b.getD 0 []).length = n := hb'.2 _ (getD_mem (by have := hb'.1; omega))
  refine gs_ret (by
    refine gfn GO0 hr (mulT a b) trivial (ga_cons (by
      refine gfn GI0 hr (a, b) ⟨?_, ?_, ?_, hba, hbb⟩ (ga_cons (ge_var 3) (ga1 (ge_var 5)))
      · show 1 ≤ b.length
        have := hb'.1; omega
      · show (b.getD 0 []).length < 1000
        omega
      · intro r hr1
        show r.length = (b.getD 0 []).length
        rw [hg]; exact hb'.2 r hr1) (ga1 ?_))
    exact (ge_mul (ge_var 2) (ge_var 4) (big_mul (big_small (by show 1 < 1000000; decide)) (big_small (by show 1 < 1000000; decide)))).to rfl)
end
end TW

namespace TW
open PySem PySem.Spec L2 TL
def Ent (B : Nat) (t : List (List Int)) : Prop := ∀ r ∈ t, ∀ i ∈ r, i.natAbs ≤ B
def HouseOk (n : Nat) (ls : List (List (List Int))) : Prop := 1 ≤ ls.length ∧ ls.length ≤ 3 ∧ 1 ≤ n ∧ n ≤ 3 ∧ ∀ t ∈ ls, Sq n t ∧ Ent 2 t
def sideH (ls : List (List (List Int))) : Nat := (ls.getD 0 []).length
def wordT (ls : List (List (List Int))) (w : List Nat) : List (List Int) := w.foldl (fun f l => mulT f (ls.getD l [])) (idleT (sideH ls))
theorem HouseOk.side {n : Nat} {ls : List (List (List Int))} (h : HouseOk n ls) : sideH ls = n := (h.2.2.2.2 _ (getD_mem (by have := h.1; omega))).1.1
theorem sum_le {B : Nat} : ∀ {xs : List Int}, (∀ x ∈ xs, x.natAbs ≤ B) → xs.sum.natAbs ≤ xs.length * B
  | [], _ => by simp
  | x :: xs, h => by
    have h1 := h x List.mem_cons_self
    have h2 := sum_le (xs := xs) fun y m => h y (List.mem_cons_of_mem _ m)
    rw [List.sum_cons, List.length_cons, Nat.succ_mul]
    omega
theorem sq_mul {n : Nat} {a b : List (List Int)} (ha : Sq n a) (hb : Sq n b) (h1 : 1 ≤ n) : Sq n (mulT a b) := by
  have hg : (b.getD 0 []).length = n := hb.2 _ (getD_mem (by have := hb.1; omega))
  refine ⟨by unfold mulT; rw [List.length_map]; exact ha.1, fun r hr => ?_⟩
  obtain ⟨row, _, rfl⟩ := List.mem_map.mp hr
  rw [List.length_map, List.length_range, hg]
theorem ent_mul {n A B : Nat} {a b : List (List Int)} (ha : Sq n a) (hb : Sq n b) (h1 : 1 ≤ n) (ea : Ent A a) (eb : Ent B b) : Ent (n * (A * B)) (mulT a b) := by
  intro r hr i hi
  have hg : (b.getD 0 []).length = n := hb.2 _ (getD_mem (by have := hb.1; omega))
  obtain ⟨row, hrow, rfl⟩ := List.mem_map.mp hr
  obtain ⟨to, hto, rfl⟩ := List.mem_map.mp hi
  rw [hg] at hto
  have hto := List.mem_range.mp hto
  have hl : ((row.zip b).map fun x => x.1 * x.2.getD to 0).length ≤ n := by
    rw [List.length_map, List.length_zip, ha.2 _ hrow]; omega
  refine Nat.le_trans (sum_le (B := A * B) fun x hx => ?_) (Nat.mul_le_mul_right _ hl)
  obtain ⟨y, hy, rfl⟩ := List.mem_map.mp hx
  have hz := zip_len hy
  rw [Int.natAbs_mul]
  exact Nat.mul_le_mul (ea _ hrow _ hz.1) (eb _ hz.2 _ (getD_mem (by rw [hb.2 _ hz.2]; exact hto)))
theorem sq_idle (n : Nat) : Sq n (idleT n) := by
  refine ⟨by simp [idleT], fun r hr => ?_⟩
  obtain ⟨k, _, rfl⟩ := List.mem_map.mp hr
  simp
theorem ent_idle (n : Nat) : Ent 1 (idleT n) := by
  intro r hr i hi
  obtain ⟨k, _, rfl⟩ := List.mem_map.mp hr
  obtain ⟨j, _, rfl⟩ := List.mem_map.mp hi
  split <;> decide
theorem wordT_snoc (ls : List (List (List Int))) (w : List Nat) (l : Nat) : wordT ls (w ++ [l]) = mulT (wordT ls w) (ls.getD l []) := by
  unfold wordT; rw [List.foldl_append]; rfl
theorem word_ok {n : Nat} {ls : List (List (List Int))} (h : HouseOk n ls) : ∀ (k : Nat) (w : List Nat), w.length = k → (∀ l ∈ w, l < ls.length) → Sq n (wordT ls w) ∧ Ent (8 ^ k) (wordT ls w)
  | 0, w, hk, _ => by
    have : w = [] := List.length_eq_zero_iff.mp hk
    subst this
    unfold wordT
    rw [h.side]
    exact ⟨sq_idle n, ent_idle n⟩
  | k + 1, w, hk, hw => by
    have hne : w ≠ [] := by intro z; subst z; simp at hk
    obtain ⟨v, l, rfl⟩ : ∃ v l, w = v ++ [l] := ⟨w.dropLast, w.getLast hne, (List.dropLast_concat_getLast hne).symm⟩
    have ih := word_ok h k v (by simpa using hk) fun x m => hw x (List.mem_append_left _ m)
    have hl := hw l (by simp)
    have ht := h.2.2.2.2 _ (getD_mem (d := []) hl)
    rw [wordT_snoc]
    refine ⟨sq_mul ih.1 ht.1 h.2.2.1, fun r hr i hi => Nat.le_trans (ent_mul ih.1 ht.1 h.2.2.1 ih.2 ht.2 r hr i hi) ?_⟩
    have := h.2.2.2.1
    rw [Nat.pow_succ]
    have h3 : n * (8 ^ k * 2) ≤ 3 * (8 ^ k * 2) := Nat.mul_le_mul_right _ this
    omega
theorem Ent.big {B : Nat} {t : List (List Int)} (h : Ent B t) (hB : B < 2 ^ 200000) : ∀ r ∈ t, ∀ i ∈ r, Big i := fun r hr i hi => Nat.lt_of_le_of_lt (h r hr i hi) hB
theorem eight_lt {k : Nat} (h : k ≤ 60000) : 8 ^ k < 2 ^ 200000 := by
  rw [show (8 : Nat) = 2 ^ 3 by decide, ← Nat.pow_mul]
  exact Nat.pow_lt_pow_right (by decide) (by omega)
def hF (v : V) (n : Int) : List (Str × V) := [(("own_letters" : Str), v), (("own_width" : Str), V.int n)]
def rH (C CH : Addr) : Rp (List (List (List Int))) := rIns CH (fun ls fs H => ∃ v, fs = hF v (sideH ls : Int) ∧ (rL (rL (rL (rZ C)))).r H ls v) (fun e ⟨v, h1, h2⟩ => ⟨v, h1, (rL (rL (rL (rZ _)))).mono e h2⟩)
theorem lw_ : ¬ (("own_letters" : Str) = "own_width") := by decide +kernel
theorem hF_put (v : V) (n : Int) : putF "own_width" (.int n) (putF "own_letters" v []) = hF v n := by
  show (if ("own_letters" : Str) = "own_width" then [(("own_width" : Str), V.int n)] else (("own_letters" : Str), v) :: putF "own_width" (V.int n) []) = hF v n
  rw [if_neg lw_]
  rfl
theorem hF_letters (v : V) (n : Int) : (hF v n).lookup ("own_letters" : Str) = some v := by rw [← hF_put, lookup_putF, if_neg lw_, lookup_putF, if_pos rfl]
theorem hF_width (v : V) (n : Int) : (hF v n).lookup ("own_width" : Str) = some (.int n) := by rw [← hF_put, lookup_putF, if_pos rfl]
structure HouC (K : PySem.W.Frag) (mg : Str → Option Value) (CH : Addr) : Prop where
  O : OwnC K mg "House" CH
  nL : NoAttr K CH "own_letters"
  nW : NoAttr K CH "own_width"
section
variable {X : Cx} {Γ : TL.Env} {e a b : Expr} {p pos : Pos} {C CH : Addr}
theorem ge_hl {ls : List (List (List Int))} (HC : HouC X.K X.mg CH) (h : GE X e Γ (rH C CH) (Is ls)) (hb : attributeBase e "own_letters" X.env (eval e X.env) = eval e X.env := by rfl) : GE X (.Attribute e "own_letters" pos) Γ (rL (rL (rL (rZ C)))) (Is ls) :=
  ge_of (pe_fld pe_s hb) fun σ H hh Q k => h σ H hh _ fun x v H1 p1 e1 z1 r1 => by
    cases (show _ = _ from p1)
    obtain ⟨p, dx, fs, rfl, hp, v', rfl, hv⟩ := r1
    exact ⟨p, CH, dx, _, _, rfl, (hd_some hp).2, HC.O.cl, HC.nL, hF_letters _ _, k _ _ H1 rfl e1 hv⟩
theorem ge_hw {ls : List (List (List Int))} (HC : HouC X.K X.mg CH) (h : GE X e Γ (rH C CH) (Is ls)) (hb : attributeBase e "own_width" X.env (eval e X.env) = eval e X.env := by rfl) : GE X (.Attribute e "own_width" pos) Γ rI (Is (sideH ls : Int)) :=
  ge_of (pe_fld pe_s hb) fun σ H hh Q k => h σ H hh _ fun x v H1 p1 e1 z1 r1 => by
    cases (show _ = _ from p1)
    obtain ⟨p, dx, fs, rfl, hp, v', rfl, hv⟩ := r1
    exact ⟨p, CH, dx, _, _, rfl, (hd_some hp).2, HC.O.cl, HC.nW, hF_width _ _, k _ _ H1 rfl e1 rfl⟩
theorem tyx_house {K : PySem.W.Frag} {mg : Str → Option Value} (O : OwnC K mg "House" CH) {H : Hp} {L : List Addr} {ls : List (List (List Int))} {v : V} (h : (rH C CH).r (hd L H) ls v) : TyX K H v (.ref CH) := by
  obtain ⟨p, dx, fs, rfl, hp, _⟩ := h
  exact .base (.ins (hd_some hp).2 O.cl O.ha O.hn O.htk O.hm)
end
section
variable {Pg : Program} {w : World} {K : PySem.W.Frag} {mg : Str → Option Value} {base : Heap} {C CH : Addr}
abbrev N_mixed_of : List Str := ["table", "other", "number", "row", "line", "near", "far"]
abbrev S_mixed_of : Stmt := tp 45
theorem sc_mixed_of : FnScope N_mixed_of ["table", "other", "number"] (defScope S_mixed_of) := ⟨rfl, rfl, rfl, by decide +kernel, rfl, by decide +kernel, by decide +kernel⟩
abbrev spMixedOf (C : Addr) : Sp := spG (fun x : List (List Rat) × List (List Rat) × Rat => [⟨rL (rL (rQ C)), x.1⟩, ⟨rL (rL (rQ C)), x.2.1⟩, ⟨rQ C, x.2.2⟩]) (fun x => ∀ z ∈ x.1.zip x.2.1, ∀ y ∈ z.1.zip z.2, OkMul x.2.2 y.2 ∧ OkAdd y.1 (x.2.2 * y.2)) (rL (rL (rQ C))) (fun x => Is (mixT x.1 x.2.1 x.2.2))
theorem ok_mixed_of (B : Blt mg) (F : RatAll Pg w K mg base C) (D : Df K mg "mixed_of" (tp 45) ["table", "other", "number"]) : Fn Pg w K mg base "mixed_of" ["table", "other", "number"] 5 (spMixedOf C) := by
  refine fn_df D sc_mixed_of (fun _ => rfl) (by decide) fun x hx0 f cdv A outer s H E L hr => ?_
  obtain ⟨t, o, q⟩ := x
  have h0 : ∀ z ∈ t.zip o, ∀ y ∈ z.1.zip z.2, OkMul q y.2 ∧ OkAdd y.1 (q * y.2) := hx0
  refine gs_ret (GF.ge ?_)
  refine gf_lc (own := [("row", 3), ("line", 4)]) (fun x : List Rat × List Rat => (x.1.zip x.2).map fun y : Rat × Rat => y.1 + q * y.2) rfl sc_mixed_of.nd (gi_zip (by exact B.zip) (by exact ga_cons (ge_var 0) (ga1 (ge_var 1)))) (blkOk_by (N := N_mixed_of) (sc := defScope S_mixed_of) (by decide +kernel)) (fun _ _ _ _ _ => (gg_pair rfl (gg_name (n := 7) 3 sc_mixed_of.nd) (gg_name (n := 7) 4 sc_mixed_of.nd))) rfl (by decide) (fun D x hx _ _ _ _ _ => ?_)
  refine GF.ge ?_
  refine gf_lc (own := [("near", 5), ("far", 6)]) (fun y : Rat × Rat => (y.1 + q * y.2 : Rat)) rfl sc_mixed_of.nd (gi_zip (by exact B.zip) (by exact ga_cons (ge_var 3) (ga1 (ge_var 4)))) (blkOk_in N_mixed_of (by decide +kernel)) (fun _ _ _ _ _ => (gg_pair rfl (gg_name (n := 7) 5 sc_mixed_of.nd) (gg_name (n := 7) 6 sc_mixed_of.nd))) rfl (by decide) (fun D y hy _ _ _ _ _ => ?_)
  have hk := h0 x hx y hy
  exact ge_qadd F (hr.mono (by decide)) (ge_var 5) (ge_qmul F (hr.mono (by decide)) (ge_var 2) (ge_var 6) hk.1) hk.2
abbrev N_scaled_of : List Str := ["table", "number", "row", "entry"]
abbrev S_scaled_of : Stmt := tp 46
theorem sc_scaled_of : FnScope N_scaled_of ["table", "number"] (defScope S_scaled_of) := ⟨rfl, rfl, rfl, by decide +kernel, rfl, by decide +kernel, by decide +kernel⟩
abbrev spScaledOf (C : Addr) : Sp := spG (fun x : List (List Rat) × Rat => [⟨rL (rL (rQ C)), x.1⟩, ⟨rQ C, x.2⟩]) (fun x => ∀ r ∈ x.1, ∀ y ∈ r, OkMul x.2 y) (rL (rL (rQ C))) (fun x => Is (scaleT x.1 x.2))
theorem ok_scaled_of (F : RatAll Pg w K mg base C) (D : Df K mg "scaled_of" (tp 46) ["table", "number"]) : Fn Pg w K mg base "scaled_of" ["table", "number"] 5 (spScaledOf C) := by
  refine fn_df D sc_scaled_of (fun _ => rfl) (by decide) fun x hx0 f cdv A outer s H E L hr => ?_
  obtain ⟨t, q⟩ := x
  have h0 : ∀ r ∈ t, ∀ y ∈ r, OkMul q y := hx0
  refine gs_ret (GF.ge ?_)
  refine gf_lc (own := [("row", 2)]) (fun r : List Rat => r.map fun y : Rat => q * y) rfl sc_scaled_of.nd (gi_list (ge_var 0)) (blkOk_by (N := N_scaled_of) (sc := defScope S_scaled_of) (by decide +kernel)) (fun _ _ _ _ _ => (gg_name (n := 4) 2 sc_scaled_of.nd)) rfl (by decide) (fun D r hr1 _ _ _ _ _ => ?_)
  refine GF.ge ?_
  refine gf_lc (own := [("entry", 3)]) (fun y : Rat => (q * y : Rat)) rfl sc_scaled_of.nd (gi_list (ge_var 2)) (blkOk_in N_scaled_of (by decide +kernel)) (fun _ _ _ _ _ => (gg_name (n := 4) 3 sc_scaled_of.nd)) rfl (by decide) (fun D y hy _ _ _ _ _ => ?_)
  exact ge_qmul F (hr.mono (by decide)) (ge_var 1) (ge_var 3) (h0 r hr1 y hy)
abbrev N_long_of : List Str := ["table", "found", "row"]
abbrev S_long_of : Stmt := tp 47
theorem sc_long_of : FnScope N_long_of ["table"] (defScope S_long_of) := ⟨rfl, rfl, rfl, by decide +kernel, rfl, by decide +kernel, by decide +kernel⟩
abbrev spLongOf (C : Addr) : Sp := spG (fun x : List (List Rat) => [⟨rL (rL (rQ C)), x⟩]) (fun x => x.flatten.length < 1000) (rL (rQ C)) (fun x => Is x.flatten)
theorem take_flat_le {α : Type} (t : List (List α)) (i : Nat) : (t.take i).flatten.length ≤ t.flatten.length := by
  conv => rhs; rw [← List.take_append_drop i t]
  rw [List.flatten_append, List.length_append]; omega
theorem ok_long_of (D : Df K mg "long_of" (tp 47) ["table"]) : Fn Pg w K mg base "long_of" ["table"] 1 (spLongOf C) := by
  refine fn_df D sc_long_of (fun _ => rfl) (by decide) fun t h0 f cdv A outer s H E L hr => ?_
  have h0' : t.flatten.length < 1000 := h0
  refine gs_own (R := rQ C) (Pe := Is []) 1 sc_long_of.nd gf_nil (fun xs p pxs hp => ?_)
  cases (show _ = _ from pxs)
  refine gs_for (xs := t) (fun i => [.val (rL (rL (rQ C))) t, .own p (rQ C) (t.take i).flatten, .nil]) rfl PassesOwn.never (gi_list (ge_var 0)) (gg_name (n := 3) 2 sc_long_of.nd) (.keep (.keep (.keep .nil))) (fun _ => rfl) (fun gs i r hx => ?_) ?_
  · have e : (t.take (i + 1)).flatten = (t.take i).flatten ++ r := by rw [List.take_succ, hx]; simp
    refine gs_extend (Pe := Is r) 1 (ge_var 2) (fun ys py => ?_) (fun ys py => ?_)
    · cases (show _ = _ from py)
      rw [e]
      exact gs_end fun σ H hh => hh.less (.keep (.keep (.drop .nil)))
    · cases (show _ = _ from py)
      have := take_flat_le t (i + 1)
      rw [e, List.length_append] at this
      omega
  · rw [List.take_length]
    exact gs_retOwn 1 rfl
end
end TW

namespace TW
open PySem PySem.Spec L2 TL
def inlT (t : List (List Int)) : List (List (Int ⊕ Rat)) := t.map fun r => r.map Sum.inl
def inrT (t : List (List Rat)) : List (List (Int ⊕ Rat)) := t.map fun r => r.map Sum.inr
theorem inlT_worth (t : List (List Int)) : ((inlT t).map fun r => r.map worth) = castT t := by
  unfold inlT castT castL
  rw [List.map_map]
  refine List.map_congr_left fun r _ => ?_
  show (r.map Sum.inl).map worth = _
  rw [List.map_map]; rfl
theorem inrT_worth (t : List (List Rat)) : ((inrT t).map fun r => r.map worth) = t := by
  unfold inrT
  rw [List.map_map]
  conv => rhs; rw [← List.map_id t]
  refine List.map_congr_left fun r _ => ?_
  show (r.map Sum.inr).map worth = r
  rw [List.map_map]
  conv => rhs; rw [← List.map_id r]
  rfl
theorem inlT_T {C : Addr} {H : Hp} {t : List (List Int)} {v : V} (h : (rL (rL TL.rI)).r H t v) : (rL (rL (rIQ C))).r H (inlT t) v := rL_up (fun _ _ k => rL_up (R := TL.rI) (S := rIQ C) (f := Sum.inl) (fun _ _ k => k) k) h
theorem inrT_T {C : Addr} {H : Hp} {t : List (List Rat)} {v : V} (h : (rL (rL (rQ C))).r H t v) : (rL (rL (rIQ C))).r H (inrT t) v := rL_up (fun _ _ k => rL_up (R := rQ C) (S := rIQ C) (f := Sum.inr) (fun _ _ k => k) k) h
theorem sq_inl {n : Nat} {t : List (List Int)} (h : Sq n t) : (inlT t).length = n ∧ ∀ r ∈ inlT t, r.length = n := by
  refine ⟨by unfold inlT; rw [List.length_map]; exact h.1, fun r hr => ?_⟩
  obtain ⟨r', hr', rfl⟩ := List.mem_map.mp hr
  rw [List.length_map]; exact h.2 _ hr'
theorem sq_inr {n : Nat} {t : List (List Rat)} (h : Sq n t) : (inrT t).length = n ∧ ∀ r ∈ inrT t, r.length = n := by
  refine ⟨by unfold inrT; rw [List.length_map]; exact h.1, fun r hr => ?_⟩
  obtain ⟨r', hr', rfl⟩ := List.mem_map.mp hr
  rw [List.length_map]; exact h.2 _ hr'
section
variable {Pg : Program} {w : World} {K : PySem.W.Frag} {mg : Str → Option Value} {base : Heap} {C CH : Addr}
abbrev N_letters_in : List Str := ["value", "found", "table"]
abbrev S_letters_in : Stmt := tp 51
theorem sc_letters_in : FnScope N_letters_in ["value"] (defScope S_letters_in) := ⟨rfl, rfl, rfl, by decide +kernel, rfl, by decide +kernel, by decide +kernel⟩
abbrev spLettersIn (C : Addr) : Sp := spG (fun x : List (List (List Int)) => [⟨rL (rL (rL rI)), x⟩]) (fun x => ∃ n, HouseOk n x) (rO (rL (rL (rL (rZ C))))) (fun x => Is (some x))
theorem ok_letters_in (B : Blt mg) (Cn : Consts mg) (GL : Fn Pg w K mg base "is_list" ["value"] 1 (spIsList)) (GT0 : Fn Pg w K mg base "table_in" ["value"] 5 (spTableIn C)) (D : Df K mg "letters_in" (tp 51) ["value"]) : Fn Pg w K mg base "letters_in" ["value"] 6 (spLettersIn C) := by
  refine fn_df D sc_letters_in (fun _ => rfl) (by decide) fun x hx0 f cdv A outer s H E L hr => ?_
  obtain ⟨n, h1, h2, h3, h4, h5⟩ := hx0
  refine gs_ifNever (Pc := Is false) (by
    refine GT.to (x := !true || !(decide ((1 : Int) ≤ (x.length : Int)) && decide ((x.length : Int) ≤ 3))) (GW.gt (gw_or (gt_not (gt_val ?_)) fun _ => gw_or1 (gt_not (gt_chain (g := fun i j => decide (i ≤ j)) (g' := fun i j => decide (i ≤ j)) op_le op_le ge_int (ge_len (xs := x) B.len (ge_var 0)) (ge_const Cn.letters))))) ?_
    · exact gfn GL hr () trivial (ga1 (ge_seqLT (ge_LT (ge_var 0 (R := rL (rL (rL rI))) (x := x)))))
    · have e1 : decide ((1 : Int) ≤ (x.length : Int)) = true := decide_eq_true (by omega)
      have e2 : decide ((x.length : Int) ≤ 3) = true := decide_eq_true (by omega)
      rw [e1, e2]; rfl) (fun z => by cases (show _ = _ from z)) ?_
  refine gs_setI (R := rL (rO (rL (rL (rQ C))))) (x := x.map fun t => some (castT t)) 1 sc_letters_in.nd (GF.ge ?_) ?_
  · refine gf_lc (own := [("table", 2)]) (fun t => some (castT t)) rfl sc_letters_in.nd (gi_list (ge_var 0)) (blkOk_by (N := N_letters_in) (sc := defScope S_letters_in) (by decide +kernel)) (fun _ _ _ _ _ => (gg_name (n := 3) 2 sc_letters_in.nd)) rfl (by decide) (fun D t ht _ _ _ _ _ => ?_)
    have hs := (h5 t ht).1
    have hs' := sq_inl hs
    refine GE.to (gfn GT0 hr (inlT t) ⟨?_, ?_, ?_⟩ (ga1 (ge_LT (GE.on (ge_var 2 (R := rL (rL rI)) (x := t)) fun _ _ k => inlT_T k)))) (congrArg some (inlT_worth t))
    · rw [hs'.1]; exact h3
    · rw [hs'.1]; omega
    · rw [hs'.1]; exact hs'.2
  refine gs_ifNever (Pc := Is false) (by
    refine GT.to (x := (x.map fun t => (some (castT t)).isNone).any id) (gt_val (ge_any rfl B.any (GF.ge ?_))) (by simp)
    refine GF.to (x := (x.map fun t => some (castT t)).map fun o => o.isNone) ?_ (by rw [List.map_map]; rfl)
    refine gf_lc (own := [("table", 2)]) (fun o : Option (List (List Rat)) => o.isNone) rfl sc_letters_in.nd (gi_list (ge_var 1)) (blkOk_by (N := N_letters_in) (sc := defScope S_letters_in) (by decide +kernel)) (fun _ _ _ _ _ => (gg_name (n := 3) 2 sc_letters_in.nd)) rfl (by decide) (fun D o ho _ _ _ _ _ => ?_)
    exact ge_isN (fun _ _ _ => Rp.notNon_list) (ge_var 2)) (fun z => by cases (show _ = _ from z)) ?_
  have re : ∀ {X : Cx} {Γ : TL.Env} {e : Expr}, GE X e Γ (rL (rO (rL (rL (rQ C))))) (Is (x.map fun t => some (castT t))) → GE X e Γ (rL (rL (rL (rZ C)))) (Is x) := fun {X Γ e} h =>
    GE.on h fun _ _ r => rL_dn (S := rO (rL (rL (rQ C)))) (f := fun t => some (castT t)) (fun _ _ k => rZ_T.mpr k) r
  refine gs_ret (ge_ifExp (Pc := Is true) (by
    refine GT.to (x := (x.map fun _ => true).all id) (gt_val (ge_all rfl B.all (GF.ge ?_))) (by simp)
    refine gf_lc (own := [("table", 2)]) (fun _ : List (List Int) => true) rfl sc_letters_in.nd (gi_list (re (ge_var 1))) (blkOk_by (N := N_letters_in) (sc := defScope S_letters_in) (by decide +kernel)) (fun _ _ _ _ _ => (gg_name (n := 3) 2 sc_letters_in.nd)) rfl (by decide) (fun D t ht _ _ _ _ _ => ?_)
    refine GE.to (ge_eq (ge_len (xs := t) B.len (ge_var 2)) (ge_len (xs := x.getD 0 []) B.len (ge_ix (xs := x) (k := 0) (re (ge_var 1)) ge_int rfl (getD_get (by omega))))) ?_
    have e1 := (h5 t ht).1.1
    have e2 := (h5 _ (getD_mem (d := []) (show 0 < x.length by omega))).1.1
    rw [e1, e2]; simp) (fun _ => ge_some (re (ge_var 1))) (fun z => by cases (show _ = _ from z)))
abbrev N_want_house : List Str := ["value"]
abbrev S_want_house : Stmt := tp 53
theorem sc_want_house : FnScope N_want_house ["value"] (defScope S_want_house) := ⟨rfl, rfl, rfl, by decide +kernel, rfl, by decide +kernel, by decide +kernel⟩
abbrev spWantHouse (C CH : Addr) : Sp := spG (fun x : List (List (List Int)) => [⟨rH C CH, x⟩]) (fun _ => True) (rH C CH) (fun x => Is x)
theorem ok_want_house (B : Blt mg) (HC : HouC K mg CH) (D : Df K mg "want_house" (tp 53) ["value"]) : Fn Pg w K mg base "want_house" ["value"] 1 (spWantHouse C CH) := by
  refine fn_df D sc_want_house (fun _ => rfl) (by decide) fun x hx0 f cdv A outer s H E L hr => ?_
  refine gs_ifNever (Pc := Is false) (by
    refine gt_not (x := true) (gt_val ?_)
    exact ge_isi (R := rH C CH) (x := x) (b := true) B.isi (ge_var 0) (pe_glob (v := .ref CH) rfl HC.O.m rfl) (.own CH) (fun L H v r => ⟨_, tyx_house HC.O (ls := x) r, kit_self⟩)) (fun z => by cases (show _ = _ from z)) ?_
  exact gs_ret (ge_var 0)
abbrev N_word_in : List Str := ["house", "value", "many", "letter"]
abbrev S_word_in : Stmt := tp 54
theorem sc_word_in : FnScope N_word_in ["house", "value"] (defScope S_word_in) := ⟨rfl, rfl, rfl, by decide +kernel, rfl, by decide +kernel, by decide +kernel⟩
abbrev spWordIn (C CH : Addr) : Sp := spG (fun x : List (List (List Int)) × List Nat => [⟨rH C CH, x.1⟩, ⟨rLT rNat, x.2⟩]) (fun x => x.2.length ≤ 16 ∧ ∀ l ∈ x.2, l < x.1.length) (rO (rL rNat)) (fun x => Is (some x.2))
theorem ok_word_in (B : Blt mg) (Cn : Consts mg) (HC : HouC K mg CH) (GL : Fn Pg w K mg base "is_list" ["value"] 1 (spIsList)) (GC : Fn Pg w K mg base "is_count" ["value"] 2 (spIsCount)) (D : Df K mg "word_in" (tp 54) ["house", "value"]) : Fn Pg w K mg base "word_in" ["house", "value"] 3 (spWordIn C CH) := by
  refine fn_df D sc_word_in (fun _ => rfl) (by decide) fun x hx0 f cdv A outer s H E L hr => ?_
  obtain ⟨ls, wd⟩ := x
  obtain ⟨h1, h2⟩ : wd.length ≤ 16 ∧ ∀ l ∈ wd, l < ls.length := hx0
  refine gs_ifNever (Pc := Is false) (by
    refine GT.to (x := !true || decide ((16 : Int) < (wd.length : Int))) (GW.gt (gw_or (gt_not (gt_val ?_)) fun _ => gw_or1 (gt_gt (ge_lenLT (xs := wd) B.len (ge_var 1)) (ge_const Cn.word)))) ?_
    · exact gfn GL hr () trivial (ga1 (ge_seqLT (ge_var 1 (R := rLT rNat) (x := wd))))
    · have e1 : decide ((16 : Int) < (wd.length : Int)) = false := decide_eq_false (by omega)
      rw [e1]; rfl) (fun z => by cases (show _ = _ from z)) ?_
  refine gs_setI (x := (ls.length : Int)) 2 sc_word_in.nd (ge_len (xs := ls) B.len (ge_hl HC (ge_var 0))) ?_
  refine gs_ret (ge_ifExp (Pc := Is true) (by
    refine GT.to (x := (wd.map fun _ => true).all id) (gt_val (ge_all rfl B.all (GF.ge ?_))) (by simp)
    refine gf_lc (own := [("letter", 3)]) (fun _ : Nat => true) rfl sc_word_in.nd (gi_lt 1 (xs := wd) (by omega)) (blkOk_by (N := N_word_in) (sc := defScope S_word_in) (by decide +kernel)) (fun _ _ _ _ _ => (gg_name (n := 4) 3 sc_word_in.nd)) rfl (by decide) (fun D l hl _ _ _ _ _ => ?_)
    refine GE.to (ge_and (x := true) ?_ fun _ => ge_bone (ge_lt (ge_nat (ge_var 3 (R := rNat) (x := l))) (ge_var 2))) (by have := h2 l hl; simp; omega)
    exact GE.to (gfn GC hr (l : Int) trivial (ga1 (ge_nat (ge_var 3 (R := rNat) (x := l))))) (by simp)) (fun _ => ge_some (GF.ge (gf_list (xs := wd) B.list (ge_var 1)))) (fun z => by cases (show _ = _ from z)))
abbrev N_want_word : List Str := ["house", "value", "found"]
abbrev S_want_word : Stmt := tp 55
theorem sc_want_word : FnScope N_want_word ["house", "value"] (defScope S_want_word) := ⟨rfl, rfl, rfl, by decide +kernel, rfl, by decide +kernel, by decide +kernel⟩
abbrev spWantWord (C CH : Addr) : Sp := spG (fun x : List (List (List Int)) × List Nat => [⟨rH C CH, x.1⟩, ⟨rLT rNat, x.2⟩]) (fun x => x.2.length ≤ 16 ∧ ∀ l ∈ x.2, l < x.1.length) (rL rNat) (fun x => Is x.2)
abbrev N_word_table : List Str := ["house", "word", "found", "letter"]
abbrev S_word_table : Stmt := tp 56
theorem sc_word_table : FnScope N_word_table ["house", "word"] (defScope S_word_table) := ⟨rfl, rfl, rfl, by decide +kernel, rfl, by decide +kernel, by decide +kernel⟩
abbrev spWordTable (C CH : Addr) : Sp := spG (fun x : List (List (List Int)) × List Nat => [⟨rH C CH, x.1⟩, ⟨rL rNat, x.2⟩]) (fun x => x.2.length ≤ 16 ∧ (∀ l ∈ x.2, l < x.1.length) ∧ ∃ n, HouseOk n x.1) (rL (rL (rZ C))) (fun x => Is (wordT x.1 x.2))
theorem ok_word_table (HC : HouC K mg CH) (GI0 : Fn Pg w K mg base "idle_of" ["size"] 4 (spIdleOf C)) (GP : Fn Pg w K mg base "product_of" ["table", "other"] 5 (spProductOf C)) (D : Df K mg "word_table" (tp 56) ["house", "word"]) : Fn Pg w K mg base "word_table" ["house", "word"] 6 (spWordTable C CH) := by
  refine fn_df D sc_word_table (fun _ => rfl) (by decide) fun x hx0 f cdv A outer s H E L hr => ?_
  obtain ⟨ls, wd⟩ := x
  obtain ⟨h1, h2, n, hH⟩ : wd.length ≤ 16 ∧ (∀ l ∈ wd, l < ls.length) ∧ ∃ n, HouseOk n ls := hx0
  have hs := hH.side
  have hn := hH.2.2.2.1
  refine gs_setI 2 sc_word_table.nd (by exact gfn GI0 hr (sideH ls) (by show sideH ls < 1000; omega) (ga1 (ge_hw HC (ge_var 0)))) ?_
  refine gs_for (xs := wd) (fun i => [.val (rH C CH) ls, .val (rL rNat) wd, .val (rL (rL (rZ C))) (wordT ls (wd.take i)), .nil]) rfl PassesOwn.never (gi_list (ge_var 1)) (gg_name (n := 4) 3 sc_word_table.nd) (.keep (.keep (.keep (.keep .nil)))) (fun _ => rfl) (fun gs i l hx => ?_) ?_
  · have e : wd.take (i + 1) = wd.take i ++ [l] := by rw [List.take_succ, hx]; rfl
    have hl := h2 l (List.mem_of_getElem? hx)
    have hw := word_ok hH _ (wd.take i) rfl fun l m => h2 l (List.mem_of_mem_take m)
    have ht := hH.2.2.2.2 _ (getD_mem (d := []) hl)
    have hk : (wd.take i).length ≤ 60000 := by rw [List.length_take]; omega
    refine gs_setI 2 sc_word_table.nd (by exact gfn GP hr (wordT ls (wd.take i), ls.getD l []) ⟨⟨n, hw.1, ht.1, hH.2.2.1, by omega⟩, hw.2.big (eight_lt hk), ht.2.big (Nat.lt_of_lt_of_le (by decide : 2 < 2 ^ 2) (Nat.pow_le_pow_right (by decide) (by decide)))⟩ (ga_cons (ge_var 2) (ga1 (ge_ixN (d := []) (ge_hl HC (ge_var 0)) (ge_var 3 (R := rNat) (x := l)) hl)))) (gs_end fun σ H hh => ?_)
    rw [e, wordT_snoc]
    exact hh.less (.keep (.keep (.keep (.drop .nil))))
  · rw [List.take_length]
    exact gs_ret (ge_var 2)
end
end TW

namespace TW
open PySem PySem.Spec L2 TL
theorem hd_upd_in {L : List Addr} {H : Hp} {p : Addr} {o : HO} (m : p ∈ L) : hd L (upd H p o) = hd L H := by
  funext a
  unfold hd
  by_cases h : a ∈ L
  · rw [if_pos h, if_pos h]
  · rw [if_neg h, if_neg h]
    exact upd_ne fun z => h (z ▸ m)
/-- what no list of one's own is among: seen from a later heap -/
theorem has_anew {L : List Addr} {H H1 : Hp} {ss : List Slot} {σ : L2.St} {p : Addr} {o : HO} (h : Has ⟨L, [], H, L, ss, []⟩ σ H1) (m : p ∈ L) (ho : ∀ t ∈ ss, t.at = none) : Has ⟨L, [], upd H1 p o, L, ss, []⟩ σ (upd H1 p o) := by
  have al : ∀ l ∈ L, upd H1 p o l ≠ none := fun l hl => by
    by_cases e : l = p
    · subst e; rw [upd_same]; intro z; cases z
    · rw [upd_ne e]; exact h.al l hl
  refine ⟨h.len, fun i t hi => ?_, al, fun l hl => (nomatch hl), Ev.refl fun a ha => (nomatch ha), fun i j t u l hi hj ht hu => ?_, fun l hl => ⟨hl, al l hl⟩, fun i t l hi ht => ?_, fun q hq => (nomatch hq)⟩
  · have k := h.ok i t hi
    cases t with
    | nil => trivial
    | val R x =>
      obtain ⟨v, e1, e2⟩ := k
      exact ⟨v, e1, by show R.r (hd L (upd H1 p o)) x v; rw [hd_upd_in m]; exact e2⟩
    | own l R xs => exact absurd (ho _ (List.mem_of_getElem? hi)) (fun z => by cases z)
  · have := ho t (List.mem_of_getElem? hi)
    rw [this] at ht; cases ht
  · have := ho t (List.mem_of_getElem? hi)
    rw [this] at ht; cases ht
section
variable {Pg : Program} {w : World} {K : PySem.W.Frag} {mg : Str → Option Value} {base : Heap} {C CH : Addr}
def spHInit (C CH : Addr) : Sp := fun vs H Q _ => ∃ (p dx : Addr) (v : V) (ls : List (List (List Int))) (L : List Addr), vs = [.ref p, v] ∧ p ∈ L ∧ (∀ l ∈ L, H l ≠ none) ∧ H p = some (.ins CH dx []) ∧ (∃ n, HouseOk n ls) ∧ (rL (rL (rL TL.rI))).r (hd L H) ls v ∧
  ∀ H1 u, Ex H H1 → (rL (rL (rL (rZ C)))).r (hd L H1) ls u → Q .non (upd H1 p (.ins CH dx (hF u (sideH ls : Int))))
abbrev N_House___init : List Str := ["self", "letters", "found"]
abbrev S_House___init : Stmt := inClass (tp 52) 0
theorem sc_House___init : FnScope N_House___init ["self", "letters"] (defScope S_House___init) := ⟨rfl, rfl, rfl, by decide +kernel, rfl, by decide +kernel, by decide +kernel⟩
theorem ok_hinit {f : Addr} {fd : FuncData} (B : Blt mg) (HC : HouC K mg CH) (GL : Fn Pg w K mg base "letters_in" ["value"] 6 (spLettersIn C)) (D : Fun K "__init__" "House.__init__" S_House___init f fd) : FnOk Pg w K mg base CX0 7 f fd ["self", "letters"] (spHInit C CH) := by
  refine D.ok sc_House___init (fun vs H Q E h => ?_) (fun cdv A outer s H vs Q E hr h => ?_)
  · obtain ⟨p, dx, v, ls, L, rfl, _⟩ := h
    rfl
  · obtain ⟨p, dx, v, ls, L, rfl, mp, al, hp, ⟨n, hH⟩, hv, q⟩ := h
    have key : GS (cxOf CX0 Pg w K mg base N_House___init "House.__init__" (defScope S_House___init) f cdv A outer s H E).nox (defBody S_House___init) ⟨L, [], H, L, slotsOf [⟨rV, .ref p⟩, ⟨rL (rL (rL TL.rI)), ls⟩] 3, []⟩ rN (fun _ => False) (fun _ H' => ∃ H1 u, Ex H H1 ∧ (rL (rL (rL (rZ C)))).r (hd L H1) ls u ∧ H' = upd H1 p (.ins CH dx (hF u (sideH ls : Int)))) := by
      refine gs_setI 2 sc_House___init.nd (by exact gfn GL hr ls ⟨n, hH⟩ (ga1 (ge_var 1))) ?_
      refine gs_ifNever (Pc := Is (some ls).isNone) (gt_isN (fun _ _ _ => Rp.notNon_list) (ge_var 2)) (fun z => by cases (show _ = _ from z)) ?_
      intro σ H1 hh D qn _
      obtain ⟨v0, s0, r0⟩ := hh.ok 0 _ rfl
      cases (show _ = _ from r0)
      obtain ⟨v2, s2, r2⟩ := hh.ok 2 _ rfl
      have r2' : (rL (rL (rL (rZ C)))).r (hd L H1) ls v2 := r2
      have hp2 : H1 p = some (.ins CH dx []) := (hh.ex p _ hp).1 (fun m => (nomatch m))
      have ex1 : Ex H H1 := fun a o e => (hh.ex a o e).1 (fun m => (nomatch m))
      have h2 := has_anew (o := .ins CH dx (putF "own_letters" v2 [])) hh mp (fun t ht => by
        rcases List.mem_cons.mp ht with rfl | ht
        · rfl
        rcases List.mem_cons.mp ht with rfl | ht
        · rfl
        rcases List.mem_cons.mp ht with rfl | ht
        · rfl
        cases ht)
      refine s_pss (pss_cons (ps_fld (pv 0) (pv 2) rfl) (pss_one (ps_fld (pv 0) pe_s rfl))) ?_
      refine ⟨_, s2, _, s0, p, CH, dx, [], rfl, hp2, HC.O.cl, HC.nL, (by show 0 < 1000; decide), ?_⟩
      refine (?hw : GE _ _ ⟨L, [], upd H1 p (.ins CH dx (putF "own_letters" v2 [])), L, [.val rV (.ref p), .val (rL (rL (rL TL.rI))) ls, .val (rO (rL (rL (rL (rZ C))))) (some ls)], []⟩ TL.rI (Is (sideH ls : Int))) σ _ h2 _ fun x v' H3 p3 e3 z3 r3 => ?_
      case hw => exact ge_len (xs := ls.getD 0 []) B.len (ge_ix (xs := ls) (k := 0) (ge_get (ge_var 2)) ge_int rfl (getD_get (by have := hH.1; omega)))
      cases (show _ = _ from p3); cases (show _ = _ from r3)
      have hp3 : H3 p = some (.ins CH dx (putF "own_letters" v2 [])) := (e3 p _ upd_same).1 (fun m => (nomatch m))
      refine ⟨_, s0, p, CH, dx, _, rfl, hp3, HC.O.cl, HC.nW, (by show 1 < 1000; decide), ?_⟩
      rw [hF_put]
      have ex3 : Ex H (upd H3 p (.ins CH dx [])) := fun a o ha => by
        by_cases e : a = p
        · subst e
          rw [upd_same, ← hp, ha]
        · rw [upd_ne e]
          exact (e3 a o (by rw [upd_ne e]; exact ex1 a o ha)).1 (fun m => (nomatch m))
      have exh : Ex (hd L H1) (hd L (upd H3 p (.ins CH dx []))) := by
        rw [hd_upd_in mp]
        have := h2.hdx e3
        rw [show (⟨L, [], upd H1 p (.ins CH dx (putF "own_letters" v2 [])), L, _, []⟩ : TL.Env).L = L from rfl, hd_upd_in mp] at this
        exact this
      refine qn _ _ ⟨_, v2, ex3, (rL (rL (rL (rZ C)))).mono exh r2', ?_⟩
      rw [upd_upd]
    refine ⟨_, PSs.nox pss_s, key _ H (has_start (as := [⟨rV, .ref p⟩, ⟨rL (rL (rL TL.rI)), ls⟩]) (N := N_House___init) (Nat.le_of_ble_eq_true rfl) al ⟨_, _, rfl, rfl, _, _, rfl, hv, rfl⟩) _ (fun σ' H' ⟨H1, u, ex, r, e⟩ => ?_) (fun _ _ _ z => z.elim)⟩
    rw [e]
    exact q H1 u ex r
end
end TW

namespace TW
theorem getD_map0 {f : Int → Int} (h : f 0 = 0) (r : List Int) (q : Nat) : (r.map f).getD q 0 = f (r.getD q 0) := by
  rw [List.getD_eq_getElem?_getD, List.getD_eq_getElem?_getD, List.getElem?_map]
  cases r[q]? with
  | none => exact h.symm
  | some x => rfl
theorem getD_zipf {f : Int × Int → Int} (h : f (0, 0) = 0) {r s : List Int} (hl : r.length = s.length) (q : Nat) : ((r.zip s).map f).getD q 0 = f (r.getD q 0, s.getD q 0) := by
  rw [List.getD_eq_getElem?_getD, List.getElem?_map, List.getD_eq_getElem?_getD, List.getD_eq_getElem?_getD]
  rcases Nat.lt_or_ge q r.length with hq | hq
  · have hq2 : q < s.length := by omega
    have hz : q < (r.zip s).length := by rw [List.length_zip]; omega
    rw [List.getElem?_eq_getElem hz, List.getElem?_eq_getElem hq, List.getElem?_eq_getElem hq2, List.getElem_zip]
    rfl
  · have hq2 : s.length ≤ q := by omega
    rw [List.getElem?_eq_none (show (r.zip s).length ≤ q by rw [List.length_zip]; omega), List.getElem?_eq_none hq, List.getElem?_eq_none hq2]
    exact h.symm
theorem rowG_dvd_from : ∀ {r : List Int} {c : Nat}, (r.foldl (fun c x => Nat.gcd c x.natAbs) c ∣ c) ∧ ∀ x ∈ r, r.foldl (fun c x => Nat.gcd c x.natAbs) c ∣ x.natAbs
  | [], c => ⟨Nat.dvd_refl _, fun x m => by cases m⟩
  | y :: r, c => by
    obtain ⟨h1, h2⟩ := rowG_dvd_from (r := r) (c := Nat.gcd c y.natAbs)
    refine ⟨Nat.dvd_trans h1 (Nat.gcd_dvd_left _ _), fun x m => ?_⟩
    rcases List.mem_cons.mp m with rfl | m
    · exact Nat.dvd_trans h1 (Nat.gcd_dvd_right _ _)
    · exact h2 x m
theorem rowG_dvd {r : List Int} {x : Int} (h : x ∈ r) : (rowG r : Int) ∣ x := Int.dvd_natAbs.mp (Int.ofNat_dvd.mpr (rowG_dvd_from.2 x h))
/-- the bare row is the row but for a factor -/
theorem bareR_scale (r : List Int) : ∃ g : Int, 0 < g ∧ r = (bareR r).map fun x => g * x := by
  unfold bareR
  split
  · rename_i h
    refine ⟨(rowG r : Int), by omega, ?_⟩
    rw [List.map_map]
    conv => lhs; rw [← List.map_id r]
    refine List.map_congr_left fun x hx => ?_
    show x = (rowG r : Int) * (x / (rowG r : Int))
    exact (Int.mul_ediv_cancel' (rowG_dvd hx)).symm
  · exact ⟨1, by decide, by simp⟩
theorem bareR_zero (r : List Int) (q : Nat) : (bareR r).getD q 0 = 0 ↔ r.getD q 0 = 0 := by
  obtain ⟨g, hg, e⟩ := bareR_scale r
  have h : r.getD q 0 = g * (bareR r).getD q 0 := by
    conv => lhs; rw [e]
    exact getD_map0 (f := fun x => g * x) (by simp) _ _
  rw [h]
  constructor
  · intro h0; rw [h0]; simp
  · intro h0
    rcases Int.mul_eq_zero.mp h0 with h1 | h1
    · omega
    · exact h1
theorem cleared_len {l s : List Int} {p : Nat} (h : l.length = s.length) : (clearedR l s p).length = l.length := by
  unfold clearedR
  split
  · rfl
  · rw [bareR_len, List.length_map, List.length_zip]; omega
theorem cleared_lt {A B : Nat} {l s : List Int} {p : Nat} (hl : Lt A l) (hs : Lt B s) (h : l.length = s.length) (hp : p < l.length) : Lt (A + B + 1) (clearedR l s p) := by
  unfold clearedR
  split
  · exact hl.mono (by omega)
  · refine Lt.bare fun y hy => ?_
    obtain ⟨x, hx, rfl⟩ := List.mem_map.mp hy
    have hz := zip_len hx
    have h2 : (s.getD p 0 * x.1 - l.getD p 0 * x.2).natAbs < 2 ^ (B + A + 1) := by
      have e1 : (s.getD p 0 * x.1).natAbs < 2 ^ (B + A) := by rw [Int.natAbs_mul, Nat.pow_add]; exact Nat.mul_lt_mul'' (lt_getD hs (by omega)) (hl _ hz.1)
      have e2 : (l.getD p 0 * x.2).natAbs < 2 ^ (B + A) := by rw [Int.natAbs_mul, Nat.pow_add, Nat.mul_comm (2 ^ B)]; exact Nat.mul_lt_mul'' (lt_getD hl hp) (hs _ hz.2)
      rw [Nat.pow_succ]
      omega
    rw [show A + B + 1 = B + A + 1 by omega]
    exact h2
theorem cleared_at {l s : List Int} {p q : Nat} (h : l.length = s.length) (hq : (l.getD p 0 ≠ 0 → s.getD p 0 * l.getD q 0 - l.getD p 0 * s.getD q 0 = 0)) (h0 : l.getD p 0 = 0 → l.getD q 0 = 0) : (clearedR l s p).getD q 0 = 0 := by
  unfold clearedR
  split
  · rename_i hz; exact h0 hz
  · rename_i hz
    rw [bareR_zero, getD_zipf (by simp) h]
    exact hq hz
theorem cleared_zero {l s : List Int} {p : Nat} (h : l.length = s.length) : (clearedR l s p).getD p 0 = 0 :=
  cleared_at h (fun _ => by rw [Int.mul_comm]; omega) id
theorem cleared_keep {l s : List Int} {p q : Nat} (h : l.length = s.length) (h1 : l.getD q 0 = 0) (h2 : s.getD q 0 = 0) : (clearedR l s p).getD q 0 = 0 :=
  cleared_at h (fun _ => by rw [h1, h2]; simp) fun _ => h1
def leftOf (steps : List (List Int)) (row : List Int) : List Int := steps.foldl (fun l s => clearedR l s (headOf s)) row
def Uk : Nat → Nat
  | 0 => 0
  | k + 1 => 2 * Uk k + 3 * k + 2
structure RowsOk (m : Nat) (rows : List (List Int)) : Prop where
  len : ∀ r ∈ rows, r.length = m
  ne : ∀ r ∈ rows, ∃ y ∈ r, y ≠ 0
  zero : ∀ (i j : Nat) (r s : List Int), i < j → rows[i]? = some r → rows[j]? = some s → s.getD (headOf r) 0 = 0
def Sized (rows : List (List Int)) : Prop := ∀ (k : Nat) (r : List Int), rows[k]? = some r → Lt (3 * k + 1 + Uk k) r
theorem take_snoc {α : Type} {xs : List α} {i : Nat} {x : α} (h : xs[i]? = some x) : xs.take (i + 1) = xs.take i ++ [x] := by rw [List.take_add_one, h]; rfl
theorem leftOf_snoc (a : List (List Int)) (s row : List Int) : leftOf (a ++ [s]) row = clearedR (leftOf a row) s (headOf s) := by unfold leftOf; rw [List.foldl_append]; rfl
theorem head_ne {r : List Int} (h : ∃ y ∈ r, y ≠ 0) : r.getD (headOf r) 0 ≠ 0 := by
  have hl := headOf_lt h
  have h3 : (r[headOf r]'hl != 0) = true := List.findIdx_getElem (w := hl)
  have h4 : r.getD (headOf r) 0 = r[headOf r]'hl := by simp [List.getD, List.getElem?_eq_getElem hl]
  rw [h4]; simpa using h3
theorem left_spec {m : Nat} {rows : List (List Int)} (h : RowsOk m rows) {row : List Int} (hr : row.length = m) : ∀ i, i ≤ rows.length → (leftOf (rows.take i) row).length = m ∧ ∀ (j : Nat) (r : List Int), j < i → rows[j]? = some r → (leftOf (rows.take i) row).getD (headOf r) 0 = 0
  | 0, _ => ⟨by simpa [leftOf] using hr, fun j r hj => by omega⟩
  | i + 1, hi => by
    have ih := left_spec h hr i (by omega)
    obtain ⟨s, hs⟩ : ∃ s, rows[i]? = some s := ⟨_, List.getElem?_eq_getElem (by omega)⟩
    have hsl := h.len s (List.mem_of_getElem? hs)
    rw [take_snoc hs, leftOf_snoc]
    have hl : (leftOf (rows.take i) row).length = s.length := by rw [ih.1, hsl]
    refine ⟨by rw [cleared_len hl, ih.1], fun j r hj hjr => ?_⟩
    rcases Nat.lt_or_ge j i with h1 | h1
    · exact cleared_keep hl (ih.2 j r h1 hjr) (h.zero j i r s h1 hjr hs)
    · obtain rfl : j = i := by omega
      rw [hs] at hjr; cases hjr
      exact cleared_zero hl
theorem left_lt {m A : Nat} {rows : List (List Int)} (h : RowsOk m rows) (hz : Sized rows) {row : List Int} (hr : row.length = m) (hA : Lt A row) : ∀ i, i ≤ rows.length → Lt (A + Uk i) (leftOf (rows.take i) row)
  | 0, _ => by simpa [leftOf, Uk] using hA
  | i + 1, hi => by
    have ih := left_lt h hz hr hA i (by omega)
    have hl := (left_spec h hr i (by omega)).1
    obtain ⟨s, hs⟩ : ∃ s, rows[i]? = some s := ⟨_, List.getElem?_eq_getElem (by omega)⟩
    have hm := List.mem_of_getElem? hs
    rw [take_snoc hs, leftOf_snoc]
    refine (cleared_lt ih (hz i s hs) (by rw [hl, h.len s hm]) (by rw [hl, ← h.len s hm]; exact headOf_lt (h.ne s hm))).mono ?_
    show _ ≤ A + (2 * Uk i + 3 * i + 2)
    omega
theorem nodup_le : ∀ (m : Nat) (l : List Nat), l.Nodup → (∀ x ∈ l, x < m) → l.length ≤ m
  | 0, l, _, h => by
    cases l with
    | nil => exact Nat.le_refl _
    | cons x l => exact absurd (h x List.mem_cons_self) (by omega)
  | m + 1, l, hn, h => by
    have h1 := nodup_le m (l.erase m) (hn.erase m) fun x hx => by
      have := (hn.mem_erase_iff).mp hx
      have := h x this.2
      omega
    rw [List.length_erase] at h1
    split at h1 <;> omega
theorem rows_le {m : Nat} {rows : List (List Int)} (h : RowsOk m rows) : rows.length ≤ m := by
  have h1 := nodup_le m (rows.map headOf) (by
    rw [List.Nodup, List.pairwise_iff_getElem]
    intro i j hi hj hij
    rw [List.length_map] at hi hj
    rw [List.getElem_map, List.getElem_map]
    intro e
    have hz := h.zero i j _ _ hij (List.getElem?_eq_getElem hi) (List.getElem?_eq_getElem hj)
    rw [e] at hz
    exact head_ne (h.ne _ (List.getElem_mem hj)) hz) fun x hx => by
      obtain ⟨r, hr, rfl⟩ := List.mem_map.mp hx
      rw [← h.len r hr]; exact headOf_lt (h.ne r hr)
  rwa [List.length_map] at h1
theorem any_ne {r : List Int} : (r.any fun n => n != 0) = true ↔ ∃ y ∈ r, y ≠ 0 := by simp
theorem bareR_ne {r : List Int} (h : ∃ y ∈ r, y ≠ 0) : ∃ y ∈ bareR r, y ≠ 0 := by
  obtain ⟨y, hy, hn⟩ := h
  obtain ⟨g, hg, e⟩ := bareR_scale r
  rw [e] at hy
  obtain ⟨x, hx, rfl⟩ := List.mem_map.mp hy
  exact ⟨x, hx, fun z => hn (by rw [z]; simp)⟩
theorem RowsOk.snoc {m : Nat} {rows : List (List Int)} (h : RowsOk m rows) {r : List Int} (hl : r.length = m) (hn : ∃ y ∈ r, y ≠ 0) (hz : ∀ (j : Nat) (s : List Int), rows[j]? = some s → r.getD (headOf s) 0 = 0) : RowsOk m (rows ++ [r]) := by
  refine ⟨fun s hs => ?_, fun s hs => ?_, fun i j a b hij ha hb => ?_⟩
  · rcases List.mem_append.mp hs with h1 | h1
    · exact h.len s h1
    · rw [List.mem_singleton.mp h1]; exact hl
  · rcases List.mem_append.mp hs with h1 | h1
    · exact h.ne s h1
    · rw [List.mem_singleton.mp h1]; exact hn
  · have hjl := (List.getElem?_eq_some_iff.mp hb).1
    rw [List.length_append, List.length_singleton] at hjl
    rw [List.getElem?_append_left (by omega)] at ha
    rcases Nat.lt_or_ge j rows.length with h1 | h1
    · rw [List.getElem?_append_left h1] at hb
      exact h.zero i j a b hij ha hb
    · obtain rfl : j = rows.length := by omega
      rw [List.getElem?_concat_length] at hb
      cases hb
      exact hz i a ha
theorem Sized.snoc {rows : List (List Int)} (h : Sized rows) {r : List Int} (hr : Lt (3 * rows.length + 1 + Uk rows.length) r) : Sized (rows ++ [r]) := by
  intro k s hs
  have hkl := (List.getElem?_eq_some_iff.mp hs).1
  rw [List.length_append, List.length_singleton] at hkl
  rcases Nat.lt_or_ge k rows.length with h1 | h1
  · rw [List.getElem?_append_left h1] at hs
    exact h k s hs
  · obtain rfl : k = rows.length := by omega
    rw [List.getElem?_concat_length] at hs
    cases hs; exact hr

def rowOf (ls : List (List (List Int))) (w : List Nat) : List Int := (wordT ls w).flatten
/-- a word more is looked at: the rows, the words that were longer -/
def tryW (ls : List (List (List Int))) (st : List (List Int) × List (List Nat)) (w : List Nat) : List (List Int) × List (List Nat) :=
  if (leftOf st.1 (rowOf ls w)).any (fun n => n != 0) then (st.1 ++ [bareR (leftOf st.1 (rowOf ls w))], st.2 ++ [w]) else st
def nextW (ls : List (List (List Int))) (last : List (List Nat)) : List (List Nat) := last.flatMap fun w => (List.range ls.length).map fun l => w ++ [l]
def layerW (ls : List (List (List Int))) (rows : List (List Int)) (last : List (List Nat)) : List (List Int) × List (List Nat) := (nextW ls last).foldl (tryW ls) (rows, [])
def baseLoop (ls : List (List (List Int))) : Nat → List (List Nat) → List (List Int) → List (List Nat) → List (List Nat)
  | 0, found, _, _ => found
  | k + 1, found, rows, last => if last.isEmpty then found else baseLoop ls k (found ++ (layerW ls rows last).2) (layerW ls rows last).1 (layerW ls rows last).2
def baseW (ls : List (List (List Int))) : List (List Nat) := baseLoop ls 11 [[]] [rowOf ls []] [[]]
/-- what holds of the rows -/
structure Ci (n : Nat) (ls : List (List (List Int))) (rows : List (List Int)) : Prop where
  H : HouseOk n ls
  ok : RowsOk (n * n) rows
  sz : Sized rows
/-- a word that may be looked at -/
def Cand (ls : List (List (List Int))) (k : Nat) (w : List Nat) : Prop := w.length ≤ k ∧ ∀ l ∈ w, l < ls.length
theorem Ci.le9 {n : Nat} {ls : List (List (List Int))} {rows : List (List Int)} (h : Ci n ls rows) : rows.length ≤ 9 := by
  have h1 := rows_le h.ok
  have h2 := h.H.2.2.2.1
  have := Nat.mul_le_mul h2 h2
  omega
theorem rowOf_len {n : Nat} {ls : List (List (List Int))} (h : HouseOk n ls) {w : List Nat} (hw : ∀ l ∈ w, l < ls.length) : (rowOf ls w).length = n * n :=
  have hk := (word_ok h _ w rfl hw).1
  Sq.flat hk.2 hk.1
theorem lt_of_ent {k : Nat} {t : List (List Int)} (h : Ent (8 ^ k) t) : Lt (3 * k + 1) t.flatten := fun x hx => by
  obtain ⟨r, hr, hxr⟩ := List.mem_flatten.mp hx
  have h1 := h r hr x hxr
  rw [show (8 : Nat) = 2 ^ 3 by decide, ← Nat.pow_mul] at h1
  rw [Nat.pow_succ]
  have := Nat.two_pow_pos (3 * k)
  omega
theorem rowOf_lt {n : Nat} {ls : List (List (List Int))} (h : HouseOk n ls) {w : List Nat} (hw : ∀ l ∈ w, l < ls.length) : Lt (3 * w.length + 1) (rowOf ls w) := lt_of_ent (word_ok h _ w rfl hw).2
theorem Uk_mono {i j : Nat} (h : i ≤ j) : Uk i ≤ Uk j := by
  induction h with
  | refl => exact Nat.le_refl _
  | step _ ih =>
    rename_i k _
    show Uk i ≤ 2 * Uk k + 3 * k + 2
    omega
theorem Uk9 : Uk 9 ≤ 3000 := by decide
/-- every state of the row that is left is small -/
theorem Ci.left_small {n : Nat} {ls : List (List (List Int))} {rows : List (List Int)} (h : Ci n ls rows) {w : List Nat} (hw : Cand ls rows.length w) {i : Nat} (hi : i ≤ rows.length) : Lt 4400 (leftOf (rows.take i) (rowOf ls w)) := by
  have h9 := h.le9
  refine (left_lt h.ok h.sz (rowOf_len h.H hw.2) (rowOf_lt h.H hw.2) i hi).mono ?_
  have h1 := hw.1
  have h2 := Uk_mono (show i ≤ 9 by omega)
  have h3 := Uk9
  omega
theorem Ci.row_small {n : Nat} {ls : List (List (List Int))} {rows : List (List Int)} (h : Ci n ls rows) : ∀ r ∈ rows, Lt 4400 r := fun r hr => by
  obtain ⟨k, hk⟩ := List.getElem?_of_mem hr
  have h9 := h.le9
  have hkl := (List.getElem?_eq_some_iff.mp hk).1
  refine (h.sz k r hk).mono ?_
  have h2 := Uk_mono (show k ≤ 9 by omega)
  have h3 := Uk9
  omega
theorem Ci.try {n : Nat} {ls : List (List (List Int))} {st : List (List Int) × List (List Nat)} (h : Ci n ls st.1) {w : List Nat} (hw : Cand ls st.1.length w) : Ci n ls (tryW ls st w).1 := by
  unfold tryW
  split
  · rename_i ha
    have hl := rowOf_len h.H hw.2
    have hs := left_spec h.ok hl st.1.length (Nat.le_refl _)
    rw [List.take_length] at hs
    have hz := left_lt h.ok h.sz hl (rowOf_lt h.H hw.2) st.1.length (Nat.le_refl _)
    rw [List.take_length] at hz
    refine ⟨h.H, h.ok.snoc (by rw [bareR_len]; exact hs.1) (bareR_ne (any_ne.mp ha)) fun j s hj => ?_, h.sz.snoc (hz.bare.mono ?_)⟩
    · rw [bareR_zero]
      exact hs.2 j s (List.getElem?_eq_some_iff.mp hj).1 hj
    · have := hw.1
      omega
  · exact h
theorem try_rows_le (ls : List (List (List Int))) (st : List (List Int) × List (List Nat)) (w : List Nat) : st.1.length ≤ (tryW ls st w).1.length := by
  unfold tryW; split <;> simp
/-- the rows and the longer words grow together -/
theorem try_both (ls : List (List (List Int))) (st : List (List Int) × List (List Nat)) (w : List Nat) : (tryW ls st w).1.length + st.2.length = st.1.length + (tryW ls st w).2.length := by
  unfold tryW; split <;> simp <;> omega
theorem try_sub (ls : List (List (List Int))) (st : List (List Int) × List (List Nat)) (w : List Nat) {v : List Nat} (h : v ∈ (tryW ls st w).2) : v ∈ st.2 ∨ v = w := by
  unfold tryW at h
  split at h
  · rcases List.mem_append.mp h with h | h
    · exact .inl h
    · exact .inr (List.mem_singleton.mp h)
  · exact .inl h
theorem Cand.mono {ls : List (List (List Int))} {j k : Nat} {w : List Nat} (h : Cand ls j w) (hj : j ≤ k) : Cand ls k w := ⟨Nat.le_trans h.1 hj, h.2⟩
theorem layer_spec {n : Nat} {ls : List (List (List Int))} : ∀ (ws : List (List Nat)) (st : List (List Int) × List (List Nat)), Ci n ls st.1 → (∀ w ∈ ws, Cand ls st.1.length w) →
    Ci n ls (ws.foldl (tryW ls) st).1 ∧ st.1.length ≤ (ws.foldl (tryW ls) st).1.length ∧ (ws.foldl (tryW ls) st).1.length + st.2.length = st.1.length + (ws.foldl (tryW ls) st).2.length ∧ ∀ v ∈ (ws.foldl (tryW ls) st).2, v ∈ st.2 ∨ v ∈ ws
  | [], st, h, _ => ⟨h, Nat.le_refl _, rfl, fun v hv => .inl hv⟩
  | w :: ws, st, h, hw => by
    have h1 := h.try (hw w List.mem_cons_self)
    have h2 := try_rows_le ls st w
    obtain ⟨a, b, c, d⟩ := layer_spec ws (tryW ls st w) h1 fun v hv => (hw v (List.mem_cons_of_mem _ hv)).mono h2
    have h3 := try_both ls st w
    refine ⟨a, Nat.le_trans h2 b, by rw [List.foldl_cons]; omega, fun v hv => ?_⟩
    rcases d v hv with h4 | h4
    · rcases try_sub ls st w h4 with h5 | h5
      · exact .inl h5
      · exact .inr (by rw [h5]; exact List.mem_cons_self)
    · exact .inr (List.mem_cons_of_mem _ h4)
theorem next_cand {ls : List (List (List Int))} {k : Nat} {last : List (List Nat)} (h : ∀ w ∈ last, w.length < k ∧ ∀ l ∈ w, l < ls.length) : ∀ w ∈ nextW ls last, Cand ls k w := fun w hw => by
  obtain ⟨v, hv, hw⟩ := List.mem_flatMap.mp hw
  obtain ⟨l, hl, rfl⟩ := List.mem_map.mp hw
  have h1 := h v hv
  refine ⟨by simp; omega, fun x hx => ?_⟩
  rcases List.mem_append.mp hx with h2 | h2
  · exact h1.2 x h2
  · rw [List.mem_singleton.mp h2]; exact List.mem_range.mp hl
/-- what holds as the base grows -/
structure Bi (n : Nat) (ls : List (List (List Int))) (fuel : Nat) (found : List (List Nat)) (rows : List (List Int)) (last : List (List Nat)) : Prop where
  c : Ci n ls rows
  cand : ∀ w ∈ last, w.length < rows.length ∧ ∀ l ∈ w, l < ls.length
  fuel : last ≠ [] → 11 ≤ fuel + rows.length
  both : found.length = rows.length
  all : ∀ w ∈ found, w.length < rows.length ∧ ∀ l ∈ w, l < ls.length
theorem Bi.pos {n fuel : Nat} {ls : List (List (List Int))} {found : List (List Nat)} {rows : List (List Int)} {last : List (List Nat)} (h : Bi n ls fuel found rows last) (hl : last ≠ []) : 0 < fuel := by
  have := h.fuel hl
  have := h.c.le9
  omega
theorem Bi.step {n fuel : Nat} {ls : List (List (List Int))} {found : List (List Nat)} {rows : List (List Int)} {last : List (List Nat)} (h : Bi n ls (fuel + 1) found rows last) (hl : last ≠ []) : Bi n ls fuel (found ++ (layerW ls rows last).2) (layerW ls rows last).1 (layerW ls rows last).2 := by
  have hc := next_cand h.cand
  obtain ⟨a, b, c, d⟩ := layer_spec (nextW ls last) (rows, []) h.c hc
  have c' : (layerW ls rows last).1.length + 0 = rows.length + (layerW ls rows last).2.length := c
  have b' : rows.length ≤ (layerW ls rows last).1.length := b
  have k : ∀ w ∈ (layerW ls rows last).2, w.length < (layerW ls rows last).1.length ∧ ∀ l ∈ w, l < ls.length := fun w hw => by
    rcases d w hw with h1 | h1
    · cases h1
    · have h2 := hc w h1
      have h3 : 0 < (layerW ls rows last).2.length := List.length_pos_of_mem hw
      exact ⟨by have := h2.1; omega, h2.2⟩
  refine ⟨a, k, fun hne => ?_, ?_, fun w hw => ?_⟩
  · have h3 : 0 < (layerW ls rows last).2.length := List.length_pos_iff.mpr hne
    have := h.fuel hl
    omega
  · rw [List.length_append, h.both]; omega
  · rcases List.mem_append.mp hw with h1 | h1
    · have := h.all w h1
      exact ⟨by omega, this.2⟩
    · exact k w h1
theorem idle_flat_ne {n : Nat} (h : 1 ≤ n) : ∃ y ∈ (idleT n).flatten, y ≠ 0 := by
  refine ⟨1, List.mem_flatten.mpr ⟨(List.range n).map fun to => if 0 = to then 1 else 0, List.mem_map.mpr ⟨0, List.mem_range.mpr h, rfl⟩, List.mem_map.mpr ⟨0, List.mem_range.mpr h, rfl⟩⟩, by decide⟩
theorem Bi.start {n : Nat} {ls : List (List (List Int))} (h : HouseOk n ls) : Bi n ls 11 [[]] [rowOf ls []] [[]] := by
  have hl := rowOf_len h (w := []) (fun l hl => nomatch hl)
  have hz := rowOf_lt h (w := []) (fun l hl => nomatch hl)
  refine ⟨⟨h, ⟨fun r hr => by rw [List.mem_singleton.mp hr]; exact hl, fun r hr => ?_, fun i j r s hij hi hj => ?_⟩, fun k r hk => ?_⟩, fun w hw => ?_, fun _ => by simp, rfl, fun w hw => ?_⟩
  · rw [List.mem_singleton.mp hr]
    unfold rowOf wordT
    rw [h.side]
    exact idle_flat_ne h.2.2.1
  · have := (List.getElem?_eq_some_iff.mp hj).1
    simp at this
    omega
  · have := (List.getElem?_eq_some_iff.mp hk).1
    simp at this
    subst this
    simp at hk; subst hk
    exact hz.mono (by simp)
  · rw [List.mem_singleton.mp hw]; exact ⟨by simp, fun l hl => nomatch hl⟩
  · rw [List.mem_singleton.mp hw]; exact ⟨by simp, fun l hl => nomatch hl⟩
end TW

namespace TW
open PySem PySem.Spec L2 TL
structure HouF (Pg : Program) (w : World) (K : PySem.W.Frag) (mg : Str → Option Value) (base : Heap) (C CH : Addr) : Prop where
  HC : HouC K mg CH
  how : ∃ (f : Addr) (fd : FuncData), Mk K CH f ∧ FnOk Pg w K mg base CX0 7 f fd ["self", "letters"] (spHInit C CH) ∧ Binds K fd ["self", "letters"] []
section
variable {X : Cx} {Γ : TL.Env} {e a b : Expr} {p pos : Pos} {C CH : Addr} {α τ τ' : Type} {R : Rp α} {T : Rp τ'}
theorem ge_mkH {ls : List (List (List Int))} {n : Nat} (F : HouF X.prog X.w X.K X.mg X.base C CH) (hr : Room 8 X.A) (hH : HouseOk n ls) (ha : GE X a Γ (rL (rL (rL TL.rI))) (Is ls)) (hg : Gl X "House" := by rfl) (hs : starEach [a] X.env = (false, eval a X.env) :: starEach [] X.env := by rfl) : GE X (.Call (.Name "House" p) [a] [] pos) Γ (rH C CH) (Is ls) := by
  obtain ⟨f, fd, M, G, hb⟩ := F.how
  refine ge_of (pe_make M G hr hg F.HC.O.m hb .nil pass0 pa_s (he := hs) (hpl := by rfl)) fun σ H h Q q => ga1 ha hs σ H h _ fun vs H1 e1 z1 r => ?_
  obtain ⟨v, rfl, r1⟩ := r.one
  intro x dx nx nd ne
  have h1 := h.ev e1
  refine ⟨x, dx, v, ls, x :: Γ.L, rfl, List.mem_cons_self, fun l hl => ?_, upd_same, ⟨n, hH⟩, (rL (rL (rL TL.rI))).mono (fun c o hc => ?_) r1, fun H2 u ex ru => ⟨rfl, ?_⟩⟩
  · rcases List.mem_cons.mp hl with rfl | hl
    · rw [upd_same]; intro z; cases z
    · by_cases e2 : l = x
      · subst e2; rw [upd_same]; intro z; cases z
      · rw [upd_ne e2]
        by_cases e3 : l = dx
        · subst e3; rw [upd_same]; intro z; cases z
        · rw [upd_ne e3]; exact h1.al l hl
  · have hc' := hd_some hc
    have n1 : c ≠ x := fun z => by rw [z, nx] at hc'; cases hc'.2
    have n2 : c ≠ dx := fun z => by rw [z, nd] at hc'; cases hc'.2
    refine hd_of (fun m => ?_) (by rw [upd_ne n1, upd_ne n2]; exact hc'.2)
    rcases List.mem_cons.mp m with m | m
    · exact n1 m
    · exact hc'.1 m
  · have ex2 : Ex H1 (upd H2 x (.ins CH dx (hF u (sideH ls : Int)))) := fun c o hc => by
      have n1 : c ≠ x := fun z => by rw [z, nx] at hc; cases hc
      have n2 : c ≠ dx := fun z => by rw [z, nd] at hc; cases hc
      rw [upd_ne n1]
      exact ex c o (by rw [upd_ne n1, upd_ne n2]; exact hc)
    refine q _ _ _ rfl (e1.trans (h1.eve ex2)) ⟨x, dx, _, rfl, hd_of (h1.notL nx) upd_same, u, rfl, ?_⟩
    refine (rL (rL (rL (rZ C)))).mono (fun c o hc => ?_) ru
    have hc' := hd_some hc
    have n1 : c ≠ x := fun z => hc'.1 (z ▸ List.mem_cons_self)
    exact hd_of (fun m => hc'.1 (List.mem_cons_of_mem _ m)) (by rw [upd_ne n1]; exact hc'.2)
theorem GG.on {tg : Expr} {is : List Nat} {ap : τ' → List Slot → List Slot} {n : Nat} {f : τ → τ'} (h : GG X tg T is ap n) : GG X tg (T.on f) is (fun y => ap (f y)) n := fun Γ σ H x v hl hh r Q q => h Γ σ H (f x) v hl hh r Q q
/-- an own list of lists is looked at, a list of ints comes of it -/
theorem ge_peek {S : Rp α} {P : List Int → Prop} (i : Nat) {l : Addr} {xs : List (List α)} {L' : List Addr} (hs : Γ.s[i]? = some (.own l (rL S) xs)) (hne : xs ≠ []) (hL : ∀ a, a ∈ L' ↔ a ∈ Γ.L ∧ a ≠ l)
    (h : GE X e { Γ with L := L', s := Γ.s.set i (.val (rL (rL S)) xs) } (rL TL.rI) P) : GE X e Γ (rL TL.rI) P := fun σ H hh Q q => h σ H (hh.froze hs hL) Q fun x v H' px ev z r => by
  refine q x v H' px ev z ?_
  obtain ⟨p, vs, rfl, hp, rp⟩ := r
  have hp' := hd_some hp
  refine ⟨p, vs, rfl, hd_of (fun m => ?_) hp'.2, Paired.imp (fun a v k => k) rp⟩
  by_cases e : p = l
  · subst e
    obtain ⟨e1, e2, ws, e3, e4⟩ := hh.ok i _ hs
    have e5 : H' p = some (.lst ws) := (ev p _ e3).1 fun z => (hh.l0 p (hh.pot p z).1).2 (hh.new i _ p hs rfl)
    rw [hp'.2] at e5
    cases e5
    cases xs with
    | nil => exact hne rfl
    | cons y ys =>
      cases e4 with
      | cons k _ =>
        obtain ⟨p2, us, rfl, _⟩ := k
        cases rp with
        | cons k2 _ => cases (show _ = _ from k2)
  · exact hp'.1 ((hL p).mpr ⟨m, e⟩)
end
section
variable {Pg : Program} {w : World} {K : PySem.W.Frag} {mg : Str → Option Value} {base : Heap} {C CH : Addr}
abbrev N_left_of : List Str := ["steps", "row", "left", "step"]
abbrev S_left_of : Stmt := tp 59
theorem sc_left_of : FnScope N_left_of ["steps", "row"] (defScope S_left_of) := ⟨rfl, rfl, rfl, by decide +kernel, rfl, by decide +kernel, by decide +kernel⟩
abbrev spLeftOf : Sp := spG (fun x : List (List Int) × List Int => [⟨rL (rL rI), x.1⟩, ⟨rL rI, x.2⟩]) (fun x => (∃ m, RowsOk m x.1 ∧ x.2.length = m) ∧ (∀ i, i ≤ x.1.length → Lt 4400 (leftOf (x.1.take i) x.2)) ∧ ∀ s ∈ x.1, Lt 4400 s) (rL rI) (fun x => Is (leftOf x.1 x.2))
theorem ok_left_of (GC : Fn Pg w K mg base "cleared" ["row", "head", "place"] 3 (spCleared)) (GH : Fn Pg w K mg base "head_of" ["row"] 1 (spHeadOf)) (D : Df K mg "left_of" (tp 59) ["steps", "row"]) : Fn Pg w K mg base "left_of" ["steps", "row"] 4 (spLeftOf) := by
  refine fn_df D sc_left_of (fun _ => rfl) (by decide) fun x hx0 f cdv A outer s H E L hr => ?_
  obtain ⟨steps, row⟩ := x
  obtain ⟨⟨m, hR, hm⟩, h1, h2⟩ : (∃ m, RowsOk m steps ∧ row.length = m) ∧ (∀ i, i ≤ steps.length → Lt 4400 (leftOf (steps.take i) row)) ∧ ∀ s ∈ steps, Lt 4400 s := hx0
  refine gs_setI 2 sc_left_of.nd (ge_var 1 (R := rL rI) (x := row)) ?_
  refine gs_for (xs := steps) (fun i => [.val (rL (rL rI)) steps, .val (rL rI) row, .val (rL rI) (leftOf (steps.take i) row), .nil]) rfl PassesOwn.never (gi_list (ge_var 0)) (gg_name (n := 4) 3 sc_left_of.nd) (.keep (.keep (.keep (.keep .nil)))) (fun _ => rfl) (fun gs i s hx => ?_) ?_
  · have hi := (List.getElem?_eq_some_iff.mp hx).1
    have hs := List.mem_of_getElem? hx
    have hl := (left_spec hR hm i (by omega)).1
    refine gs_setI (R := rL rI) (x := leftOf (steps.take (i + 1)) row) 2 sc_left_of.nd ?_ (gs_end fun σ H hh => hh.less (.keep (.keep (.keep (.drop .nil)))))
    refine GE.to (x := clearedR (leftOf (steps.take i) row) s (headOf s)) ?_ (by rw [take_snoc hx, leftOf_snoc])
    refine gfn GC hr (leftOf (steps.take i) row, s, headOf s) ⟨h1 i (by omega), h2 s hs, ?_, headOf_lt (hR.ne s hs)⟩ (ga_cons (ge_var 2) (ga_cons (ge_var 3) (ga1 (ge_ofNat (by exact gfn GH hr s (hR.ne s hs) (ga1 (ge_var 3))) rfl))))
    show headOf s < (leftOf (steps.take i) row).length
    rw [hl, ← hR.len s hs]; exact headOf_lt (hR.ne s hs)
  · rw [List.take_length]
    exact gs_ret (ge_var 2)
abbrev N_long_with : List Str := ["tables", "found", "table"]
abbrev S_long_with : Stmt := tp 60
theorem sc_long_with : FnScope N_long_with ["tables"] (defScope S_long_with) := ⟨rfl, rfl, rfl, by decide +kernel, rfl, by decide +kernel, by decide +kernel⟩
abbrev spLongWith (C : Addr) : Sp := spG (fun x : List (List (List Int)) => [⟨rL (rL (rL (rZ C))), x⟩]) (fun x => x.flatten.flatten.length < 1000 ∧ ∀ i ∈ x.flatten.flatten, Big i) (rL rI) (fun x => Is x.flatten.flatten)
theorem ok_long_with (GL : Fn Pg w K mg base "long_of" ["table"] 1 (spLongOf C)) (GW0 : Fn Pg w K mg base "wholes" ["ratios"] 1 (spWholes C)) (D : Df K mg "long_with" (tp 60) ["tables"]) : Fn Pg w K mg base "long_with" ["tables"] 2 (spLongWith C) := by
  refine fn_df D sc_long_with (fun _ => rfl) (by decide) fun ts h0 f cdv A outer s H E L hr => ?_
  obtain ⟨hz, hb⟩ := h0
  refine gs_own (R := rZ C) (Pe := Is []) 1 sc_long_with.nd gf_nil (fun xs p pxs hp => ?_)
  cases (show _ = _ from pxs)
  have tk : ∀ i, (ts.take i).flatten.flatten.length ≤ ts.flatten.flatten.length := fun i => by
    conv => rhs; rw [← List.take_append_drop i ts]
    rw [List.flatten_append, List.flatten_append, List.length_append]; omega
  refine gs_for (xs := ts) (fun i => [.val (rL (rL (rL (rZ C)))) ts, .own p (rZ C) (ts.take i).flatten.flatten, .nil]) rfl PassesOwn.never (gi_list (ge_var 0)) (gg_name (n := 3) 2 sc_long_with.nd) (.keep (.keep (.keep .nil))) (fun _ => rfl) (fun gs i t hx => ?_) ?_
  · have e : (ts.take (i + 1)).flatten.flatten = (ts.take i).flatten.flatten ++ t.flatten := by rw [take_snoc hx]; simp
    have hk := tk (i + 1)
    rw [e, List.length_append] at hk
    refine gs_extend (Pe := Is t.flatten) 1 (ge_zL (GE.to (gfn GL hr (castT t) ?_ (ga1 (ge_qT (ge_var 2)))) (castT_flat t))) (fun ys py => ?_) (fun ys py => ?_)
    · show (castT t).flatten.length < 1000
      rw [castT_flat]; unfold castL; rw [List.length_map]; omega
    · cases (show _ = _ from py)
      rw [e]
      exact gs_end fun σ H hh => hh.less (.keep (.keep (.drop .nil)))
    · cases (show _ = _ from py)
      omega
  · rw [List.take_length]
    refine gs_froze1 (R := rZ C) (xs := ts.flatten.flatten) 1 rfl rfl hp ?_
    refine gs_ret (ge_ix1 (R := rI) (x := ((1 : Int), ts.flatten.flatten)) (GE.to (x := ((lcmD (castL ts.flatten.flatten) : Int), wholesR (castL ts.flatten.flatten))) ?_ (by rw [lcmD_ints, wholesR_ints]; rfl)))
    refine gfn GW0 hr (castL ts.flatten.flatten) (fun q hq => ?_) (ga1 (ge_qL (ge_var 1)))
    obtain ⟨i, hi, rfl⟩ := List.mem_map.mp hq
    exact ⟨by rw [ic_den]; exact Nat.one_dvd _, by rw [ic_num]; exact hb i hi⟩
end
end TW

namespace TW
open PySem PySem.Spec L2 TL
def pwf (ls : List (List (List Int))) (w : List Nat) : List Nat × List (List (List Int)) := (w, [wordT ls w])
abbrev rPW (C : Addr) : Rp (List Nat × List (List (List Int))) := rP (rL rNat) (rL (rL (rL (rZ C))))
abbrev PW (C : Addr) (ls : List (List (List Int))) : Rp (List Nat) := (rPW C).on (pwf ls)
theorem nextW_snoc (ls : List (List (List Int))) (a : List (List Nat)) (w : List Nat) : nextW ls (a ++ [w]) = nextW ls a ++ (List.range ls.length).map fun l => w ++ [l] := by
  unfold nextW; rw [List.flatMap_append]; simp
section
variable {Pg : Program} {w : World} {K : PySem.W.Frag} {mg : Str → Option Value} {base : Heap} {C CH : Addr}
abbrev N_base_with : List Str := ["houses", "last", "found", "rows", "longer", "word", "tables", "letter", "late", "row", "house", "table"]
abbrev S_base_with : Stmt := tp 61
theorem sc_base_with : FnScope N_base_with ["houses"] (defScope S_base_with) := ⟨rfl, rfl, rfl, by decide +kernel, rfl, by decide +kernel, by decide +kernel⟩
abbrev spBaseWith (C CH : Addr) : Sp := spG (fun x : List (List (List Int)) => [⟨rL (rH C CH), [x]⟩]) (fun x => ∃ n, HouseOk n x) (rL (rPW C)) (fun x => Is ((baseW x).map (pwf x)))
def subs : Stmt → List Stmt
  | .For _ _ b _ _ => b
  | .While _ b _ _ => b
  | _ => []
def bw2 : List Stmt := subs ((subs ((subs ((defBody S_base_with).getD 2 (.Pass ⟨0, 0, 0, 0⟩))).getD 1 (.Pass ⟨0, 0, 0, 0⟩))).getD 0 (.Pass ⟨0, 0, 0, 0⟩))
theorem bw_body (B : Blt mg) (HC : HouC K mg CH) (G2 : Fn Pg w K mg base "product_of" ["table", "other"] 5 (spProductOf C)) (G3 : Fn Pg w K mg base "long_with" ["tables"] 2 (spLongWith C)) (G4 : Fn Pg w K mg base "left_of" ["steps", "row"] 4 (spLeftOf)) (G5 : Fn Pg w K mg base "bare_row" ["row"] 2 (spBareRow)) {n : Nat} {ls : List (List (List Int))} (hH : HouseOk n ls)
    {f : Addr} {cdv : Value} {A : Around} {outer : List PySem.Env} {s : Shared} {H : Hp} {E : XK} {L : List Addr} (hr : Room 5 (A.deeper (PyProof.Rows.envOfC "base_with" (defScope S_base_with) s.heap.objs.size f cdv)))
    {p q : Addr} (hp : p ∉ L) (hq : q ∉ p :: L) {last found : List (List Nat)} {wd : List Nat} {l : Nat} (hlt : l < ls.length) (hwd : ∀ x ∈ wd, x < ls.length) {P : List (List Nat × List (List (List Int))) → Prop}
    (hwk0 : wd.length + 1 ≤ 9) (st : List (List Int) × List (List Nat)) (hc : Ci n ls st.1) (hne1 : st.1 ≠ []) (hlo : st.2.length ≤ 9) (hcl : wd.length + 1 ≤ st.1.length) (g : List Gh) :
    GS (cxOf CX0 Pg w K mg base N_base_with "base_with" (defScope S_base_with) f cdv A outer s H E).nox bw2 ⟨q :: p :: L, [], H, L, [.val (rL (rH C CH)) [ls], .val (rL (PW C ls)) last, .val (rL (PW C ls)) found, .own p (rL rI) st.1, .own q (PW C ls) st.2, .val (rL rNat) wd, .val (rL (rL (rL (rZ C)))) [wordT ls wd], .val rNat l, .nil, .nil, .nil, .nil], g⟩ (rL (rPW C)) P
      fun σ H' => Has ⟨q :: p :: L, [], H, L, [.val (rL (rH C CH)) [ls], .val (rL (PW C ls)) last, .val (rL (PW C ls)) found, .own p (rL rI) (tryW ls st (wd ++ [l])).1, .own q (PW C ls) (tryW ls st (wd ++ [l])).2, .val (rL rNat) wd, .val (rL (rL (rL (rZ C)))) [wordT ls wd], .nil, .nil, .nil, .nil, .nil], g⟩ σ H' := by
  have hqp : q ≠ p := fun e => hq (e ▸ List.mem_cons_self)
  have hn3 := hH.2.2.2.1
  have hcw : Cand ls st.1.length (wd ++ [l]) := by
    refine ⟨by simp; omega, fun x hx => ?_⟩
    rcases List.mem_append.mp hx with h2 | h2
    · exact hwd x h2
    · rw [List.mem_singleton.mp h2]; exact hlt
  have hwk := word_ok hH _ wd rfl hwd
  have hlk := hH.2.2.2.2 _ (getD_mem (d := []) hlt)
  have hlen9 := hc.le9
  have hwl : wd.length ≤ 60000 := by omega
  obtain ⟨rw1, lo1⟩ := st
  have hrl := rowOf_len hH hcw.2
  have hrz := rowOf_lt hH hcw.2
  -- late
  refine gs_setLc (R := rL (rL (rZ C))) (xs := [(wordT ls wd, ls)]) (own := [("table", 11), ("house", 10)]) 8 (fun x : List (List Int) × List (List (List Int)) => mulT x.1 (x.2.getD l [])) rfl sc_base_with.nd (gi_zip (xs := [wordT ls wd]) (ys := [ls]) (by exact B.zip) (by exact ga_cons (ge_var 6) (ga1 (ge_var 0)))) (blkOk_by (N := N_base_with) (sc := defScope S_base_with) (by decide +kernel)) (fun _ _ _ _ _ => (gg_pair rfl (gg_name (n := 12) 11 sc_base_with.nd) (gg_name (n := 12) 10 sc_base_with.nd))) rfl (by decide) (fun D x hx _ _ _ _ _ => ?_) ?_
  · rw [List.mem_singleton.mp hx]
    exact gfn G2 hr (wordT ls wd, ls.getD l []) ⟨⟨n, hwk.1, hlk.1, hH.2.2.1, by omega⟩, hwk.2.big (eight_lt hwl), hlk.2.big (Nat.lt_of_lt_of_le (by decide : 2 < 2 ^ 2) (Nat.pow_le_pow_right (by decide) (by decide)))⟩ (ga_cons (ge_var 11 (R := rL (rL (rZ C))) (x := wordT ls wd)) (ga1 (ge_ixN (d := []) (ge_hl HC (ge_var 10 (R := rH C CH) (x := ls))) (ge_var 7 (R := rNat) (x := l)) hlt)))
  have elate : ([(wordT ls wd, ls)].map fun x : List (List Int) × List (List (List Int)) => mulT x.1 (x.2.getD l [])) = [wordT ls (wd ++ [l])] := by
    rw [wordT_snoc]; rfl
  rw [elate]
  have erow : ([wordT ls (wd ++ [l])] : List (List (List Int))).flatten.flatten = rowOf ls (wd ++ [l]) := by simp [rowOf]
  have hleft : Lt 4400 (leftOf rw1 (rowOf ls (wd ++ [l]))) := by
    have := hc.left_small hcw (Nat.le_refl _)
    rwa [List.take_length] at this
  refine gs_setI (R := rL rI) (x := leftOf rw1 (rowOf ls (wd ++ [l]))) 9 sc_base_with.nd ?_ ?_
  · refine ge_peek (S := rI) (L' := q :: L) (xs := rw1) 3 rfl hne1 (fun a => ?_) ?_
    · constructor
      · intro ha
        rcases List.mem_cons.mp ha with rfl | ha
        · exact ⟨List.mem_cons_self, hqp⟩
        · exact ⟨List.mem_cons_of_mem _ (List.mem_cons_of_mem _ ha), fun e => hp (e ▸ ha)⟩
      · rintro ⟨ha, hn⟩
        rcases List.mem_cons.mp ha with rfl | ha
        · exact List.mem_cons_self
        · rcases List.mem_cons.mp ha with rfl | ha
          · exact absurd rfl hn
          · exact List.mem_cons_of_mem _ ha
    · refine gfn G4 hr (rw1, rowOf ls (wd ++ [l])) ⟨⟨n * n, hc.ok, hrl⟩, fun i hi => hc.left_small hcw hi, hc.row_small⟩ (ga_cons (ge_var 3) (ga1 ?_))
      refine GE.to (gfn G3 hr [wordT ls (wd ++ [l])] ⟨?_, ?_⟩ (ga1 (ge_var 8))) erow
      · rw [erow, hrl]
        have := Nat.mul_le_mul hn3 hn3
        omega
      · intro i hi
        rw [erow] at hi
        exact Big.of_lt (hrz i hi) (by simp; omega)
  refine gs_if (ι := PUnit) (fun _ => ⟨q :: p :: L, [], H, L, [.val (rL (rH C CH)) [ls], .val (rL (PW C ls)) last, .val (rL (PW C ls)) found, .own p (rL rI) (tryW ls (rw1, lo1) (wd ++ [l])).1, .own q (PW C ls) (tryW ls (rw1, lo1) (wd ++ [l])).2, .val (rL rNat) wd, .val (rL (rL (rL (rZ C)))) [wordT ls wd], .nil, .nil, .nil, .nil, .nil], g⟩) (gt_val (ge_anyI rfl B.any (ge_var 9))) (fun z => ?_) (fun z => ?_) (fun _ => gs_end fun σ H hh => hh) (fun _ => ⟨rfl, rfl, rfl⟩)
  · have z2 : (leftOf rw1 (rowOf ls (wd ++ [l]))).any (fun n => n != 0) = true := (show true = _ from z).symm
    have et : tryW ls (rw1, lo1) (wd ++ [l]) = (rw1 ++ [bareR (leftOf rw1 (rowOf ls (wd ++ [l])))], lo1 ++ [wd ++ [l]]) := if_pos z2
    rw [et]
    refine gs_append (R := rL rI) (xs := rw1) (Pe := Is (bareR (leftOf rw1 (rowOf ls (wd ++ [l]))))) 3 (by exact gfn G5 hr (leftOf rw1 (rowOf ls (wd ++ [l]))) (hleft.mono (by decide)) (ga1 (ge_var 9))) (fun y py => ?_) (by have : rw1.length ≤ 9 := hlen9; omega)
    cases (show _ = _ from py)
    refine gs_append (R := PW C ls) (xs := lo1) (Pe := Is (wd ++ [l])) 4 (GE.on (ge_pair (R := rL rNat) (x := wd ++ [l]) (S := rL (rL (rL (rZ C)))) (y := [wordT ls (wd ++ [l])]) (GF.ge (gf_cat (ge_var 5 (R := rL rNat) (x := wd)) (ge_lst [l] (ga1 (ge_var 7)) rfl (Nat.le_of_ble_eq_true rfl)) (by simp; omega))) (ge_var 8)) fun _ _ r => r) (fun y py => ?_) (by have : lo1.length ≤ 9 := hlo; omega)
    cases (show _ = _ from py)
    exact gs_end fun σ H hh => ⟨⟨⟩, hh.less (.keep (.keep (.keep (.keep (.keep (.keep (.keep (.drop (.drop (.drop (.keep (.keep .nil))))))))))))⟩
  · have z2 : (leftOf rw1 (rowOf ls (wd ++ [l]))).any (fun n => n != 0) = false := (show false = _ from z).symm
    have et : tryW ls (rw1, lo1) (wd ++ [l]) = (rw1, lo1) := if_neg (by rw [z2]; intro e; cases e)
    rw [et]
    exact gs_end fun σ H hh => ⟨⟨⟩, hh.less (.keep (.keep (.keep (.keep (.keep (.keep (.keep (.drop (.drop (.drop (.keep (.keep .nil))))))))))))⟩
theorem ok_base_with (B : Blt mg) (HC : HouC K mg CH) (G1 : Fn Pg w K mg base "idle_of" ["size"] 4 (spIdleOf C)) (G2 : Fn Pg w K mg base "product_of" ["table", "other"] 5 (spProductOf C)) (G3 : Fn Pg w K mg base "long_with" ["tables"] 2 (spLongWith C)) (G4 : Fn Pg w K mg base "left_of" ["steps", "row"] 4 (spLeftOf)) (G5 : Fn Pg w K mg base "bare_row" ["row"] 2 (spBareRow)) (D : Df K mg "base_with" (tp 61) ["houses"]) : Fn Pg w K mg base "base_with" ["houses"] 6 (spBaseWith C CH) := by
  refine fn_df D sc_base_with (fun _ => rfl) (by decide) fun ls hx0 f cdv A outer s H E L hr => ?_
  obtain ⟨n, hH⟩ := hx0
  have hs := hH.side
  have hn3 := hH.2.2.2.1
  refine gs_setI (R := rL (PW C ls)) (x := [[]]) 1 sc_base_with.nd (ge_lst [[]] (ga1 (R := PW C ls) (x := []) (GE.on (ge_pair (R := rL rNat) (x := []) (S := rL (rL (rL (rZ C)))) (y := [wordT ls []]) (GF.ge gf_nil) (GF.ge ?_)) fun _ _ r => r)) rfl (Nat.le_of_ble_eq_true rfl)) ?_
  · refine gf_lc (xs := [ls]) (own := [("house", 10)]) (fun l => wordT l []) rfl sc_base_with.nd (gi_list (ge_var 0)) (blkOk_by (N := N_base_with) (sc := defScope S_base_with) (by decide +kernel)) (fun _ _ _ _ _ => (gg_name (n := 12) 10 sc_base_with.nd)) rfl (by decide) (fun D l hl _ _ _ _ _ => ?_)
    rw [List.mem_singleton.mp hl]
    exact gfn G1 hr (sideH ls) (by show sideH ls < 1000; omega) (ga1 (ge_hw HC (ge_var 10 (R := rH C CH) (x := ls))))
  have hB0 := Bi.start hH
  have hl0 := rowOf_len hH (w := []) (fun l hl => nomatch hl)
  have hz0 := rowOf_lt hH (w := []) (fun l hl => nomatch hl)
  refine gs_parVO (R := rL (PW C ls)) (T := rL rI) (x := [[]]) (ys := [rowOf ls []]) 2 3 rfl sc_base_with.nd (GF.ge (gf_list B.list (ge_LT (ge_var 1)))) (gf_lst [rowOf ls []] (ga1 ?_) rfl (Nat.le_of_ble_eq_true rfl)) (fun p hp => ?_)
  · refine GE.to (gfn G3 hr [wordT ls []] ⟨?_, ?_⟩ (ga1 (ge_ix1 (x := pwf ls []) (GE.on (ge_ix (k := 0) (ge_var 1 (R := rL (PW C ls)) (x := [[]])) ge_int rfl rfl) fun _ _ r => r)))) (by simp [rowOf])
    · have e : ([wordT ls []] : List (List (List Int))).flatten.flatten = rowOf ls [] := by simp [rowOf]
      rw [e, hl0]
      have := Nat.mul_le_mul hn3 hn3
      omega
    · intro i hi
      have e : ([wordT ls []] : List (List (List Int))).flatten.flatten = rowOf ls [] := by simp [rowOf]
      rw [e] at hi
      exact Big.of_lt (hz0 i hi) (by simp)
  refine gs_while (fun m ss => ∃ found rows last, Bi n ls m found rows last ∧ baseLoop ls m found rows last = baseW ls ∧ ss = [.val (rL (rH C CH)) [ls], .val (rL (PW C ls)) last, .val (rL (PW C ls)) found, .own p (rL rI) rows, .nil, .nil, .nil, .nil, .nil, .nil, .nil, .nil]) PassesOwn.never 11 ⟨[[]], [rowOf ls []], [[]], hB0, rfl, rfl⟩ (.keep (.keep (.keep (.keep (.keep (.keep (.keep (.keep (.keep (.keep (.keep (.keep .nil)))))))))))) (fun m ss hG => ?_)
  obtain ⟨found, rows, last, hB, hfin, rfl⟩ := hG
  refine ⟨Is (!last.isEmpty), gt_neNil (R := PW C ls) (hr.mono (by decide)) (ge_var 1) (GF.ge gf_nil), fun z => ?_, fun z => ?_⟩
  rotate_left 1
  · have hem : last.isEmpty = true := by
      have : false = !last.isEmpty := z
      simpa using this.symm
    have : baseW ls = found := by
      rw [← hfin]
      cases m with
      | zero => rfl
      | succ k => unfold baseLoop; rw [hem]; rfl
    rw [this]
    exact gs_ret (GE.on (ge_var 2) fun _ _ r => rL_on.mp r)
  have hem : last.isEmpty = false := by
    have : true = !last.isEmpty := z
    simpa using this.symm
  have hne : last ≠ [] := by intro e; rw [e] at hem; cases hem
  obtain ⟨k, rfl⟩ : ∃ k, m = k + 1 := ⟨m - 1, by have := hB.pos hne; omega⟩
  have hfin' : baseLoop ls k (found ++ (layerW ls rows last).2) (layerW ls rows last).1 (layerW ls rows last).2 = baseW ls := by
    rw [← hfin]
    conv => rhs; unfold baseLoop
    rw [hem]; rfl
  have hcand := next_cand hB.cand
  refine gs_own (R := PW C ls) (Pe := Is []) 4 sc_base_with.nd gf_nil (fun xs q pxs hq => ?_)
  cases (show _ = _ from pxs)
  refine gs_for (T := PW C ls) (xs := last) (fun i => [.val (rL (rH C CH)) [ls], .val (rL (PW C ls)) last, .val (rL (PW C ls)) found, .own p (rL rI) (layerW ls rows (last.take i)).1, .own q (PW C ls) (layerW ls rows (last.take i)).2, .nil, .nil, .nil, .nil, .nil, .nil, .nil]) rfl PassesOwn.never (gi_list (ge_var 1)) (GG.on (gg_pair rfl (gg_name (n := 12) 5 sc_base_with.nd) (gg_name (n := 12) 6 sc_base_with.nd))) (.keep (.keep (.keep (.keep (.keep (.keep (.keep (.keep (.keep (.keep (.keep (.keep .nil)))))))))))) (fun _ => rfl) (fun gs i wd hx => ?_) ?_
  · have hwd := hB.cand wd (List.mem_of_getElem? hx)
    -- what stands after the words before and j letters
    generalize hS : (fun j : Nat => ((List.range j).map fun l => wd ++ [l]).foldl (tryW ls) (layerW ls rows (last.take i))) = S
    have hS0 : S 0 = layerW ls rows (last.take i) := by rw [← hS]; rfl
    have hSs : ∀ j, S (j + 1) = tryW ls (S j) (wd ++ [j]) := fun j => by
      rw [← hS]
      show ((List.range (j + 1)).map fun l => wd ++ [l]).foldl (tryW ls) _ = _
      rw [List.range_succ, List.map_append, List.foldl_append]; rfl
    have hSm : S ls.length = layerW ls rows (last.take (i + 1)) := by
      rw [← hS]
      show _ = (nextW ls (last.take (i + 1))).foldl (tryW ls) (rows, [])
      rw [take_snoc hx, nextW_snoc, List.foldl_append]; rfl
    have hinv : ∀ j, j ≤ ls.length → Ci n ls (S j).1 ∧ rows.length ≤ (S j).1.length ∧ (S j).1.length = rows.length + (S j).2.length := fun j hj => by
      have e : S j = (nextW ls (last.take i) ++ (List.range j).map fun l => wd ++ [l]).foldl (tryW ls) (rows, []) := by rw [← hS, List.foldl_append]; rfl
      have hsp := layer_spec (nextW ls (last.take i) ++ (List.range j).map fun l => wd ++ [l]) (rows, []) hB.c (fun v hv => by
        rcases List.mem_append.mp hv with h1 | h1
        · exact next_cand (fun u hu => hB.cand u (List.mem_of_mem_take hu)) v h1
        · obtain ⟨l, hl, rfl⟩ := List.mem_map.mp h1
          refine ⟨by simp; exact hwd.1, fun x hx => ?_⟩
          rcases List.mem_append.mp hx with h2 | h2
          · exact hwd.2 x h2
          · rw [List.mem_singleton.mp h2]; have := List.mem_range.mp hl; omega)
      rw [← e] at hsp
      exact ⟨hsp.1, hsp.2.1, by have := hsp.2.2.1; simpa using this⟩
    have h9 : ∀ j, j ≤ ls.length → (S j).1.length ≤ 9 := fun j hj => (hinv j hj).1.le9
    rw [← hS0, ← hSm]
    refine gs_for (T := rNat) (xs := List.range ls.length) (fun j => [.val (rL (rH C CH)) [ls], .val (rL (PW C ls)) last, .val (rL (PW C ls)) found, .own p (rL rI) (S j).1, .own q (PW C ls) (S j).2, .val (rL rNat) wd, .val (rL (rL (rL (rZ C)))) [wordT ls wd], .nil, .nil, .nil, .nil, .nil]) rfl PassesOwn.never (range_GI B.range (ge_len (xs := ls) B.len (ge_hl HC (ge_ix (k := 0) (ge_var 0 (R := rL (rH C CH)) (x := [ls])) ge_int rfl rfl))) (by have := hH.2.1; omega)) (gg_name (n := 12) 7 sc_base_with.nd) (.keep (.keep (.keep (.keep (.keep (.keep (.keep (.keep (.keep (.keep (.keep (.keep .nil)))))))))))) (fun _ => rfl) (fun gs2 j l hl => ?_) ?_
    · obtain ⟨rfl, hlt⟩ := range_at hl
      obtain ⟨hc, hle, hboth⟩ := hinv l (by omega)
      have hne1 : (S l).1 ≠ [] := by
        intro e
        rw [e] at hle
        have h3 : wd.length < rows.length := hwd.1
        simp at hle
        rw [hle] at h3
        simp at h3
      rw [hSs]
      exact bw_body B HC G2 G3 G4 G5 hH hr hp hq hlt hwd.2 (by have := hwd.1; have := hB.c.le9; omega) (S l) hc hne1 (by have := h9 l (by omega); omega) (by have := hwd.1; omega) _
    · rw [List.length_range]
      exact gs_end fun σ H hh => hh.less (.keep (.keep (.keep (.keep (.keep (.drop (.drop (.keep (.keep (.keep (.keep (.keep .nil))))))))))))
  · rw [List.take_length]
    have hB' := hB.step hne
    have hall : (found ++ (layerW ls rows last).2).length ≤ 9 := by rw [hB'.both]; exact hB'.c.le9
    rw [List.length_append] at hall
    refine gs_froze1 (R := PW C ls) (xs := (layerW ls rows last).2) 4 rfl rfl hq ?_
    refine gs_par (R := rL (PW C ls)) (T := rL (PW C ls)) (x := found ++ (layerW ls rows last).2) (y := (layerW ls rows last).2) 2 1 rfl sc_base_with.nd (GF.ge (gf_cat (ge_var 2) (ge_var 4) (by omega))) (ge_var 4) ?_
    exact gs_end fun σ H hh => ⟨k, _, by omega, ⟨_, _, _, hB', hfin', rfl⟩, hh.less (.keep (.keep (.keep (.keep (.drop (.keep (.keep (.keep (.keep (.keep (.keep (.keep .nil))))))))))))⟩

def bof (ls : List (List (List Int))) (w : List Nat) : List Nat × List (List Int) := (w, wordT ls w)
abbrev rBW (C : Addr) : Rp (List Nat × List (List Int)) := rP (rL rNat) (rL (rL (rZ C)))
abbrev N_base_of : List Str := ["house", "word", "tables"]
abbrev S_base_of : Stmt := tp 62
theorem sc_base_of : FnScope N_base_of ["house"] (defScope S_base_of) := ⟨rfl, rfl, rfl, by decide +kernel, rfl, by decide +kernel, by decide +kernel⟩
abbrev spBaseOf (C CH : Addr) : Sp := spG (fun x : List (List (List Int)) => [⟨rH C CH, x⟩]) (fun x => ∃ n, HouseOk n x) (rL (rBW C)) (fun x => Is ((baseW x).map (bof x)))
theorem ok_base_of (G1 : Fn Pg w K mg base "base_with" ["houses"] 6 (spBaseWith C CH)) (D : Df K mg "base_of" (tp 62) ["house"]) : Fn Pg w K mg base "base_of" ["house"] 7 (spBaseOf C CH) := by
  refine fn_df D sc_base_of (fun _ => rfl) (by decide) fun ls hx0 f cdv A outer s H E L hr => ?_
  refine gs_ret (GF.ge (GF.to (x := ((baseW ls).map (pwf ls)).map fun x => (x.1, x.2.getD 0 [])) ?_ (by rw [List.map_map]; rfl)))
  refine gf_lc (own := [("word", 1), ("tables", 2)]) (fun x : List Nat × List (List (List Int)) => (x.1, x.2.getD 0 [])) rfl sc_base_of.nd (gi_list (by exact gfn G1 hr ls hx0 (ga1 (ge_lst [ls] (ga1 (ge_var 0)) rfl (Nat.le_of_ble_eq_true rfl))))) (blkOk_by (N := N_base_of) (sc := defScope S_base_of) (by decide +kernel)) (fun _ _ _ _ _ => (gg_pair rfl (gg_name (n := 3) 1 sc_base_of.nd) (gg_name (n := 3) 2 sc_base_of.nd))) rfl (by decide) (fun D x hx _ _ _ _ _ => ?_)
  obtain ⟨wd, hwd, rfl⟩ := List.mem_map.mp hx
  exact ge_pair (ge_var 1) (ge_ix (k := 0) (ge_var 2 (R := rL (rL (rL (rZ C)))) (x := [wordT ls wd])) ge_int rfl rfl)
abbrev N_base_words : List Str := ["house", "word", "table"]
abbrev S_base_words : Stmt := tp 68
theorem sc_base_words : FnScope N_base_words ["house"] (defScope S_base_words) := ⟨rfl, rfl, rfl, by decide +kernel, rfl, by decide +kernel, by decide +kernel⟩
abbrev spBaseWords (C CH : Addr) : Sp := spG (fun x : List (List (List Int)) => [⟨rH C CH, x⟩]) (fun x => ∃ n, HouseOk n x) (rL (rL rNat)) (fun x => Is (baseW x))
theorem ok_base_words (G1 : Fn Pg w K mg base "base_of" ["house"] 7 (spBaseOf C CH)) (G2 : Fn Pg w K mg base "want_house" ["value"] 1 (spWantHouse C CH)) (D : Df K mg "base_words" (tp 68) ["house"]) : Fn Pg w K mg base "base_words" ["house"] 8 (spBaseWords C CH) := by
  refine fn_df D sc_base_words (fun _ => rfl) (by decide) fun ls hx0 f cdv A outer s H E L hr => ?_
  refine gs_ret (GF.ge (GF.to (x := ((baseW ls).map (bof ls)).map fun x => x.1) ?_ (by rw [List.map_map]; exact List.map_id _)))
  refine gf_lc (own := [("word", 1), ("table", 2)]) (fun x : List Nat × List (List Int) => x.1) rfl sc_base_words.nd (gi_list (by exact gfn G1 hr ls hx0 (ga1 (by exact gfn G2 hr ls trivial (ga1 (ge_var 0)))))) (blkOk_by (N := N_base_words) (sc := defScope S_base_words) (by decide +kernel)) (fun _ _ _ _ _ => (gg_pair rfl (gg_name (n := 3) 1 sc_base_words.nd) (gg_name (n := 3) 2 sc_base_words.nd))) rfl (by decide) (fun D x hx _ _ _ _ _ => ?_)
  exact ge_var 1
end
end TW

namespace TW
def BgQ (n : Nat) (q : Rat) : Prop := q.num.natAbs < 2 ^ n ∧ q.den < 2 ^ n
theorem BgQ.mono {m n : Nat} {q : Rat} (h : BgQ m q) (k : m ≤ n) : BgQ n q := ⟨Nat.lt_of_lt_of_le h.1 (Nat.pow_le_pow_right (by decide) k), Nat.lt_of_lt_of_le h.2 (Nat.pow_le_pow_right (by decide) k)⟩
theorem divInt_le {t b : Int} (hb : b ≠ 0) : (Rat.divInt t b).num.natAbs ≤ t.natAbs ∧ (Rat.divInt t b).den ≤ b.natAbs := by
  rw [← comm_num hb]
  have hd := comm_den (t := t) hb
  have e : (comm t b).natAbs = Nat.gcd t.natAbs b.natAbs := by unfold comm; split <;> omega
  have gt : comm t b ∣ t := Int.natAbs_dvd_natAbs.mp (by rw [e]; exact Nat.gcd_dvd_left _ _)
  have gb : comm t b ∣ b := Int.natAbs_dvd_natAbs.mp (by rw [e]; exact Nat.gcd_dvd_right _ _)
  have key : ∀ {x : Int}, comm t b ∣ x → (x.fdiv (comm t b)).natAbs ≤ x.natAbs := fun {x} hx => by
    obtain ⟨k, hk⟩ := hx
    have hc := comm_ne (t := t) hb
    rw [hk, Int.mul_fdiv_cancel_left _ hc, Int.natAbs_mul]
    exact Nat.le_mul_of_pos_left _ (Int.natAbs_pos.mpr hc)
  refine ⟨key gt, ?_⟩
  have := key gb
  rw [hd] at this
  simpa using this
theorem BgQ.divInt {n : Nat} {t b : Int} (hb : b ≠ 0) (h1 : t.natAbs < 2 ^ n) (h2 : b.natAbs < 2 ^ n) : BgQ n (Rat.divInt t b) :=
  ⟨Nat.lt_of_le_of_lt (divInt_le hb).1 h1, Nat.lt_of_le_of_lt (divInt_le hb).2 h2⟩
theorem den_ne (q : Rat) : (q.den : Int) ≠ 0 := by have := q.den_pos; omega
theorem dens_ne (q r : Rat) : (q.den : Int) * (r.den : Int) ≠ 0 := Int.mul_ne_zero (den_ne q) (den_ne r)
theorem BgQ.mul {a b : Nat} {q r : Rat} (h : BgQ a q) (k : BgQ b r) : BgQ (a + b) (q * r) := by
  rw [← mul_divInt]
  refine BgQ.divInt (dens_ne q r) ?_ ?_
  · rw [Int.natAbs_mul, Nat.pow_add]; exact Nat.mul_lt_mul'' h.1 k.1
  · rw [Int.natAbs_mul, Nat.pow_add]; exact Nat.mul_lt_mul'' h.2 k.2
theorem BgQ.add {a b : Nat} {q r : Rat} (h : BgQ a q) (k : BgQ b r) : BgQ (a + b + 1) (q + r) := by
  rw [← add_divInt]
  have e1 : (q.num * (r.den : Int)).natAbs < 2 ^ (a + b) := by rw [Int.natAbs_mul, Nat.pow_add]; exact Nat.mul_lt_mul'' h.1 k.2
  have e2 : (r.num * (q.den : Int)).natAbs < 2 ^ (a + b) := by rw [Int.natAbs_mul, Nat.pow_add, Nat.mul_comm (2 ^ a)]; exact Nat.mul_lt_mul'' k.1 h.2
  refine BgQ.divInt (dens_ne q r) ?_ ?_
  · rw [Nat.pow_succ]; omega
  · have e3 : ((q.den : Int) * (r.den : Int)).natAbs < 2 ^ (a + b) := by rw [Int.natAbs_mul, Nat.pow_add]; exact Nat.mul_lt_mul'' h.2 k.2
    rw [Nat.pow_succ]; omega
theorem BgQ.big {n : Nat} {q : Rat} (h : BgQ n q) (k : n ≤ 200000) : BigQ q := ⟨Big.of_lt h.1 k, Big.of_lt (by simpa using h.2) k⟩
theorem BgQ.int {n : Nat} {i : Int} (h : i.natAbs < 2 ^ n) (hn : 1 ≤ n) : BgQ n (i : Rat) := by
  refine ⟨by rw [ic_num]; exact h, by rw [ic_den]; exact Nat.one_lt_two_pow (by omega)⟩
/-- a product with one of small parts -/
theorem OkMul.of {a b : Nat} {q r : Rat} (h : BgQ a q) (k : BgQ b r) (hab : a + b ≤ 9000) : OkMul q r := by
  refine ⟨h.big (by omega), k.big (by omega), dens_ne q r, ?_⟩
  have h1 := Int.natAbs_pos.mpr (dens_ne q r)
  refine Nat.lt_of_le_of_lt (Nat.gcd_le_right _ h1) ?_
  have e3 : ((q.den : Int) * (r.den : Int)).natAbs < 2 ^ (a + b) := by rw [Int.natAbs_mul, Nat.pow_add]; exact Nat.mul_lt_mul'' h.2 k.2
  exact Nat.lt_of_lt_of_le e3 (Nat.pow_le_pow_right (by decide) hab)
theorem gcd_sum_dvd {n1 n2 : Int} {d1 d2 : Nat} (h : Nat.Coprime n1.natAbs d1) : Nat.gcd (n1 * (d2 : Int) + n2 * (d1 : Int)).natAbs (d1 * d2) ∣ d2 * d2 := by
  have k1 : ∀ {g : Nat}, (g : Int) ∣ n1 * (d2 : Int) + n2 * (d1 : Int) → g ∣ d1 → g ∣ d2 := fun {g} h1 h2 => by
    have h3 : (g : Int) ∣ n1 * (d2 : Int) := by
      have h4 : (g : Int) ∣ n2 * (d1 : Int) := Int.dvd_trans (Int.ofNat_dvd.mpr h2) (Int.dvd_mul_left _ _)
      exact (Int.dvd_add_left h4).mp h1
    have h5 : g ∣ n1.natAbs * d2 := by
      have := Int.natAbs_dvd_natAbs.mpr h3
      rw [Int.natAbs_mul] at this
      simpa using this
    exact (Nat.Coprime.coprime_dvd_left h2 h.symm).dvd_of_dvd_mul_left h5
  have h1 : Nat.gcd (n1 * (d2 : Int) + n2 * (d1 : Int)).natAbs (d1 * d2) ∣ Nat.gcd (n1 * (d2 : Int) + n2 * (d1 : Int)).natAbs d1 * Nat.gcd (n1 * (d2 : Int) + n2 * (d1 : Int)).natAbs d2 := Nat.gcd_mul_right_dvd_mul_gcd _ _ _
  refine Nat.dvd_trans h1 (Nat.mul_dvd_mul (k1 ?_ (Nat.gcd_dvd_right _ _)) (Nat.gcd_dvd_right _ _))
  exact Int.dvd_natAbs.mp (Int.ofNat_dvd.mpr (Nat.gcd_dvd_left _ _))
/-- a sum with one of small parts -/
theorem OkAdd.of {q r : Rat} (h : BigQ q) (k : BgQ 200000 r) (hd : r.den < 2 ^ 4500) : OkAdd q r := by
  refine ⟨h, k.big (Nat.le_refl _), dens_ne q r, ?_⟩
  have e : ((q.den : Int) * (r.den : Int)).natAbs = q.den * r.den := by rw [Int.natAbs_mul]; simp
  rw [e]
  have h1 := gcd_sum_dvd (n1 := q.num) (n2 := r.num) (d1 := q.den) (d2 := r.den) q.reduced
  refine Nat.lt_of_le_of_lt (Nat.le_of_dvd (Nat.mul_pos r.den_pos r.den_pos) h1) ?_
  rw [show (2 : Nat) ^ 9000 = 2 ^ 4500 * 2 ^ 4500 by rw [← Nat.pow_add]]
  exact Nat.mul_lt_mul'' hd hd
theorem mul_int_den (q : Rat) (i : Int) : (q * (i : Rat)).den ≤ q.den := by
  rw [← mul_divInt]
  have := (divInt_le (t := q.num * (i : Rat).num) (dens_ne q (i : Rat))).2
  rw [ic_den] at this ⊢
  simpa using this
end TW

namespace TW
open PySem PySem.Spec L2 TL
def rFr (H0 : Hp) {α : Type} (S : Rp α) : Rp (List α) := ⟨fun H xs v => ∃ p vs, v = .ref p ∧ H0 p = none ∧ H p = some (.lst vs) ∧ Paired (S.r (hd [p] H)) xs vs,
  fun e ⟨p, vs, h1, h2, h3, h4⟩ => ⟨p, vs, h1, h2, e _ _ h3, Paired.monoR (fun a o ha => by
    have := hd_some ha
    exact hd_of this.1 (e _ _ this.2)) h4⟩⟩
theorem rFr_list {H0 H : Hp} {α : Type} {S : Rp α} {xs : List α} {v : V} (h : (rFr H0 S).r H xs v) : (rL S).r H xs v := by
  obtain ⟨p, vs, rfl, _, h3, h4⟩ := h
  exact ⟨p, vs, rfl, h3, Paired.monoR hd_Ex h4⟩
theorem hd_hd {L M : List Addr} {H : Hp} : hd L (hd M H) = hd (L ++ M) H := by
  funext a
  unfold hd
  by_cases h1 : a ∈ L
  · rw [if_pos h1, if_pos (List.mem_append_left _ h1)]
  · rw [if_neg h1]
    by_cases h2 : a ∈ M
    · rw [if_pos h2, if_pos (List.mem_append_right _ h2)]
    · rw [if_neg h2, if_neg fun m => (List.mem_append.mp m).elim h1 h2]
/-- a promise whose result's kind may speak of the heap of the call -/
def spH {ι : Type} (as : ι → List Bd) (ok : ι → Prop) {β : Type} (R : Hp → Rp β) (P : ι → β → Prop) : Sp := fun vs H Q _ => ∃ (i : ι) (L : List Addr), ok i ∧ (∀ l ∈ L, H l ≠ none) ∧ AllR (hd L H) (as i) vs ∧
  ∀ y v H', P i y → Ex H H' → (R H).r (hd L H') y v → Q v H'
theorem fn_typedH {Pg : Program} {w : World} {K : PySem.W.Frag} {mg : Str → Option Value} {base : Heap} {ι β : Type} {as : ι → List Bd} {ok : ι → Prop} {R : Hp → Rp β} {P : ι → β → Prop} {x : Str} {st : Stmt} {N ps : List Str} {k : Nat} (D : Df K mg x st ps) (S : FnScope N ps (defScope st)) (hl : ∀ i, (as i).length = ps.length) (hN : ps.length ≤ N.length)
    (body : ∀ (i : ι), ok i → ∀ (f : Addr) (cdv : Value) (A : Around) (outer : List PySem.Env) (s : Shared) (H : Hp) (E : XK) (L : List Addr), Room k (A.deeper (PyProof.Rows.envOfC x (defScope st) s.heap.objs.size f cdv)) →
      GS (cxOf CX0 Pg w K mg base N x (defScope st) f cdv A outer s H E).nox (defBody st) ⟨L, [], H, L, slotsOf (as i) N.length, []⟩ (R H) (P i) fun _ _ => False) : Fn Pg w K mg base x ps (k + 1) (spH as ok R P) := by
  obtain ⟨f, fd, F, m, b⟩ := D
  refine ⟨⟨f, fd, F.ok S (fun vs H Q E h => ?_) (fun cdv A outer s H vs Q E hr h => ?_), m, F.kp, b⟩⟩
  · obtain ⟨i, L, _, _, r, _⟩ := h
    rw [AllR.len r, hl]
  · obtain ⟨i, L, o, al, r, q⟩ := h
    exact ⟨_, pss_s, body i o f cdv A outer s H E L hr _ H (has_start (by rw [hl]; exact hN) al r) _ (fun _ _ z => z.elim) fun y v H' py ev rr => q y v H' py (fun a o e => (ev a o e).1 (fun m => (nomatch m))) rr⟩
theorem Fn.imp {Pg : Program} {w : World} {K : PySem.W.Frag} {mg : Str → Option Value} {base : Heap} {x : Str} {ps : List Str} {k : Nat} {sp sp' : Sp} (F : Fn Pg w K mg base x ps k sp) (h : ∀ vs H Q E, sp' vs H Q E → sp vs H Q E) : Fn Pg w K mg base x ps k sp' := by
  obtain ⟨f, fd, G, m, kp, b⟩ := F.ex
  exact ⟨⟨f, fd, G.imp h, m, kp, b⟩⟩
section
variable {X : Cx} {Γ : TL.Env} {e a b : Expr} {p pos : Pos} {C CH : Addr} {α β γ : Type} {R : Rp α} {S : Rp β} {P : List β → Prop}
theorem GF.fr {e : Expr} (h : GF X e Γ S P) : GE X e Γ (rFr Γ.H0 S) P := fun σ H hh Q q => sE_szd (h σ H hh _ fun xs p vs H' px hp ev hl r z => q xs _ H' px ev z ⟨p, vs, rfl, hh.back hp, hd_of (hh.notL hp) hl, by rw [hd_hd]; exact r⟩)
/-- a call whose result may be a fresh list -/
theorem gfnH {S : Hp → Rp β} {ι : Type} {as : ι → List Bd} {ok : ι → Prop} {P : ι → β → Prop} {T : Rp γ} {P' : γ → Prop} {k j : Nat} {ps : List Str} {x : Str} {e : Expr} {es : List Expr}
    (F : Fn X.prog X.w X.K X.mg X.base x ps k (spH as ok S P)) (hr : Room j X.A) (i : ι) (o : ok i) (ha : GA X (e :: es) Γ (as i)) (hj : k ≤ j)
    (hT : ∀ H1 H2 y v, (∀ p, H1 p = none → Γ.H0 p = none) → P i y → (S H1).r H2 y v → ∃ z, P' z ∧ T.r H2 z v)
    (hg : Gl X x := by rfl) (hdb : (x == ("__debug__" : Str)) = false := by decide) (he : starEach (e :: es) X.env = (false, eval e X.env) :: starEach es X.env := by rfl) (hpl : (backTo pos (starEach es X.env)).any (·.1) = false := by rfl) :
    GE X (.Call (.Name x p) (e :: es) [] pos) Γ T P' := by
  obtain ⟨f, fd, G, m, kp, hb⟩ := F.ex
  refine ge_of (pe_call G (hr.mono hj) hg m kp hb .nil pass0 pa_s hdb he hpl) fun σ H h Q q => ha σ H h _ fun vs H1 e1 z1 r => ?_
  have h1 := h.ev e1
  rw [List.append_nil]
  refine ⟨i, Γ.L, o, h1.al, r, fun y v H' py ex ry => ?_⟩
  obtain ⟨z, pz, rz⟩ := hT H1 _ y v (fun p hp => h1.back hp) py ry
  exact q z v H' pz (e1.trans (h1.eve ex)) rz
/-- such a call, its result a list of one's own -/
theorem gfnF {ι : Type} {as : ι → List Bd} {ok : ι → Prop} {P : ι → Option (List β) → Prop} {P' : List β → Prop} {k j : Nat} {ps : List Str} {x : Str} {e : Expr} {es : List Expr}
    (F : Fn X.prog X.w X.K X.mg X.base x ps k (spH as ok (fun H => rO (rFr H S)) P)) (hr : Room j X.A) (i : ι) (o : ok i) (ha : GA X (e :: es) Γ (as i)) (hj : k ≤ j) (hP : ∀ y, P i y → ∃ z, y = some z ∧ P' z)
    (hg : Gl X x := by rfl) (hdb : (x == ("__debug__" : Str)) = false := by decide) (he : starEach (e :: es) X.env = (false, eval e X.env) :: starEach es X.env := by rfl) (hpl : (backTo pos (starEach es X.env)).any (·.1) = false := by rfl) :
    GF X (.Call (.Name x p) (e :: es) [] pos) Γ S P' := by
  obtain ⟨f, fd, G, m, kp, hb⟩ := F.ex
  intro σ H h Q q
  refine s_pe (pe_call G (hr.mono hj) hg m kp hb .nil pass0 pa_s hdb he hpl) (ha σ H h _ fun vs H1 e1 z1 r => ?_)
  have h1 := h.ev e1
  rw [List.append_nil]
  refine ⟨i, Γ.L, o, h1.al, r, fun y v H' py ex ry => ?_⟩
  obtain ⟨z, rfl, pz⟩ := hP y py
  obtain ⟨a, us, rfl, n1, hl, rr⟩ := ry
  refine q z a us H' pz ?_ (e1.trans (h1.eve ex)) (hd_some hl).2 (by rw [hd_hd] at rr; exact rr)
  exact h.fresh e1 n1
theorem ge_lenP {x : α × β} (hm : X.mg "len" = none) (h : GE X e Γ (rP R S) (Is x)) (hg : Gl X "len" := by rfl) (hs : starEach [e] X.env = (false, eval e X.env) :: starEach [] X.env := by rfl) :
    GE X (.Call (.Name "len" p) [e] [] pos) Γ rI (Is 2) :=
  ge_callB call_len_seq hm PySem.boot_len (ga1 h hs) (fun σ H vs hh z r Q q => by
    obtain ⟨v, rfl, l, u, u', rfl, hl, hv, hv'⟩ := r.one
    exact ⟨l, [u, u'], rfl, .inr (SqT.of (hd_some hl).2), q _ _ H rfl hh.evr rfl⟩) hg (he := hs) (hpl := by rfl)
end
theorem kit_tup1 {K : PySem.W.Frag} : PySem.W.kitOne K (.type "tuple") (.type "tuple") = some true := kit_ty (by decide +kernel)
theorem rP_notNon {α β : Type} {R : Rp α} {S : Rp β} {H : Hp} {x : α × β} {v : V} (h : (rP R S).r H x v) : v ≠ .non := by
  obtain ⟨p, a, b, rfl, _⟩ := h
  exact fun z => nomatch z
def colsR (ls : List (List (List Int))) : List (List Rat) := (List.range (sideH ls * sideH ls)).map fun k => (baseW ls).map fun w => (((rowOf ls w).getD k 0 : Int) : Rat)
def mixR (ls : List (List (List Int))) (t : List (List Rat)) : Option (List (List Nat × Rat)) := (solutionR (colsR ls) t.flatten).map fun ns => ((baseW ls).zip ns).filter fun x => !decide (sgn x.2 = 0)
def tableM (ls : List (List (List Int))) (mix : List (List Nat × Rat)) : List (List Rat) := mix.foldl (fun t x => mixT t (castT (wordT ls x.1)) x.2) (scaleT (castT (idleT (sideH ls))) 0)
/-- a part of a mixture as it is given: the word a list or a tuple, the number an int or a Ratio -/
abbrev rPart (C : Addr) : Rp (List Nat × (Int ⊕ Rat)) := rP (rLT rNat) (rIQ C)
abbrev rTold (C : Addr) : Rp (List Nat × Rat) := rP (rL rNat) (rQ C)
def OkPart (ls : List (List (List Int))) (x : List Nat) : Prop := x.length ≤ 16 ∧ ∀ l ∈ x, l < ls.length
section
variable {Pg : Program} {w : World} {K : PySem.W.Frag} {mg : Str → Option Value} {base : Heap} {C CH : Addr}
abbrev N_part_in : List Str := ["house", "value", "word"]
abbrev S_part_in : Stmt := tp 64
theorem sc_part_in : FnScope N_part_in ["house", "value"] (defScope S_part_in) := ⟨rfl, rfl, rfl, by decide +kernel, rfl, by decide +kernel, by decide +kernel⟩
abbrev spPartIn (C CH : Addr) : Sp := spG (fun x : List (List (List Int)) × (List Nat × (Int ⊕ Rat)) => [⟨rH C CH, x.1⟩, ⟨rPart C, x.2⟩]) (fun x => OkPart x.1 x.2.1) (rO (rTold C)) (fun x => Is (some (x.2.1, worth x.2.2)))
theorem ok_part_in (B : Blt mg) (GN : Fn Pg w K mg base "is_number" ["value"] 2 (spIsNumber C)) (GW0 : Fn Pg w K mg base "word_in" ["house", "value"] 3 (spWordIn C CH)) (GR : Fn Pg w K mg base "ratio_of" ["number"] 4 (spRatioOf C)) (D : Df K mg "part_in" (tp 64) ["house", "value"]) : Fn Pg w K mg base "part_in" ["house", "value"] 5 (spPartIn C CH) := by
  refine fn_df D sc_part_in (fun _ => rfl) (by decide) fun x hx0 f cdv A outer s H E L hr => ?_
  obtain ⟨ls, wd, q⟩ := x
  have hok : OkPart ls wd := hx0
  refine gs_ifNever (Pc := Is false) (by
    refine GT.to (x := !true || ((!decide ((2 : Int) = 2)) || !true)) (GW.gt (gw_or (gt_not (gt_val ?_)) fun _ => gw_or (gt_ne (ge_lenP B.len (ge_var 1 (R := rPart C) (x := (wd, q)))) ge_int) fun _ => gw_or1 (gt_not (gt_val ?_)))) (by decide)
    · exact ge_isi (R := rPart C) (x := (wd, q)) (b := true) B.isi (ge_var 1) (pe_tyv (T := "tuple") B.tuple) (.ty _) (fun L H v r => by
        obtain ⟨p, a, b, rfl, hp, _⟩ := r
        exact ⟨_, .base (.tup (hd_some hp).2), kit_tup1⟩)
    · exact gfn GN hr q trivial (ga1 (ge_ix1 (ge_var 1 (R := rPart C) (x := (wd, q)))))) (fun z => by cases (show _ = _ from z)) ?_
  refine gs_setI 2 sc_part_in.nd (by exact gfn GW0 hr (ls, wd) hok (ga_cons (ge_var 0) (ga1 (ge_ix0 (ge_var 1 (R := rPart C) (x := (wd, q))))))) ?_
  refine gs_ret (ge_ifExp (Pc := Is (some wd).isNone) (gt_isN (fun _ _ _ => Rp.notNon_list) (ge_var 2)) (fun z => by cases (show _ = _ from z)) (fun _ => ge_some (ge_pair (ge_get (ge_var 2)) ?_)))
  exact gfn GR hr q trivial (ga1 (ge_ix1 (ge_var 1 (R := rPart C) (x := (wd, q)))))
abbrev N_told_mixture : List Str := ["house", "value", "found", "part"]
abbrev S_told_mixture : Stmt := tp 65
theorem sc_told_mixture : FnScope N_told_mixture ["house", "value"] (defScope S_told_mixture) := ⟨rfl, rfl, rfl, by decide +kernel, rfl, by decide +kernel, by decide +kernel⟩
def toldX (x : List Nat × (Int ⊕ Rat)) : List Nat × Rat := (x.1, worth x.2)
abbrev spToldMixture (C CH : Addr) : Sp := spG (fun x : List (List (List Int)) × List (List Nat × (Int ⊕ Rat)) => [⟨rH C CH, x.1⟩, ⟨rLT (rPart C), x.2⟩]) (fun x => x.2.length ≤ 40 ∧ ∀ y ∈ x.2, OkPart x.1 y.1) (rO (rL (rTold C))) (fun x => Is (some (x.2.map toldX)))
theorem ok_told_mixture (B : Blt mg) (Cn : Consts mg) (GL : Fn Pg w K mg base "is_list" ["value"] 1 (spIsList)) (GP : Fn Pg w K mg base "part_in" ["house", "value"] 5 (spPartIn C CH)) (D : Df K mg "told_mixture" (tp 65) ["house", "value"]) : Fn Pg w K mg base "told_mixture" ["house", "value"] 6 (spToldMixture C CH) := by
  refine fn_df D sc_told_mixture (fun _ => rfl) (by decide) fun x hx0 f cdv A outer s H E L hr => ?_
  obtain ⟨ls, ps⟩ := x
  obtain ⟨h1, h2⟩ : ps.length ≤ 40 ∧ ∀ y ∈ ps, OkPart ls y.1 := hx0
  refine gs_ifNever (Pc := Is false) (by
    refine GT.to (x := !true || decide ((40 : Int) < (ps.length : Int))) (GW.gt (gw_or (gt_not (gt_val ?_)) fun _ => gw_or1 (gt_gt (ge_lenLT (xs := ps) B.len (ge_var 1)) (ge_const Cn.mixed)))) ?_
    · exact gfn GL hr () trivial (ga1 (ge_seqLT (ge_var 1 (R := rLT (rPart C)) (x := ps))))
    · have e1 : decide ((40 : Int) < (ps.length : Int)) = false := decide_eq_false (by omega)
      rw [e1]; rfl) (fun z => by cases (show _ = _ from z)) ?_
  refine gs_setLc (R := rO (rTold C)) (own := [("part", 3)]) 2 (fun y => some (toldX y)) rfl sc_told_mixture.nd (gi_lt 1 (xs := ps) (by omega)) (blkOk_by (N := N_told_mixture) (sc := defScope S_told_mixture) (by decide +kernel)) (fun _ _ _ _ _ => (gg_name (n := 4) 3 sc_told_mixture.nd)) rfl (by decide) (fun D y hy _ _ _ _ _ => ?_) ?_
  · exact gfn GP hr (ls, y) (h2 y hy) (ga_cons (ge_var 0) (ga1 (ge_var 3)))
  refine gs_ret (ge_ifExp (Pc := Is false) (by
    refine GT.to (x := (ps.map fun y => (some (toldX y)).isNone).any id) (gt_val (ge_any rfl B.any (GF.ge ?_))) (by simp)
    refine GF.to (x := (ps.map fun y => some (toldX y)).map fun o => o.isNone) ?_ (by rw [List.map_map]; rfl)
    refine gf_lc (own := [("part", 3)]) (fun o : Option (List Nat × Rat) => o.isNone) rfl sc_told_mixture.nd (gi_list (ge_var 2)) (blkOk_by (N := N_told_mixture) (sc := defScope S_told_mixture) (by decide +kernel)) (fun _ _ _ _ _ => (gg_name (n := 4) 3 sc_told_mixture.nd)) rfl (by decide) (fun D o ho _ _ _ _ _ => ?_)
    exact ge_isN (fun _ _ _ => rP_notNon) (ge_var 3)) (fun z => by cases (show _ = _ from z)) (fun _ => ge_some ?_))
  exact GE.on (ge_var 2 (R := rL (rO (rTold C))) (x := ps.map fun y => some (toldX y))) fun _ _ r => rL_dn (R := rTold C) (S := rO (rTold C)) (f := some) (fun _ _ k => k) (by rw [List.map_map]; exact r)
abbrev N_want_mixture : List Str := ["house", "value", "found"]
abbrev S_want_mixture : Stmt := tp 66
theorem sc_want_mixture : FnScope N_want_mixture ["house", "value"] (defScope S_want_mixture) := ⟨rfl, rfl, rfl, by decide +kernel, rfl, by decide +kernel, by decide +kernel⟩
abbrev spWantMixture (C CH : Addr) : Sp := spG (fun x : List (List (List Int)) × List (List Nat × (Int ⊕ Rat)) => [⟨rH C CH, x.1⟩, ⟨rLT (rPart C), x.2⟩]) (fun x => x.2.length ≤ 40 ∧ ∀ y ∈ x.2, OkPart x.1 y.1) (rL (rTold C)) (fun x => Is (x.2.map toldX))
theorem ok_want_mixture (GM : Fn Pg w K mg base "told_mixture" ["house", "value"] 6 (spToldMixture C CH)) (D : Df K mg "want_mixture" (tp 66) ["house", "value"]) : Fn Pg w K mg base "want_mixture" ["house", "value"] 7 (spWantMixture C CH) := by
  refine fn_df D sc_want_mixture (fun _ => rfl) (by decide) fun x hx0 f cdv A outer s H E L hr => ?_
  obtain ⟨ls, ps⟩ := x
  refine gs_setI 2 sc_want_mixture.nd (by exact gfn GM hr (ls, ps) hx0 (ga_cons (ge_var 0) (ga1 (ge_var 1)))) ?_
  refine gs_ifNever (Pc := Is (some (ps.map toldX)).isNone) (gt_isN (fun _ _ _ => Rp.notNon_list) (ge_var 2)) (fun z => by cases (show _ = _ from z)) ?_
  exact gs_ret (ge_get (ge_var 2))
end
end TW

namespace TW
open PySem PySem.Spec L2 TL
theorem Df.fn {Pg : Program} {w : World} {K : PySem.W.Frag} {mg : Str → Option Value} {base : Heap} {x : Str} {st : Stmt} {ps : List Str} {k : Nat} {sp : Sp} (D : Df K mg x st ps) (h : ∀ f fd, L2.Fun K x x st f fd → FnOk Pg w K mg base CX0 k f fd ps sp) : Fn Pg w K mg base x ps k sp :=
  let ⟨f, fd, F, m, b⟩ := D
  ⟨⟨f, fd, h f fd F, m, F.kp, b⟩⟩
/-- a def that is called by keywords alone, the last parameter first -/
structure FnK (Pg : Program) (w : World) (K : PySem.W.Frag) (mg : Str → Option Value) (base : Heap) (x : Str) (ps ks : List Str) (k : Nat) (sp : Sp) : Prop where
  ex : ∃ (f : Addr) (fd : FuncData), FnOk Pg w K mg base CX0 k f fd ps sp ∧ mg x = some (.ref f) ∧ PySem.W.keepIn K (.ref f) = true ∧ ∀ (s : Shared) (ws : List Value), ws.length = ks.length → BindsTo s fd ⟨[], ks.zip ws⟩ (ps.zip ws.reverse)
theorem Df.fnK {Pg : Program} {w : World} {K : PySem.W.Frag} {mg : Str → Option Value} {base : Heap} {x : Str} {st : Stmt} {ps : List Str} {k : Nat} {sp : Sp} (ks : List Str) (D : Df K mg x st ps) (h : ∀ f fd, L2.Fun K x x st f fd → FnOk Pg w K mg base CX0 k f fd ps sp)
    (hk : ∀ (kV doc pm : Value) (an : Option Addr) (cdv ct : Value) (ws : List Value), ws.length = ks.length → bindArgs (PySem.W.fnOf x x (defArgs st) (defBody st) (defScope st) .none kV doc pm an cdv ct) ⟨[], ks.zip ws⟩ = pure (ps.zip ws.reverse)) : FnK Pg w K mg base x ps ks k sp := by
  obtain ⟨f, fd, F, m, b⟩ := D
  refine ⟨⟨f, fd, h f fd F, m, F.kp, fun s ws hl => ?_⟩⟩
  obtain ⟨oc, od, kV, doc, pm, an, cdv, ct, osl, rfl, lk, hcd⟩ := F.ex
  exact .of_eq (hk kV doc pm an cdv ct ws hl)
theorem fun_typedH {Pg : Program} {w : World} {K : PySem.W.Frag} {mg : Str → Option Value} {base : Heap} {ι β : Type} {as : ι → List Bd} {ok : ι → Prop} {R : Hp → Rp β} {P : ι → β → Prop} {x : Str} {st : Stmt} {N ps : List Str} {k : Nat} {f : Addr} {fd : FuncData} (F : L2.Fun K x x st f fd) (S : FnScope N ps (defScope st)) (hl : ∀ i, (as i).length = ps.length) (hN : ps.length ≤ N.length)
    (body : ∀ (i : ι), ok i → ∀ (f : Addr) (cdv : Value) (A : Around) (outer : List PySem.Env) (s : Shared) (H : Hp) (E : XK) (L : List Addr), Room k (A.deeper (PyProof.Rows.envOfC x (defScope st) s.heap.objs.size f cdv)) →
      GS (cxOf CX0 Pg w K mg base N x (defScope st) f cdv A outer s H E).nox (defBody st) ⟨L, [], H, L, slotsOf (as i) N.length, []⟩ (R H) (P i) fun _ _ => False) : FnOk Pg w K mg base CX0 (k + 1) f fd ps (spH as ok R P) := by
  refine F.ok S (fun vs H Q E h => ?_) (fun cdv A outer s H vs Q E hr h => ?_)
  · obtain ⟨i, L, _, _, r, _⟩ := h
    rw [AllR.len r, hl]
  · obtain ⟨i, L, o, al, r, q⟩ := h
    exact ⟨_, pss_s, body i o f cdv A outer s H E L hr _ H (has_start (by rw [hl]; exact hN) al r) _ (fun _ _ z => z.elim) fun y v H' py ev rr => q y v H' py (fun a o e => (ev a o e).1 (fun m => (nomatch m))) rr⟩
theorem zip_told (ls : List (List (List Int))) (ws : List (List Nat)) (ns : List Rat) :
    ((((ws.map fun w => (w, wordT ls w)).zip ns).filter fun x : (List Nat × List (List Int)) × Rat => !decide (sgn x.2 = 0)).map fun x => (x.1.1, x.2)) = (ws.zip ns).filter fun x => !decide (sgn x.2 = 0) := by
  induction ws generalizing ns with
  | nil => rfl
  | cons w ws ih =>
    cases ns with
    | nil => rfl
    | cons q ns =>
      rw [List.map_cons, List.zip_cons_cons, List.zip_cons_cons, List.filter_cons, List.filter_cons]
      have := ih ns
      split
      · rw [List.map_cons, this]
      · exact this
/-- what is left at the end of the base's loop -/
structure Be (n : Nat) (ls : List (List (List Int))) (ws : List (List Nat)) (rows : List (List Int)) : Prop where
  c : Ci n ls rows
  both : ws.length = rows.length
  all : ∀ w ∈ ws, w.length < rows.length ∧ ∀ l ∈ w, l < ls.length
theorem base_end {n : Nat} {ls : List (List (List Int))} : ∀ (fuel : Nat) (found : List (List Nat)) (rows : List (List Int)) (last : List (List Nat)), Bi n ls fuel found rows last → ∃ rows', Be n ls (baseLoop ls fuel found rows last) rows'
  | 0, found, rows, last, h => ⟨rows, h.c, h.both, h.all⟩
  | k + 1, found, rows, last, h => by
    unfold baseLoop
    split
    · exact ⟨rows, h.c, h.both, h.all⟩
    · rename_i he
      exact base_end k _ _ _ (h.step (by intro z; rw [z] at he; exact he rfl))
theorem base_all {n : Nat} {ls : List (List (List Int))} (h : HouseOk n ls) : ∃ rows, Be n ls (baseW ls) rows := base_end _ _ _ _ (Bi.start h)
theorem base_letters {n : Nat} {ls : List (List (List Int))} (h : HouseOk n ls) : ∀ w ∈ baseW ls, ∀ l ∈ w, l < ls.length := let ⟨_, k⟩ := base_all h; fun w hw => (k.all w hw).2
def AllBg (n : Nat) (t : List (List Rat)) : Prop := ∀ r ∈ t, ∀ q ∈ r, BgQ n q
def OkMix (ls : List (List (List Int))) (mix : List (List Nat × Rat)) : Prop := mix.length ≤ 40 ∧ ∀ x ∈ mix, OkPart ls x.1 ∧ BgQ 4400 x.2
theorem tableM_snoc (ls : List (List (List Int))) (a : List (List Nat × Rat)) (x : List Nat × Rat) : tableM ls (a ++ [x]) = mixT (tableM ls a) (castT (wordT ls x.1)) x.2 := by unfold tableM; rw [List.foldl_append]; rfl
theorem castT_bg {B n : Nat} {t : List (List Int)} (h : Ent B t) (hB : B < 2 ^ n) (hn : 1 ≤ n) : AllBg n (castT t) := fun r hr q hq => by
  obtain ⟨r', hr', rfl⟩ := List.mem_map.mp hr
  obtain ⟨i, hi, rfl⟩ := List.mem_map.mp hq
  exact BgQ.int (Nat.lt_of_le_of_lt (h r' hr' i hi) hB) hn
theorem castT_den {t : List (List Int)} : ∀ r ∈ castT t, ∀ q ∈ r, ∃ i : Int, q = (i : Rat) := fun r hr q hq => by
  obtain ⟨r', hr', rfl⟩ := List.mem_map.mp hr
  obtain ⟨i, hi, rfl⟩ := List.mem_map.mp hq
  exact ⟨i, rfl⟩
theorem zero_bg : BgQ 1 (0 : Rat) := ⟨by decide, by decide⟩
theorem scale_zero {t : List (List Rat)} : AllBg 1 (scaleT t 0) := fun r hr q hq => by
  obtain ⟨r', hr', rfl⟩ := List.mem_map.mp hr
  obtain ⟨y, hy, rfl⟩ := List.mem_map.mp hq
  rw [Rat.zero_mul]; exact zero_bg
theorem part_bg {n : Nat} {ls : List (List (List Int))} (hH : HouseOk n ls) {w : List Nat} (h : OkPart ls w) : AllBg 50 (castT (wordT ls w)) := by
  refine castT_bg (word_ok hH _ w rfl h.2).2 ?_ (by decide)
  have h1 := h.1
  rw [show (8 : Nat) = 2 ^ 3 by decide, ← Nat.pow_mul]
  exact Nat.pow_lt_pow_right (by decide) (by omega)
theorem mix_step {n k : Nat} {ls : List (List (List Int))} (hH : HouseOk n ls) {t : List (List Rat)} (ht : AllBg k t) (hk : k ≤ 190000) {x : List Nat × Rat} (hx : OkPart ls x.1 ∧ BgQ 4400 x.2) :
    (∀ z ∈ t.zip (castT (wordT ls x.1)), ∀ y ∈ z.1.zip z.2, OkMul x.2 y.2 ∧ OkAdd y.1 (x.2 * y.2)) ∧ AllBg (k + 4500) (mixT t (castT (wordT ls x.1)) x.2) := by
  have hp := part_bg hH hx.1
  have key : ∀ z ∈ t.zip (castT (wordT ls x.1)), ∀ y ∈ z.1.zip z.2, OkMul x.2 y.2 ∧ OkAdd y.1 (x.2 * y.2) ∧ BgQ (k + 4500) (y.1 + x.2 * y.2) := fun z hz y hy => by
    have h1 := zip_len hz
    have h2 := zip_len hy
    have b1 := ht _ h1.1 _ h2.1
    have b2 := hp _ h1.2 _ h2.2
    obtain ⟨i, hi⟩ := castT_den _ h1.2 _ h2.2
    have b3 := hx.2.mul b2
    refine ⟨OkMul.of hx.2 b2 (by decide), OkAdd.of (b1.big (by omega)) (b3.mono (by decide)) ?_, (b1.add b3).mono (by omega)⟩
    rw [hi]
    exact Nat.lt_of_le_of_lt (mul_int_den _ _) (Nat.lt_of_lt_of_le hx.2.2 (Nat.pow_le_pow_right (by decide) (by decide)))
  refine ⟨fun z hz y hy => ⟨(key z hz y hy).1, (key z hz y hy).2.1⟩, fun r hr q hq => ?_⟩
  obtain ⟨z, hz, rfl⟩ := List.mem_map.mp hr
  obtain ⟨y, hy, rfl⟩ := List.mem_map.mp hq
  exact (key z hz y hy).2.2
theorem tableM_bg {n : Nat} {ls : List (List (List Int))} (hH : HouseOk n ls) {mix : List (List Nat × Rat)} (h : OkMix ls mix) : ∀ i, i ≤ mix.length → AllBg (1 + 4500 * i) (tableM ls (mix.take i))
  | 0, _ => by
    show AllBg 1 (tableM ls [])
    exact scale_zero
  | i + 1, hi => by
    obtain ⟨x, hx⟩ : ∃ x, mix[i]? = some x := ⟨_, List.getElem?_eq_getElem (by omega)⟩
    have ih := tableM_bg hH h i (by omega)
    have h40 := h.1
    rw [take_snoc hx, tableM_snoc]
    have := (mix_step hH ih (by omega) (h.2 x (List.mem_of_getElem? hx))).2
    intro r hr q hq
    exact (this r hr q hq).mono (by omega)
section
variable {Pg : Program} {w : World} {K : PySem.W.Frag} {mg : Str → Option Value} {base : Heap} {C CH : Addr}
abbrev N_table_of_mixture : List Str := ["house", "mixture", "found", "word", "number"]
abbrev S_table_of_mixture : Stmt := tp 67
theorem sc_table_of_mixture : FnScope N_table_of_mixture ["house", "mixture"] (defScope S_table_of_mixture) := ⟨rfl, rfl, rfl, by decide +kernel, rfl, by decide +kernel, by decide +kernel⟩
abbrev spTableOfMixture (C CH : Addr) : Sp := spG (fun x : List (List (List Int)) × List (List Nat × Rat) => [⟨rH C CH, x.1⟩, ⟨rL (rTold C), x.2⟩]) (fun x => (∃ n, HouseOk n x.1) ∧ OkMix x.1 x.2) (rL (rL (rQ C))) (fun x => Is (tableM x.1 x.2))
theorem ok_table_of_mixture (F : RatAll Pg w K mg base C) (HC : HouC K mg CH) (G1 : Fn Pg w K mg base "idle_of" ["size"] 4 (spIdleOf C)) (G2 : Fn Pg w K mg base "scaled_of" ["table", "number"] 5 (spScaledOf C)) (G3 : Fn Pg w K mg base "mixed_of" ["table", "other", "number"] 5 (spMixedOf C)) (G4 : Fn Pg w K mg base "word_table" ["house", "word"] 6 (spWordTable C CH)) (D : Df K mg "table_of_mixture" (tp 67) ["house", "mixture"]) : Fn Pg w K mg base "table_of_mixture" ["house", "mixture"] 7 (spTableOfMixture C CH) := by
  refine fn_df D sc_table_of_mixture (fun _ => rfl) (by decide) fun x hx0 f cdv A outer s H E L hr => ?_
  obtain ⟨ls, mix⟩ := x
  obtain ⟨⟨n, hH⟩, hM⟩ : (∃ n, HouseOk n ls) ∧ OkMix ls mix := hx0
  have hs := hH.side
  have hn3 := hH.2.2.2.1
  refine gs_setI (R := rL (rL (rQ C))) (x := tableM ls []) 2 sc_table_of_mixture.nd ?_ ?_
  · refine GE.to (gfn G2 hr (castT (idleT (sideH ls)), 0) (fun r hr1 y hy => OkMul.of zero_bg (castT_bg (n := 2) (ent_idle _) (by decide) (by decide) r hr1 y hy) (by decide)) (ga_cons (ge_qT ?_) (ga1 ((ge_mk1 F.F (hr.mono (by decide)) ge_int).to rfl)))) rfl
    exact gfn G1 hr (sideH ls) (by show sideH ls < 1000; omega) (ga1 (ge_hw HC (ge_var 0)))
  refine gs_for (xs := mix) (fun i => [.val (rH C CH) ls, .val (rL (rTold C)) mix, .val (rL (rL (rQ C))) (tableM ls (mix.take i)), .nil, .nil]) rfl PassesOwn.never (gi_list (ge_var 1)) (gg_pair rfl (gg_name (n := 5) 3 sc_table_of_mixture.nd) (gg_name (n := 5) 4 sc_table_of_mixture.nd)) (.keep (.keep (.keep (.keep (.keep .nil))))) (fun _ => rfl) (fun gs i x hx => ?_) ?_
  · have hi := (List.getElem?_eq_some_iff.mp hx).1
    have h40 := hM.1
    have hxm := hM.2 x (List.mem_of_getElem? hx)
    have hb := tableM_bg hH hM i (by omega)
    refine gs_setI (R := rL (rL (rQ C))) (x := tableM ls (mix.take (i + 1))) 2 sc_table_of_mixture.nd ?_ (gs_end fun σ H hh => hh.less (.keep (.keep (.keep (.drop (.drop .nil))))))
    refine GE.to (gfn G3 hr (tableM ls (mix.take i), castT (wordT ls x.1), x.2) (mix_step hH hb (by omega) hxm).1 (ga_cons (ge_var 2) (ga_cons (ge_qT ?_) (ga1 (ge_var 4))))) (by rw [take_snoc hx, tableM_snoc])
    exact gfn G4 hr (ls, x.1) ⟨hxm.1.1, hxm.1.2, n, hH⟩ (ga_cons (ge_var 0) (ga1 (ge_var 3)))
  · rw [List.take_length]
    exact gs_ret (ge_var 2)
abbrev N_mixture_by : List Str := ["house", "table", "base", "longs", "goals", "numbers", "word", "late", "place", "number", "long"]
abbrev S_mixture_by : Stmt := tp 63
theorem sc_mixture_by : FnScope N_mixture_by ["house", "table"] (defScope S_mixture_by) := ⟨rfl, rfl, rfl, by decide +kernel, rfl, by decide +kernel, by decide +kernel⟩
abbrev spMixtureBy (C CH : Addr) : Sp := spH (fun x : List (List (List Int)) × List (List Rat) => [⟨rH C CH, x.1⟩, ⟨rL (rL (rQ C)), x.2⟩]) (fun x => (∃ n, HouseOk n x.1 ∧ Sq n x.2) ∧ OkSolve (colsR x.1) x.2.flatten) (fun H => rO (rFr H (rTold C))) (fun x => Is (mixR x.1 x.2))
theorem ok_mixture_by (B : Blt mg) (F : RatAll Pg w K mg base C) (G1 : Fn Pg w K mg base "base_of" ["house"] 7 (spBaseOf C CH)) (G2 : Fn Pg w K mg base "long_of" ["table"] 1 (spLongOf C)) (G3 : Fn Pg w K mg base "solution_of" ["rows", "goals"] 6 (spSolutionOf C)) (D : Df K mg "mixture_by" (tp 63) ["house", "table"]) : Fn Pg w K mg base "mixture_by" ["house", "table"] 8 (spMixtureBy C CH) := by
  refine fn_typedH D sc_mixture_by (fun _ => rfl) (by decide) fun x hx0 f cdv A outer s H E L hr => ?_
  obtain ⟨ls, t⟩ := x
  obtain ⟨⟨n, hH, hsq⟩, hO⟩ : (∃ n, HouseOk n ls ∧ Sq n t) ∧ OkSolve (colsR ls) t.flatten := hx0
  have hs := hH.side
  have hn3 := hH.2.2.2.1
  have hnn := Nat.mul_le_mul hn3 hn3
  have hfl : t.flatten.length = n * n := Sq.flat hsq.2 hsq.1
  have hB := Bi.start hH
  refine gs_setI 2 sc_mixture_by.nd (by exact gfn G1 hr ls ⟨n, hH⟩ (ga1 (ge_var 0))) ?_
  have hwl := base_letters hH
  refine gs_setI (R := rL (rL (rZ C))) (x := (baseW ls).map (rowOf ls)) 3 sc_mixture_by.nd (GF.ge ?_) ?_
  · refine GF.to (x := ((baseW ls).map (bof ls)).map fun x => x.2.flatten) ?_ (by rw [List.map_map]; rfl)
    refine gf_lc (own := [("word", 6), ("late", 7)]) (fun x : List Nat × List (List Int) => x.2.flatten) rfl sc_mixture_by.nd (gi_list (ge_var 2)) (blkOk_by (N := N_mixture_by) (sc := defScope S_mixture_by) (by decide +kernel)) (fun _ _ _ _ _ => (gg_pair rfl (gg_name (n := 11) 6 sc_mixture_by.nd) (gg_name (n := 11) 7 sc_mixture_by.nd))) rfl (by decide) (fun D x hx _ _ _ _ _ => ?_)
    obtain ⟨wd, hwd, rfl⟩ := List.mem_map.mp hx
    refine ge_zL (GE.to (gfn G2 hr (castT (wordT ls wd)) ?_ (ga1 (ge_qT (ge_var 7)))) (castT_flat _))
    have hl : (rowOf ls wd).length = n * n := rowOf_len hH (hwl wd hwd)
    show (castT (wordT ls wd)).flatten.length < 1000
    rw [castT_flat]
    unfold castL
    rw [List.length_map]
    show (rowOf ls wd).length < 1000
    omega
  refine gs_setI 4 sc_mixture_by.nd (by exact gfn G2 hr t (by show t.flatten.length < 1000; omega) (ga1 (ge_var 1))) ?_
  refine gs_setI (R := rO (rL (rQ C))) (x := solutionR (colsR ls) t.flatten) 5 sc_mixture_by.nd ?_ ?_
  · refine gfn G3 hr (colsR ls, t.flatten) hO (ga_cons (GF.ge ?_) (ga1 (ge_var 4)))
    refine GF.to (x := (List.range (n * n)).map fun k => (baseW ls).map fun w => (((rowOf ls w).getD k 0 : Int) : Rat)) ?_ (by unfold colsR; rw [hs])
    refine gf_lc (T := rNat) (own := [("place", 8)]) (fun k => (baseW ls).map fun w => (((rowOf ls w).getD k 0 : Int) : Rat)) rfl sc_mixture_by.nd (range_GI B.range (GE.to (ge_len (xs := t.flatten) B.len (ge_var 4)) (by rw [hfl])) (by omega)) (blkOk_by (N := N_mixture_by) (sc := defScope S_mixture_by) (by decide +kernel)) (fun _ _ _ _ _ => (gg_name (n := 11) 8 sc_mixture_by.nd)) rfl (by decide) (fun D k hk _ _ _ _ _ => ?_)
    have hk := List.mem_range.mp hk
    refine GF.ge (GF.to (x := ((baseW ls).map (rowOf ls)).map fun r => ((r.getD k 0 : Int) : Rat)) ?_ (by rw [List.map_map]; rfl))
    refine gf_lc (own := [("long", 10)]) (fun r : List Int => ((r.getD k 0 : Int) : Rat)) rfl sc_mixture_by.nd (gi_list (ge_var 3)) (blkOk_in N_mixture_by (by decide +kernel)) (fun _ _ _ _ _ => (gg_name (n := 11) 10 sc_mixture_by.nd)) rfl (by decide) (fun D r hr1 _ _ _ _ _ => ?_)
    obtain ⟨wd, hwd, rfl⟩ := List.mem_map.mp hr1
    exact ge_q (ge_ixN (d := 0) (ge_var 10 (R := rL (rZ C)) (x := rowOf ls wd)) (ge_var 8 (R := rNat) (x := k)) (by rw [rowOf_len hH (hwl wd hwd)]; exact hk))
  cases hsol : solutionR (colsR ls) t.flatten with
  | none =>
    have e : mixR ls t = none := by unfold mixR; rw [hsol]; rfl
    rw [e]
    refine gs_ifRet (Pc := Is (none : Option (List Rat)).isNone) (gt_isN (fun _ _ _ => Rp.notNon_list) (ge_var 5)) (fun _ => gs_ret ge_nonO) (fun z => by cases (show _ = _ from z))
  | some ns =>
    have e : mixR ls t = some (((baseW ls).zip ns).filter fun x => !decide (sgn x.2 = 0)) := by unfold mixR; rw [hsol]; rfl
    rw [e]
    refine gs_ifNever (Pc := Is (some ns).isNone) (gt_isN (fun _ _ _ => Rp.notNon_list) (ge_var 5)) (fun z => by cases (show _ = _ from z)) ?_
    refine gs_ret (ge_some (GF.fr (GF.to (x := ((((baseW ls).map (bof ls)).zip ns).filter fun x : (List Nat × List (List Int)) × Rat => !decide (sgn x.2 = 0)).map fun x => (x.1.1, x.2)) ?_ (zip_told ls _ ns))))
    refine gf_lcF (own := [("word", 6), ("late", 7), ("number", 9)]) (fun x : (List Nat × List (List Int)) × Rat => !decide (sgn x.2 = 0)) (fun x => (x.1.1, x.2)) rfl sc_mixture_by.nd (gi_zip (by exact B.zip) (by exact ga_cons (ge_var 2) (ga1 (ge_get (ge_var 5))))) (blkOk_by (N := N_mixture_by) (sc := defScope S_mixture_by) (by decide +kernel)) (fun _ _ _ _ _ => gg_pair rfl (gg_pair rfl (gg_name (n := 11) 6 sc_mixture_by.nd) (gg_name (n := 11) 7 sc_mixture_by.nd)) (gg_name (n := 11) 9 sc_mixture_by.nd)) rfl (by decide) (fun D x _ _ _ _ _ => ?_) (fun D x hx hpx _ _ _ _ _ => ?_)
    · exact gt_ne (ge_qsign F (hr.mono (by decide)) (ge_var 9)) ge_int
    · exact ge_pair (ge_var 6) (ge_var 9)

abbrev N_mixture_of : List Str := ["house", "table", "here"]
abbrev S_mixture_of : Stmt := tp 69
theorem sc_mixture_of : FnScope N_mixture_of ["house", "table"] (defScope S_mixture_of) := ⟨rfl, rfl, rfl, by decide +kernel, rfl, by decide +kernel, by decide +kernel⟩
abbrev spMixtureOf (C CH : Addr) : Sp := spH (fun x : List (List (List Int)) × List (List (Int ⊕ Rat)) => [⟨rH C CH, x.1⟩, ⟨rLT (rL (rIQ C)), x.2⟩]) (fun x => (∃ n, HouseOk n x.1 ∧ x.2.length = n ∧ ∀ r ∈ x.2, r.length = n) ∧ OkSolve (colsR x.1) (x.2.map fun r => r.map worth).flatten) (fun H => rO (rFr H (rTold C))) (fun x => Is (mixR x.1 (x.2.map fun r => r.map worth)))
theorem ok_mixture_of (HC : HouC K mg CH) (G1 : Fn Pg w K mg base "want_house" ["value"] 1 (spWantHouse C CH)) (G2 : Fn Pg w K mg base "want_sized" ["value", "size"] 6 (spWantSized C)) (G3 : Fn Pg w K mg base "mixture_by" ["house", "table"] 8 (spMixtureBy C CH)) {f0 : Addr} {fd0 : FuncData} (D : L2.Fun K "mixture_of" "mixture_of" S_mixture_of f0 fd0) : FnOk Pg w K mg base CX0 9 f0 fd0 ["house", "table"] (spMixtureOf C CH) := by
  refine fun_typedH D sc_mixture_of (fun _ => rfl) (by decide) fun x hx0 f cdv A outer s H E L hr => ?_
  obtain ⟨ls, t⟩ := x
  obtain ⟨⟨n, hH, ht, htr⟩, hO⟩ : (∃ n, HouseOk n ls ∧ t.length = n ∧ ∀ r ∈ t, r.length = n) ∧ OkSolve (colsR ls) (t.map fun r => r.map worth).flatten := hx0
  have hs := hH.side
  have h1 := hH.2.2.1
  have h3 := hH.2.2.2.1
  refine gs_setI 2 sc_mixture_of.nd (by exact gfn G1 hr ls trivial (ga1 (ge_var 0))) ?_
  refine gs_ret (gfnH G3 hr (ls, t.map fun r => r.map worth) ⟨⟨n, hH, by rw [List.length_map]; exact ht, fun r hr1 => ?_⟩, hO⟩ (ga_cons (ge_var 2) (ga1 ?_)) (by decide) fun H1 H2 y v hf py ry => ?_)
  · obtain ⟨r', hr', rfl⟩ := List.mem_map.mp hr1
    rw [List.length_map]; exact htr _ hr'
  · refine gfn G2 hr t ⟨by omega, by omega, fun r hr1 => by rw [htr r hr1, ht]⟩ (ga_cons (ge_var 1) (ga1 (GE.to (ge_hw HC (ge_var 2)) ?_)))
    rw [hs, ht]
  · refine ⟨y, py, ?_⟩
    cases y with
    | none => exact ry
    | some xs =>
      obtain ⟨p, vs, rfl, h2, h3, h4⟩ := ry
      exact ⟨p, vs, rfl, hf p h2, h3, h4⟩
abbrev N_is_mixture_of : List Str := ["house", "table", "value", "here", "told", "mixture"]
abbrev S_is_mixture_of : Stmt := tp 70
theorem sc_is_mixture_of : FnScope N_is_mixture_of ["house", "table", "value"] (defScope S_is_mixture_of) := ⟨rfl, rfl, rfl, by decide +kernel, rfl, by decide +kernel, by decide +kernel⟩
abbrev spIsMixtureOf (C CH : Addr) : Sp := spG (fun x : List (List (List Int)) × List (List Rat) × List (List Nat × (Int ⊕ Rat)) => [⟨rH C CH, x.1⟩, ⟨rL (rL (rQ C)), x.2.1⟩, ⟨rLT (rPart C), x.2.2⟩]) (fun x => (∃ n, HouseOk n x.1 ∧ Sq n x.2.1) ∧ OkMix x.1 (x.2.2.map toldX) ∧ tableM x.1 (x.2.2.map toldX) = x.2.1) rB (fun _ => Is true)
theorem ok_is_mixture_of (F : RatAll Pg w K mg base C) (HC : HouC K mg CH) (G1 : Fn Pg w K mg base "want_house" ["value"] 1 (spWantHouse C CH)) (G2 : Fn Pg w K mg base "want_sized" ["value", "size"] 6 (spWantSized C)) (G3 : Fn Pg w K mg base "told_mixture" ["house", "value"] 6 (spToldMixture C CH)) (G4 : Fn Pg w K mg base "table_of_mixture" ["house", "mixture"] 7 (spTableOfMixture C CH)) {f0 : Addr} {fd0 : FuncData} (D : L2.Fun K "is_mixture_of" "is_mixture_of" S_is_mixture_of f0 fd0) : FnOk Pg w K mg base CX0 8 f0 fd0 ["house", "table", "value"] (spIsMixtureOf C CH) := by
  refine fn_typed D sc_is_mixture_of (fun _ => rfl) (by decide) fun x hx0 cdv A outer s H E L hr => ?_
  obtain ⟨ls, t, ps⟩ := x
  obtain ⟨⟨n, hH, hsq⟩, hM, hT⟩ : (∃ n, HouseOk n ls ∧ Sq n t) ∧ OkMix ls (ps.map toldX) ∧ tableM ls (ps.map toldX) = t := hx0
  have hs := hH.side
  have h1 := hH.2.2.1
  have h3 := hH.2.2.2.1
  have hi := sq_inr hsq
  refine gs_setI 3 sc_is_mixture_of.nd (by exact gfn G1 hr ls trivial (ga1 (ge_var 0))) ?_
  refine gs_setI (R := rL (rL (rQ C))) (x := t) 4 sc_is_mixture_of.nd ?_ ?_
  · refine GE.to (gfn G2 hr (inrT t) ⟨by rw [hi.1]; omega, by rw [hi.1]; omega, by rw [hi.1]; exact hi.2⟩ (ga_cons (ge_LT (GE.on (ge_var 1) fun _ _ r => inrT_T r)) (ga1 (GE.to (ge_hw HC (ge_var 3)) ?_)))) (inrT_worth t)
    rw [hs, hi.1]
  have hps : ps.length ≤ 40 ∧ ∀ y ∈ ps, OkPart ls y.1 := by
    refine ⟨by have := hM.1; rwa [List.length_map] at this, fun y hy => (hM.2 (toldX y) (List.mem_map_of_mem hy)).1⟩
  refine gs_setI (R := rO (rL (rTold C))) (x := some (ps.map toldX)) 5 sc_is_mixture_of.nd (by exact gfn G3 hr (ls, ps) hps (ga_cons (ge_var 3) (ga1 (ge_var 2)))) ?_
  refine gs_ret (GE.to (x := (some (ps.map toldX)).isSome && true) (ge_and (ge_notN (fun _ _ _ => Rp.notNon_list) (ge_var 5)) fun _ => ge_bone ?_) rfl)
  refine ge_same (x := t) (rck_list (eqk_list (eqk_q F))) (hr.mono (by decide)) ?_ (ge_var 4)
  exact GE.to (gfn G4 hr (ls, ps.map toldX) ⟨⟨n, hH⟩, hM⟩ (ga_cons (ge_var 3) (ga1 (ge_get (ge_var 5))))) hT
abbrev N_table_by : List Str := ["house", "mixture", "here"]
abbrev S_table_by : Stmt := tp 71
theorem sc_table_by : FnScope N_table_by ["house", "mixture"] (defScope S_table_by) := ⟨rfl, rfl, rfl, by decide +kernel, rfl, by decide +kernel, by decide +kernel⟩
abbrev spTableBy (C CH : Addr) : Sp := spG (fun x : List (List (List Int)) × List (List Nat × (Int ⊕ Rat)) => [⟨rH C CH, x.1⟩, ⟨rLT (rPart C), x.2⟩]) (fun x => (∃ n, HouseOk n x.1) ∧ OkMix x.1 (x.2.map toldX)) (rL (rL (rQ C))) (fun x => Is (tableM x.1 (x.2.map toldX)))
theorem ok_table_by (G1 : Fn Pg w K mg base "want_house" ["value"] 1 (spWantHouse C CH)) (G2 : Fn Pg w K mg base "want_mixture" ["house", "value"] 7 (spWantMixture C CH)) (G4 : Fn Pg w K mg base "table_of_mixture" ["house", "mixture"] 7 (spTableOfMixture C CH)) {f0 : Addr} {fd0 : FuncData} (D : L2.Fun K "table_by" "table_by" S_table_by f0 fd0) : FnOk Pg w K mg base CX0 8 f0 fd0 ["house", "mixture"] (spTableBy C CH) := by
  refine fn_typed D sc_table_by (fun _ => rfl) (by decide) fun x hx0 cdv A outer s H E L hr => ?_
  obtain ⟨ls, ps⟩ := x
  obtain ⟨hH, hM⟩ : (∃ n, HouseOk n ls) ∧ OkMix ls (ps.map toldX) := hx0
  have hps : ps.length ≤ 40 ∧ ∀ y ∈ ps, OkPart ls y.1 := by
    refine ⟨by have := hM.1; rwa [List.length_map] at this, fun y hy => (hM.2 (toldX y) (List.mem_map_of_mem hy)).1⟩
  refine gs_setI 2 sc_table_by.nd (by exact gfn G1 hr ls trivial (ga1 (ge_var 0))) ?_
  refine gs_ret (by
    refine gfn G4 hr (ls, ps.map toldX) ⟨hH, hM⟩ (ga_cons (ge_var 2) (ga1 ?_))
    exact gfn G2 hr (ls, ps) hps (ga_cons (ge_var 2) (ga1 (ge_var 1))))
theorem kb_two {x : Str} {a b : Str} {st : Stmt} (h : ∀ (kV doc pm : Value) (an : Option Addr) (cdv ct : Value) (u v : Value), bindArgs (PySem.W.fnOf x x (defArgs st) (defBody st) (defScope st) .none kV doc pm an cdv ct) ⟨[], [(b, u), (a, v)]⟩ = pure [(a, v), (b, u)]) (kV doc pm : Value) (an : Option Addr) (cdv ct : Value) (ws : List Value) (hl : ws.length = [b, a].length) :
    bindArgs (PySem.W.fnOf x x (defArgs st) (defBody st) (defScope st) .none kV doc pm an cdv ct) ⟨[], [b, a].zip ws⟩ = pure ([a, b].zip ws.reverse) := by
  match ws, hl with
  | [u, v], _ => exact h kV doc pm an cdv ct u v
theorem kb_three {x : Str} {a b c : Str} {st : Stmt} (h : ∀ (kV doc pm : Value) (an : Option Addr) (cdv ct : Value) (u v z : Value), bindArgs (PySem.W.fnOf x x (defArgs st) (defBody st) (defScope st) .none kV doc pm an cdv ct) ⟨[], [(c, u), (b, v), (a, z)]⟩ = pure [(a, z), (b, v), (c, u)]) (kV doc pm : Value) (an : Option Addr) (cdv ct : Value) (ws : List Value) (hl : ws.length = [c, b, a].length) :
    bindArgs (PySem.W.fnOf x x (defArgs st) (defBody st) (defScope st) .none kV doc pm an cdv ct) ⟨[], [c, b, a].zip ws⟩ = pure ([a, b, c].zip ws.reverse) := by
  match ws, hl with
  | [u, v, z], _ => exact h kV doc pm an cdv ct u v z
theorem kb_table_by : ∀ (kV doc pm : Value) (an : Option Addr) (cdv ct : Value) (u v : Value), bindArgs (PySem.W.fnOf "table_by" "table_by" (defArgs S_table_by) (defBody S_table_by) (defScope S_table_by) .none kV doc pm an cdv ct) ⟨[], [(("mixture" : Str), u), (("house" : Str), v)]⟩ = pure [(("house" : Str), v), (("mixture" : Str), u)] := fun kV doc pm an cdv ct u v => rfl
theorem kb_mixture_of : ∀ (kV doc pm : Value) (an : Option Addr) (cdv ct : Value) (u v : Value), bindArgs (PySem.W.fnOf "mixture_of" "mixture_of" (defArgs S_mixture_of) (defBody S_mixture_of) (defScope S_mixture_of) .none kV doc pm an cdv ct) ⟨[], [(("table" : Str), u), (("house" : Str), v)]⟩ = pure [(("house" : Str), v), (("table" : Str), u)] := fun kV doc pm an cdv ct u v => rfl
theorem kb_is_mixture_of : ∀ (kV doc pm : Value) (an : Option Addr) (cdv ct : Value) (u v z : Value), bindArgs (PySem.W.fnOf "is_mixture_of" "is_mixture_of" (defArgs S_is_mixture_of) (defBody S_is_mixture_of) (defScope S_is_mixture_of) .none kV doc pm an cdv ct) ⟨[], [(("value" : Str), u), (("table" : Str), v), (("house" : Str), z)]⟩ = pure [(("house" : Str), z), (("table" : Str), v), (("value" : Str), u)] := fun kV doc pm an cdv ct u v z => rfl
end
end TW

namespace TW
open PySem PySem.Spec L2 TL
theorem potEv {H : Hp} {p : Addr} {P : List Addr} {a b : Int} (hp : p ∈ P) (ha : 0 ≤ a) (hb : 0 ≤ b ∧ b < 4294967296) (h : ∀ l ∈ P, PotOk H l) : Ev P H (upd H p (.lst [.int a, .int b])) := fun c o hc => by
  refine ⟨fun n => ?_, fun m => ?_⟩
  · have ne : c ≠ p := fun z => n (by rw [z]; exact hp)
    rw [upd_ne ne]; exact hc
  · by_cases e : c = p
    · subst e
      exact ⟨a, b, ha, hb, upd_same⟩
    · obtain ⟨x, y, h1, h2, h3⟩ := h c m
      exact ⟨x, y, h1, h2, by rw [upd_ne e]; exact h3⟩
/-- a promise over a pot and told arguments -/
def spP {ι : Type} (as : ι → List Bd) (ok : ι → Prop) {β : Type} (R : Rp β) (P : ι → β → Prop) : Sp := fun vs H Q _ => ∃ (i : ι) (p : Addr) (ws : List V) (L : List Addr), vs = .ref p :: ws ∧ ok i ∧ PotOk H p ∧ p ∈ L ∧ (∀ l ∈ L, H l ≠ none) ∧ AllR (hd L H) (as i) ws ∧
  ∀ y v H', P i y → Ev [p] H H' → R.r (hd L H') y v → Q v H'
theorem fn_typedP {Pg : Program} {w : World} {K : PySem.W.Frag} {mg : Str → Option Value} {base : Heap} {ι β : Type} {as : ι → List Bd} {ok : ι → Prop} {R : Rp β} {P : ι → β → Prop} {x : Str} {st : Stmt} {N ps : List Str} {k : Nat} (D : Df K mg x st ps) (S : FnScope N ps (defScope st)) (hl : ∀ i, (as i).length + 1 = ps.length) (hN : ps.length ≤ N.length)
    (body : ∀ (i : ι), ok i → ∀ (p : Addr) (f : Addr) (cdv : Value) (A : Around) (outer : List PySem.Env) (s : Shared) (H : Hp) (E : XK) (L : List Addr), Room k (A.deeper (PyProof.Rows.envOfC x (defScope st) s.heap.objs.size f cdv)) →
      GS (cxOf CX0 Pg w K mg base N x (defScope st) f cdv A outer s H E).nox (defBody st) ⟨L, [p], H, L, slotsOf (⟨rV, .ref p⟩ :: as i) N.length, []⟩ R (P i) fun _ _ => False) : Fn Pg w K mg base x ps (k + 1) (spP as ok R P) := by
  obtain ⟨f, fd, F, m, b⟩ := D
  refine ⟨⟨f, fd, F.ok S (fun vs H Q E h => ?_) (fun cdv A outer s H vs Q E hr h => ?_), m, F.kp, b⟩⟩
  · obtain ⟨i, p, ws, L, rfl, _, _, _, _, r, _⟩ := h
    rw [List.length_cons, AllR.len r, hl]
  · obtain ⟨i, p, ws, L, rfl, o, hp, mp, al, r, q⟩ := h
    have h0 : Has ⟨L, [], H, L, slotsOf (⟨rV, .ref p⟩ :: as i) N.length, []⟩ (start N (.ref p :: ws)) H := has_start (as := ⟨rV, .ref p⟩ :: as i) (by rw [List.length_cons, hl]; exact hN) al ⟨_, _, rfl, rfl, r⟩
    have h1 : Has ⟨L, [p], H, L, slotsOf (⟨rV, .ref p⟩ :: as i) N.length, []⟩ (start N (.ref p :: ws)) H :=
      ⟨h0.len, h0.ok, h0.al, fun l ml => by rw [List.mem_singleton.mp ml]; exact ⟨mp, hp⟩, Ev.refl fun a ma => by rw [List.mem_singleton.mp ma]; exact hp, h0.sep, h0.l0, h0.new, h0.gh⟩
    exact ⟨_, pss_s, body i o p f cdv A outer s H E L hr _ H h1 _ (fun _ _ z => z.elim) fun y v H' py ev rr => q y v H' py ev rr⟩
section
variable {X : Cx} {Γ : TL.Env} {e a b : Expr} {p pos : Pos} {α β : Type} {R : Rp α} {S : Rp β}
theorem gfnP {ι : Type} {as : ι → List Bd} {ok : ι → Prop} {P : ι → β → Prop} {k j : Nat} {ps : List Str} {x : Str} {pt : Addr} {e : Expr} {es : List Expr}
    (F : Fn X.prog X.w X.K X.mg X.base x ps k (spP as ok S P)) (hr : Room j X.A) (hp : pt ∈ Γ.P) (i : ι) (o : ok i) (ha : GA X (e :: es) Γ (⟨rV, .ref pt⟩ :: as i)) (hj : k ≤ j := by decide)
    (hg : Gl X x := by rfl) (hdb : (x == ("__debug__" : Str)) = false := by decide) (he : starEach (e :: es) X.env = (false, eval e X.env) :: starEach es X.env := by rfl) (hpl : (backTo pos (starEach es X.env)).any (·.1) = false := by rfl) {P' : β → Prop} (hP : ∀ y, P i y → P' y := by exact fun _ h => h) :
    GE X (.Call (.Name x p) (e :: es) [] pos) Γ S P' := by
  obtain ⟨f, fd, G, m, kp, hb⟩ := F.ex
  refine ge_of (pe_call G (hr.mono hj) hg m kp hb .nil pass0 pa_s hdb he hpl) fun σ H h Q q => ha σ H h _ fun vs H1 e1 z1 r => ?_
  have h1 := h.ev e1
  rw [List.append_nil]
  obtain ⟨v, ws, rfl, rv, r⟩ := r
  cases (show _ = _ from rv)
  refine ⟨i, pt, ws, Γ.L, rfl, o, (h1.pot pt hp).2, h1.sub pt hp, h1.al, r, fun y v H' py ev ry => q y v H' (hP y py) (e1.trans fun c o hc => ⟨fun n => (ev c o hc).1 fun m => n (by rw [List.mem_singleton.mp m]; exact hp), fun m => ?_⟩) ry⟩
  by_cases ec : c = pt
  · exact (ev c o hc).2 (by rw [ec]; exact List.mem_cons_self)
  · obtain ⟨x', y', g1, g2, g3⟩ := (h1.pot c m).2
    exact ⟨x', y', g1, g2, (ev c _ g3).1 fun z => ec (List.mem_singleton.mp z)⟩
/-- what does not change the pot, seen with the pot as a list of two numbers -/
theorem ge_pot {H0 : Hp} {L : List Addr} {pt : Addr} {s1 : List Slot} {P : β → Prop} (hs1 : ∀ t ∈ s1, t.at = none) (hS : ∀ L' H' x v, (∀ l, l ∈ L → l ∈ L' ∨ l = pt) → PotOk H' pt → S.r (hd L' H') x v → S.r (hd L H') x v)
    (h : ∀ H L' a b, 0 ≤ a → 0 ≤ b → b < 4294967296 → GE X e ⟨L', [], H, L', .val (rL rI) [a, b] :: s1, []⟩ S P) : GE X e ⟨L, [pt], H0, L, .val rV (.ref pt) :: s1, []⟩ S P := fun σ H hh Q q => by
  obtain ⟨mp, a, b, ha, ⟨hb, hb2⟩, hp⟩ := hh.pot pt List.mem_cons_self
  have hL : ∀ c, c ∈ L.filter (fun l => l ≠ pt) ↔ c ∈ L ∧ c ≠ pt := fun c => by rw [List.mem_filter]; simp
  have hless : Ex (hd L H) (hd (L.filter fun l => l ≠ pt) H) := fun c o hc => by
    have := hd_some hc
    exact hd_of (fun m => this.1 ((hL c).mp m).1) this.2
  refine h H (L.filter fun l => l ≠ pt) a b ha hb hb2 σ H ⟨hh.len, fun i t hi => ?_, fun l ml => hh.al l ((hL l).mp ml).1, fun l ml => (nomatch ml), Ev.refl (fun c mc => nomatch mc), fun i j t u l hi hj ht hu => ?_, fun l ml => ⟨ml, hh.al l ((hL l).mp ml).1⟩, fun i t l hi ht => ?_, fun g mg => nomatch mg⟩ Q fun x v H' px ev z r => ?_
  · cases i with
    | zero =>
      simp at hi; subst hi
      obtain ⟨v, e1, e2⟩ := hh.ok 0 _ rfl
      cases (show _ = _ from e2)
      exact ⟨.ref pt, e1, pt, [.int a, .int b], rfl, hd_of (fun m => ((hL pt).mp m).2 rfl) hp, .cons rfl (.cons rfl .nil)⟩
    | succ i =>
      have k := hh.ok (i + 1) t hi
      cases t with
      | nil => trivial
      | val R x =>
        obtain ⟨v, e1, e2⟩ := k
        exact ⟨v, e1, R.mono hless e2⟩
      | own l R xs =>
        have := hs1 _ (List.mem_of_getElem? (show s1[i]? = some _ from hi))
        cases this
  · exfalso
    cases i with
    | zero => simp at hi; subst hi; cases ht
    | succ i =>
      rw [hs1 t (List.mem_of_getElem? (show s1[i]? = some t from hi))] at ht; cases ht
  · exfalso
    cases i with
    | zero => simp at hi; subst hi; cases ht
    | succ i =>
      rw [hs1 t (List.mem_of_getElem? (show s1[i]? = some t from hi))] at ht; cases ht
  · have ex : Ex H H' := fun c o hc => (ev c o hc).1 (fun m => nomatch m)
    have pk : PotOk H' pt := ⟨a, b, ha, ⟨hb, hb2⟩, ex _ _ hp⟩
    refine q x v H' px (fun c o hc => ⟨fun _ => ex c o hc, fun m => by rw [List.mem_singleton.mp m]; exact pk⟩) z (hS _ H' x v (fun l ml => ?_) pk r)
    by_cases e : l = pt
    · exact .inr e
    · exact .inl ((hL l).mpr ⟨ml, e⟩)
end
section
variable {X : Cx} {Γ : TL.Env} {α β : Type} {S : Rp β} {P : β → Prop} {N : L2.St → Hp → Prop} {rest : List Stmt} {pos : Pos} {e : Expr}
/-- pot[1] = e -/
theorem gs_pot1 {H0 : Hp} {L : List Addr} {pt : Addr} {ss : List Slot} {nm : Str} {p1 p2 p3 : Pos} {kk : Nat} (he : GE X e ⟨L, [pt], H0, L, .val rV (.ref pt) :: ss, []⟩ TL.rI (fun y => 0 ≤ y ∧ y < 4294967296)) (k : GS X rest ⟨L, [pt], H0, L, .val rV (.ref pt) :: ss, []⟩ S P N)
    (hN : X.N[0]? = some nm := by rfl) (hv : Vis X.env.scope nm := by first | exact Or.inl rfl | exact Or.inr (Or.inl rfl) | exact Or.inr (Or.inr rfl)) (hdb : (nm == ("__debug__" : Str)) = false := by decide)
    (hcd : (nm == ("__classdict__" : Str)) = false := by decide)
    (ha : ∀ v, assign (.Subscript (.Name nm p1) (.Constant (.int 1) kk p3) p2) X.env v = (do
      let ov ← holding [v] (eval (.Name nm p1) X.env)
      let iv ← holding [v, ov] (eval (.Constant (.int 1) kk p3) X.env)
      standAt p2
      holding [v, ov, iv] (setItem ov iv v)
      release [v, ov, iv] []) := by intro _; rfl)
    (hs1 : swapsWithSole [.Subscript (.Name nm p1) (.Constant (.int 1) kk p3) p2] e pos.line X.env = pure false := by rfl) (hw : swappedStores [.Subscript (.Name nm p1) (.Constant (.int 1) kk p3) p2] e X.env = pure none := by rfl)
    (h1 : (assignEach [.Subscript (.Name nm p1) (.Constant (.int 1) kk p3) p2] X.env).map (·.2) = [assign (.Subscript (.Name nm p1) (.Constant (.int 1) kk p3) p2) X.env] := by rfl) :
    GS X (.Assign [.Subscript (.Name nm p1) (.Constant (.int 1) kk p3) p2] e pos :: rest) ⟨L, [pt], H0, L, .val rV (.ref pt) :: ss, []⟩ S P N := gs_cons fun σ H h D q r =>
  s_ps (ps_asg pe_s (pg_sub (pe_var hN hv hdb hcd) pe_int set_list ha) hs1 hw h1) (he σ H h _ fun y v H1 py ev1 z1 r1 => by
    have g1 := h.ev ev1
    obtain ⟨v0, e1, e2⟩ := g1.ok 0 _ rfl
    cases (show _ = _ from e2); cases (show _ = _ from r1)
    obtain ⟨mp, a, b, h2, h3, hp⟩ := g1.pot pt List.mem_cons_self
    refine ⟨_, e1, pt, [.int a, .int b], 1, 1, rfl, rfl, hp, rfl, ?_⟩
    exact k σ _ (g1.ev (potEv List.mem_cons_self h2 ⟨py.1, py.2⟩ g1.pots)) D q r)
/-- pot[0], x = e -/
theorem gs_pot0 (j : Nat) {H0 : Hp} {L : List Addr} {pt : Addr} {ss : List Slot} {nm mm : Str} {p1 p2 p3 py pt2 : Pos} {kk kt : Nat} {Pz : Int → Prop} (hc : X.calm = true) (hNd : X.N.Nodup) (he : GE X e ⟨L, [pt], H0, L, .val rV (.ref pt) :: ss, []⟩ (rP TL.rI TL.rI) (fun y => 0 ≤ y.1 ∧ Pz y.2))
    (k : ∀ z, Pz z → GS X rest ⟨L, [pt], H0, L, (.val rV (.ref pt) :: ss).set j (.val TL.rI z), []⟩ S P N)
    (hj : X.N[j]? = some mm := by rfl) (hnj : j < (Slot.val rV (V.ref pt) :: ss).length := by exact Nat.le_of_ble_eq_true rfl) (hy : Loc X.env.scope mm := by first | exact Or.inl rfl | exact Or.inr rfl) (fy : X.fn mm = true ∨ X.env.scope.names.lookup mm = some .local := by first | exact .inl rfl | exact .inr rfl)
    (hN : X.N[0]? = some nm := by rfl) (hv : Vis X.env.scope nm := by first | exact Or.inl rfl | exact Or.inr (Or.inl rfl) | exact Or.inr (Or.inr rfl)) (hdb : (nm == ("__debug__" : Str)) = false := by decide)
    (hcd : (nm == ("__classdict__" : Str)) = false := by decide)
    (ha : ∀ v, assign (.Subscript (.Name nm p1) (.Constant (.int 0) kk p3) p2) X.env v = (do
      let ov ← holding [v] (eval (.Name nm p1) X.env)
      let iv ← holding [v, ov] (eval (.Constant (.int 0) kk p3) X.env)
      standAt p2
      holding [v, ov, iv] (setItem ov iv v)
      release [v, ov, iv] []) := by intro _; rfl)
    (hs1 : swapsWithSole [.Tuple [.Subscript (.Name nm p1) (.Constant (.int 0) kk p3) p2, .Name mm py] kt pt2] e pos.line X.env = pure false := by rfl) (hw : swappedStores [.Tuple [.Subscript (.Name nm p1) (.Constant (.int 0) kk p3) p2, .Name mm py] kt pt2] e X.env = pure none := by rfl)
    (h1 : (assignEach [.Tuple [.Subscript (.Name nm p1) (.Constant (.int 0) kk p3) p2, .Name mm py] kt pt2] X.env).map (·.2) = [assign (.Tuple [.Subscript (.Name nm p1) (.Constant (.int 0) kk p3) p2, .Name mm py] kt pt2) X.env] := by rfl)
    (q1 : (assignEach [.Subscript (.Name nm p1) (.Constant (.int 0) kk p3) p2, .Name mm py] X.env).map (·.2) = assign (.Subscript (.Name nm p1) (.Constant (.int 0) kk p3) p2) X.env :: (assignEach [.Name mm py] X.env).map (·.2) := by rfl)
    (q2 : (assignEach [.Name mm py] X.env).map (·.2) = assign (.Name mm py) X.env :: (assignEach [] X.env).map (·.2) := by rfl)
    (q3 : (assignEach [.Subscript (.Name nm p1) (.Constant (.int 0) kk p3) p2, .Name mm py] X.env).length = 2 := by rfl) (q4 : (assignEach [.Subscript (.Name nm p1) (.Constant (.int 0) kk p3) p2, .Name mm py] X.env).findIdx? (·.1) = none := by rfl) :
    GS X (.Assign [.Tuple [.Subscript (.Name nm p1) (.Constant (.int 0) kk p3) p2, .Name mm py] kt pt2] e pos :: rest) ⟨L, [pt], H0, L, .val rV (.ref pt) :: ss, []⟩ S P N := gs_cons fun σ H h D q r =>
  s_ps (ps_asg pe_s (pg_tup hc (pgs_cons (pg_sub (pe_var hN hv hdb hcd) pe_int set_list ha) (pgs_cons (pg_name hNd hj hy fy) pgs_nil q2) q1) q3 q4) hs1 hw h1) (he σ H h _ fun y v H1 py ev1 z1 r1 => by
    have g1 := h.ev ev1
    obtain ⟨c, u, w, rfl, hc1, ru, rw1⟩ := r1
    cases (show _ = _ from ru); cases (show _ = _ from rw1)
    obtain ⟨v0, e1, e2⟩ := g1.ok 0 _ rfl
    cases (show _ = _ from e2)
    obtain ⟨mp, a, b, h2, h3, hp⟩ := g1.pot pt List.mem_cons_self
    refine ⟨c, [.int y.1, .int y.2], rfl, SqT.of (hd_some hc1).2, rfl, _, _, rfl, _, e1, pt, [.int a, .int b], 0, 0, rfl, rfl, hp, rfl, ?_⟩
    have g2 := g1.ev (potEv List.mem_cons_self py.1 h3 g1.pots)
    refine ⟨_, _, rfl, rfl, ?_⟩
    exact k y.2 py.2 _ _ (g2.set (R := TL.rI) (x := y.2) (v := .int y.2) hnj rfl) D q r)
end
end TW

namespace TW
open PySem PySem.Spec L2 TL
section
variable {X : Cx} {Γ : TL.Env} {e a b : Expr} {p pos : Pos} {α β : Type} {R : Rp α} {S : Rp β}
theorem gt_anyGt {Pa Pb : Int → Prop} (ha : GE X a Γ TL.rI Pa) (hb : GE X b Γ TL.rI Pb) : GT X (.Compare a [.Gt] [b] pos) Γ (fun _ => True) :=
  gt_cmp2 op_gt ha hb (nomark _) fun σ H x y v u h _ p1 p2 r1 r2 Q q => by
    cases (show _ = _ from r1); cases (show _ = _ from r2)
    exact ⟨x, y, rfl, rfl, q _ _ trivial h.evr⟩
/-- xs[k], some k -/
theorem ge_ixM {xs : List α} (ha : GE X a Γ (rL R) (Is xs)) (hb : GE X b Γ rNat (fun k => k < xs.length)) (hs : PlainIx b := by exact fun _ _ => rfl) : GE X (.Subscript a b pos) Γ R (fun y => y ∈ xs) :=
  ge_of (pe_ix ix_list pe_s pe_s hs) fun σ H h Q q => ha σ H h _ fun x' v H1 p1 e1 z1 r1 => hb σ H1 (h.ev e1) _ fun y' u H2 p2 e2 z2 r2 => by
    cases (show _ = _ from p1); cases (show _ = _ from r2)
    have r1 := (rL R).mono ((h.ev e1).hdx e2) r1
    obtain ⟨l, vs, rfl, hl, hv⟩ := r1
    have hx : xs[y']? = some xs[y'] := List.getElem?_eq_getElem p2
    obtain ⟨w, hw, rw'⟩ := Paired.get' hv hx
    exact ⟨l, vs, _, w, rfl, rfl, SqL.of (hd_some hl).2, atI_nat hw, q _ w H2 (List.getElem_mem p2) (e1.trans e2) rw'⟩
end
section
variable {Pg : Program} {w : World} {K : PySem.W.Frag} {mg : Str → Option Value} {base : Heap} {C CH : Addr}
abbrev N_law_draw : List Str := ["_law_pot_here", "_law_many", "_law_digit"]
abbrev S_law_draw : Stmt := tp 74
theorem sc_law_draw : FnScope N_law_draw ["_law_pot_here", "_law_many"] (defScope S_law_draw) := ⟨rfl, rfl, rfl, by decide +kernel, rfl, by decide +kernel, by decide +kernel⟩
abbrev spDraw : Sp := spP (fun m : Nat => [⟨rNat, m⟩]) (fun m => 0 < m ∧ m < 1000) rNat (fun m k => k < m)
theorem ok_draw (B : Blt mg) (D : Df K mg "_law_draw" (tp 74) ["_law_pot_here", "_law_many"]) : Fn Pg w K mg base "_law_draw" ["_law_pot_here", "_law_many"] 1 (spDraw) := by
  refine fn_typedP D sc_law_draw (fun _ => rfl) (by decide) fun m hm p f cdv A outer s H E L hr => ?_
  obtain ⟨hm1, hm2⟩ := hm
  have noown : ∀ t ∈ ([.val rNat m, .nil] : List TL.Slot), t.at = none := fun t ht => by
    rcases List.mem_cons.mp ht with rfl | ht
    · rfl
    · rw [List.mem_singleton.mp ht]; rfl
  have hout : ∀ {X : Cx} {e : Expr} {Γ : TL.Env}, GE X e Γ TL.rI (fun i => 0 ≤ i ∧ i < (m : Int)) → GE X e Γ rNat (fun k => k < m) := fun {X e Γ} h => h.re fun x v H px r => ⟨x.toNat, by omega, by
    cases (show _ = _ from r)
    show V.int x = V.int (x.toNat : Int)
    rw [Int.toNat_of_nonneg px.1]⟩
  refine gs_ifRet (Pc := fun _ => True) (gt_anyGt (Pa := fun _ => True) (ge_pot noown (fun _ _ _ _ _ _ r => r) fun H' L' a b ha hb hb2 => (ge_ix (xs := [a, b]) (k := 0) (ge_var 0) ge_int rfl rfl).imp fun _ _ => trivial) ge_int) (fun _ => ?_) (fun _ => ?_)
  · refine gs_pot0 2 (Pz := fun z => 0 ≤ z ∧ z < (m : Int)) rfl sc_law_draw.nd (ge_pot noown (fun L' H' x v hL pk r => ?_) fun H' L' a b ha hb hb2 => ?_) (fun z hz => gs_ret (hout ((ge_var 2).imp fun y py => by cases (show _ = _ from py); exact hz)))
    · obtain ⟨q, u, w, rfl, hq, h1, h2⟩ := r
      have hq' := hd_some hq
      refine ⟨q, u, w, rfl, hd_of (fun ml => ?_) hq'.2, h1, h2⟩
      rcases hL q ml with h3 | h3
      · exact hq'.1 h3
      · subst h3
        obtain ⟨_, _, _, _, h4⟩ := pk
        rw [hq'.2] at h4; cases h4
    · refine (ge_divmod B.divmod (ge_ix (xs := [a, b]) (k := 0) (ge_var 0) ge_int rfl rfl) (ge_nat (ge_var 1 (R := rNat) (x := m))) ⟨by omega, PyProof.noPylong_small (by omega)⟩).imp fun y py => ?_
      cases (show _ = _ from py)
      exact ⟨Int.ediv_nonneg ha (by omega), Int.emod_nonneg _ (by omega), Int.emod_lt_of_pos _ (by omega)⟩
  · refine gs_pot1 (ge_pot noown (fun _ _ _ _ _ _ r => r) fun H' L' a b ha hb hb2 => ?_) ?_
    · refine (ge_mod (ge_intI B.int (ge_add (ge_mul (ge_ix (xs := [a, b]) (k := 1) (ge_var 0) ge_int rfl rfl) ge_int (big_mul (Big.of_lt (n := 32) (by omega) (by decide)) (big_small (by decide)))) ge_int)) ge_int (by decide)).imp fun y py => ?_
      cases (show _ = _ from py)
      exact ⟨Int.emod_nonneg _ (by decide), by have := Int.emod_lt_of_pos (b * 40014 + 1109) (show (0 : Int) < 2147483563 by decide); omega⟩
    · refine gs_ret (hout (ge_pot noown (fun _ _ _ _ _ _ r => r) fun H' L' a b ha hb hb2 => ?_))
      refine (ge_mod (ge_intI B.int (ge_fdiv (ge_mod (ge_intI B.int (ge_mul (ge_ix (xs := [a, b]) (k := 1) (ge_var 0) ge_int rfl rfl) (ge_ix (xs := [a, b]) (k := 1) (ge_var 0) ge_int rfl rfl) (big_mul (Big.of_lt (n := 32) (by omega) (by decide)) (Big.of_lt (n := 32) (by omega) (by decide))))) ge_int (by decide)) ge_int ⟨by decide, PyProof.noPylong_small (by decide)⟩)) (ge_nat (ge_var 1 (R := rNat) (x := m))) (by omega)).imp fun y py => ?_
      cases (show _ = _ from py)
      exact ⟨Int.emod_nonneg _ (by omega), Int.emod_lt_of_pos _ (by omega)⟩
abbrev N_law_pick : List Str := ["_law_pot_here", "_law_some"]
abbrev S_law_pick : Stmt := tp 75
theorem sc_law_pick : FnScope N_law_pick ["_law_pot_here", "_law_some"] (defScope S_law_pick) := ⟨rfl, rfl, rfl, by decide +kernel, rfl, by decide +kernel, by decide +kernel⟩
abbrev spPick (C : Addr) : Sp := spP (fun xs : List (Int ⊕ Rat) => [⟨rL (rIQ C), xs⟩]) (fun xs => 0 < xs.length ∧ xs.length < 1000) (rIQ C) (fun xs y => y ∈ xs)
theorem ok_pick (B : Blt mg) (GD : Fn Pg w K mg base "_law_draw" ["_law_pot_here", "_law_many"] 1 (spDraw)) (D : Df K mg "_law_pick" (tp 75) ["_law_pot_here", "_law_some"]) : Fn Pg w K mg base "_law_pick" ["_law_pot_here", "_law_some"] 2 (spPick C) := by
  refine fn_typedP D sc_law_pick (fun _ => rfl) (by decide) fun xs hx p f cdv A outer s H E L hr => ?_
  refine gs_ret (ge_ixM (ge_var 1) ?_)
  exact gfnP GD hr List.mem_cons_self xs.length hx (ga_cons (ge_var 0) (ga1 (ge_ofNat (ge_len (xs := xs) B.len (ge_var 1)) rfl)))
abbrev N_law_idle : List Str := ["_law_size", "_law_line", "_law_place"]
abbrev S_law_idle : Stmt := tp 77
theorem sc_law_idle : FnScope N_law_idle ["_law_size"] (defScope S_law_idle) := ⟨rfl, rfl, rfl, by decide +kernel, rfl, by decide +kernel, by decide +kernel⟩
abbrev spLIdle : Sp := spG (fun n : Nat => [⟨rI, (n : Int)⟩]) (fun n => n < 1000) (rL (rL rI)) (fun n => Is (idleT n))
theorem ok_lidle (B : Blt mg) (D : Df K mg "_law_idle" (tp 77) ["_law_size"]) : Fn Pg w K mg base "_law_idle" ["_law_size"] 1 (spLIdle) := by
  refine fn_df D sc_law_idle (fun _ => rfl) (by decide) fun n hn0 f cdv A outer s H E L hr => ?_
  have hn : n < 1000 := hn0
  refine gs_ret (GF.ge ?_)
  refine gf_lc (T := rNat) (own := [("_law_line", 1)]) (fun at_ => (List.range n).map fun to => if at_ = to then 1 else 0) rfl sc_law_idle.nd (range_GI B.range (ge_var 0) (by omega)) (blkOk_by (N := N_law_idle) (sc := defScope S_law_idle) (by decide +kernel)) (fun _ _ _ _ _ => (gg_name (n := 3) 1 sc_law_idle.nd)) rfl (by decide) (fun D k hk _ _ _ _ _ => ?_)
  refine GF.ge ?_
  refine gf_lc (T := rNat) (own := [("_law_place", 2)]) (fun to => if k = to then 1 else 0) rfl sc_law_idle.nd (range_GI B.range (ge_var 0) (by omega)) (blkOk_in N_law_idle (by decide +kernel)) (fun _ _ _ _ _ => (gg_name (n := 3) 2 sc_law_idle.nd)) rfl (by decide) (fun D to hto _ _ _ _ _ => ?_)
  refine (ge_intB B.int (ge_eq (ge_nat (ge_var 1 (R := rNat) (x := k))) (ge_nat (ge_var 2 (R := rNat) (x := to))))).to ?_
  by_cases h : k = to
  · simp [h]
  · have : ¬ (k : Int) = (to : Int) := by omega
    simp [h, this]
theorem times_cell (row : List Int) (b : List (List Int)) (k : Nat) : ((row.zip (b.map fun r => r.getD k 0)).map fun x => x.1 * x.2).sum = cellT row b k := by
  unfold cellT
  rw [List.zip_map_right, List.map_map]
  rfl
def colT (b : List (List Int)) (k : Nat) : List Int := b.map fun r => r.getD k 0
def dotT (row col : List Int) : Int := ((row.zip col).map fun x => x.1 * x.2).sum
abbrev N_law_times : List Str := ["_law_one", "_law_other", "_law_turned", "_law_place", "_law_row", "_law_column", "_law_near", "_law_far"]
abbrev S_law_times : Stmt := tp 76
theorem sc_law_times : FnScope N_law_times ["_law_one", "_law_other"] (defScope S_law_times) := ⟨rfl, rfl, rfl, by decide +kernel, rfl, by decide +kernel, by decide +kernel⟩
abbrev spTimes : Sp := spG (fun x : List (List Int) × List (List Int) => [⟨rL (rL rI), x.1⟩, ⟨rL (rL rI), x.2⟩]) (fun x => (∃ n, Sq n x.1 ∧ Sq n x.2 ∧ 1 ≤ n ∧ n ≤ 4) ∧ (∀ r ∈ x.1, ∀ i ∈ r, Big i) ∧ ∀ r ∈ x.2, ∀ i ∈ r, Big i) (rL (rL rI)) (fun x => Is (mulT x.1 x.2))
theorem ok_times (B : Blt mg) (D : Df K mg "_law_times" (tp 76) ["_law_one", "_law_other"]) : Fn Pg w K mg base "_law_times" ["_law_one", "_law_other"] 1 (spTimes) := by
  refine fn_df D sc_law_times (fun _ => rfl) (by decide) fun x hx0 f cdv A outer s H E L hr => ?_
  obtain ⟨a, b⟩ := x
  obtain ⟨⟨n, ha, hb, h1, h2⟩, hba, hbb⟩ : (∃ n, Sq n a ∧ Sq n b ∧ 1 ≤ n ∧ n ≤ 4) ∧ (∀ r ∈ a, ∀ i ∈ r, Big i) ∧ ∀ r ∈ b, ∀ i ∈ r, Big i := hx0
  have hg : (b.getD 0 []).length = n := hb.2 _ (getD_mem (by have := hb.1; omega))
  have hbl := hb.1
  refine gs_setI (R := rL (rL rI)) (x := (List.range n).map (colT b)) 2 sc_law_times.nd (GF.ge ?_) ?_
  · refine gf_lc (T := rNat) (own := [("_law_place", 3)]) (colT b) rfl sc_law_times.nd (range_GI (n := n) B.range (GE.to (x := (b.length : Int)) (ge_len (xs := b) B.len (ge_var 1)) (by rw [hbl])) (by omega)) (blkOk_by (N := N_law_times) (sc := defScope S_law_times) (by decide +kernel)) (fun _ _ _ _ _ => (gg_name (n := 8) 3 sc_law_times.nd)) rfl (by decide) (fun D k hk _ _ _ _ _ => ?_)
    refine GF.ge ?_
    refine gf_lc (own := [("_law_row", 4)]) (fun r : List Int => r.getD k 0) rfl sc_law_times.nd (gi_list (ge_var 1)) (blkOk_in N_law_times (by decide +kernel)) (fun _ _ _ _ _ => (gg_name (n := 8) 4 sc_law_times.nd)) rfl (by decide) (fun D r hr1 _ _ _ _ _ => ?_)
    exact ge_ixN (d := 0) (ge_var 4 (R := rL rI) (x := r)) (ge_var 3 (R := rNat) (x := k)) (by rw [hb.2 r hr1]; exact List.mem_range.mp hk)
  refine gs_ret (GF.ge (GF.to (x := a.map fun row => ((List.range n).map (colT b)).map (dotT row)) ?_ ?_))
  · refine gf_lc (own := [("_law_row", 4)]) (fun row : List Int => ((List.range n).map (colT b)).map (dotT row)) rfl sc_law_times.nd (gi_list (ge_var 0)) (blkOk_by (N := N_law_times) (sc := defScope S_law_times) (by decide +kernel)) (fun _ _ _ _ _ => (gg_name (n := 8) 4 sc_law_times.nd)) rfl (by decide) (fun D row hrow _ _ _ _ _ => ?_)
    refine GF.ge ?_
    refine gf_lc (own := [("_law_column", 5)]) (dotT row) rfl sc_law_times.nd (gi_list (ge_var 2)) (blkOk_in N_law_times (by decide +kernel)) (fun _ _ _ _ _ => (gg_name (n := 8) 5 sc_law_times.nd)) rfl (by decide) (fun D col hcol _ _ _ _ _ => ?_)
    refine ge_sum rfl B.sum (GF.ge ?_)
    refine gf_lc (own := [("_law_near", 6), ("_law_far", 7)]) (fun x : Int × Int => (x.1 * x.2 : Int)) rfl sc_law_times.nd (gi_zip (by exact B.zip) (by exact ga_cons (ge_var 4) (ga1 (ge_var 5)))) (blkOk_in N_law_times (by decide +kernel)) (fun _ _ _ _ _ => (gg_pair rfl (gg_name (n := 8) 6 sc_law_times.nd) (gg_name (n := 8) 7 sc_law_times.nd))) rfl (by decide) (fun D x hx _ _ _ _ _ => ?_)
    have hz := zip_len hx
    obtain ⟨k, hk, rfl⟩ := List.mem_map.mp hcol
    obtain ⟨r, hr1, hr2⟩ := List.mem_map.mp hz.2
    have hk := List.mem_range.mp hk
    exact ge_mul (ge_var 6) (ge_var 7) (big_mul (hba _ hrow _ hz.1) (by rw [← hr2]; exact hbb _ hr1 _ (getD_mem (by rw [hb.2 r hr1]; exact hk))))
  · unfold mulT
    rw [hg]
    refine List.map_congr_left fun row _ => ?_
    rw [List.map_map]
    exact List.map_congr_left fun k _ => times_cell row b k
abbrev N_law_word_table : List Str := ["_law_letters_here", "_law_word", "_law_found", "_law_letter"]
abbrev S_law_word_table : Stmt := tp 78
theorem sc_law_word_table : FnScope N_law_word_table ["_law_letters_here", "_law_word"] (defScope S_law_word_table) := ⟨rfl, rfl, rfl, by decide +kernel, rfl, by decide +kernel, by decide +kernel⟩
abbrev spLWordTable : Sp := spG (fun x : List (List (List Int)) × List Nat => [⟨rL (rL (rL rI)), x.1⟩, ⟨rLT rNat, x.2⟩]) (fun x => x.2.length ≤ 16 ∧ (∀ l ∈ x.2, l < x.1.length) ∧ ∃ n, HouseOk n x.1) (rL (rL rI)) (fun x => Is (wordT x.1 x.2))
theorem ok_lword_table (B : Blt mg) (GI0 : Fn Pg w K mg base "_law_idle" ["_law_size"] 1 (spLIdle)) (GP : Fn Pg w K mg base "_law_times" ["_law_one", "_law_other"] 1 (spTimes)) (D : Df K mg "_law_word_table" (tp 78) ["_law_letters_here", "_law_word"]) : Fn Pg w K mg base "_law_word_table" ["_law_letters_here", "_law_word"] 2 (spLWordTable) := by
  refine fn_df D sc_law_word_table (fun _ => rfl) (by decide) fun x hx0 f cdv A outer s H E L hr => ?_
  obtain ⟨ls, wd⟩ := x
  obtain ⟨h1, h2, n, hH⟩ : wd.length ≤ 16 ∧ (∀ l ∈ wd, l < ls.length) ∧ ∃ n, HouseOk n ls := hx0
  have hs := hH.side
  have hn := hH.2.2.2.1
  refine gs_setI 2 sc_law_word_table.nd (by exact gfn GI0 hr (sideH ls) (by show sideH ls < 1000; omega) (ga1 (ge_len (xs := ls.getD 0 []) B.len (ge_ix (xs := ls) (k := 0) (ge_var 0) ge_int rfl (getD_get (by have := hH.1; omega)))))) ?_
  refine gs_for (xs := wd) (fun i => [.val (rL (rL (rL rI))) ls, .val (rLT rNat) wd, .val (rL (rL rI)) (wordT ls (wd.take i)), .nil]) rfl PassesOwn.never (gi_lt 1 (xs := wd) (by omega)) (gg_name (n := 4) 3 sc_law_word_table.nd) (.keep (.keep (.keep (.keep .nil)))) (fun _ => rfl) (fun gs i l hx => ?_) ?_
  · have hl := h2 l (List.mem_of_getElem? hx)
    have hw := word_ok hH _ (wd.take i) rfl fun l m => h2 l (List.mem_of_mem_take m)
    have ht := hH.2.2.2.2 _ (getD_mem (d := []) hl)
    have hk : (wd.take i).length ≤ 60000 := by rw [List.length_take]; omega
    refine gs_setI (R := rL (rL rI)) (x := wordT ls (wd.take (i + 1))) 2 sc_law_word_table.nd ?_ (gs_end fun σ H hh => hh.less (.keep (.keep (.keep (.drop .nil)))))
    refine GE.to (x := mulT (wordT ls (wd.take i)) (ls.getD l [])) ?_ (by rw [take_snoc hx, wordT_snoc])
    exact gfn GP hr (wordT ls (wd.take i), ls.getD l []) ⟨⟨n, hw.1, ht.1, hH.2.2.1, by omega⟩, hw.2.big (eight_lt hk), ht.2.big (Nat.lt_of_lt_of_le (by decide : 2 < 2 ^ 2) (Nat.pow_le_pow_right (by decide) (by decide)))⟩ (ga_cons (ge_var 2) (ga1 (ge_ixN (d := []) (ge_var 0 (R := rL (rL (rL rI))) (x := ls)) (ge_var 3 (R := rNat) (x := l)) hl)))
  · rw [List.take_length]
    exact gs_ret (ge_var 2)
abbrev N_law_told : List Str := ["_law_table", "_law_row", "_law_number"]
abbrev S_law_told : Stmt := tp 79
theorem sc_law_told : FnScope N_law_told ["_law_table"] (defScope S_law_told) := ⟨rfl, rfl, rfl, by decide +kernel, rfl, by decide +kernel, by decide +kernel⟩
abbrev spLTold (C : Addr) : Sp := spG (fun x : List (List Int) => [⟨rL (rL rI), x⟩]) (fun x => ∀ r ∈ x, ∀ i ∈ r, i.natAbs < 2 ^ 4000) (rL (rL (rZ C))) (fun x => Is x)
theorem one_bg : BgQ 1 (1 : Rat) := ⟨by decide, by decide⟩
theorem ok_ltold (F : RatAll Pg w K mg base C) (D : Df K mg "_law_told" (tp 79) ["_law_table"]) : Fn Pg w K mg base "_law_told" ["_law_table"] 5 (spLTold C) := by
  refine fn_df D sc_law_told (fun _ => rfl) (by decide) fun x hx0 f cdv A outer s H E L hr => ?_
  have hx1 : ∀ r ∈ x, ∀ i ∈ r, i.natAbs < 2 ^ 4000 := hx0
  refine gs_ret (GF.ge (GF.to (x := x.map fun r => r.map fun i => i) ?_ (by simp)))
  refine gf_lc (own := [("_law_row", 1)]) (fun r : List Int => r.map fun i => i) rfl sc_law_told.nd (gi_list (ge_var 0)) (blkOk_by (N := N_law_told) (sc := defScope S_law_told) (by decide +kernel)) (fun _ _ _ _ _ => (gg_name (n := 3) 1 sc_law_told.nd)) rfl (by decide) (fun D row hrow _ _ _ _ _ => ?_)
  refine GF.ge ?_
  refine gf_lc (own := [("_law_number", 2)]) (fun i : Int => i) rfl sc_law_told.nd (gi_list (ge_var 1)) (blkOk_in N_law_told (by decide +kernel)) (fun _ _ _ _ _ => (gg_name (n := 3) 2 sc_law_told.nd)) rfl (by decide) (fun D i hi _ _ _ _ _ => ?_)
  refine ge_z (GE.to (ge_qmulX (x := .inl i) F (hr.mono (by decide)) ((ge_mk1 F.F (hr.mono (by decide)) ge_int).to (y := (1 : Rat)) rfl) (ge_IQi (ge_var 2)) (OkMul.of one_bg (BgQ.int (hx1 row hrow i hi) (by decide)) (by decide))) ?_)
  exact Rat.one_mul _
end
end TW

namespace TW
/-- without taking the divisor out -/
def clear0 (l s : List Int) (p : Nat) : List Int := if l.getD p 0 = 0 then l else (l.zip s).map fun x => s.getD p 0 * x.1 - l.getD p 0 * x.2
theorem clear0_len {l s : List Int} {p : Nat} (h : l.length = s.length) : (clear0 l s p).length = l.length := by
  unfold clear0
  split
  · rfl
  · rw [List.length_map, List.length_zip]; omega
theorem clear0_lt {A B : Nat} {l s : List Int} {p : Nat} (hl : Lt A l) (hs : Lt B s) (h : l.length = s.length) (hp : p < l.length) : Lt (A + B + 1) (clear0 l s p) := by
  unfold clear0
  split
  · exact hl.mono (by omega)
  · intro y hy
    obtain ⟨x, hx, rfl⟩ := List.mem_map.mp hy
    have hz := zip_len hx
    have h2 : (s.getD p 0 * x.1 - l.getD p 0 * x.2).natAbs < 2 ^ (B + A + 1) := by
      have e1 : (s.getD p 0 * x.1).natAbs < 2 ^ (B + A) := by rw [Int.natAbs_mul, Nat.pow_add]; exact Nat.mul_lt_mul'' (lt_getD hs (by omega)) (hl _ hz.1)
      have e2 : (l.getD p 0 * x.2).natAbs < 2 ^ (B + A) := by rw [Int.natAbs_mul, Nat.pow_add, Nat.mul_comm (2 ^ B)]; exact Nat.mul_lt_mul'' (lt_getD hl hp) (hs _ hz.2)
      rw [Nat.pow_succ]
      omega
    rw [show A + B + 1 = B + A + 1 by omega]
    exact h2
theorem clear0_at {l s : List Int} {p q : Nat} (h : l.length = s.length) (hq : (l.getD p 0 ≠ 0 → s.getD p 0 * l.getD q 0 - l.getD p 0 * s.getD q 0 = 0)) (h0 : l.getD p 0 = 0 → l.getD q 0 = 0) : (clear0 l s p).getD q 0 = 0 := by
  unfold clear0
  split
  · rename_i hz; exact h0 hz
  · rename_i hz
    rw [getD_zipf (by simp) h]
    exact hq hz
def left0 (steps : List (List Int)) (row : List Int) : List Int := steps.foldl (fun l s => clear0 l s (headOf s)) row
theorem left0_snoc (a : List (List Int)) (s row : List Int) : left0 (a ++ [s]) row = clear0 (left0 a row) s (headOf s) := by unfold left0; rw [List.foldl_append]; rfl
theorem left0_spec {m : Nat} {rows : List (List Int)} (h : RowsOk m rows) {row : List Int} (hr : row.length = m) : ∀ i, i ≤ rows.length → (left0 (rows.take i) row).length = m ∧ ∀ (j : Nat) (r : List Int), j < i → rows[j]? = some r → (left0 (rows.take i) row).getD (headOf r) 0 = 0
  | 0, _ => ⟨by simpa [left0] using hr, fun j r hj => by omega⟩
  | i + 1, hi => by
    have ih := left0_spec h hr i (by omega)
    obtain ⟨s, hs⟩ : ∃ s, rows[i]? = some s := ⟨_, List.getElem?_eq_getElem (by omega)⟩
    have hsl := h.len s (List.mem_of_getElem? hs)
    rw [take_snoc hs, left0_snoc]
    have hl : (left0 (rows.take i) row).length = s.length := by rw [ih.1, hsl]
    refine ⟨by rw [clear0_len hl, ih.1], fun j r hj hjr => ?_⟩
    rcases Nat.lt_or_ge j i with h1 | h1
    · have z1 := ih.2 j r h1 hjr
      have z2 := h.zero i.pred.succ.pred i r s
      exact clear0_at hl (fun _ => by rw [z1, h.zero j i r s h1 hjr hs]; simp) fun _ => z1
    · obtain rfl : j = i := by omega
      rw [hs] at hjr; cases hjr
      exact clear0_at hl (fun _ => by rw [Int.mul_comm]; omega) id
theorem left0_lt {m A : Nat} {rows : List (List Int)} (h : RowsOk m rows) (hz : Sized rows) {row : List Int} (hr : row.length = m) (hA : Lt A row) : ∀ i, i ≤ rows.length → Lt (A + Uk i) (left0 (rows.take i) row)
  | 0, _ => by simpa [left0, Uk] using hA
  | i + 1, hi => by
    have ih := left0_lt h hz hr hA i (by omega)
    have hl := (left0_spec h hr i (by omega)).1
    obtain ⟨s, hs⟩ : ∃ s, rows[i]? = some s := ⟨_, List.getElem?_eq_getElem (by omega)⟩
    have hm := List.mem_of_getElem? hs
    rw [take_snoc hs, left0_snoc]
    refine (clear0_lt ih (hz i s hs) (by rw [hl, h.len s hm]) (by rw [hl, ← h.len s hm]; exact headOf_lt (h.ne s hm))).mono ?_
    show _ ≤ A + (2 * Uk i + 3 * i + 2)
    omega
/-- the law's left, its joins -/
def lawLeft (ss : List (List Int)) (row : List Int) : List Int := bareR (left0 ss row)
def joinQ (ss : List (List Int)) (row : List Int) : Bool := (lawLeft ss row).any fun n => n != 0
def joinS (ss : List (List Int)) (row : List Int) : List (List Int) := if joinQ ss row then ss ++ [lawLeft ss row] else ss
def stepL (ls : List (List (List Int))) (st : List (List Int) × List (List Nat)) (w : List Nat) : List (List Int) × List (List Nat) :=
  if joinQ st.1 (rowOf ls w) then (st.1 ++ [lawLeft st.1 (rowOf ls w)], st.2 ++ [w]) else st
def layerL (ls : List (List (List Int))) (rows : List (List Int)) (words : List (List Nat)) : List (List Int) × List (List Nat) := words.foldl (stepL ls) (rows, [])
def lawLoop (ls : List (List (List Int))) : Nat → List (List Nat) → List (List Int) → List (List Nat) → List (List Nat) × List (List Int)
  | 0, base, rows, _ => (base, rows)
  | k + 1, base, rows, words => if words.isEmpty then (base, rows) else
      lawLoop ls k (base ++ (layerL ls rows words).2) (layerL ls rows words).1 (if (layerL ls rows words).2.isEmpty then [] else nextW ls words)
def lawBase (ls : List (List (List Int))) : List (List Nat) × List (List Int) := lawLoop ls 12 [] [] [[]]
theorem Ci.tryL {n : Nat} {ls : List (List (List Int))} {st : List (List Int) × List (List Nat)} (h : Ci n ls st.1) {w : List Nat} (hw : Cand ls st.1.length w) : Ci n ls (stepL ls st w).1 := by
  unfold stepL
  split
  · rename_i ha
    have hl := rowOf_len h.H hw.2
    have hs := left0_spec h.ok hl st.1.length (Nat.le_refl _)
    rw [List.take_length] at hs
    have hz := left0_lt h.ok h.sz hl (rowOf_lt h.H hw.2) st.1.length (Nat.le_refl _)
    rw [List.take_length] at hz
    refine ⟨h.H, h.ok.snoc (by unfold lawLeft; rw [bareR_len]; exact hs.1) (any_ne.mp ha) fun j s hj => ?_, h.sz.snoc (hz.bare.mono ?_)⟩
    · unfold lawLeft
      rw [bareR_zero]
      exact hs.2 j s (List.getElem?_eq_some_iff.mp hj).1 hj
    · have := hw.1
      omega
  · exact h
theorem Ci.left0_small {n : Nat} {ls : List (List (List Int))} {rows : List (List Int)} (h : Ci n ls rows) {w : List Nat} (hw : Cand ls rows.length w) {i : Nat} (hi : i ≤ rows.length) : Lt 4400 (left0 (rows.take i) (rowOf ls w)) := by
  have h9 := h.le9
  refine (left0_lt h.ok h.sz (rowOf_len h.H hw.2) (rowOf_lt h.H hw.2) i hi).mono ?_
  have h1 := hw.1
  have h2 := Uk_mono (show i ≤ 9 by omega)
  have h3 := Uk9
  omega
theorem stepL_rows_le (ls : List (List (List Int))) (st : List (List Int) × List (List Nat)) (w : List Nat) : st.1.length ≤ (stepL ls st w).1.length := by
  unfold stepL; split <;> simp
theorem stepL_both (ls : List (List (List Int))) (st : List (List Int) × List (List Nat)) (w : List Nat) : (stepL ls st w).1.length + st.2.length = st.1.length + (stepL ls st w).2.length := by
  unfold stepL; split <;> simp <;> omega
theorem stepL_sub (ls : List (List (List Int))) (st : List (List Int) × List (List Nat)) (w : List Nat) {v : List Nat} (h : v ∈ (stepL ls st w).2) : v ∈ st.2 ∨ v = w := by
  unfold stepL at h
  split at h
  · rcases List.mem_append.mp h with h | h
    · exact .inl h
    · exact .inr (List.mem_singleton.mp h)
  · exact .inl h
theorem layerL_spec {n : Nat} {ls : List (List (List Int))} : ∀ (ws : List (List Nat)) (st : List (List Int) × List (List Nat)), Ci n ls st.1 → (∀ w ∈ ws, Cand ls st.1.length w) →
    Ci n ls (ws.foldl (stepL ls) st).1 ∧ st.1.length ≤ (ws.foldl (stepL ls) st).1.length ∧ (ws.foldl (stepL ls) st).1.length + st.2.length = st.1.length + (ws.foldl (stepL ls) st).2.length ∧ ∀ v ∈ (ws.foldl (stepL ls) st).2, v ∈ st.2 ∨ v ∈ ws
  | [], st, h, _ => ⟨h, Nat.le_refl _, rfl, fun v hv => .inl hv⟩
  | w :: ws, st, h, hw => by
    have h1 := h.tryL (hw w List.mem_cons_self)
    have h2 := stepL_rows_le ls st w
    obtain ⟨a, b, c, d⟩ := layerL_spec ws (stepL ls st w) h1 fun v hv => (hw v (List.mem_cons_of_mem _ hv)).mono h2
    have h3 := stepL_both ls st w
    refine ⟨a, Nat.le_trans h2 b, by rw [List.foldl_cons]; omega, fun v hv => ?_⟩
    rcases d v hv with h4 | h4
    · rcases stepL_sub ls st w h4 with h5 | h5
      · exact .inl h5
      · exact .inr (by rw [h5]; exact List.mem_cons_self)
    · exact .inr (List.mem_cons_of_mem _ h4)
/-- what holds as the law's base grows: all words of length k are next -/
structure Li (n : Nat) (ls : List (List (List Int))) (fuel k : Nat) (base : List (List Nat)) (rows : List (List Int)) (words : List (List Nat)) : Prop where
  c : Ci n ls rows
  cand : ∀ w ∈ words, w.length = k ∧ ∀ l ∈ w, l < ls.length
  kr : words ≠ [] → k ≤ rows.length
  fuel : words ≠ [] → 12 ≤ fuel + k
  size : words.length ≤ 3 ^ k
  both : base.length = rows.length
  all : ∀ w ∈ base, w.length < rows.length ∧ ∀ l ∈ w, l < ls.length
theorem Li.pos {n fuel k : Nat} {ls : List (List (List Int))} {base : List (List Nat)} {rows : List (List Int)} {words : List (List Nat)} (h : Li n ls fuel k base rows words) (hl : words ≠ []) : 0 < fuel := by
  have := h.fuel hl
  have := h.kr hl
  have := h.c.le9
  omega
theorem nextW_len (ls : List (List (List Int))) : ∀ (ws : List (List Nat)), (nextW ls ws).length = ws.length * ls.length
  | [] => by simp [nextW]
  | w :: ws => by
    have ih := nextW_len ls ws
    unfold nextW at ih ⊢
    rw [List.flatMap_cons, List.length_append, ih, List.length_map, List.length_range, List.length_cons, Nat.succ_mul, Nat.add_comm]
theorem Li.step {n fuel k : Nat} {ls : List (List (List Int))} {base : List (List Nat)} {rows : List (List Int)} {words : List (List Nat)} (h : Li n ls (fuel + 1) k base rows words) (hl : words ≠ []) :
    Li n ls fuel (k + 1) (base ++ (layerL ls rows words).2) (layerL ls rows words).1 (if (layerL ls rows words).2.isEmpty then [] else nextW ls words) := by
  have hc : ∀ w ∈ words, Cand ls rows.length w := fun w hw => ⟨by rw [(h.cand w hw).1]; exact h.kr hl, (h.cand w hw).2⟩
  obtain ⟨a, b, c, d⟩ := layerL_spec words (rows, []) h.c hc
  have c' : (layerL ls rows words).1.length + 0 = rows.length + (layerL ls rows words).2.length := c
  have b' : rows.length ≤ (layerL ls rows words).1.length := b
  have hf : ∀ w ∈ (layerL ls rows words).2, w ∈ words := fun w hw => (d w hw).elim (fun z => nomatch z) id
  have hk := h.kr hl
  refine ⟨a, fun w hw => ?_, fun hne => ?_, fun hne => ?_, ?_, by rw [List.length_append, h.both]; omega, fun w hw => ?_⟩
  · split at hw
    · cases hw
    · obtain ⟨v, hv, hw⟩ := List.mem_flatMap.mp hw
      obtain ⟨l, hl', rfl⟩ := List.mem_map.mp hw
      have h1 := h.cand v hv
      refine ⟨by simp [h1.1], fun x hx => ?_⟩
      rcases List.mem_append.mp hx with h2 | h2
      · exact h1.2 x h2
      · rw [List.mem_singleton.mp h2]; exact List.mem_range.mp hl'
  · split at hne
    · exact absurd rfl hne
    · rename_i he
      have : (layerL ls rows words).2 ≠ [] := by intro z; rw [z] at he; exact he rfl
      have := List.length_pos_iff.mpr this
      omega
  · have := h.fuel hl; omega
  · split
    · simp
    · rw [nextW_len, Nat.pow_succ]
      exact Nat.mul_le_mul h.size h.c.H.2.1
  · rcases List.mem_append.mp hw with h1 | h1
    · have := h.all w h1
      exact ⟨by omega, this.2⟩
    · have h2 := h.cand w (hf w h1)
      have h3 : 0 < (layerL ls rows words).2.length := List.length_pos_of_mem h1
      exact ⟨by rw [h2.1]; omega, h2.2⟩
theorem Li.start {n : Nat} {ls : List (List (List Int))} (h : HouseOk n ls) : Li n ls 12 0 [] [] [[]] := by
  refine ⟨⟨h, ⟨fun r hr => (nomatch hr), fun r hr => (nomatch hr), fun i j r s _ hi => by simp at hi⟩, fun k r hk => by simp at hk⟩, fun w hw => ?_, fun _ => Nat.zero_le _, fun _ => by simp, by simp, rfl, fun w hw => nomatch hw⟩
  rw [List.mem_singleton.mp hw]; exact ⟨rfl, fun l hl => nomatch hl⟩
end TW

namespace TW
open PySem PySem.Spec L2 TL
section
variable {Pg : Program} {w : World} {K : PySem.W.Frag} {mg : Str → Option Value} {base : Heap} {C CH : Addr}
abbrev N_law_divisor : List Str := ["_law_one", "_law_other"]
abbrev S_law_divisor : Stmt := tp 81
theorem sc_law_divisor : FnScope N_law_divisor ["_law_one", "_law_other"] (defScope S_law_divisor) := ⟨rfl, rfl, rfl, by decide +kernel, rfl, by decide +kernel, by decide +kernel⟩
abbrev spLDivisor : Sp := spG (fun x : Int × Int => [⟨rI, x.1⟩, ⟨rI, x.2⟩]) (fun x => x.1.natAbs < 2 ^ 9000 ∧ x.2.natAbs < 2 ^ 9000) rI (fun x => Is ((Nat.gcd x.1.natAbs x.2.natAbs : Nat) : Int))
theorem ok_ldivisor (B : Blt mg) (D : Df K mg "_law_divisor" (tp 81) ["_law_one", "_law_other"]) : Fn Pg w K mg base "_law_divisor" ["_law_one", "_law_other"] 1 (spLDivisor) := by
  refine fn_df D sc_law_divisor (fun _ => rfl) (by decide) fun x hx f cdv A outer s H E L hr => ?_
  obtain ⟨x, y⟩ := x
  obtain ⟨hx1, hy1⟩ : x.natAbs < 2 ^ 9000 ∧ y.natAbs < 2 ^ 9000 := hx
  refine gs_par (R := rI) (T := rI) (x := (x.natAbs : Int)) (y := (y.natAbs : Int)) 0 1 rfl sc_law_divisor.nd (GE.to (ge_abs (x := x) B.abs (ge_var 0)) (by split <;> omega)) (GE.to (ge_abs (x := y) B.abs (ge_var 1)) (by split <;> omega)) ?_
  refine gs_while (fun m ss => ∃ a b : Nat, Nat.gcd a b = Nat.gcd x.natAbs y.natAbs ∧ m = b ∧ a < 2 ^ 9000 ∧ b < 2 ^ 9000 ∧ ss = [.val rI (a : Int), .val rI (b : Int)]) PassesOwn.never y.natAbs ⟨x.natAbs, y.natAbs, rfl, rfl, hx1, hy1, rfl⟩ (.keep (.keep .nil)) (fun m ss hG => ?_)
  obtain ⟨a, b, hg, hmb, ha, hb, rfl⟩ := hG
  obtain rfl : b = m := hmb.symm
  refine ⟨Is (decide ((0 : Int) < (b : Int))), gt_gt (ge_var 1) ge_int, fun z => ?_, fun z => ?_⟩
  · have hb0 : 0 < b := by
      have := of_decide_eq_true (show true = decide ((0 : Int) < (b : Int)) from z).symm
      omega
    have e : (a : Int) - (a : Int) / (b : Int) * (b : Int) = ((a % b : Nat) : Int) := by
      have h1 := Nat.div_add_mod a b
      have h2 : ((a / b : Nat) : Int) = (a : Int) / (b : Int) := Int.natCast_ediv a b
      rw [← h2, ← Int.natCast_mul, Nat.mul_comm]
      omega
    refine gs_par (R := rI) (T := rI) (x := (b : Int)) (y := ((a % b : Nat) : Int)) 0 1 rfl sc_law_divisor.nd (ge_var 1) (GE.to (x := (a : Int) - (a : Int) / (b : Int) * (b : Int)) (ge_sub (ge_var 0) (ge_mul (ge_fdiv (ge_var 0) (ge_var 1) ⟨by omega, PyProof.noPylong_of_log2 (PySem.Flt.log2_lt_of (by decide) ?_)⟩) (ge_var 1) (big_mul ?_ ?_))) e) ?_
    · simpa using hb
    · refine Big.of_lt (n := 9000) ?_ (by decide)
      refine Nat.lt_of_le_of_lt (ediv_natAbs_le _ _) (by simpa using ha)
    · exact Big.of_lt (n := 9000) (by simpa using hb) (by decide)
    · have hm := Nat.mod_lt a hb0
      refine gs_end fun σ H hh => ⟨a % b, _, hm, ⟨b, a % b, ?_, rfl, hb, by omega, rfl⟩, hh⟩
      rw [← hg, Nat.gcd_comm a b, Nat.gcd_rec b a, Nat.gcd_comm]
  · have hb0 : b = 0 := by
      have := of_decide_eq_false (show false = decide ((0 : Int) < (b : Int)) from z).symm
      omega
    subst hb0
    rw [← hg, Nat.gcd_zero_right]
    exact gs_ret (ge_var 0)
abbrev N_law_long : List Str := ["_law_table", "_law_found", "_law_row"]
abbrev S_law_long : Stmt := tp 84
theorem sc_law_long : FnScope N_law_long ["_law_table"] (defScope S_law_long) := ⟨rfl, rfl, rfl, by decide +kernel, rfl, by decide +kernel, by decide +kernel⟩
abbrev spLLong : Sp := spG (fun x : List (List Int) => [⟨rL (rL rI), x⟩]) (fun x => x.flatten.length < 1000) (rL rI) (fun x => Is x.flatten)
theorem ok_llong (D : Df K mg "_law_long" (tp 84) ["_law_table"]) : Fn Pg w K mg base "_law_long" ["_law_table"] 1 (spLLong) := by
  refine fn_df D sc_law_long (fun _ => rfl) (by decide) fun t h0 f cdv A outer s H E L hr => ?_
  have h0' : t.flatten.length < 1000 := h0
  refine gs_setI (R := rL rI) (x := []) 1 sc_law_long.nd (GF.ge gf_nil) ?_
  refine gs_for (xs := t) (fun i => [.val (rL (rL rI)) t, .val (rL rI) (t.take i).flatten, .nil]) rfl PassesOwn.never (gi_list (ge_var 0)) (gg_name (n := 3) 2 sc_law_long.nd) (.keep (.keep (.keep .nil))) (fun _ => rfl) (fun gs i r hx => ?_) ?_
  · have e : (t.take (i + 1)).flatten = (t.take i).flatten ++ r := by rw [take_snoc hx]; simp
    have := take_flat_le t (i + 1)
    rw [e, List.length_append] at this
    refine gs_setI (R := rL rI) (x := (t.take (i + 1)).flatten) 1 sc_law_long.nd (GF.ge (GF.to (gf_cat (ge_var 1 (R := rL rI) (x := (t.take i).flatten)) (ge_var 2 (R := rL rI) (x := r)) (by omega)) e.symm)) (gs_end fun σ H hh => hh.less (.keep (.keep (.drop .nil))))
  · rw [List.take_length]
    exact gs_ret (ge_var 1)
abbrev rPl : Rp (Nat × List Int) := rP rNat (rL rI)
def plf (s : List Int) : Nat × List Int := (headOf s, s)
abbrev PJ : Rp (List Int) := rPl.on plf
abbrev N_law_left : List Str := ["_law_rows", "_law_row", "_law_found", "_law_common", "_law_number", "_law_place", "_law_step", "_law_high", "_law_low", "_law_near", "_law_far"]
abbrev S_law_left : Stmt := tp 82
theorem sc_law_left : FnScope N_law_left ["_law_rows", "_law_row"] (defScope S_law_left) := ⟨rfl, rfl, rfl, by decide +kernel, rfl, by decide +kernel, by decide +kernel⟩
abbrev spLLeft : Sp := spG (fun x : List (List Int) × List Int => [⟨rL PJ, x.1⟩, ⟨rL rI, x.2⟩]) (fun x => (∃ m, RowsOk m x.1 ∧ x.2.length = m) ∧ (∀ i, i ≤ x.1.length → Lt 4400 (left0 (x.1.take i) x.2)) ∧ ∀ s ∈ x.1, Lt 4400 s) (rL rI) (fun x => Is (lawLeft x.1 x.2))
theorem ok_lleft (B : Blt mg) (GD : Fn Pg w K mg base "_law_divisor" ["_law_one", "_law_other"] 1 (spLDivisor)) (D : Df K mg "_law_left" (tp 82) ["_law_rows", "_law_row"]) : Fn Pg w K mg base "_law_left" ["_law_rows", "_law_row"] 2 (spLLeft) := by
  refine fn_df D sc_law_left (fun _ => rfl) (by decide) fun x hx0 f cdv A outer s H E L hr => ?_
  obtain ⟨steps, row⟩ := x
  obtain ⟨⟨m, hR, hm⟩, h1, h2⟩ : (∃ m, RowsOk m steps ∧ row.length = m) ∧ (∀ i, i ≤ steps.length → Lt 4400 (left0 (steps.take i) row)) ∧ ∀ s ∈ steps, Lt 4400 s := hx0
  refine gs_setI 2 sc_law_left.nd (GF.ge (gf_list (xs := row) B.list (ge_LT (ge_var 1)))) ?_
  refine gs_for (T := PJ) (xs := steps) (fun i => [.val (rL PJ) steps, .val (rL rI) row, .val (rL rI) (left0 (steps.take i) row), .nil, .nil, .nil, .nil, .nil, .nil, .nil, .nil]) rfl PassesOwn.never (gi_list (ge_var 0)) (GG.on (gg_pair rfl (gg_name (n := 11) 5 sc_law_left.nd) (gg_name (n := 11) 6 sc_law_left.nd))) (.keep (.keep (.keep (.keep (.keep (.keep (.keep (.keep (.keep (.keep (.keep .nil))))))))))) (fun _ => rfl) (fun gs i s hx => ?_) ?_
  · have hi := (List.getElem?_eq_some_iff.mp hx).1
    have hs := List.mem_of_getElem? hx
    have hl := (left0_spec hR hm i (by omega)).1
    have hsl := hR.len s hs
    have hh1 := headOf_lt (hR.ne s hs)
    have b1 := h1 i (by omega)
    have b2 := h2 s hs
    have en : left0 (steps.take (i + 1)) row = clear0 (left0 (steps.take i) row) s (headOf s) := by rw [take_snoc hx, left0_snoc]
    rw [en]
    generalize left0 (steps.take i) row = l at hl b1 ⊢
    have hp : headOf s < l.length := by omega
    refine gs_if (ι := PUnit) (fun _ => ⟨L, [], H, L, [.val (rL PJ) steps, .val (rL rI) row, .val (rL rI) (clear0 l s (headOf s)), .nil, .nil, .nil, .nil, .nil, .nil, .nil, .nil], gs ++ []⟩) (gt_ne (ge_ixN (d := 0) (ge_var 2 (R := rL rI) (x := l)) (ge_var 5 (R := rNat) (x := headOf s)) hp) ge_int) (fun z => ?_) (fun z => ?_) (fun _ => gs_end fun σ H hh => hh) (fun _ => ⟨rfl, rfl, rfl⟩)
    · have z2 : ¬ l.getD (headOf s) 0 = 0 := by
        have : true = !decide (l.getD (headOf s) 0 = 0) := z
        simpa using this.symm
      have ec : clear0 l s (headOf s) = (l.zip s).map fun x => s.getD (headOf s) 0 * x.1 - l.getD (headOf s) 0 * x.2 := if_neg z2
      rw [ec]
      refine gs_asg (R := rP rI rI) (Pe := Is (s.getD (headOf s) 0, l.getD (headOf s) 0)) (ge_pair (ge_ixN (d := 0) (ge_var 6 (R := rL rI) (x := s)) (ge_var 5 (R := rNat) (x := headOf s)) hh1) (ge_ixN (d := 0) (ge_var 2 (R := rL rI) (x := l)) (ge_var 5 (R := rNat) (x := headOf s)) hp)) (gg_pair rfl (gg_name (n := 11) 7 sc_law_left.nd) (gg_name (n := 11) 8 sc_law_left.nd)) rfl (fun y py => ?_)
      cases (show _ = _ from py)
      refine gs_setLc (R := rI) (own := [("_law_near", 9), ("_law_far", 10)]) 2 (fun x : Int × Int => s.getD (headOf s) 0 * x.1 - l.getD (headOf s) 0 * x.2) rfl sc_law_left.nd (gi_zip (by exact B.zip) (by exact ga_cons (ge_var 2) (ga1 (ge_var 6)))) (blkOk_by (N := N_law_left) (sc := defScope S_law_left) (by decide +kernel)) (fun _ _ _ _ _ => (gg_pair rfl (gg_name (n := 11) 9 sc_law_left.nd) (gg_name (n := 11) 10 sc_law_left.nd))) rfl (by decide) (fun D x hx _ _ _ _ _ => ?_) ?_
      · have hz := zip_len hx
        exact ge_sub (ge_mul (ge_var 7) (ge_var 9) (big_mul (Big.of_lt (lt_getD b2 hh1) (by decide)) (Big.of_lt (b1 _ hz.1) (by decide)))) (ge_mul (ge_var 8) (ge_var 10) (big_mul (Big.of_lt (lt_getD b1 hp) (by decide)) (Big.of_lt (b2 _ hz.2) (by decide))))
      · exact gs_end fun σ H hh => ⟨⟨⟩, hh.less (.keep (.keep (.keep (.keep (.keep (.drop (.drop (.drop (.drop (.keep (.keep .nil)))))))))))⟩
    · have z2 : l.getD (headOf s) 0 = 0 := by
        have : false = !decide (l.getD (headOf s) 0 = 0) := z
        simpa using this.symm
      have ec : clear0 l s (headOf s) = l := if_pos z2
      rw [ec]
      exact gs_end fun σ H hh => ⟨⟨⟩, hh.less (.keep (.keep (.keep (.keep (.keep (.drop (.drop (.keep (.keep (.keep (.keep .nil)))))))))))⟩
  rw [List.take_length]
  have hf : Lt 4400 (left0 steps row) := by
    have := h1 steps.length (Nat.le_refl _)
    rwa [List.take_length] at this
  show GS _ _ _ _ (Is (bareR (left0 steps row))) _
  generalize left0 steps row = r at hf ⊢
  refine gs_setI 3 sc_law_left.nd ge_int ?_
  refine gs_for (xs := r) (fun i => [.nil, .nil, .val (rL rI) r, .val rI (rowG (r.take i) : Int), .nil, .nil, .nil, .nil, .nil, .nil, .nil]) rfl PassesOwn.never (gi_list (ge_var 2)) (gg_name (n := 11) 4 sc_law_left.nd) (.drop (.drop (.keep (.keep (.keep (.keep (.keep (.keep (.keep (.keep (.keep .nil))))))))))) (fun _ => rfl) (fun gs i x hx => ?_) ?_
  · have e : r.take (i + 1) = r.take i ++ [x] := take_snoc hx
    have hg : rowG (r.take i) < 2 ^ 9000 := rowG_lt fun y hy => (hf.mono (by decide) : Lt 9000 r) y (List.mem_of_mem_take hy)
    refine gs_setI (R := rI) (x := (rowG (r.take (i + 1)) : Int)) 3 sc_law_left.nd ?_ (gs_end fun σ H hh => hh.less (.keep (.keep (.keep (.keep (.drop (.keep (.keep (.keep (.keep (.keep (.keep .nil))))))))))))
    refine GE.to (gfn GD hr ((rowG (r.take i) : Int), x) ⟨by simpa using hg, (hf.mono (by decide) : Lt 9000 r) x (List.mem_of_getElem? hx)⟩ (ga_cons (ge_var 3) (ga1 (ge_var 4)))) ?_
    rw [e, rowG_snoc]; rfl
  · rw [List.take_length]
    refine gs_ret (ge_ifExp (gt_gt (ge_var 3) ge_int) (fun z => ?_) (fun z => ?_))
    · have hg : 1 < rowG r := by
        have := of_decide_eq_true (show true = decide ((1 : Int) < (rowG r : Int)) from z).symm
        omega
      refine GF.ge (GF.to (x := r.map fun x => x / (rowG r : Int)) ?_ (if_pos hg).symm)
      refine gf_lc (own := [("_law_number", 4)]) (fun x : Int => x / (rowG r : Int)) rfl sc_law_left.nd (gi_list (ge_var 2)) (blkOk_by (N := N_law_left) (sc := defScope S_law_left) (by decide +kernel)) (fun _ _ _ _ _ => (gg_name (n := 11) 4 sc_law_left.nd)) rfl (by decide) (fun D x hx _ _ _ _ _ => ?_)
      refine ge_fdiv (ge_var 4) (ge_var 3) ⟨by omega, PyProof.noPylong_of_log2 (PySem.Flt.log2_lt_of (by decide) ?_)⟩
      exact rowG_lt (hf.mono (by decide))
    · have hg : ¬ 1 < rowG r := by
        have := of_decide_eq_false (show false = decide ((1 : Int) < (rowG r : Int)) from z).symm
        omega
      exact (ge_var 2).to (if_neg hg).symm
end
end TW

namespace TW
open PySem PySem.Spec L2 TL
/-- what is handed back, and what the list at p holds then -/
def rJ (p : Addr) : Rp (Bool × List (List Int)) := ⟨fun H y v => v = .bl y.1 ∧ ∃ us, H p = some (.lst us) ∧ Paired (PJ.r (hd [p] H)) y.2 us,
  fun e ⟨h1, us, h2, h3⟩ => ⟨h1, us, e _ _ h2, Paired.monoR (fun a o ha => by
    have := hd_some ha
    exact hd_of this.1 (e _ _ this.2)) h3⟩⟩
def OkJoin (ss : List (List Int)) (row : List Int) : Prop := (∃ m, RowsOk m ss ∧ row.length = m ∧ 0 < m) ∧ (∀ i, i ≤ ss.length → Lt 4400 (left0 (ss.take i) row)) ∧ (∀ s ∈ ss, Lt 4400 s) ∧ ss.length < 1000
def spJoins : Sp := fun vs H Q _ => ∃ (p : Addr) (v : V) (us : List V) (ss : List (List Int)) (row : List Int) (L : List Addr), vs = [.ref p, v] ∧ p ∉ L ∧ (∀ l ∈ L, H l ≠ none) ∧ H p = some (.lst us) ∧ Paired (PJ.r (hd (p :: L) H)) ss us ∧ (rL TL.rI).r (hd (p :: L) H) row v ∧ OkJoin ss row ∧
  ∀ H' us', Ev [] (hd [p] H) H' → H' p = some (.lst us') → Paired (PJ.r (hd (p :: L) H')) (joinS ss row) us' → Q (.bl (joinQ ss row)) H'
section
variable {X : Cx} {Γ : TL.Env} {α τ β : Type} {R : Rp α} {T : Rp τ} {S : Rp β} {P : β → Prop} {N : L2.St → Hp → Prop} {rest : List Stmt} {pos : Pos} {e : Expr}
/-- a truth is handed back, an own list told beside it -/
theorem gs_retJ (i : Nat) {p : Addr} {ss : List (List Int)} {b : Bool} {PP : Bool × List (List Int) → Prop} (he : GE X e Γ rB (Is b)) (hs : Γ.s[i]? = some (.own p PJ ss)) (hP : PP (b, ss)) (hL : Γ.L = p :: Γ.L0) (hp : p ∉ Γ.L0) : GS X (.Return (some e) pos :: rest) Γ (rJ p) PP N := gs_cons fun σ H h D q r => s_ps (ps_ret pe_s) (he σ H h _ fun y v H' py ev z k => by
  cases (show _ = _ from py)
  cases (show _ = _ from k)
  have h1 := h.ev ev
  obtain ⟨e1, m, vs, e3, e4⟩ := h1.ok i _ hs
  refine r (b, ss) _ H' hP (h.ex.trans ev) ⟨rfl, vs, hd_of hp e3, ?_⟩
  rw [hd_hd]
  rw [hL] at e4
  exact e4)
/-- an own list of whatever lies on the heap is looked at, a list of ints comes of it -/
theorem ge_peekG {P : List Int → Prop} (hR : ∀ H x v, R.r H x v → ∃ a, v = .ref a) (i : Nat) {l : Addr} {xs : List α} {L' : List Addr} (hs : Γ.s[i]? = some (.own l R xs)) (hne : ∀ y, P y → y ≠ []) (hL : ∀ a, a ∈ L' ↔ a ∈ Γ.L ∧ a ≠ l)
    (h : GE X e { Γ with L := L', s := Γ.s.set i (.val (rL R) xs) } (rL TL.rI) P) : GE X e Γ (rL TL.rI) P := fun σ H hh Q q => h σ H (hh.froze hs hL) Q fun x v H' px ev z r => by
  refine q x v H' px ev z ?_
  obtain ⟨p, vs, rfl, hp, rp⟩ := r
  have hp' := hd_some hp
  refine ⟨p, vs, rfl, hd_of (fun m => ?_) hp'.2, Paired.imp (fun a v k => k) rp⟩
  by_cases e : p = l
  · subst e
    obtain ⟨e1, e2, ws, e3, e4⟩ := hh.ok i _ hs
    have e5 : H' p = some (.lst ws) := (ev p _ e3).1 fun z => (hh.l0 p (hh.pot p z).1).2 (hh.new i _ p hs rfl)
    rw [hp'.2] at e5
    cases e5
    cases x with
    | nil => exact hne _ px rfl
    | cons y ys =>
      cases rp with
      | cons k2 _ =>
        cases e4 with
        | cons k _ =>
          obtain ⟨a, rfl⟩ := hR _ _ _ k
          cases (show _ = _ from k2)
  · exact hp'.1 ((hL p).mpr ⟨m, e⟩)
/-- x = [e for y in ys if t], on one row -/
theorem gs_setLcF (i : Nat) {nm : Str} {p' pp : Pos} {tg it elt c : Expr} {scope : Scope} {own : List (Str × Nat)} {is : List Nat} {ap : τ → List Slot → List Slot} {n : Nat} {xs : List τ} (p : τ → Bool) (f : τ → α) (hc : X.calm = true) (hN : X.N.Nodup)
    (hi : GI X tg it Γ T (Is xs)) (ok : BlkOk X.N X.env.scope scope own) (hg : Blk X scope fun X' => GG X' tg T is ap n) (hnl : Γ.s.length = n) (his : ∀ i ∈ is, i ∈ own.map (·.2))
    (ht : ∀ D x, Blk X scope fun X' => GT X' c { Γ with L := D :: Γ.L, s := ap x (wS Γ.s (own.map (·.2))) } (Is (p x)))
    (he : ∀ D x, x ∈ xs → p x = true → Blk X scope fun X' => GE X' elt { Γ with L := D :: Γ.L, s := ap x (wS Γ.s (own.map (·.2))) } R (Is (f x)))
    (k : GS X rest { Γ with s := Γ.s.set i (.val (rL R) ((xs.filter p).map f)) } S P N) (hy : X.N[i]? = some nm := by rfl) (hn : i < Γ.s.length := by exact Nat.le_of_ble_eq_true rfl)
    (hyl : X.env.scope.names.lookup nm = some .local := by rfl) (hsw : swapsWith (.ListComp elt [⟨tg, it, [c], 0⟩] scope pp) (some (.Name nm p')) pos.line X.env = pure true := by exact sw_true rfl rfl rfl (by decide +kernel)) (hs : ∀ x, foldedSetIterable it X.env x = pure x := by intro _; rfl) :
    GS X (.Assign [.Name nm p'] (.ListComp elt [⟨tg, it, [c], 0⟩] scope pp) pos :: rest) Γ S P N := gs_cons fun σ H h D q r =>
  s_ps (ps_setLc hc hN hy hyl hsw pi_s ok (fun s H C cl fp => (⟨fun pins s' σ H' v u Q I r k => k s H C cl fp pins s' u I r⟩ : PG _ _ (sGB X scope tg))) (fun s H C cl fp => pts_one (⟨fun pins s' σ H' Q I k => k s H C cl fp pins s' I⟩ : PT _ _ (sTB X scope c)))
    (fun s H C cl fp => (⟨fun pins s' σ H' Q I k => k s H C cl fp pins s' I⟩ : PE _ _ (sEB X scope elt))) hs)
    (rd_lc (pt := fun x b => Is (p x) b) (Pe := fun x => Is (f x)) hi hnl hg his (fun D x Γ' eΓ σ H hh Q q s0 H0 C cl fp => by
        subst eΓ
        exact ht D x s0 H0 C cl fp σ H hh Q q) (fun D xs' x px mx pt => by cases (show _ = _ from px); exact he D x mx (show true = p x from pt).symm) h fun xs' bs ys a vs H' px pb py hp ev hl rr => by
      cases (show _ = _ from px)
      rw [Paired.isFilter pb] at py
      cases (Paired.isMap py)
      have h' := h.ev ev
      have m : a ∉ Γ.L := h.notL hp
      exact k _ H' (h'.set hn (R := rL R) ⟨a, vs, rfl, hd_of m hl, Paired.monoR (hd_less fun a m => List.mem_cons_of_mem _ m) rr⟩) D q r)
end
section
variable {Pg : Program} {w : World} {K : PySem.W.Frag} {mg : Str → Option Value} {base : Heap} {C CH : Addr}
theorem enum_filter (l : List Int) : ((enumL l).filter fun x : Nat × Int => !decide (x.2 = 0)).map (fun x => x.1) ≠ [] ↔ ∃ y ∈ l, y ≠ 0 := by
  constructor
  · intro h
    obtain ⟨k, hk⟩ := List.exists_mem_of_ne_nil _ h
    obtain ⟨x, hx, _⟩ := List.mem_map.mp hk
    have h1 := List.mem_filter.mp hx
    have h2 := List.of_mem_zip h1.1
    exact ⟨x.2, h2.2, by simpa using h1.2⟩
  · rintro ⟨y, hy, hn⟩ h
    obtain ⟨i, hi⟩ := List.getElem?_of_mem hy
    have hil := (List.getElem?_eq_some_iff.mp hi).1
    have hz : (enumL l)[i]? = some (i, y) := by
      unfold enumL
      rw [List.getElem?_zip_eq_some]
      exact ⟨List.getElem?_range hil, hi⟩
    have : i ∈ ((enumL l).filter fun x : Nat × Int => !decide (x.2 = 0)).map (fun x => x.1) := List.mem_map.mpr ⟨(i, y), List.mem_filter.mpr ⟨List.mem_of_getElem? hz, by simpa using hn⟩, rfl⟩
    rw [h] at this
    cases this
theorem filter_range' (f : Nat → Bool) : ∀ (n a : Nat) (j : Nat), (∀ i, i < j → f (a + i) = false) → j < n → f (a + j) = true → ((List.range' a n).filter f)[0]? = some (a + j)
  | 0, a, j, _, hj, _ => by omega
  | n + 1, a, j, h, hj, ht => by
    rw [List.range'_succ, List.filter_cons]
    cases j with
    | zero =>
      simp at ht
      rw [if_pos ht]; simp
    | succ j =>
      have h0 := h 0 (by omega)
      simp at h0
      rw [if_neg (by rw [h0]; decide)]
      have ih := filter_range' f n (a + 1) j (fun i hi => by have := h (i + 1) (by omega); rwa [show a + 1 + i = a + (i + 1) by omega]) (by omega) (by rwa [show a + 1 + j = a + (j + 1) by omega])
      rw [ih]
      congr 1; omega
theorem enum_map (l : List Int) (d : Int) : enumL l = (List.range l.length).map fun i => (i, l.getD i 0) := by
  refine List.ext_getElem? fun i => ?_
  unfold enumL
  rw [List.getElem?_map]
  rcases Nat.lt_or_ge i l.length with h | h
  · rw [List.getElem?_range h, (List.getElem?_zip_eq_some (z := (i, l.getD i 0))).mpr ⟨List.getElem?_range h, getD_get h⟩]; rfl
  · rw [List.getElem?_eq_none (by rw [List.length_zip, List.length_range]; omega), List.getElem?_eq_none (by simpa using h)]; rfl
theorem enum_first {l : List Int} (h : ∃ y ∈ l, y ≠ 0) : (((enumL l).filter fun x : Nat × Int => !decide (x.2 = 0)).map fun x => x.1)[0]? = some (headOf l) := by
  rw [enum_map l 0, List.filter_map, List.map_map]
  have e : ((fun x : Nat × Int => x.1) ∘ fun i => (i, l.getD i 0)) = id := rfl
  rw [e, List.map_id, List.range_eq_range']
  have hl := headOf_lt h
  have := filter_range' ((fun x : Nat × Int => !decide (x.2 = 0)) ∘ fun i => (i, l.getD i 0)) l.length 0 (headOf l) (fun i hi => ?_) hl ?_
  · simpa using this
  · have h1 := List.not_of_lt_findIdx (p := fun x : Int => x != 0) (xs := l) (i := i) hi
    have : l.getD i 0 = l[i]'(by omega) := by simp [List.getD, List.getElem?_eq_getElem (show i < l.length by omega)]
    simp only [Function.comp, Nat.zero_add]
    rw [this]
    simpa using h1
  · have := head_ne h
    simp only [Function.comp, Nat.zero_add]
    simpa using this
abbrev N_law_joins : List Str := ["_law_rows", "_law_row", "_law_left_here", "_law_places", "_law_place", "_law_number"]
abbrev S_law_joins : Stmt := tp 83
theorem sc_law_joins : FnScope N_law_joins ["_law_rows", "_law_row"] (defScope S_law_joins) := ⟨rfl, rfl, rfl, by decide +kernel, rfl, by decide +kernel, by decide +kernel⟩
theorem ok_joins (B : Blt mg) (GL : Fn Pg w K mg base "_law_left" ["_law_rows", "_law_row"] 2 (spLLeft)) (D : Df K mg "_law_joins" (tp 83) ["_law_rows", "_law_row"]) : Fn Pg w K mg base "_law_joins" ["_law_rows", "_law_row"] 3 (spJoins) := by
  obtain ⟨f, fd, F, m, b⟩ := D
  refine ⟨⟨f, fd, F.ok sc_law_joins (fun vs H Q E h => ?_) (fun cdv A outer s H vs Q E hr h => ?_), m, F.kp, b⟩⟩
  · obtain ⟨p, v, us, ss, row, L, rfl, _⟩ := h
    rfl
  · obtain ⟨p, v, us, ss, row, L, rfl, hpL, al, hp, hss, hrow, ⟨⟨mm, hR, hm, hmm⟩, h1, h2, h3⟩, q⟩ := h
    have key : GS (cxOf CX0 Pg w K mg base N_law_joins "_law_joins" (defScope S_law_joins) f cdv A outer s H E).nox (defBody S_law_joins) ⟨p :: L, [], hd [p] H, L, [.own p PJ ss, .val (rL TL.rI) row, .nil, .nil, .nil, .nil], []⟩ (rJ p) (Is (joinQ ss row, joinS ss row)) fun _ _ => False := by
      have hlen : (left0 ss row).length = mm := by
        have := (left0_spec hR hm ss.length (Nat.le_refl _)).1
        rwa [List.take_length] at this
      have hll : (lawLeft ss row).length = mm := by unfold lawLeft; rw [bareR_len]; exact hlen
      refine gs_setI (R := rL TL.rI) (x := lawLeft ss row) 2 sc_law_joins.nd ?_ ?_
      · refine ge_peekG (R := PJ) (L' := L) (fun H x v r => let ⟨a, _, _, e, _⟩ := r; ⟨a, e⟩) 0 rfl (fun y py => ?_) (fun a => ?_) ?_
        · cases (show _ = _ from py)
          intro z; rw [z] at hll; simp at hll; omega
        · constructor
          · intro ha; exact ⟨List.mem_cons_of_mem _ ha, fun e => hpL (e ▸ ha)⟩
          · rintro ⟨ha, hn⟩
            rcases List.mem_cons.mp ha with rfl | ha
            · exact absurd rfl hn
            · exact ha
        · exact gfn GL hr (ss, row) ⟨⟨mm, hR, hm⟩, h1, h2⟩ (ga_cons (ge_var 0) (ga1 (ge_var 1)))
      have hq : joinQ ss row = !(((enumL (lawLeft ss row)).filter fun x : Nat × Int => !decide (x.2 = 0)).map fun x => x.1).isEmpty := by
        have h5 := enum_filter (lawLeft ss row)
        unfold joinQ
        rw [Bool.eq_iff_iff, any_ne, ← h5]
        cases (((enumL (lawLeft ss row)).filter fun x : Nat × Int => !decide (x.2 = 0)).map fun x => x.1) <;> simp
      have hfirst := fun h => enum_first (l := lawLeft ss row) h
      have hj : joinS ss row = if joinQ ss row then ss ++ [lawLeft ss row] else ss := rfl
      have hqa : joinQ ss row = (lawLeft ss row).any fun n => n != 0 := rfl
      rw [hj]
      generalize joinQ ss row = b at hq hqa
      generalize lawLeft ss row = l at hq hfirst hqa
      refine gs_setLcF (R := rNat) (own := [("_law_place", 4), ("_law_number", 5)]) 3 (fun x : Nat × Int => !decide (x.2 = 0)) (fun x => x.1) rfl sc_law_joins.nd (gi_enum (xs := l) B.enum (ge_var 2)) (blkOk_by (N := N_law_joins) (sc := defScope S_law_joins) (by decide +kernel)) (fun _ _ _ _ _ => (gg_pair rfl (gg_name (n := 6) 4 sc_law_joins.nd) (gg_name (n := 6) 5 sc_law_joins.nd))) rfl (by decide) (fun D x _ _ _ _ _ => gt_ne (ge_var 5) ge_int) (fun D x hx hpx _ _ _ _ _ => ge_var 4) ?_
      refine gs_if (ι := PUnit) (fun _ => ⟨p :: L, [], hd [p] H, L, [.own p PJ (if b then ss ++ [l] else ss), .nil, .nil, .val (rL rNat) (((enumL l).filter fun x : Nat × Int => !decide (x.2 = 0)).map fun x => x.1), .nil, .nil], []⟩) (gt_neNil (R := rNat) (hr.mono (by decide)) (ge_var 3) (GF.ge gf_nil)) (fun z => ?_) (fun z => ?_) (fun _ => ?_) (fun _ => ⟨rfl, rfl, rfl⟩)
      · have hb : b = true := by rw [hq]; exact (show true = _ from z).symm
        rw [hb] at hqa ⊢
        have hex := any_ne.mp hqa.symm
        refine gs_append (R := PJ) (xs := ss) (Pe := Is l) 0 (GE.on (ge_pair (R := rNat) (x := headOf l) (S := rL TL.rI) (y := l) (ge_ix (k := 0) (ge_var 3) ge_int rfl (hfirst hex)) (ge_var 2)) fun _ _ r => r) (fun y py => ?_) (by omega)
        cases (show _ = _ from py)
        exact gs_end fun σ H hh => ⟨⟨⟩, hh.less (.keep (.drop (.drop (.keep (.keep (.keep .nil))))))⟩
      · have hb : b = false := by rw [hq]; exact (show false = _ from z).symm
        rw [hb]
        exact gs_end fun σ H hh => ⟨⟨⟩, hh.less (.keep (.drop (.drop (.keep (.keep (.keep .nil))))))⟩
      · refine gs_retJ 0 (ge_neNil (R := rNat) (hr.mono (by decide)) (ge_var 3) (GF.ge gf_nil)) rfl ?_ rfl hpL
        show _ = _
        rw [← hq]
    have hhd : hd (p :: L) (hd [p] H) = hd (p :: L) H := by
      rw [hd_hd]
      funext a
      unfold hd
      by_cases m : a ∈ p :: L
      · rw [if_pos m, if_pos (List.mem_append_left _ m)]
      · rw [if_neg m, if_neg fun m2 => (List.mem_append.mp m2).elim m fun m3 => m (List.mem_singleton.mp m3 ▸ List.mem_cons_self)]
    have start : Has ⟨p :: L, [], hd [p] H, L, [.own p PJ ss, .val (rL TL.rI) row, .nil, .nil, .nil, .nil], []⟩ (start N_law_joins [.ref p, v]) H := by
      have h0 : Has ⟨p :: L, [], H, p :: L, slotsOf [⟨rV, .ref p⟩, ⟨rL TL.rI, row⟩] 6, []⟩ (L2.start N_law_joins [.ref p, v]) H := has_start (as := [⟨rV, .ref p⟩, ⟨rL TL.rI, row⟩]) (N := N_law_joins) (Nat.le_of_ble_eq_true rfl) (fun l ml => by
        rcases List.mem_cons.mp ml with rfl | ml
        · rw [hp]; intro z; cases z
        · exact al l ml) ⟨_, _, rfl, rfl, _, _, rfl, hrow, rfl⟩
      refine ⟨h0.len, fun i t hi => ?_, h0.al, fun l ml => (nomatch ml), fun a o ha => ⟨fun _ => (hd_some ha).2, fun m => nomatch m⟩, fun i j t u l hi hj ht hu => ?_, fun l ml => ⟨List.mem_cons_of_mem _ ml, ?_⟩, fun i t l hi ht => ?_, fun g mg => nomatch mg⟩
      · cases i with
        | zero =>
          simp at hi; subst hi
          obtain ⟨v0, e1, e2⟩ := h0.ok 0 _ rfl
          cases (show _ = _ from e2)
          exact ⟨e1, List.mem_cons_self, us, hp, hss⟩
        | succ i => exact h0.ok (i + 1) t hi
      · match i, j with
        | 0, 0 => rfl
        | 0, j + 1 =>
          have := h0.sep (j + 1) (j + 1) u u l hj hj hu hu
          match j, hj with
          | 0, hj => simp at hj; subst hj; cases hu
          | 1, hj => simp at hj; subst hj; cases hu
          | 2, hj => simp at hj; subst hj; cases hu
          | 3, hj => simp at hj; subst hj; cases hu
          | 4, hj => simp at hj; subst hj; cases hu
          | j + 5, hj => simp at hj
        | 1, j => simp at hi; subst hi; cases ht
        | 2, j => simp at hi; subst hi; cases ht
        | 3, j => simp at hi; subst hi; cases ht
        | 4, j => simp at hi; subst hi; cases ht
        | 5, j => simp at hi; subst hi; cases ht
        | i + 6, j => simp at hi
      · intro z
        have hne : l ≠ p := fun e => hpL (e ▸ ml)
        have z2 : hd [p] H l = none := z
        unfold hd at z2
        rw [if_neg (by simp [hne])] at z2
        exact al l ml z2
      · match i with
        | 0 =>
          simp at hi; subst hi
          cases (Option.some.inj ht)
          show hd [p] H p = none
          unfold hd
          rw [if_pos List.mem_cons_self]
        | 1 => simp at hi; subst hi; cases ht
        | 2 => simp at hi; subst hi; cases ht
        | 3 => simp at hi; subst hi; cases ht
        | 4 => simp at hi; subst hi; cases ht
        | 5 => simp at hi; subst hi; cases ht
        | i + 6 => simp at hi
    refine ⟨_, PSs.nox pss_s, key _ H start _ (fun _ _ z => z.elim) fun y v' H' py ev rr => ?_⟩
    cases (show _ = _ from py)
    obtain ⟨rfl, us', e1, e2⟩ := rr
    rw [hd_hd] at e2
    exact q H' us' ev (hd_some e1).2 e2
end
end TW

namespace TW
open PySem PySem.Spec L2 TL
section
variable {X : Cx} {Γ : TL.Env} {α τ β : Type} {R : Rp α} {T : Rp τ} {S : Rp β} {P : β → Prop} {N : L2.St → Hp → Prop} {rest : List Stmt} {pos : Pos} {e : Expr}
theorem hd_congr {L M : List Addr} {H : Hp} (h : ∀ a, a ∈ L ↔ a ∈ M) : hd L H = hd M H := by
  funext a
  unfold hd
  by_cases m : a ∈ L
  · rw [if_pos m, if_pos ((h a).mp m)]
  · rw [if_neg m, if_neg fun z => m ((h a).mpr z)]
theorem joined {σ : L2.St} {H1 H' : Hp} {i : Nat} {p : Addr} {ss tt : List (List Int)} {us' : List V} (h : Has Γ σ H1) (hs : Γ.s[i]? = some (.own p PJ ss)) (ev : Ev [] (hd [p] H1) H') (hp' : H' p = some (.lst us')) (r : Paired (PJ.r (hd Γ.L H')) tt us') :
    Has { Γ with s := Γ.s.set i (.own p PJ tt) } σ H' := by
  obtain ⟨e1, m, us, e3, e4⟩ := h.ok i _ hs
  have ex : Ex H1 (upd H' p (.lst us)) := fun a o ha => by
    by_cases e : a = p
    · subst e; rw [upd_same, ← e3, ha]
    · rw [upd_ne e]
      exact (ev a o (hd_of (by simp [e]) ha)).1 (fun z => nomatch z)
  have h1 := h.exx ex
  have h2 := h1.write (ys := tt) (ws := us') hs (by rw [hd_upd_in m]; exact r)
  have e5 : upd (upd H' p (.lst us)) p (.lst us') = H' := by
    rw [upd_upd]
    funext a
    by_cases e : a = p
    · subst e; rw [upd_same, hp']
    · rw [upd_ne e]
  rw [e5] at h2
  exact h2
/-- if the row joins the own list: .. -/
theorem gs_ifJ (i : Nat) {nm : Str} {p : Addr} {ss : List (List Int)} {row : List Int} {k j : Nat} {ps : List Str} {body : List Stmt} {p1 p2 p3 : Pos} (F : Fn X.prog X.w X.K X.mg X.base "_law_joins" ps k spJoins) (hr : Room j X.A) (hj : k ≤ j)
    (he : GE X e Γ (rL TL.rI) (Is row)) (ok : OkJoin ss row) (h1 : joinQ ss row = true → GS X body { Γ with s := Γ.s.set i (.own p PJ (joinS ss row)) } S P N) (h2 : joinQ ss row = false → ∀ σ H, Has { Γ with s := Γ.s.set i (.own p PJ (joinS ss row)) } σ H → N σ H)
    (hs : Γ.s[i]? = some (.own p PJ ss) := by rfl) (hN : X.N[i]? = some nm := by rfl) (hv : Vis X.env.scope nm := by first | exact Or.inl rfl | exact Or.inr (Or.inl rfl) | exact Or.inr (Or.inr rfl)) (hdb : (nm == ("__debug__" : Str)) = false := by decide)
    (hcd : (nm == ("__classdict__" : Str)) = false := by decide) (hg : Gl X "_law_joins" := by rfl)
    (hs1 : starEach [.Name nm p1, e] X.env = (false, eval (.Name nm p1) X.env) :: starEach [e] X.env := by rfl) (hs2 : starEach [e] X.env = (false, eval e X.env) :: starEach [] X.env := by rfl) (hpl : (backTo p3 (starEach [e] X.env)).any (·.1) = false := by rfl)
    (hT : ∀ whole, isTrue (.Call (.Name "_law_joins" p2) [.Name nm p1, e] [] p3) X.env whole = (do let v ← whole; standAt (Expr.Call (.Name "_law_joins" p2) [.Name nm p1, e] [] p3).pos; holding [v] (truthy v)) := by intro _; rfl) :
    GS X [.If (.Call (.Name "_law_joins" p2) [.Name nm p1, e] [] p3) body [] pos] Γ S P N := gs_cons fun σ H h D q r => by
  obtain ⟨f, fd, G, m, kp, hb⟩ := F.ex
  refine s_ps (ps_if (pt_val (pe_call G (hr.mono hj) hg m kp hb .nil pass0 (pa_cons (pe_var hN hv hdb hcd) (pa_cons pe_s pa_nil hs2) hs1) (by decide) hs1 hpl) hT) pss_s pss_nil) ?_
  obtain ⟨e1, mp, us0, e30, e40⟩ := h.ok i _ hs
  refine ⟨_, e1, he σ H h _ fun x v H1 px ev z rr => ?_⟩
  cases (show _ = _ from px)
  have h' := h.ev ev
  obtain ⟨_, _, us, e3, e4⟩ := h'.ok i _ hs
  have hL : ∀ a, a ∈ p :: Γ.L.filter (fun l => l ≠ p) ↔ a ∈ Γ.L := fun a => by
    rw [List.mem_cons, List.mem_filter]
    constructor
    · rintro (rfl | h)
      · exact mp
      · exact h.1
    · intro h
      by_cases ea : a = p
      · exact .inl ea
      · exact .inr ⟨h, by simpa using ea⟩
  have hh : ∀ {H : Hp}, hd (p :: Γ.L.filter (fun l => l ≠ p)) H = hd Γ.L H := hd_congr hL
  refine ⟨p, v, us, ss, row, Γ.L.filter (fun l => l ≠ p), rfl, by simp, fun l ml => h'.al l (List.mem_filter.mp ml).1, e3, by rw [hh]; exact e4, by rw [hh]; exact rr, ok, fun H' us' ev' hp' r' => ⟨joinQ ss row, rfl, ?_⟩⟩
  rw [hh] at r'
  have hf := joined h' hs ev' hp' r'
  cases hq : joinQ ss row with
  | true => exact h1 hq σ H' hf _ (fun σ2 H2 n => s_pss pss_nil (q σ2 H2 n)) r
  | false => exact s_pss pss_nil (q σ H' (h2 hq σ H' hf))
/-- a row joins a fresh list: only the answer is seen -/
theorem gt_joinsF {a b : Expr} {ss : List (List Int)} {row : List Int} {k j : Nat} {ps : List Str} {p2 p3 : Pos} (F : Fn X.prog X.w X.K X.mg X.base "_law_joins" ps k spJoins) (hr : Room j X.A) (hj : k ≤ j)
    (ha : GF X a Γ PJ (Is ss)) (hb : ∀ p, GE X b { Γ with L := p :: Γ.L } (rL TL.rI) (Is row)) (ok : OkJoin ss row) (hg : Gl X "_law_joins" := by rfl)
    (hs1 : starEach [a, b] X.env = (false, eval a X.env) :: starEach [b] X.env := by rfl) (hs2 : starEach [b] X.env = (false, eval b X.env) :: starEach [] X.env := by rfl) (hpl : (backTo p3 (starEach [b] X.env)).any (·.1) = false := by rfl)
    (hT : ∀ whole, isTrue (.Call (.Name "_law_joins" p2) [a, b] [] p3) X.env whole = (do let v ← whole; standAt (Expr.Call (.Name "_law_joins" p2) [a, b] [] p3).pos; holding [v] (truthy v)) := by intro _; rfl) :
    GT X (.Call (.Name "_law_joins" p2) [a, b] [] p3) Γ (Is (joinQ ss row)) := by
  obtain ⟨f, fd, G, m, kp, hbd⟩ := F.ex
  refine gt_of (pt_val (pe_call G (hr.mono hj) hg m kp hbd .nil pass0 (pa_cons pe_s (pa_cons pe_s pa_nil hs2) hs1) (by decide) hs1 hpl) hT) fun σ H h Q q => ha σ H h _ fun xs p us H1 px hp ev hl r => ?_
  cases (show _ = _ from px)
  have g0 := h.hide hp ev (by rw [hl]; intro z; cases z)
  refine hb p σ H1 g0 _ fun y v H2 py ev2 z2 r2 => ?_
  cases (show _ = _ from py)
  have hl2 : H2 p = some (.lst us) := (ev2 p _ hl).1 fun z => (h.l0 p (h.pot p z).1).2 (h.back hp)
  have h2 := g0.ev ev2
  refine ⟨p, v, us, ss, row, Γ.L, rfl, h.notL hp, fun l ml => h2.al l (List.mem_cons_of_mem _ ml), hl2, Paired.monoR (g0.hdx ev2) r, r2, ok, fun H' us' ev' hp' r' => ⟨joinQ ss row, rfl, q _ H' rfl fun c o hc => ?_⟩⟩
  have e12 : Ev Γ.P H H2 := ev.trans ev2
  have hcp : c ≠ p := fun z => by rw [z, hp] at hc; cases hc
  refine ⟨fun n => (ev' c o (hd_of (by simp [hcp]) ((e12 c o hc).1 n))).1 (fun z => nomatch z), fun mm => ?_⟩
  obtain ⟨x1, x2, x3, x4, x5⟩ := (e12 c o hc).2 mm
  exact ⟨x1, x2, x3, x4, (ev' c _ (hd_of (by simp [hcp]) x5)).1 (fun z => nomatch z)⟩
/-- a, b, c = x, [..], [..]: the latter two are to be changed -/
theorem gs_par3 (i j l : Nat) {nm mm oo : Str} {px py pz pt pt2 : Pos} {kt k2 : Nat} {a b c : Expr} {x : α} {ys : List τ} {γ : Type} {U : Rp γ} {zs : List γ} (hc : X.calm = true) (hN : X.N.Nodup) (ha : GE X a Γ R (Is x)) (hb : GF X b Γ T (Is ys)) (hcc : ∀ p, GF X c { Γ with L := p :: Γ.L } U (Is zs))
    (k : ∀ p q, p ∉ Γ.L → q ∉ p :: Γ.L → GS X rest { Γ with L := q :: p :: Γ.L, s := ((Γ.s.set i (.val R x)).set j (.own p T ys)).set l (.own q U zs) } S P N)
    (hi : X.N[i]? = some nm := by rfl) (hj : X.N[j]? = some mm := by rfl) (hl : X.N[l]? = some oo := by rfl) (hij : i ≠ j := by decide) (hil : i ≠ l := by decide) (hjl : j ≠ l := by decide) (hni : i < Γ.s.length := by exact Nat.le_of_ble_eq_true rfl) (hnj : j < Γ.s.length := by exact Nat.le_of_ble_eq_true rfl) (hnl : l < Γ.s.length := by exact Nat.le_of_ble_eq_true rfl)
    (hx : X.env.scope.names.lookup nm = some .local := by rfl) (hy : X.env.scope.names.lookup mm = some .local := by rfl) (hz : X.env.scope.names.lookup oo = some .local := by rfl)
    (hw : swappedStores [.Tuple [.Name nm px, .Name mm py, .Name oo pz] kt pt] (.Tuple [a, b, c] k2 pt2) X.env = pure (some [nm, mm, oo]) := by rfl) (hs : swapsWithSole [.Tuple [.Name nm px, .Name mm py, .Name oo pz] kt pt] (.Tuple [a, b, c] k2 pt2) pos.line X.env = pure false := by rfl)
    (hs1 : starEach [a, b, c] X.env = (false, eval a X.env) :: starEach [b, c] X.env := by rfl) (hs2 : starEach [b, c] X.env = (false, eval b X.env) :: starEach [c] X.env := by rfl) (hs3 : starEach [c] X.env = (false, eval c X.env) :: starEach [] X.env := by rfl) :
    GS X (.Assign [.Tuple [.Name nm px, .Name mm py, .Name oo pz] kt pt] (.Tuple [a, b, c] k2 pt2) pos :: rest) Γ S P N := gs_cons fun σ H h D q r =>
  s_ps (ps_par3 hc hN hi hj hl hij hil hjl hx hy hz (pa_cons pe_s (pa_cons pe_s (pa_cons pe_s pa_nil hs3) hs2) hs1) hw hs) (ha σ H h _ fun x' v H1 p0 e0 z0 r0 => hb σ H1 (h.ev e0) _ fun xs' p vs H2 p1 hp e1 hl r1 => by
    cases (show _ = _ from p0)
    cases (show _ = _ from p1)
    have h1 := h.ev e0
    have g0 := h1.hide hp e1 (by rw [hl]; intro z; cases z)
    refine hcc p σ H2 g0 _ fun zs' q' ws H3 p3 hq e3 hl3 r3 => ?_
    cases (show _ = _ from p3)
    refine ⟨v, .ref p, .ref q', rfl, k p q' (h1.notL hp) (g0.notL hq) _ H3 ?_ D q r⟩
    have hl2 : H3 p = some (.lst vs) := (e3 p _ hl).1 fun z => (h1.l0 p (h1.pot p z).1).2 (h1.back hp)
    have a1 := h1.set (i := i) hni r0
    have a2 : Has { Γ with L := p :: Γ.L, s := (Γ.s.set i (.val R x)).set j (.own p T ys) } ((σ.set i (some v)).set j (some (.ref p))) H2 := a1.owned (by show j < (Γ.s.set i _).length; rw [List.length_set]; exact hnj) hp e1 hl r1
    exact a2.owned (by show l < ((Γ.s.set i _).set j _).length; rw [List.length_set, List.length_set]; exact hnl) hq e3 hl3 r3)
end
section
variable {Pg : Program} {w : World} {K : PySem.W.Frag} {mg : Str → Option Value} {base : Heap} {C CH : Addr}
theorem ok_join_of {n : Nat} {ls : List (List (List Int))} {rows : List (List Int)} (h : Ci n ls rows) {w : List Nat} (hw : Cand ls rows.length w) : OkJoin rows (rowOf ls w) := by
  have h9 := h.le9
  refine ⟨⟨n * n, h.ok, rowOf_len h.H hw.2, Nat.mul_pos h.H.2.2.1 h.H.2.2.1⟩, fun i hi => h.left0_small hw hi, h.row_small, by omega⟩
abbrev N_law_base : List Str := ["_law_letters_here", "_law_words", "_law_base_here", "_law_rows", "_law_fresh", "_law_word", "_law_longer", "_law_letter"]
abbrev S_law_base : Stmt := tp 85
theorem sc_law_base : FnScope N_law_base ["_law_letters_here"] (defScope S_law_base) := ⟨rfl, rfl, rfl, by decide +kernel, rfl, by decide +kernel, by decide +kernel⟩
abbrev spLBase : Sp := spG (fun x : List (List (List Int)) => [⟨rL (rL (rL rI)), x⟩]) (fun x => ∃ n, HouseOk n x) (rP (rL (rL rNat)) (rL PJ)) (fun x => Is (lawBase x))
def lbW : List Stmt := subs ((defBody S_law_base).getD 1 (.Pass ⟨0, 0, 0, 0⟩))
theorem pow_small {k : Nat} (h : k ≤ 9) : 3 ^ k ≤ 19683 := Nat.pow_le_pow_right (n := 3) (by decide) h
theorem lb_body (B : Blt mg) (GJ : Fn Pg w K mg base "_law_joins" ["_law_rows", "_law_row"] 3 (spJoins)) (GT0 : Fn Pg w K mg base "_law_word_table" ["_law_letters_here", "_law_word"] 2 (spLWordTable)) (GL : Fn Pg w K mg base "_law_long" ["_law_table"] 1 (spLLong)) {n : Nat} {ls : List (List (List Int))} {k m : Nat} {base0 : List (List Nat)} {rows : List (List Int)} {words : List (List Nat)} (hL : Li n ls (m + 1) k base0 rows words) (hne : words ≠ [])
    {f : Addr} {cdv : Value} {A : Around} {outer : List PySem.Env} {s : Shared} {H : Hp} {E : XK} {L : List Addr} (hr : Room 3 (A.deeper (PyProof.Rows.envOfC "_law_base" (defScope S_law_base) s.heap.objs.size f cdv)))
    {p1 p2 : Addr} (hp1 : p1 ∉ L) (hp2 : p2 ∉ p1 :: L) {P : List (List Nat) × List (List Int) → Prop} :
    GS (cxOf CX0 Pg w K mg base N_law_base "_law_base" (defScope S_law_base) f cdv A outer s H E).nox lbW ⟨p2 :: p1 :: L, [], H, L, [.val (rL (rL (rL rI))) ls, .val (rL (rL rNat)) words, .own p1 (rL rNat) base0, .own p2 PJ rows, .nil, .nil, .nil, .nil], []⟩ (rP (rL (rL rNat)) (rL PJ)) P
      fun σ H' => Has ⟨p2 :: p1 :: L, [], H, L, [.val (rL (rL (rL rI))) ls, .val (rL (rL rNat)) (if (layerL ls rows words).2.isEmpty then [] else nextW ls words), .own p1 (rL rNat) (base0 ++ (layerL ls rows words).2), .own p2 PJ (layerL ls rows words).1, .nil, .nil, .nil, .nil], []⟩ σ H' := by
  have hH := hL.c.H
  have h9 := hL.c.le9
  have hk := hL.kr hne
  have hnext := hL.step hne
  have hmb := hnext.both
  have h9' := hnext.c.le9
  rw [List.length_append] at hmb
  have hws : words.length ≤ 19683 := Nat.le_trans hL.size (pow_small (by omega))
  refine gs_own (R := rL rNat) (Pe := Is []) 4 sc_law_base.nd gf_nil (fun xs q pxs hq => ?_)
  cases (show _ = _ from pxs)
  have hinv : ∀ i, Ci n ls (layerL ls rows (words.take i)).1 ∧ rows.length ≤ (layerL ls rows (words.take i)).1.length ∧ (layerL ls rows (words.take i)).1.length + 0 = rows.length + (layerL ls rows (words.take i)).2.length := fun i => by
    have hsp := layerL_spec (words.take i) (rows, []) hL.c fun w hw => ⟨by rw [(hL.cand w (List.mem_of_mem_take hw)).1]; exact hk, (hL.cand w (List.mem_of_mem_take hw)).2⟩
    exact ⟨hsp.1, hsp.2.1, hsp.2.2.1⟩
  refine gs_for (xs := words) (fun i => [.val (rL (rL (rL rI))) ls, .val (rL (rL rNat)) words, .own p1 (rL rNat) base0, .own p2 PJ (layerL ls rows (words.take i)).1, .own q (rL rNat) (layerL ls rows (words.take i)).2, .nil, .nil, .nil]) rfl PassesOwn.never (gi_list (ge_var 1)) (gg_name (n := 8) 5 sc_law_base.nd) (.keep (.keep (.keep (.keep (.keep (.keep (.keep (.keep .nil)))))))) (fun _ => rfl) (fun gs i wd hx => ?_) ?_
  · obtain ⟨hc, hle, hb⟩ := hinv i
    have hwd := hL.cand wd (List.mem_of_getElem? hx)
    have est : layerL ls rows (words.take (i + 1)) = stepL ls (layerL ls rows (words.take i)) wd := by
      unfold layerL
      rw [take_snoc hx, List.foldl_append]; rfl
    rw [est]
    generalize layerL ls rows (words.take i) = st at hc hle hb
    obtain ⟨rw1, fr1⟩ := st
    have hcw : Cand ls rw1.length wd := ⟨by have h1 : rows.length ≤ rw1.length := hle; have := hwd.1; omega, hwd.2⟩
    have hj := ok_join_of (rows := rw1) hc hcw
    have hfr : fr1.length ≤ 9 := by have h1 : rw1.length + 0 = rows.length + fr1.length := hb; have h2 : rw1.length ≤ 9 := hc.le9; omega
    have hrl := rowOf_len hH hwd.2
    have hn3 := hH.2.2.2.1
    have hnn := Nat.mul_le_mul hn3 hn3
    refine gs_ifJ (ss := rw1) (row := rowOf ls wd) 3 GJ hr (by decide) ?_ hj (fun hq1 => ?_) (fun hq1 σ H2 hh => ?_)
    · refine gfn GL hr (wordT ls wd) (by show (rowOf ls wd).length < 1000; omega) (ga1 ?_)
      exact gfn GT0 hr (ls, wd) ⟨by show wd.length ≤ 16; have := hwd.1; omega, hwd.2, n, hH⟩ (ga_cons (ge_var 0) (ga1 (ge_LT (ge_var 5))))
    · have ej : joinS rw1 (rowOf ls wd) = rw1 ++ [lawLeft rw1 (rowOf ls wd)] := if_pos hq1
      have es : stepL ls (rw1, fr1) wd = (rw1 ++ [lawLeft rw1 (rowOf ls wd)], fr1 ++ [wd]) := if_pos hq1
      rw [es, ej]
      refine gs_append (R := rL rNat) (xs := fr1) (Pe := Is wd) 4 (ge_var 5) (fun y py => ?_) (by omega)
      cases (show _ = _ from py)
      exact gs_end fun σ H hh => hh.less (.keep (.keep (.keep (.keep (.keep (.drop (.keep (.keep .nil))))))))
    · have hq2 : ¬ joinQ rw1 (rowOf ls wd) = true := by rw [hq1]; decide
      have ej : joinS rw1 (rowOf ls wd) = rw1 := if_neg hq2
      have es : stepL ls (rw1, fr1) wd = (rw1, fr1) := if_neg hq2
      rw [es]
      rw [ej] at hh
      exact hh.less (.keep (.keep (.keep (.keep (.keep (.drop (.keep (.keep .nil))))))))
  rw [List.take_length]
  generalize layerL ls rows words = st at hmb h9' ⊢
  obtain ⟨rw1, fr1⟩ := st
  have hbl : base0.length + fr1.length ≤ 9 := by have h1 : base0.length + fr1.length = rw1.length := hmb; have h2 : rw1.length ≤ 9 := h9'; omega
  refine gs_froze1 (R := rL rNat) (xs := fr1) 4 rfl rfl hq ?_
  refine gs_extend (R := rL rNat) (xs := base0) (Pe := Is fr1) 2 (ge_var 4) (fun ys py => ?_) (fun ys py => by cases (show _ = _ from py); omega)
  cases (show _ = _ from py)
  refine gs_own (R := rL rNat) (Pe := Is []) 6 sc_law_base.nd gf_nil (fun xs q2 pxs hq2 => ?_)
  cases (show _ = _ from pxs)
  refine gs_for (xs := words) (fun i => [.val (rL (rL (rL rI))) ls, .val (rL (rL rNat)) words, .own p1 (rL rNat) (base0 ++ fr1), .own p2 PJ rw1, .val (rL (rL rNat)) fr1, .nil, .own q2 (rL rNat) (nextW ls (words.take i)), .nil]) rfl PassesOwn.never (gi_list (ge_var 1)) (gg_name (n := 8) 5 sc_law_base.nd) (.keep (.keep (.keep (.keep (.keep (.keep (.keep (.keep .nil)))))))) (fun _ => rfl) (fun gs i wd hx => ?_) ?_
  · have hwd := hL.cand wd (List.mem_of_getElem? hx)
    have hln : (nextW ls (words.take i)).length ≤ 59049 := by
      rw [nextW_len]
      have h1 : (words.take i).length ≤ 19683 := by rw [List.length_take]; omega
      have := Nat.mul_le_mul h1 hH.2.1
      omega
    have hl3 := hH.2.1
    refine gs_extend (R := rL rNat) (xs := nextW ls (words.take i)) (Pe := Is ((List.range ls.length).map fun l => wd ++ [l])) 6 (GF.ge ?_) (fun ys py => ?_) (fun ys py => by cases (show _ = _ from py); simp; omega)
    · refine gf_lc (T := rNat) (own := [("_law_letter", 7)]) (fun l => wd ++ [l]) rfl sc_law_base.nd (range_GI B.range (ge_len (xs := ls) B.len (ge_var 0)) (by omega)) (blkOk_by (N := N_law_base) (sc := defScope S_law_base) (by decide +kernel)) (fun _ _ _ _ _ => (gg_name (n := 8) 7 sc_law_base.nd)) rfl (by decide) (fun D l hl _ _ _ _ _ => ?_)
      refine GF.ge (gf_cat (ge_var 5 (R := rL rNat) (x := wd)) (ge_lst [l] (ga1 (ge_var 7)) rfl (Nat.le_of_ble_eq_true rfl)) ?_)
      have := hwd.1
      simp; omega
    · cases (show _ = _ from py)
      rw [take_snoc hx, nextW_snoc]
      exact gs_end fun σ H hh => hh.less (.keep (.keep (.keep (.keep (.keep (.drop (.keep (.keep .nil))))))))
  rw [List.take_length]
  refine gs_froze1 (R := rL rNat) (xs := nextW ls words) 6 rfl rfl hq2 ?_
  refine gs_setI (R := rL (rL rNat)) (x := if fr1.isEmpty then [] else nextW ls words) 1 sc_law_base.nd (ge_ifExp (gt_neNil (R := rL rNat) (hr.mono (by decide)) (ge_var 4) (GF.ge gf_nil)) (fun z => ?_) (fun z => ?_)) ?_
  · have z2 : fr1.isEmpty = false := by
      have : true = !fr1.isEmpty := z
      simpa using this.symm
    rw [z2]; exact ge_var 6
  · have z2 : fr1.isEmpty = true := by
      have : false = !fr1.isEmpty := z
      simpa using this.symm
    rw [z2]; exact GF.ge gf_nil
  exact gs_end fun σ H hh => hh.less (.keep (.keep (.keep (.keep (.drop (.keep (.drop (.keep .nil))))))))
theorem ok_lbase (B : Blt mg) (GJ : Fn Pg w K mg base "_law_joins" ["_law_rows", "_law_row"] 3 (spJoins)) (GT0 : Fn Pg w K mg base "_law_word_table" ["_law_letters_here", "_law_word"] 2 (spLWordTable)) (GL : Fn Pg w K mg base "_law_long" ["_law_table"] 1 (spLLong)) (D : Df K mg "_law_base" (tp 85) ["_law_letters_here"]) : Fn Pg w K mg base "_law_base" ["_law_letters_here"] 4 (spLBase) := by
  refine fn_df D sc_law_base (fun _ => rfl) (by decide) fun ls hx0 f cdv A outer s H E L hr => ?_
  obtain ⟨n, hH⟩ := hx0
  have hL0 := Li.start hH
  refine gs_par3 (R := rL (rL rNat)) (T := rL rNat) (U := PJ) (x := [[]]) (ys := []) (zs := []) 1 2 3 rfl sc_law_base.nd (ge_lst [[]] (ga1 (GF.ge gf_nil)) rfl (Nat.le_of_ble_eq_true rfl)) gf_nil (fun p => gf_nil) (fun p1 p2 hp1 hp2 => ?_)
  refine gs_while (fun m ss => ∃ k base rows words, Li n ls m k base rows words ∧ lawLoop ls m base rows words = lawBase ls ∧ ss = [.val (rL (rL (rL rI))) ls, .val (rL (rL rNat)) words, .own p1 (rL rNat) base, .own p2 PJ rows, .nil, .nil, .nil, .nil]) PassesOwn.never 12 ⟨0, [], [], [[]], hL0, rfl, rfl⟩ (.keep (.keep (.keep (.keep (.keep (.keep (.keep (.keep .nil)))))))) (fun m ss hG => ?_)
  obtain ⟨k, base0, rows, words, hL, hfin, rfl⟩ := hG
  refine ⟨Is (!words.isEmpty), gt_neNil (R := rL rNat) (hr.mono (by decide)) (ge_var 1) (GF.ge gf_nil), fun z => ?_, fun z => ?_⟩
  · have hem : words.isEmpty = false := by
      have : true = !words.isEmpty := z
      simpa using this.symm
    have hne : words ≠ [] := by intro e; rw [e] at hem; cases hem
    obtain ⟨m, rfl⟩ : ∃ m', m = m' + 1 := ⟨m - 1, by have := hL.pos hne; omega⟩
    refine (lb_body B GJ GT0 GL hL hne hr hp1 hp2).more fun σ H hh => ⟨m, _, by omega, ⟨k + 1, _, _, _, hL.step hne, ?_, rfl⟩, hh⟩
    rw [← hfin]
    conv => rhs; unfold lawLoop
    rw [hem]; rfl
  · have hem : words.isEmpty = true := by
      have : false = !words.isEmpty := z
      simpa using this.symm
    have e : lawBase ls = (base0, rows) := by
      rw [← hfin]
      cases m with
      | zero => rfl
      | succ k => unfold lawLoop; rw [hem]; rfl
    rw [e]
    refine gs_froze1 (R := PJ) (xs := rows) 3 rfl rfl hp2 ?_
    refine gs_froze1 (R := rL rNat) (xs := base0) 2 rfl rfl hp1 ?_
    exact gs_ret (ge_pair (ge_var 2) (ge_var 3))
end
end TW

namespace TW
open PySem PySem.Spec L2 TL
section
variable {X : Cx} {Γ : TL.Env} {e a b : Expr} {p pos : Pos} {α β : Type} {R : Rp α} {S : Rp β}
theorem ge_addP {Pa Pb P : Int → Prop} (ha : GE X a Γ TL.rI Pa) (hb : GE X b Γ TL.rI Pb) (h : ∀ x y, Pa x → Pb y → P (x + y)) : GE X (.BinOp a .Add b pos) Γ TL.rI P :=
  ge_op2 op_add ha hb fun σ H x y v u hh _ p1 p2 r1 r2 Q q => by
    cases (show _ = _ from r1); cases (show _ = _ from r2)
    exact ⟨x, y, rfl, rfl, q _ _ H (h x y p1 p2) hh.evr rfl⟩
theorem ge_subP {Pa Pb P : Int → Prop} (ha : GE X a Γ TL.rI Pa) (hb : GE X b Γ TL.rI Pb) (h : ∀ x y, Pa x → Pb y → P (x - y)) : GE X (.BinOp a .Sub b pos) Γ TL.rI P :=
  ge_op2 op_sub ha hb fun σ H x y v u hh _ p1 p2 r1 r2 Q q => by
    cases (show _ = _ from r1); cases (show _ = _ from r2)
    exact ⟨x, y, rfl, rfl, q _ _ H (h x y p1 p2) hh.evr rfl⟩
theorem ge_natP {P : Nat → Prop} (h : GE X e Γ rNat P) : GE X e Γ TL.rI (fun i => ∃ k : Nat, P k ∧ i = (k : Int)) := h.re fun x v H px r => ⟨_, ⟨x, px, rfl⟩, r⟩
theorem gt_anyEq {Pa Pb : Int → Prop} (ha : GE X a Γ TL.rI Pa) (hb : GE X b Γ TL.rI Pb) : GT X (.Compare a [.Eq] [b] pos) Γ (fun _ => True) :=
  gt_cmp2 op_eq ha hb (nomark _) fun σ H x y v u h _ p1 p2 r1 r2 Q q => by
    cases (show _ = _ from r1); cases (show _ = _ from r2)
    exact ⟨rfl, q _ H trivial h.evr⟩
theorem ge_pairP {k : Nat} {x : α} {Pb : β → Prop} (ha : GE X a Γ R (Is x)) (hb : GE X b Γ S Pb) (hs : starEach [a, b] X.env = (false, eval a X.env) :: starEach [b] X.env := by rfl) (hs2 : starEach [b] X.env = (false, eval b X.env) :: starEach [] X.env := by rfl) :
    GE X (.Tuple [a, b] k pos) Γ (rP R S) (fun z => z.1 = x ∧ Pb z.2) :=
  ge_of (pe_tup (pa_cons pe_s (pa_cons pe_s pa_nil hs2) hs)) fun σ H hh Q q => ha σ H hh _ fun x' v H1 p1 e1 z1 r1 => hb σ H1 (hh.ev e1) _ fun y' u H2 p2 e2 z2 r2 => by
    cases (show _ = _ from p1)
    have h2 := (hh.ev e1).ev e2
    refine ⟨by show 2 ≤ sizeLine; decide, fun p hp => q (x, y') _ _ ⟨rfl, p2⟩ ((e1.trans e2).trans (h2.eve (Ex.new hp))) ?_⟩
    exact ⟨p, v, u, rfl, hd_new h2.al hp, R.mono (Ex.hd (Ex.new hp)) (R.mono ((hh.ev e1).hdx e2) r1), S.mono (Ex.hd (Ex.new hp)) r2⟩
end
section
variable {Pg : Program} {w : World} {K : PySem.W.Frag} {mg : Str → Option Value} {base : Heap} {C CH : Addr}
theorem pick_int {X : Cx} {Γ : TL.Env} {e : Expr} {xs : List Int} {P : Int → Prop} (h : GE X e Γ (rIQ C) (fun y => y ∈ xs.map Sum.inl)) (k : ∀ i ∈ xs, P i) : GE X e Γ TL.rI P := h.re fun y v H py r => by
  obtain ⟨i, hi, rfl⟩ := List.mem_map.mp py
  exact ⟨i, k i hi, r⟩
theorem ge_ints {X : Cx} {Γ : TL.Env} {e : Expr} {xs : List Int} (h : GE X e Γ (rL TL.rI) (Is xs)) : GE X e Γ (rL (rIQ C)) (Is (xs.map Sum.inl)) := GE.on h fun _ _ r => rL_up (R := TL.rI) (S := rIQ C) (f := Sum.inl) (fun _ _ k => k) r
abbrev N_law_letters : List Str := ["_law_pot_here", "_law_size", "_law_most", "_law_turn", "_law_found", "_law_kind", "_law_table", "_law_line", "_law_row", "_law_place", "_law_number"]
abbrev S_law_letters : Stmt := tp 80
theorem sc_law_letters : FnScope N_law_letters ["_law_pot_here", "_law_size", "_law_most"] (defScope S_law_letters) := ⟨rfl, rfl, rfl, by decide +kernel, rfl, by decide +kernel, by decide +kernel⟩
abbrev spLLetters : Sp := spP (fun x : Nat × Nat => [⟨rNat, x.1⟩, ⟨rNat, x.2⟩]) (fun x => 1 ≤ x.1 ∧ x.1 ≤ 3 ∧ 1 ≤ x.2 ∧ x.2 ≤ 3) (rL (rL (rL rI))) (fun x ls => HouseOk x.1 ls ∧ ls.length ≤ x.2)
def letBody : List Stmt := subs ((defBody S_law_letters).getD 1 (.Pass ⟨0, 0, 0, 0⟩))
def RowB (n : Nat) (r : List Int) : Prop := r.length = n ∧ ∀ i ∈ r, i.natAbs ≤ 2
theorem let_body (B : Blt mg) (GP : Fn Pg w K mg base "_law_pick" ["_law_pot_here", "_law_some"] 2 (spPick C)) {n most kind : Nat} (h2 : n ≤ 3) {ls : List (List (List Int))} (hls : ls.length ≤ 3)
    {f : Addr} {cdv : Value} {A : Around} {outer : List PySem.Env} {s : Shared} {H : Hp} {E : XK} {L : List Addr} (hr : Room 2 (A.deeper (PyProof.Rows.envOfC "_law_letters" (defScope S_law_letters) s.heap.objs.size f cdv)))
    {pt p : Addr} (hp : p ∉ L) {t3 : TL.Slot} (g : List Gh) {P : List (List (List Int)) → Prop} :
    GS (cxOf CX0 Pg w K mg base N_law_letters "_law_letters" (defScope S_law_letters) f cdv A outer s H E).nox letBody ⟨p :: L, [pt], H, L, [.val rV (.ref pt), .val rNat n, .val rNat most, t3, .own p (rL (rL rI)) ls, .val rNat kind, .nil, .nil, .nil, .nil, .nil], g⟩ (rL (rL (rL rI))) P
      fun σ H' => ∃ t, (Sq n t ∧ Ent 2 t) ∧ Has ⟨p :: L, [pt], H, L, [.val rV (.ref pt), .val rNat n, .val rNat most, .nil, .own p (rL (rL rI)) (ls ++ [t]), .val rNat kind, .nil, .nil, .nil, .nil, .nil], g⟩ σ H' := by
  refine gs_own (R := rL rI) (Pe := Is []) 6 sc_law_letters.nd gf_nil (fun xs q pxs hq => ?_)
  cases (show _ = _ from pxs)
  refine gs_forP (T := rNat) (PX := Is (List.range n)) (fun _ j ss => ∃ tb : List (List Int), tb.length = j ∧ (∀ r ∈ tb, RowB n r) ∧ ss = [.val rV (.ref pt), .val rNat n, .val rNat most, .nil, .own p (rL (rL rI)) ls, .val rNat kind, .own q (rL rI) tb, .nil, .nil, .nil, .nil]) rfl PassesOwn.never
    (range_GI B.range (ge_nat (ge_var 1)) (by omega)) (gg_name (n := 11) 7 sc_law_letters.nd) (fun xs _ => ⟨_, ⟨[], rfl, fun r hr => (nomatch hr), rfl⟩, (.keep (.keep (.keep (.drop (.keep (.keep (.keep (.keep (.keep (.keep (.keep .nil)))))))))))⟩) (fun xs i ss _ e => by obtain ⟨tb, _, _, rfl⟩ := e; rfl) (fun gs xs j line ss pxs hxj e => ?_) (fun xs ss pxs e => ?_)
  · cases (show _ = _ from pxs)
    obtain ⟨tb, htb, hrows, rfl⟩ := e
    have hj := (range_at hxj).2
    have hj1 := (range_at hxj).1
    refine gs_own (R := rI) (Pe := Is []) 8 sc_law_letters.nd gf_nil (fun xs r0 pxs hr0 => ?_)
    cases (show _ = _ from pxs)
    refine gs_forP (T := rNat) (PX := Is (List.range n)) (fun _ k ss => ∃ rw : List Int, rw.length = k ∧ (∀ i ∈ rw, i.natAbs ≤ 2) ∧ ss = [.val rV (.ref pt), .val rNat n, .val rNat most, .nil, .own p (rL (rL rI)) ls, .val rNat kind, .own q (rL rI) tb, .val rNat line, .own r0 rI rw, .nil, .nil]) rfl PassesOwn.never
      (range_GI B.range (ge_nat (ge_var 1)) (by omega)) (gg_name (n := 11) 9 sc_law_letters.nd) (fun xs _ => ⟨_, ⟨[], rfl, fun i hi => (nomatch hi), rfl⟩, (.keep (.keep (.keep (.keep (.keep (.keep (.keep (.keep (.keep (.keep (.keep .nil)))))))))))⟩) (fun xs i ss _ e => by obtain ⟨rw, _, _, rfl⟩ := e; rfl) (fun gs2 xs k place ss pxs hxk e => ?_) (fun xs ss pxs e => ?_)
    · cases (show _ = _ from pxs)
      obtain ⟨rw1, hrw, hent, rfl⟩ := e
      have hk := (range_at hxk).2
      have hk1 := (range_at hxk).1
      refine gs_set (R := rI) (Pe := fun i => i.natAbs ≤ 2) 10 sc_law_letters.nd (pick_int (C := C) (xs := [0, 1, -1, 2, 0, 1, -2]) ?_ (by decide)) (fun number hnum => ?_)
      · exact gfnP GP hr List.mem_cons_self ([0, 1, -1, 2, 0, 1, -2].map Sum.inl) ⟨by decide, by decide⟩ (ga_cons (ge_var 0) (ga1 (ge_ints (ge_lst [0, 1, -1, 2, 0, 1, -2] (ga_cons ge_int (ga_cons ge_int (ga_cons (ge_neg ge_int) (ga_cons ge_int (ga_cons ge_int (ga_cons ge_int (ga1 (ge_neg ge_int))))))))))))
      refine gs_append (R := rI) (xs := rw1) (Pe := fun i => i.natAbs ≤ 2) 8 (ge_ifExp (GW.gt (gw_or (GW.gt (gw_and (gt_eq (ge_nat (ge_var 5)) ge_int) fun _ => gw_and1 (gt_lt (ge_nat (ge_var 9)) (ge_nat (ge_var 7))))) fun _ => gw_or1 (GW.gt (gw_and (gt_eq (ge_nat (ge_var 5)) ge_int) fun _ => gw_and1 (gt_ne (ge_nat (ge_var 9)) (ge_nat (ge_var 7))))))) (fun _ => (ge_int (i := 0)).imp fun y py => by cases (show _ = _ from py); decide) (fun _ => (ge_var 10 (R := rI) (x := number)).imp fun y py => by cases (show _ = _ from py); exact hnum)) (fun y hy => ?_) (by omega)
      exact gs_end fun σ H hh => ⟨_, ⟨rw1 ++ [y], by simp [hrw], fun i hi => by
        rcases List.mem_append.mp hi with h | h
        · exact hent i h
        · rw [List.mem_singleton.mp h]; exact hy, rfl⟩, hh.less (.keep (.keep (.keep (.keep (.keep (.keep (.keep (.keep (.keep (.drop (.drop .nil)))))))))))⟩
    · cases (show _ = _ from pxs)
      obtain ⟨rw1, hrw, hent, rfl⟩ := e
      rw [List.length_range] at hrw
      refine gs_froze1 (R := rI) (xs := rw1) 8 rfl rfl hr0 ?_
      refine gs_append (R := rL rI) (xs := tb) (Pe := Is rw1) 6 (ge_var 8) (fun y py => ?_) (by omega)
      cases (show _ = _ from py)
      exact gs_end fun σ H hh => ⟨_, ⟨tb ++ [rw1], by simp [htb], fun r hr1 => by
        rcases List.mem_append.mp hr1 with h | h
        · exact hrows r h
        · rw [List.mem_singleton.mp h]; exact ⟨hrw, hent⟩, rfl⟩, hh.less (.keep (.keep (.keep (.keep (.keep (.keep (.keep (.drop (.drop (.drop (.drop .nil)))))))))))⟩
  · cases (show _ = _ from pxs)
    obtain ⟨tb, htb, hrows, rfl⟩ := e
    rw [List.length_range] at htb
    refine gs_froze1 (R := rL rI) (xs := tb) 6 rfl rfl hq ?_
    refine gs_append (R := rL (rL rI)) (xs := ls) (Pe := Is tb) 4 (ge_var 6) (fun y py => ?_) (by omega)
    cases (show _ = _ from py)
    exact gs_end fun σ H hh => ⟨tb, ⟨⟨htb, fun r hr1 => (hrows r hr1).1⟩, fun r hr1 => (hrows r hr1).2⟩, hh.less (.keep (.keep (.keep (.keep (.keep (.keep (.drop (.keep (.keep (.keep (.keep .nil)))))))))))⟩
theorem ok_lletters (B : Blt mg) (GD : Fn Pg w K mg base "_law_draw" ["_law_pot_here", "_law_many"] 1 (spDraw)) (GP : Fn Pg w K mg base "_law_pick" ["_law_pot_here", "_law_some"] 2 (spPick C)) (D : Df K mg "_law_letters" (tp 80) ["_law_pot_here", "_law_size", "_law_most"]) : Fn Pg w K mg base "_law_letters" ["_law_pot_here", "_law_size", "_law_most"] 3 (spLLetters) := by
  refine fn_typedP D sc_law_letters (fun _ => rfl) (by decide) fun x hx pt f cdv A outer s H E L hr => ?_
  obtain ⟨n, most⟩ := x
  obtain ⟨h1, h2, h3, h4⟩ : 1 ≤ n ∧ n ≤ 3 ∧ 1 ≤ most ∧ most ≤ 3 := hx
  refine gs_parO (R := rL (rL rI)) (T := rNat) (xs := []) (Pe := fun k => k < 4) 4 5 rfl sc_law_letters.nd gf_nil (fun p => ?_) (fun p kind _ hp => ?_)
  · exact gfnP GD hr List.mem_cons_self 4 ⟨by decide, by decide⟩ (ga_cons (ge_var 0) (ga1 (ge_ofNat ge_int rfl)))
  refine gs_forP (T := rNat) (PX := fun xs => ∃ N, xs = List.range N ∧ 1 ≤ N ∧ N ≤ most) (fun _ i ss => ∃ ls : List (List (List Int)), ls.length = i ∧ (∀ t ∈ ls, Sq n t ∧ Ent 2 t) ∧ ss = [.val rV (.ref pt), .val rNat n, .val rNat most, .nil, .own p (rL (rL rI)) ls, .val rNat kind, .nil, .nil, .nil, .nil, .nil]) rfl PassesOwn.never
    (gi_range (Pn := fun i => 1 ≤ i ∧ i ≤ (most : Int)) B.range ?_ (fun N pN => ⟨by omega, by omega, N.toNat, rfl, by omega, by omega⟩)) (gg_name (n := 11) 3 sc_law_letters.nd) (fun xs _ => ⟨_, ⟨[], rfl, fun t ht => (nomatch ht), rfl⟩, (.keep (.keep (.keep (.keep (.keep (.keep (.keep (.keep (.keep (.keep (.keep .nil)))))))))))⟩) (fun xs i ss _ e => by obtain ⟨ls, _, _, rfl⟩ := e; rfl) (fun gs xs i y ss pxs hxi e => ?_) (fun xs ss pxs e => ?_)
  · refine ge_addP (Pa := Is 1) (Pb := fun i => ∃ k : Nat, k < most ∧ i = (k : Int)) ge_int (ge_natP (P := fun k => k < most) ?_) fun x y hx hy => ?_
    · exact gfnP GD hr List.mem_cons_self most ⟨h3, by omega⟩ (ga_cons (ge_var 0) (ga1 (ge_var 2)))
    · obtain ⟨k, hk, rfl⟩ := hy
      cases (show _ = _ from hx)
      omega
  · obtain ⟨N, rfl, hN1, hN2⟩ := pxs
    obtain ⟨ls, hls, hall, rfl⟩ := e
    have hi := (range_at hxi).2
    refine (let_body B GP h2 (by omega) hr hp _).more fun σ H hh => ?_
    obtain ⟨t, ht, hh⟩ := hh
    exact ⟨_, ⟨ls ++ [t], by simp [hls], fun u hu => by
      rcases List.mem_append.mp hu with h | h
      · exact hall u h
      · rw [List.mem_singleton.mp h]; exact ht, rfl⟩, hh⟩
  · obtain ⟨N, rfl, hN1, hN2⟩ := pxs
    obtain ⟨ls, hls, hall, rfl⟩ := e
    rw [List.length_range] at hls
    exact gs_retOwn 4 ⟨⟨by omega, by omega, h1, h2, hall⟩, by show ls.length ≤ most; omega⟩
/-- the numbers of a drawn mixture -/
def nums : List (Int ⊕ Rat) := [.inl 1, .inl (-1), .inl 2, .inl 0, .inr (Rat.divInt 1 2), .inr (Rat.divInt (-2) 3)]
def MixB (m : Nat) (mix : List (List Nat × (Int ⊕ Rat))) : Prop := mix.length ≤ 5 ∧ ∀ x ∈ mix, x.1.length ≤ 4 ∧ (∀ l ∈ x.1, l < m) ∧ x.2 ∈ nums
abbrev N_law_mixture : List Str := ["_law_pot_here", "_law_many", "_law_found", "_law_turn", "_law_word", "_law_place"]
abbrev S_law_mixture : Stmt := tp 86
theorem sc_law_mixture : FnScope N_law_mixture ["_law_pot_here", "_law_many"] (defScope S_law_mixture) := ⟨rfl, rfl, rfl, by decide +kernel, rfl, by decide +kernel, by decide +kernel⟩
abbrev spLMixture (C : Addr) : Sp := spP (fun m : Nat => [⟨rNat, m⟩]) (fun m => 1 ≤ m ∧ m ≤ 3) (rL (rPart C)) MixB
theorem ok_lmixture (B : Blt mg) (F : RatF Pg w K mg base C) (GD : Fn Pg w K mg base "_law_draw" ["_law_pot_here", "_law_many"] 1 (spDraw)) (GP : Fn Pg w K mg base "_law_pick" ["_law_pot_here", "_law_some"] 2 (spPick C)) (D : Df K mg "_law_mixture" (tp 86) ["_law_pot_here", "_law_many"]) : Fn Pg w K mg base "_law_mixture" ["_law_pot_here", "_law_many"] 4 (spLMixture C) := by
  refine fn_typedP D sc_law_mixture (fun _ => rfl) (by decide) fun m hm pt f cdv A outer s H E L hr => ?_
  obtain ⟨hm1, hm3⟩ := hm
  refine gs_own (R := rPart C) (Pe := Is []) 2 sc_law_mixture.nd gf_nil (fun xs p pxs hp => ?_)
  cases (show _ = _ from pxs)
  refine gs_forP (T := rNat) (PX := fun xs => ∃ N, xs = List.range N ∧ N ≤ 5) (fun _ i ss => ∃ mix : List (List Nat × (Int ⊕ Rat)), mix.length = i ∧ (∀ x ∈ mix, x.1.length ≤ 4 ∧ (∀ l ∈ x.1, l < m) ∧ x.2 ∈ nums) ∧ ss = [.val rV (.ref pt), .val rNat m, .own p (rPart C) mix, .nil, .nil, .nil]) rfl PassesOwn.never
    (gi_range (Pn := fun i => ∃ k : Nat, k < 6 ∧ i = (k : Int)) B.range (ge_natP (P := fun k => k < 6) (by exact gfnP GD hr List.mem_cons_self 6 ⟨by decide, by decide⟩ (ga_cons (ge_var 0) (ga1 (ge_ofNat ge_int rfl))))) (fun N pN => by
      obtain ⟨k, hk, rfl⟩ := pN
      exact ⟨by omega, by omega, k, by rw [Int.toNat_natCast], by omega⟩)) (gg_name (n := 6) 3 sc_law_mixture.nd) (fun xs _ => ⟨_, ⟨[], rfl, fun t ht => (nomatch ht), rfl⟩, (.keep (.keep (.keep (.keep (.keep (.keep .nil))))))⟩) (fun xs i ss _ e => by obtain ⟨ls, _, _, rfl⟩ := e; rfl) (fun gs xs i y ss pxs hxi e => ?_) (fun xs ss pxs e => ?_)
  · obtain ⟨N, rfl, hN⟩ := pxs
    obtain ⟨mix, hmix, hall, rfl⟩ := e
    have hi := (range_at hxi).2
    have hi1 := (range_at hxi).1
    refine gs_own (R := rNat) (Pe := Is []) 4 sc_law_mixture.nd gf_nil (fun xs q pxs hq => ?_)
    cases (show _ = _ from pxs)
    refine gs_forP (T := rNat) (PX := fun xs => ∃ N, xs = List.range N ∧ N ≤ 4) (fun _ j ss => ∃ wd : List Nat, wd.length = j ∧ (∀ l ∈ wd, l < m) ∧ ss = [.val rV (.ref pt), .val rNat m, .own p (rPart C) mix, .nil, .own q rNat wd, .nil]) rfl PassesOwn.never
      (gi_range (Pn := fun i => ∃ k : Nat, k < 5 ∧ i = (k : Int)) B.range (ge_natP (P := fun k => k < 5) (by exact gfnP GD hr List.mem_cons_self 5 ⟨by decide, by decide⟩ (ga_cons (ge_var 0) (ga1 (ge_ofNat ge_int rfl))))) (fun N pN => by
        obtain ⟨k, hk, rfl⟩ := pN
        exact ⟨by omega, by omega, k, by rw [Int.toNat_natCast], by omega⟩)) (gg_name (n := 6) 5 sc_law_mixture.nd) (fun xs _ => ⟨_, ⟨[], rfl, fun t ht => (nomatch ht), rfl⟩, (.keep (.keep (.keep (.drop (.keep (.keep .nil))))))⟩) (fun xs i ss _ e => by obtain ⟨ls, _, _, rfl⟩ := e; rfl) (fun gs2 xs j z ss pxs hxj e => ?_) (fun xs ss pxs e => ?_)
    · obtain ⟨N2, rfl, hN2⟩ := pxs
      obtain ⟨wd, hwd, hlt, rfl⟩ := e
      have hj := (range_at hxj).2
      have hj1 := (range_at hxj).1
      refine gs_append (R := rNat) (xs := wd) (Pe := fun l => l < m) 4 (by exact gfnP GD hr List.mem_cons_self m ⟨by omega, by omega⟩ (ga_cons (ge_var 0) (ga1 (ge_var 1)))) (fun y hy => ?_) (by omega)
      exact gs_end fun σ H hh => ⟨_, ⟨wd ++ [y], by simp [hwd], fun l hl => by
        rcases List.mem_append.mp hl with h | h
        · exact hlt l h
        · rw [List.mem_singleton.mp h]; exact hy, rfl⟩, hh.less (.keep (.keep (.keep (.keep (.keep (.drop .nil))))))⟩
    · obtain ⟨N2, rfl, hN2⟩ := pxs
      obtain ⟨wd, hwd, hlt, rfl⟩ := e
      rw [List.length_range] at hwd
      refine gs_froze1 (R := rNat) (xs := wd) 4 rfl rfl hq ?_
      refine gs_append (R := rPart C) (xs := mix) (Pe := fun z => z.1 = wd ∧ z.2 ∈ nums) 2 (ge_pairP (R := rLT rNat) (x := wd) (S := rIQ C) (Pb := fun y => y ∈ nums) (ge_ifExp (Pc := fun _ => True) (gt_anyEq (Pa := fun i => ∃ k : Nat, k < 3 ∧ i = (k : Int)) (Pb := Is 0) (ge_natP (P := fun k => k < 3) ?_) ge_int) (fun _ => ge_TL (ge_tuple (xs := wd) B.tuple (ge_var 4))) (fun _ => ge_LT (ge_var 4))) ?_) (fun y hy => ?_) (by omega)
      · exact gfnP GD hr List.mem_cons_self 3 ⟨by decide, by decide⟩ (ga_cons (ge_var 0) (ga1 (ge_ofNat ge_int rfl)))
      · refine gfnP GP hr List.mem_cons_self nums ⟨by decide, by decide⟩ (ga_cons (ge_var 0) (ga1 (ge_lst nums (ga_cons (ge_IQi ge_int) (ga_cons (ge_IQi (ge_neg ge_int)) (ga_cons (ge_IQi ge_int) (ga_cons (ge_IQi ge_int) (ga_cons (ge_IQq (ge_mk2 F hr ge_int ge_int ?_)) (ga1 (ge_IQq (ge_mk2 F hr (ge_neg ge_int) ge_int ?_)))))))))))
        · exact ⟨by decide, Nat.lt_of_lt_of_le (by decide : Nat.gcd 1 2 < 2 ^ 1) (Nat.pow_le_pow_right (by decide) (by decide))⟩
        · exact ⟨by decide, Nat.lt_of_lt_of_le (by decide : Nat.gcd 2 3 < 2 ^ 1) (Nat.pow_le_pow_right (by decide) (by decide))⟩
      · exact gs_end fun σ H hh => ⟨_, ⟨mix ++ [y], by simp [hmix], fun x hx => by
          rcases List.mem_append.mp hx with h | h
          · exact hall x h
          · rw [List.mem_singleton.mp h, hy.1]; exact ⟨by omega, hlt, hy.2⟩, rfl⟩, hh.less (.keep (.keep (.keep (.drop (.drop (.drop .nil))))))⟩
  · obtain ⟨N, rfl, hN⟩ := pxs
    obtain ⟨mix, hmix, hall, rfl⟩ := e
    rw [List.length_range] at hmix
    exact gs_retOwn 2 ⟨by omega, hall⟩
end
end TW

namespace TW
open PySem PySem.Spec L2 TL
theorem zeros_eq (n : Nat) : (List.range n).map (fun _ => List.replicate n (0 : Rat)) = scaleT (castT (idleT n)) 0 := by
  unfold scaleT castT castL idleT
  rw [List.map_map, List.map_map]
  refine List.map_congr_left fun k _ => ?_
  show List.replicate n (0 : Rat) = (((List.range n).map fun to => if k = to then (1 : Int) else 0).map fun i : Int => (i : Rat)).map fun y => 0 * y
  rw [List.map_map, List.map_map]
  rw [show List.replicate n (0 : Rat) = (List.range n).map fun _ => (0 : Rat) by rw [List.map_const']; simp]
  refine List.map_congr_left fun j _ => ?_
  show (0 : Rat) = 0 * _
  rw [Rat.zero_mul]
section
variable {X : Cx} {Γ : TL.Env} {e a b : Expr} {p pos : Pos} {C : Addr} {α β : Type} {R : Rp α} {S : Rp β}
theorem eqk_nat : EqG X 0 (Dr rNat) := eqG_flat.imp fun x y H h => by
  obtain ⟨i, h1, h2⟩ := h
  cases (show _ = _ from h1); cases (show _ = _ from h2)
  exact ⟨rfl, rfl, by simp [eqV]⟩
theorem rTold_part {H : Hp} {x : List Nat × Rat} {v : V} (h : (rTold C).r H x v) : (rPart C).r H (x.1, .inr x.2) v := by
  obtain ⟨p, u, v, rfl, hp, h1, h2⟩ := h
  exact ⟨p, u, v, rfl, hp, .inl h1, h2⟩
def partOf (x : List Nat × Rat) : List Nat × (Int ⊕ Rat) := (x.1, .inr x.2)
theorem ge_parts {mix : List (List Nat × Rat)} (h : GE X e Γ (rL (rTold C)) (Is mix)) : GE X e Γ (rL (rPart C)) (Is (mix.map partOf)) := GE.on h fun _ _ r => rL_up (R := rTold C) (S := rPart C) (f := partOf) (fun _ _ k => rTold_part k) r
theorem parts_told (mix : List (List Nat × Rat)) : (mix.map partOf).map toldX = mix := by
  rw [List.map_map]
  conv => rhs; rw [← List.map_id mix]
  rfl
end
section
variable {Pg : Program} {w : World} {K : PySem.W.Frag} {mg : Str → Option Value} {base : Heap} {C CH : Addr}
abbrev N_law_mixed : List Str := ["_law_letters_here", "_law_mixture_here", "_law_size", "_law_found", "_law_word", "_law_number", "_law_table", "_law_line", "_law_row", "_law_near", "_law_far"]
abbrev S_law_mixed : Stmt := tp 87
theorem sc_law_mixed : FnScope N_law_mixed ["_law_letters_here", "_law_mixture_here"] (defScope S_law_mixed) := ⟨rfl, rfl, rfl, by decide +kernel, rfl, by decide +kernel, by decide +kernel⟩
abbrev spLMixed (C : Addr) : Sp := spG (fun x : List (List (List Int)) × List (List Nat × (Int ⊕ Rat)) => [⟨rL (rL (rL rI)), x.1⟩, ⟨rL (rPart C), x.2⟩]) (fun x => (∃ n, HouseOk n x.1) ∧ OkMix x.1 (x.2.map toldX)) (rL (rL (rQ C))) (fun x => Is (tableM x.1 (x.2.map toldX)))
theorem ok_lmixed (B : Blt mg) (F : RatAll Pg w K mg base C) (G4 : Fn Pg w K mg base "_law_word_table" ["_law_letters_here", "_law_word"] 2 (spLWordTable)) (G5 : Fn Pg w K mg base "_law_told" ["_law_table"] 5 (spLTold C)) (D : Df K mg "_law_mixed" (tp 87) ["_law_letters_here", "_law_mixture_here"]) : Fn Pg w K mg base "_law_mixed" ["_law_letters_here", "_law_mixture_here"] 6 (spLMixed C) := by
  refine fn_df D sc_law_mixed (fun _ => rfl) (by decide) fun x hx0 f cdv A outer s H E L hr => ?_
  obtain ⟨ls, ps⟩ := x
  obtain ⟨⟨n, hH⟩, hM⟩ : (∃ n, HouseOk n ls) ∧ OkMix ls (ps.map toldX) := hx0
  have hs := hH.side
  have hn3 := hH.2.2.2.1
  have hn1 := hH.2.2.1
  refine gs_setI (R := rI) (x := (n : Int)) 2 sc_law_mixed.nd (GE.to (ge_len (xs := ls.getD 0 []) B.len (ge_ix (xs := ls) (k := 0) (ge_var 0) ge_int rfl (getD_get (by have := hH.1; omega)))) (by rw [← hs]; rfl)) ?_
  refine gs_setLc (T := rNat) (R := rL (rQ C)) (own := [("_law_line", 7)]) 3 (fun _ : Nat => List.replicate n (0 : Rat)) rfl sc_law_mixed.nd (range_GI B.range (ge_var 2) (by omega)) (blkOk_by (N := N_law_mixed) (sc := defScope S_law_mixed) (by decide +kernel)) (fun _ _ _ _ _ => (gg_name (n := 11) 7 sc_law_mixed.nd)) rfl (by decide) (fun D k hk _ _ _ _ _ => ?_) ?_
  · refine GF.ge (GF.to (gf_rep (xs := [(0 : Rat)]) (ge_lst [(0 : Rat)] (ga1 ((ge_mk1 F.F (hr.mono (by decide)) ge_int).to ?_)) rfl (Nat.le_of_ble_eq_true rfl)) (ge_var 2) ?_ ?_) ?_)
    · rfl
    · simp; omega
    · omega
    · simp
  rw [zeros_eq]
  have e0 : scaleT (castT (idleT n)) 0 = tableM ls [] := by unfold tableM; rw [hs]; rfl
  rw [e0]
  refine gs_for (xs := ps) (fun i => [.val (rL (rL (rL rI))) ls, .val (rL (rPart C)) ps, .val rI (n : Int), .val (rL (rL (rQ C))) (tableM ls ((ps.take i).map toldX)), .nil, .nil, .nil, .nil, .nil, .nil, .nil]) rfl PassesOwn.never (gi_list (ge_var 1)) (gg_pair rfl (gg_name (n := 11) 4 sc_law_mixed.nd) (gg_name (n := 11) 5 sc_law_mixed.nd)) (.keep (.keep (.keep (.keep (.keep (.keep (.keep (.keep (.keep (.keep (.keep .nil))))))))))) (fun _ => rfl) (fun gs i x hx => ?_) ?_
  · have hi := (List.getElem?_eq_some_iff.mp hx).1
    have h40 := hM.1
    rw [List.length_map] at h40
    have hxm := hM.2 (toldX x) (List.mem_map_of_mem (List.mem_of_getElem? hx))
    have hb := tableM_bg hH hM i (by rw [List.length_map]; omega)
    rw [← List.map_take] at hb
    have hst := mix_step hH hb (by omega) hxm
    have hwk := word_ok hH _ x.1 rfl hxm.1.2
    have hw8 : (8 : Nat) ^ x.1.length ≤ 8 ^ 16 := Nat.pow_le_pow_right (by decide) hxm.1.1
    have en : tableM ls ((ps.take (i + 1)).map toldX) = ((tableM ls ((ps.take i).map toldX)).zip (castT (wordT ls x.1))).map (fun z => (z.1.zip z.2).map fun y => y.1 + y.2 * worth x.2) := by
      rw [take_snoc hx, List.map_append]
      show tableM ls ((ps.take i).map toldX ++ [toldX x]) = _
      rw [tableM_snoc]
      unfold mixT
      refine List.map_congr_left fun z _ => List.map_congr_left fun y _ => ?_
      show y.1 + worth x.2 * y.2 = _
      rw [Rat.mul_comm]
    rw [en]
    generalize tableM ls ((ps.take i).map toldX) = t at hst ⊢
    refine gs_setI (R := rL (rL rI)) (x := wordT ls x.1) 6 sc_law_mixed.nd (by exact gfn G4 hr (ls, x.1) ⟨hxm.1.1, hxm.1.2, n, hH⟩ (ga_cons (ge_var 0) (ga1 (ge_var 4)))) ?_
    refine gs_setLc (T := rP (rL (rQ C)) (rL (rQ C))) (R := rL (rQ C)) (own := [("_law_row", 8), ("_law_line", 7)]) 3 (fun z : List Rat × List Rat => (z.1.zip z.2).map fun y : Rat × Rat => y.1 + y.2 * worth x.2) rfl sc_law_mixed.nd (gi_zip (R := rL (rQ C)) (S := rL (rQ C)) (xs := t) (ys := castT (wordT ls x.1)) (by exact B.zip) (by refine ga_cons (ge_var 3) (ga1 (ge_qT ?_)); exact gfn G5 hr (wordT ls x.1) (fun r hr1 i hi => Nat.lt_of_le_of_lt (hwk.2 r hr1 i hi) (Nat.lt_of_le_of_lt hw8 (by rw [show (8 : Nat) = 2 ^ 3 by decide, ← Nat.pow_mul]; exact Nat.pow_lt_pow_right (by decide) (by decide)))) (ga1 (ge_var 6)))) (blkOk_by (N := N_law_mixed) (sc := defScope S_law_mixed) (by decide +kernel)) (fun _ _ _ _ _ => (gg_pair rfl (gg_name (n := 11) 8 sc_law_mixed.nd) (gg_name (n := 11) 7 sc_law_mixed.nd))) rfl (by decide) (fun D z hz _ _ _ _ _ => ?_) ?_
    · refine GF.ge ?_
      refine gf_lc (own := [("_law_near", 9), ("_law_far", 10)]) (fun y : Rat × Rat => (y.1 + y.2 * worth x.2 : Rat)) rfl sc_law_mixed.nd (gi_zip (by exact B.zip) (by exact ga_cons (ge_var 8) (ga1 (ge_var 7)))) (blkOk_in N_law_mixed (by decide +kernel)) (fun _ _ _ _ _ => (gg_pair rfl (gg_name (n := 11) 9 sc_law_mixed.nd) (gg_name (n := 11) 10 sc_law_mixed.nd))) rfl (by decide) (fun D y hy _ _ _ _ _ => ?_)
      have hk := hst.1 z hz y hy
      have hk1 : OkMul (worth x.2) y.2 := hk.1
      have hk2 : OkAdd y.1 (worth x.2 * y.2) := hk.2
      have hq : BgQ 4400 (worth x.2) := hxm.2
      rw [Rat.mul_comm] at hk2
      have hkm : OkMul y.2 (worth x.2) := ⟨hk1.2.1, hk1.1, dens_ne _ _, by
        have := hk1.2.2.2
        rwa [Int.mul_comm y.2.num, Int.mul_comm (y.2.den : Int)]⟩
      refine ge_qadd F (hr.mono (by decide)) (ge_var 9) (ge_qmul F (hr.mono (by decide)) (ge_var 10) (GE.to (ge_qmulX (x := x.2) F (hr.mono (by decide)) ((ge_mk1 F.F (hr.mono (by decide)) ge_int).to (y := (1 : Rat)) rfl) (ge_var 5) (OkMul.of one_bg hq (by decide))) (Rat.one_mul _)) hkm) hk2
    · exact gs_end fun σ H hh => hh.less (.keep (.keep (.keep (.keep (.drop (.drop (.drop (.keep (.keep (.keep (.keep .nil)))))))))))
  · rw [List.take_length]
    exact gs_ret (ge_var 3)
abbrev N_law_told_right : List Str := ["_law_letters_here", "_law_house", "_law_base_here", "_law_table", "_law_told_here", "_law_words", "_law_word", "_law_number", "_law_part"]
abbrev S_law_told_right : Stmt := tp 88
theorem sc_law_told_right : FnScope N_law_told_right ["_law_letters_here", "_law_house", "_law_base_here", "_law_table"] (defScope S_law_told_right) := ⟨rfl, rfl, rfl, by decide +kernel, rfl, by decide +kernel, by decide +kernel⟩
def inW (ws : List (List Nat)) (w : List Nat) : Bool := decide (w ∈ ws)
structure OkRight (ls : List (List (List Int))) (base : List (List Nat)) (t : List (List Rat)) (n : Nat) (mix : List (List Nat × Rat)) : Prop where
  H : HouseOk n ls
  sq : Sq n t
  sol : OkSolve (colsR ls) t.flatten
  sold : mixR ls t = some mix
  ok : OkMix ls mix
  tab : tableM ls mix = t
  words : base.filter (inW (mix.map (·.1))) = mix.map (·.1)
  ne : ∀ x ∈ mix, x.2.num ≠ 0
abbrev spToldRight (C CH : Addr) : Sp := spG (fun x : List (List (List Int)) × List (List Nat) × List (List Rat) => [⟨rL (rL (rL rI)), x.1⟩, ⟨rH C CH, x.1⟩, ⟨rL (rL rNat), x.2.1⟩, ⟨rL (rL (rQ C)), x.2.2⟩]) (fun x => ∃ n mix, OkRight x.1 x.2.1 x.2.2 n mix) rB (fun _ => Is true)
theorem kit_list1 : PySem.W.kitOne K (.type "list") (.type "list") = some true := kit_ty (by decide +kernel)
theorem ok_ltold_right (B : Blt mg) (F : RatAll Pg w K mg base C) (G1 : Fn Pg w K mg base "mixture_of" ["house", "table"] 9 (spMixtureOf C CH)) (G2 : Fn Pg w K mg base "is_mixture_of" ["house", "table", "value"] 8 (spIsMixtureOf C CH)) (G3 : Fn Pg w K mg base "_law_mixed" ["_law_letters_here", "_law_mixture_here"] 6 (spLMixed C)) (D : Df K mg "_law_told_right" (tp 88) ["_law_letters_here", "_law_house", "_law_base_here", "_law_table"]) : Fn Pg w K mg base "_law_told_right" ["_law_letters_here", "_law_house", "_law_base_here", "_law_table"] 10 (spToldRight C CH) := by
  refine fn_df D sc_law_told_right (fun _ => rfl) (by decide) fun x hx0 f cdv A outer s H E L hr => ?_
  obtain ⟨ls, bs, t⟩ := x
  obtain ⟨n, mix, hK⟩ : ∃ n mix, OkRight ls bs t n mix := hx0
  have hi := sq_inr hK.sq
  have hw := inrT_worth t
  refine gs_setI (R := rL (rTold C)) (x := mix) 4 sc_law_told_right.nd ?_ ?_
  · refine gfnH G1 hr (ls, inrT t) ⟨⟨n, hK.H, hi.1, hi.2⟩, by rw [hw]; exact hK.sol⟩ (ga_cons (ge_var 1) (ga1 (ge_LT (GE.on (ge_var 3) fun _ _ r => inrT_T r)))) (by decide) fun H1 H2 y v hf py ry => ?_
    cases (show _ = _ from py)
    rw [hw, hK.sold] at ry
    exact ⟨mix, rfl, rFr_list ry⟩
  refine gs_ifNever (Pc := Is false) (by
    refine GT.to (x := !true || !(((mix.filter fun _ => false).map fun x => x).isEmpty)) (GW.gt (gw_or (gt_not (gt_val ?_)) fun _ => gw_or1 (gt_neNil (R := rTold C) (hr.mono (by decide)) (GF.ge ?_) (GF.ge gf_nil)))) (by simp)
    · exact ge_isi (R := rL (rTold C)) (x := mix) (b := true) B.isi (ge_var 4) (pe_tyv (T := "list") B.list) (.ty _) (fun L H v r => by
        obtain ⟨p, vs, rfl, hp, _⟩ := r
        exact ⟨_, .base (.lst (hd_some hp).2), kit_list1⟩)
    · refine gf_lcF (own := [("_law_part", 8)]) (fun _ : List Nat × Rat => false) (fun x => x) rfl sc_law_told_right.nd (gi_list (ge_var 4)) (blkOk_by (N := N_law_told_right) (sc := defScope S_law_told_right) (by decide +kernel)) (fun _ _ _ _ _ => (gg_name (n := 9) 8 sc_law_told_right.nd)) rfl (by decide) (fun D x _ _ _ _ _ => ?_) (fun D x hx hpx => by cases hpx)
      refine GT.to (x := !true || !decide ((2 : Int) = 2)) (GW.gt (gw_or (gt_not (gt_val ?_)) fun _ => gw_or1 (gt_ne (ge_lenP B.len (ge_var 8 (R := rTold C) (x := x))) ge_int))) (by decide)
      exact ge_isi (R := rTold C) (x := x) (b := true) B.isi (ge_var 8) (pe_tyv (T := "tuple") B.tuple) (.ty _) (fun L H v r => by
        obtain ⟨p, a, b, rfl, hp, _⟩ := r
        exact ⟨_, .base (.tup (hd_some hp).2), kit_tup1⟩)) (fun z => by cases (show _ = _ from z)) ?_
  refine gs_setI (R := rL (rL rNat)) (x := mix.map (·.1)) 5 sc_law_told_right.nd (GF.ge ?_) ?_
  · refine gf_lc (own := [("_law_word", 6), ("_law_number", 7)]) (fun x : List Nat × Rat => x.1) rfl sc_law_told_right.nd (gi_list (ge_var 4)) (blkOk_by (N := N_law_told_right) (sc := defScope S_law_told_right) (by decide +kernel)) (fun _ _ _ _ _ => (gg_pair rfl (gg_name (n := 9) 6 sc_law_told_right.nd) (gg_name (n := 9) 7 sc_law_told_right.nd))) rfl (by decide) (fun D x hx _ _ _ _ _ => ?_)
    exact ge_var 6
  have hnz : (mix.filter fun x => decide (x.2.num = 0)) = [] := List.filter_eq_nil_iff.mpr fun x hx => by simpa using hK.ne x hx
  refine gs_ifNever (Pc := Is (false || !(((mix.filter fun x => decide (x.2.num = 0)).map fun x => x.2).isEmpty))) (GW.gt (gw_or ?g1 fun _ => gw_or1 ?g2)) (fun z => ?g3) ?g4
  case g1 =>
    refine gt_differ (R := rL (rL rNat)) (x := mix.map (·.1)) (nek_list (eqk_list eqk_nat)) (hr.mono (by decide)) (ge_var 5) (GF.ge ?_)
    refine GF.to (x := (bs.filter (inW (mix.map (·.1)))).map fun w : List Nat => w) ?_ (by rw [List.map_id']; exact hK.words)
    generalize mix.map (·.1) = ws
    refine gf_lcF (xs := bs) (T := rL rNat) (is := [6]) (ap := fun y ss => ss.set 6 (.val (rL rNat) y)) (n := 9) (own := [("_law_word", 6)]) (inW ws) (fun w : List Nat => w) rfl sc_law_told_right.nd ?_ (blkOk_by (N := N_law_told_right) (sc := defScope S_law_told_right) (by decide +kernel)) (fun _ _ _ _ _ => ?_) rfl (by decide) (fun D w _ _ _ _ _ => ?_) (fun D w hw hpw _ _ _ _ _ => ?_)
    · exact gi_list (ge_var 2)
    · exact (gg_name (n := 9) 6 sc_law_told_right.nd)
    · exact gt_in (hr.mono (by decide)) (ge_var 6) (ge_var 5)
    · exact ge_var 6
  case g2 =>
    refine gt_neNil (R := rQ C) (hr.mono (by decide)) (GF.ge ?_) (GF.ge gf_nil)
    refine gf_lcF (T := rTold C) (own := [("_law_word", 6), ("_law_number", 7)]) (fun x : List Nat × Rat => decide (x.2.num = 0)) (fun x => x.2) rfl sc_law_told_right.nd (gi_list (ge_var 4)) (blkOk_by (N := N_law_told_right) (sc := defScope S_law_told_right) (by decide +kernel)) (fun _ _ _ _ _ => (gg_pair rfl (gg_name (n := 9) 6 sc_law_told_right.nd) (gg_name (n := 9) 7 sc_law_told_right.nd))) rfl (by decide) (fun D x _ _ _ _ _ => ?_) (fun D x hx hpx _ _ _ _ _ => ge_var 7)
    exact gt_eq (ge_qtop F (hr.mono (by decide)) (ge_var 7)) ge_int
  case g3 =>
    rw [hnz] at z; cases (show _ = _ from z)
  refine gs_ret (GE.to (x := true && decide (true = true)) (ge_and ?_ fun _ => ge_bone (ge_isB ?_ ge_bl)) (by decide))
  · refine ge_same (x := t) (rck_list (eqk_list (eqk_q F))) (hr.mono (by decide)) ?_ (ge_var 3)
    refine GE.to (gfn G3 hr (ls, mix.map partOf) ⟨⟨n, hK.H⟩, by rw [parts_told]; exact hK.ok⟩ (ga_cons (ge_var 0) (ga1 (ge_parts (ge_var 4))))) ?_
    rw [parts_told]; exact hK.tab
  · exact gfn G2 hr (ls, t, mix.map partOf) ⟨⟨n, hK.H, hK.sq⟩, by rw [parts_told]; exact hK.ok, by rw [parts_told]; exact hK.tab⟩ (ga_cons (ge_var 1) (ga_cons (ge_var 3) (ga1 (ge_LT (ge_parts (ge_var 4))))))
end
end TW

namespace TW
open PySem PySem.Spec L2 TL
/-- k sixths -/
def D6 (B : Nat) (q : Rat) : Prop := ∃ k : Int, q = Rat.divInt k 6 ∧ k.natAbs ≤ B
def AllD6 (B : Nat) (t : List (List Rat)) : Prop := ∀ r ∈ t, ∀ q ∈ r, D6 B q
def dueT (t o : List (List Rat)) : List (List Rat) := (t.zip o).map fun z => (z.1.zip z.2).map fun y => y.1 + y.1 + y.2
/-- the plain laws that the walk leans on -/
structure Plain : Prop where
  same : ∀ (n : Nat) (ls : List (List (List Int))), HouseOk n ls → baseW ls = (lawBase ls).1
  mixOk : ∀ (n : Nat) (ls : List (List (List Int))) (mix : List (List Nat × (Int ⊕ Rat))), HouseOk n ls → mix.length ≤ 15 → (∀ x ∈ mix, x.1.length ≤ 4 ∧ (∀ l ∈ x.1, l < ls.length) ∧ x.2 ∈ nums) → OkMix ls (mix.map toldX) ∧ Sq n (tableM ls (mix.map toldX)) ∧ AllD6 1000000 (tableM ls (mix.map toldX))
  told : ∀ (n : Nat) (ls : List (List (List Int))) (mix : List (List Nat × (Int ⊕ Rat))), HouseOk n ls → MixB ls.length mix → ∃ mix', OkRight ls (lawBase ls).1 (tableM ls (mix.map toldX)) n mix'
  join : ∀ (n : Nat) (ls : List (List (List Int))) (D : List (List Int)), HouseOk n ls → Sq n D → Ent 2 D → OkJoin (lawBase ls).2 D.flatten
  out : ∀ (n : Nat) (ls : List (List (List Int))) (D : List (List Int)), HouseOk n ls → Sq n D → Ent 2 D → joinQ (lawBase ls).2 D.flatten = true → OkSolve (colsR ls) (castT D).flatten ∧ mixR ls (castT D) = none
  drawn : ∀ (n : Nat) (ls : List (List (List Int))) (D : List (List Int)), HouseOk n ls → Sq n D → Ent 2 D → joinQ (lawBase ls).2 D.flatten = false → ∃ mix', OkRight ls (lawBase ls).1 (castT D) n mix'
  due : ∀ (n : Nat) (ls : List (List (List Int))) (one other : List (List Nat × (Int ⊕ Rat))), HouseOk n ls → MixB ls.length one → MixB ls.length other → tableM ls ((one ++ one ++ other).map toldX) = dueT (tableM ls (one.map toldX)) (tableM ls (other.map toldX))
theorem D6.small {B : Nat} {q : Rat} (h : D6 B q) {n : Nat} (hB : B < 2 ^ n) (hn : 3 ≤ n) : BgQ n q := by
  obtain ⟨k, rfl, hk⟩ := h
  exact BgQ.divInt (by decide) (Nat.lt_of_le_of_lt hk hB) (Nat.lt_of_lt_of_le (by decide : (6 : Int).natAbs < 2 ^ 3) (Nat.pow_le_pow_right (by decide) hn))
theorem D6.add {A B : Nat} {q r : Rat} (h : D6 A q) (k : D6 B r) : D6 (A + B) (q + r) := by
  obtain ⟨x, rfl, hx⟩ := h
  obtain ⟨y, rfl, hy⟩ := k
  refine ⟨x + y, ?_, by omega⟩
  rw [Rat.divInt_eq_div, Rat.divInt_eq_div, Rat.divInt_eq_div]
  grind
section
variable {X : Cx} {Γ : TL.Env} {e : Expr} {pos p : Pos} {α β γ : Type} {R : Rp α} {S : Rp β} {P : β → Prop}
theorem pe_kw0 {k j : Nat} {ps ks : List Str} {sp : Sp} {x : Str} {kws : List Keyword} {tk : TA} (F : FnK X.prog X.w X.K X.mg X.base x ps ks k sp) (hr : Room j X.A) (hj : k ≤ j) (hg : Gl X x) (hkw : PK X kws tk)
    (hall : (backToKw pos (keywordEach kws X.env)).all (·.1.isSome) = true := by rfl) (hks : (backToKw pos (keywordEach kws X.env)).filterMap (·.1) = ks := by rfl) (hdb : (x == ("__debug__" : Str)) = false := by decide)
    (hpl : ((backTo pos (starEach [] X.env)).any (·.1) || (backToKw pos (keywordEach kws X.env)).any (·.1.isNone)) = false := by rfl) :
    PE X (.Call (.Name x p) [] kws pos) (fun σ H Q => tk σ H fun zs H1 => zs.length = ks.length ∧ sp zs.reverse H1 Q fun _ _ _ => False) := by
  obtain ⟨f, fd, G, hm, kp, hb⟩ := F.ex
  refine ⟨fun pins s σ H Q I h => ?_⟩
  refine wpAny_Call_Name_kw (ld_glob I hg hm ?_ hdb)
  refine PySem.W.callWith_KW0 (h₀ := X.base) I.ok.mod.kin kp hall (thn (hkw.run pos pins s σ H _ I h) fun ws s2 ⟨zs, H2, I2, rz, hz, q2⟩ => ⟨I2.kIn, ?_⟩) hpl
  rw [hks]
  have hl : ws.length = ks.length := by rw [← Paired.length rz]; exact hz
  have rr : ∀ {vs : List V} {us : List Value}, Vals vs us → Vals vs.reverse us.reverse := fun {vs us} h => by
    induction h with
    | nil => exact .nil
    | cons a _ ih => rw [List.reverse_cons, List.reverse_cons]; exact Paired.app ih (.cons a .nil)
  refine wpAny_call (codeAny_mono (G.run X.A X.stack s2 H2 ⟨[], ks.zip ws⟩ ws.reverse zs.reverse Q _ (hr.mono hj) I2.env0 (hb s2 ws hl) (rr rz) q2) fun r s' hq => ?_)
  cases r with
  | error e => exact pass0 pins σ H2 s2 e s' I2 hq
  | ok fl =>
    cases fl with
    | ret u => exact I2.after hq
    | next => exact False.elim hq
    | brk => exact False.elim hq
    | cont => exact False.elim hq
theorem gkw2 {R1 : Rp α} {R2 : Rp γ} {x1 : α} {x2 : γ} {ι : Type} {as : ι → List Bd} {ok : ι → Prop} {Pi : ι → β → Prop} {k j : Nat} {ps : List Str} {x k1 k2 : Str} {e1 e2 : Expr} {q1 q2 : Pos} (F : FnK X.prog X.w X.K X.mg X.base x ps [k1, k2] k (spG as ok S Pi)) (hr : Room j X.A) (i : ι) (o : ok i)
    (h1 : GE X e1 Γ R1 (Is x1)) (h2 : GE X e2 Γ R2 (Is x2)) (eas : as i = [⟨R2, x2⟩, ⟨R1, x1⟩]) (hj : k ≤ j := by decide) (hg : Gl X x := by rfl)
    (hall : (backToKw pos (keywordEach [⟨some k1, e1, q1⟩, ⟨some k2, e2, q2⟩] X.env)).all (·.1.isSome) = true := by rfl) (hks : (backToKw pos (keywordEach [⟨some k1, e1, q1⟩, ⟨some k2, e2, q2⟩] X.env)).filterMap (·.1) = [k1, k2] := by rfl) (hdb : (x == ("__debug__" : Str)) = false := by decide)
    (hpl : ((backTo pos (starEach [] X.env)).any (·.1) || (backToKw pos (keywordEach [⟨some k1, e1, q1⟩, ⟨some k2, e2, q2⟩] X.env)).any (·.1.isNone)) = false := by rfl) {P' : β → Prop} (hP : ∀ y, Pi i y → P' y := by exact fun _ h => h) :
    GE X (.Call (.Name x p) [] [⟨some k1, e1, q1⟩, ⟨some k2, e2, q2⟩] pos) Γ S P' :=
  ge_of (pe_kw0 F hr hj hg (pk_cons pe_s (pk_cons pe_s pk_nil)) hall hks hdb hpl) fun σ H h Q q => h1 σ H h _ fun y1 v1 H1 p1 ev1 z1 r1 => h2 σ H1 (h.ev ev1) _ fun y2 v2 H2 p2 ev2 z2 r2 => by
    cases (show _ = _ from p1); cases (show _ = _ from p2)
    have g2 := h.ev (ev1.trans ev2)
    refine ⟨rfl, i, Γ.L, o, g2.al, ?_, fun y v H' py ex ry => q y v H' (hP y py) ((ev1.trans ev2).trans (g2.eve ex)) ry⟩
    rw [eas]
    exact ⟨v2, _, rfl, r2, v1, _, rfl, R1.mono ((h.ev ev1).hdx ev2) r1, rfl⟩
theorem gkw2H {R1 : Rp α} {R2 : Rp γ} {x1 : α} {x2 : γ} {ι δ : Type} {S : Hp → Rp β} {T : Rp δ} {as : ι → List Bd} {ok : ι → Prop} {Pi : ι → β → Prop} {P' : δ → Prop} {k j : Nat} {ps : List Str} {x k1 k2 : Str} {e1 e2 : Expr} {q1 q2 : Pos} (F : FnK X.prog X.w X.K X.mg X.base x ps [k1, k2] k (spH as ok S Pi)) (hr : Room j X.A) (i : ι) (o : ok i)
    (h1 : GE X e1 Γ R1 (Is x1)) (h2 : GE X e2 Γ R2 (Is x2)) (eas : as i = [⟨R2, x2⟩, ⟨R1, x1⟩]) (hT : ∀ H1 H2 y v, Pi i y → (S H1).r H2 y v → ∃ z, P' z ∧ T.r H2 z v) (hj : k ≤ j := by decide) (hg : Gl X x := by rfl)
    (hall : (backToKw pos (keywordEach [⟨some k1, e1, q1⟩, ⟨some k2, e2, q2⟩] X.env)).all (·.1.isSome) = true := by rfl) (hks : (backToKw pos (keywordEach [⟨some k1, e1, q1⟩, ⟨some k2, e2, q2⟩] X.env)).filterMap (·.1) = [k1, k2] := by rfl) (hdb : (x == ("__debug__" : Str)) = false := by decide)
    (hpl : ((backTo pos (starEach [] X.env)).any (·.1) || (backToKw pos (keywordEach [⟨some k1, e1, q1⟩, ⟨some k2, e2, q2⟩] X.env)).any (·.1.isNone)) = false := by rfl) :
    GE X (.Call (.Name x p) [] [⟨some k1, e1, q1⟩, ⟨some k2, e2, q2⟩] pos) Γ T P' :=
  ge_of (pe_kw0 F hr hj hg (pk_cons pe_s (pk_cons pe_s pk_nil)) hall hks hdb hpl) fun σ H h Q q => h1 σ H h _ fun y1 v1 H1 p1 ev1 z1 r1 => h2 σ H1 (h.ev ev1) _ fun y2 v2 H2 p2 ev2 z2 r2 => by
    cases (show _ = _ from p1); cases (show _ = _ from p2)
    have g2 := h.ev (ev1.trans ev2)
    refine ⟨rfl, i, Γ.L, o, g2.al, ?_, fun y v H' py ex ry => ?_⟩
    · rw [eas]
      exact ⟨v2, _, rfl, r2, v1, _, rfl, R1.mono ((h.ev ev1).hdx ev2) r1, rfl⟩
    · obtain ⟨z, pz, rz⟩ := hT _ _ y v py ry
      exact q z v H' pz ((ev1.trans ev2).trans (g2.eve ex)) rz
theorem gkw3 {δ : Type} {R1 : Rp α} {R2 : Rp γ} {R3 : Rp δ} {x1 : α} {x2 : γ} {x3 : δ} {ι : Type} {as : ι → List Bd} {ok : ι → Prop} {Pi : ι → β → Prop} {k j : Nat} {ps : List Str} {x k1 k2 k3 : Str} {e1 e2 e3 : Expr} {q1 q2 q3 : Pos} (F : FnK X.prog X.w X.K X.mg X.base x ps [k1, k2, k3] k (spG as ok S Pi)) (hr : Room j X.A) (i : ι) (o : ok i)
    (h1 : GE X e1 Γ R1 (Is x1)) (h2 : GE X e2 Γ R2 (Is x2)) (h3 : GE X e3 Γ R3 (Is x3)) (eas : as i = [⟨R3, x3⟩, ⟨R2, x2⟩, ⟨R1, x1⟩]) (hj : k ≤ j := by decide) (hg : Gl X x := by rfl)
    (hall : (backToKw pos (keywordEach [⟨some k1, e1, q1⟩, ⟨some k2, e2, q2⟩, ⟨some k3, e3, q3⟩] X.env)).all (·.1.isSome) = true := by rfl) (hks : (backToKw pos (keywordEach [⟨some k1, e1, q1⟩, ⟨some k2, e2, q2⟩, ⟨some k3, e3, q3⟩] X.env)).filterMap (·.1) = [k1, k2, k3] := by rfl) (hdb : (x == ("__debug__" : Str)) = false := by decide)
    (hpl : ((backTo pos (starEach [] X.env)).any (·.1) || (backToKw pos (keywordEach [⟨some k1, e1, q1⟩, ⟨some k2, e2, q2⟩, ⟨some k3, e3, q3⟩] X.env)).any (·.1.isNone)) = false := by rfl) {P' : β → Prop} (hP : ∀ y, Pi i y → P' y := by exact fun _ h => h) :
    GE X (.Call (.Name x p) [] [⟨some k1, e1, q1⟩, ⟨some k2, e2, q2⟩, ⟨some k3, e3, q3⟩] pos) Γ S P' :=
  ge_of (pe_kw0 F hr hj hg (pk_cons pe_s (pk_cons pe_s (pk_cons pe_s pk_nil))) hall hks hdb hpl) fun σ H h Q q => h1 σ H h _ fun y1 v1 H1 p1 ev1 z1 r1 => h2 σ H1 (h.ev ev1) _ fun y2 v2 H2 p2 ev2 z2 r2 => h3 σ H2 (h.ev (ev1.trans ev2)) _ fun y3 v3 H3 p3 ev3 z3 r3 => by
    cases (show _ = _ from p1); cases (show _ = _ from p2); cases (show _ = _ from p3)
    have e3 := (ev1.trans ev2).trans ev3
    have g3 := h.ev e3
    refine ⟨rfl, i, Γ.L, o, g3.al, ?_, fun y v H' py ex ry => q y v H' (hP y py) (e3.trans (g3.eve ex)) ry⟩
    rw [eas]
    exact ⟨v3, _, rfl, r3, v2, _, rfl, R2.mono ((h.ev (ev1.trans ev2)).hdx ev3) r2, v1, _, rfl, R1.mono ((h.ev ev1).hdx (ev2.trans ev3)) r1, rfl⟩
/-- a fresh list, its things seen otherwise -/
theorem GF.up {T : Rp γ} {xs : List β} {f : β → γ} (h : GF X e Γ S (Is xs)) (k : ∀ H x v, S.r H x v → T.r H (f x) v) : GF X e Γ T (Is (xs.map f)) := fun σ H hh Q q => h σ H hh Q fun ys p vs H' py hp ev hl r => by
  cases (show _ = _ from py)
  exact q _ p vs H' rfl hp ev hl (Paired.on (R := T) (f := f) (Paired.imp (fun x v z => k _ x v z) r))
theorem cut_last {δ : Type} (xs : List δ) (y : δ) : cut (xs ++ [y]) none (some (-1)) = xs := by
  have h : HT.sIx (xs ++ [y]).length (xs ++ [y]).length (some (-1)) = xs.length := by
    show (if (-1 : Int) < 0 then ((-1 : Int) + ((xs ++ [y]).length : Int)).toNat else min (-1 : Int).toNat (xs ++ [y]).length) = xs.length
    rw [if_pos (by decide), List.length_append, List.length_singleton]
    omega
  unfold cut
  rw [h, HT.sIx_none]
  simp
end
/-- all that the law's body calls -/
structure Defs (Pg : Program) (w : World) (K : PySem.W.Frag) (mg : Str → Option Value) (base : Heap) (C CH : Addr) : Prop where
  B : Blt mg
  F : RatAll Pg w K mg base C
  HF : HouF Pg w K mg base C CH
  draw : Fn Pg w K mg base "_law_draw" ["_law_pot_here", "_law_many"] 1 (spDraw)
  pick : Fn Pg w K mg base "_law_pick" ["_law_pot_here", "_law_some"] 2 (spPick C)
  letters : Fn Pg w K mg base "_law_letters" ["_law_pot_here", "_law_size", "_law_most"] 3 (spLLetters)
  lbase : Fn Pg w K mg base "_law_base" ["_law_letters_here"] 4 (spLBase)
  joins : Fn Pg w K mg base "_law_joins" ["_law_rows", "_law_row"] 3 (spJoins)
  long : Fn Pg w K mg base "_law_long" ["_law_table"] 1 (spLLong)
  mixture : Fn Pg w K mg base "_law_mixture" ["_law_pot_here", "_law_many"] 4 (spLMixture C)
  mixed : Fn Pg w K mg base "_law_mixed" ["_law_letters_here", "_law_mixture_here"] 6 (spLMixed C)
  told : Fn Pg w K mg base "_law_told" ["_law_table"] 5 (spLTold C)
  right : Fn Pg w K mg base "_law_told_right" ["_law_letters_here", "_law_house", "_law_base_here", "_law_table"] 10 (spToldRight C CH)
  words : Fn Pg w K mg base "base_words" ["house"] 8 (spBaseWords C CH)
  by_ : Fn Pg w K mg base "table_by" ["house", "mixture"] 8 (spTableBy C CH)
  byK : FnK Pg w K mg base "table_by" ["house", "mixture"] ["mixture", "house"] 8 (spTableBy C CH)
  of_ : Fn Pg w K mg base "mixture_of" ["house", "table"] 9 (spMixtureOf C CH)
  ofK : FnK Pg w K mg base "mixture_of" ["house", "table"] ["table", "house"] 9 (spMixtureOf C CH)
  is_ : Fn Pg w K mg base "is_mixture_of" ["house", "table", "value"] 8 (spIsMixtureOf C CH)
  isK : FnK Pg w K mg base "is_mixture_of" ["house", "table", "value"] ["value", "table", "house"] 8 (spIsMixtureOf C CH)
end TW

namespace TW
open PySem PySem.Spec L2 TL
section
variable {Pg : Program} {w : World} {K : PySem.W.Frag} {mg : Str → Option Value} {base : Heap} {C CH : Addr}
abbrev N_law_right : List Str := ["_law_pot_here", "_law_size", "_law_letters_here", "_law_one", "_law_table", "_law_drawn", "_law_line", "_law_other", "_law_both", "_law_due", "_law_told_here", "_law_house", "_law_base_here", "_law_rows", "_law_row", "_law_place", "_law_near", "_law_far"]
abbrev S_law_right : Stmt := tp 89
theorem sc_law_right : FnScope N_law_right ["_law_pot_here"] (defScope S_law_right) := ⟨rfl, rfl, rfl, by decide +kernel, rfl, by decide +kernel, by decide +kernel⟩
abbrev spLRight : Sp := spP (fun _ : Unit => []) (fun _ => True) rB (fun _ => Is true)
def lrC : List Stmt := (defBody S_law_right).drop 11
def lrB : List Stmt := (defBody S_law_right).drop 7
/-- the last part -/
theorem lr_c (D : Defs Pg w K mg base C CH) (PL : Plain) {n : Nat} {ls : List (List (List Int))} (hH : HouseOk n ls) {one : List (List Nat × (Int ⊕ Rat))} (h1 : MixB ls.length one) {t3 t5 t6 t14 t15 t16 t17 : TL.Slot}
    {f : Addr} {cdv : Value} {A : Around} {outer : List PySem.Env} {s : Shared} {H : Hp} {E : XK} {L : List Addr} (hr : Room 10 (A.deeper (PyProof.Rows.envOfC "_law_right" (defScope S_law_right) s.heap.objs.size f cdv))) {pt : Addr} :
    GS (cxOf CX0 Pg w K mg base N_law_right "_law_right" (defScope S_law_right) f cdv A outer s H E).nox lrC ⟨L, [pt], H, L, [.val rV (.ref pt), .val rNat n, .val (rL (rL (rL rI))) ls, .val (rL (rPart C)) one, .val (rL (rL (rQ C))) (tableM ls (one.map toldX)), .nil, .nil, .nil, .nil, .nil, .nil, .val (rH C CH) ls, .nil, .nil, .nil, .nil, .nil, .nil], []⟩ rB (Is true) fun _ _ => False := by
  have hn3 := hH.2.2.2.1
  have hn1 := hH.2.2.1
  have hmb : ∀ {m : List (List Nat × (Int ⊕ Rat))}, MixB ls.length m → OkMix ls (m.map toldX) ∧ Sq n (tableM ls (m.map toldX)) ∧ AllD6 1000000 (tableM ls (m.map toldX)) := fun {m} h => PL.mixOk n ls m hH (by have := h.1; omega) h.2
  obtain ⟨ok1, sq1, d1⟩ := hmb h1
  refine gs_set (R := rL (rPart C)) (Pe := MixB ls.length) 7 sc_law_right.nd (by
    exact gfnP D.mixture hr List.mem_cons_self ls.length ⟨hH.1, hH.2.1⟩ (ga_cons (ge_var 0) (ga1 (ge_ofNat (ge_len (xs := ls) D.B.len (ge_var 2)) rfl)))) (fun other ho => ?_)
  obtain ⟨ok2, sq2, d2⟩ := hmb ho
  have hl1 := h1.1
  have hl2 := ho.1
  have hdue := PL.due n ls one other hH h1 ho
  obtain ⟨ok3, sq3, d3⟩ := PL.mixOk n ls (one ++ one ++ other) hH (by simp; omega) (fun x hx => by
    rcases List.mem_append.mp hx with h | h
    · rcases List.mem_append.mp h with h | h <;> exact h1.2 x h
    · exact ho.2 x h)
  refine gs_setI (R := rL (rPart C)) (x := one ++ one ++ other) 8 sc_law_right.nd (GF.ge (gf_cat (GF.ge (gf_cat (ge_var 3) (ge_var 3) (by omega))) (ge_var 7) (by simp; omega))) ?_
  have hby : ∀ {X : Cx} {Γ : TL.Env} {e1 e2 : Expr} {p pos : Pos} {m : List (List Nat × (Int ⊕ Rat))}, True := fun {_ _ _ _ _ _ _} => trivial
  refine gs_setLc (T := rP (rL (rQ C)) (rL (rQ C))) (R := rL (rQ C)) (own := [("_law_row", 14), ("_law_line", 6)]) 9 (fun z : List Rat × List Rat => (z.1.zip z.2).map fun y : Rat × Rat => y.1 + y.1 + y.2) rfl sc_law_right.nd (gi_zip (R := rL (rQ C)) (S := rL (rQ C)) (xs := tableM ls (one.map toldX)) (ys := tableM ls (other.map toldX)) (by exact D.B.zip) (by
    refine ga_cons (ge_var 4) (ga1 ?_)
    exact gfn D.by_ hr (ls, other) ⟨⟨n, hH⟩, ok2⟩ (ga_cons (ge_var 11) (ga1 (ge_LT (ge_var 7)))))) (blkOk_by (N := N_law_right) (sc := defScope S_law_right) (by decide +kernel)) (fun _ _ _ _ _ => (gg_pair rfl (gg_name (n := 18) 14 sc_law_right.nd) (gg_name (n := 18) 6 sc_law_right.nd))) rfl (by decide) (fun D' z hz _ _ _ _ _ => ?_) ?_
  · refine GF.ge ?_
    refine gf_lc (own := [("_law_near", 16), ("_law_far", 17)]) (fun y : Rat × Rat => (y.1 + y.1 + y.2 : Rat)) rfl sc_law_right.nd (gi_zip (by exact D.B.zip) (by exact ga_cons (ge_var 14) (ga1 (ge_var 6)))) (blkOk_in N_law_right (by decide +kernel)) (fun _ _ _ _ _ => (gg_pair rfl (gg_name (n := 18) 16 sc_law_right.nd) (gg_name (n := 18) 17 sc_law_right.nd))) rfl (by decide) (fun D' y hy _ _ _ _ _ => ?_)
    have hz1 := zip_len hz
    have hy1 := zip_len hy
    have a1 := d1 _ hz1.1 _ hy1.1
    have a2 := d2 _ hz1.2 _ hy1.2
    have b1 := a1.small (n := 20) (by decide) (by decide)
    have b2 := a2.small (n := 20) (by decide) (by decide)
    have b3 := (a1.add a1).small (n := 21) (by decide) (by decide)
    have dn : ∀ {k : Nat} {q : Rat}, BgQ k q → k ≤ 4500 → q.den < 2 ^ 4500 := fun {k q} hb hk => Nat.lt_of_lt_of_le hb.2 (Nat.pow_le_pow_right (by decide) hk)
    exact ge_qadd D.F (hr.mono (by decide)) (ge_qadd D.F (hr.mono (by decide)) (ge_var 16) (ge_var 16) (OkAdd.of (b1.big (by decide)) (b1.mono (by decide)) (dn b1 (by decide)))) (ge_var 17) (OkAdd.of (b3.big (by decide)) (b2.mono (by decide)) (dn b2 (by decide)))
  have edue : (((tableM ls (one.map toldX)).zip (tableM ls (other.map toldX))).map fun z : List Rat × List Rat => (z.1.zip z.2).map fun y : Rat × Rat => y.1 + y.1 + y.2) = tableM ls ((one ++ one ++ other).map toldX) := hdue.symm
  rw [edue]
  generalize hT3 : tableM ls ((one ++ one ++ other).map toldX) = T3 at ok3 sq3 d3
  generalize hT1 : tableM ls (one.map toldX) = T1 at ok1 sq1 d1
  refine gs_ifNever (Pc := Is (false || (!decide (true = true) || !decide (true = true)))) (GW.gt (gw_or ?g1 fun _ => gw_or (gt_notB ?g2 ge_bl) fun _ => gw_or1 (gt_notB ?g3 ge_bl))) (fun z => ?g4) ?g5
  case g1 =>
    refine gt_differ (R := rL (rL (rQ C))) (x := T3) (nek_list (eqk_list (eqk_q D.F))) (hr.mono (by decide)) ?_ (ge_var 9)
    refine GE.to (gfn D.by_ hr (ls, one ++ one ++ other) ⟨⟨n, hH⟩, ok3⟩ (ga_cons (ge_var 11) (ga1 (ge_LT (ge_var 8))))) hT3
  case g2 => exact gfn D.is_ hr (ls, T3, one ++ one ++ other) ⟨⟨n, hH, sq3⟩, ok3, hT3⟩ (ga_cons (ge_var 11) (ga_cons (ge_var 9) (ga1 (ge_LT (ge_var 8)))))
  case g3 => exact gkw3 (R1 := rLT (rPart C)) (R2 := rL (rL (rQ C))) (R3 := rH C CH) (x1 := one) (x2 := T1) (x3 := ls) D.isK hr (ls, T1, one) ⟨⟨n, hH, sq1⟩, ok1, hT1⟩ (ge_LT (ge_var 3)) (ge_var 4) (ge_var 11) rfl
  case g4 => cases (show _ = _ from z)
  obtain ⟨mix, hK⟩ := PL.told n ls one hH h1
  rw [hT1] at hK
  have hi := sq_inr hK.sq
  have hw := inrT_worth T1
  have okOf : (∃ n, HouseOk n ls ∧ (inrT T1).length = n ∧ ∀ r ∈ inrT T1, r.length = n) ∧ OkSolve (colsR ls) ((inrT T1).map fun r => r.map worth).flatten := ⟨⟨n, hK.H, hi.1, hi.2⟩, by rw [hw]; exact hK.sol⟩
  have hmix : mixR ls ((inrT T1).map fun r => r.map worth) = some mix := by rw [hw]; exact hK.sold
  have hml : mix.length ≤ 40 := hK.ok.1
  refine gs_own (R := rO (rTold C)) (Pe := Is (mix.map some)) 10 sc_law_right.nd (GF.up (S := rTold C) (xs := mix) ?_ fun _ _ _ k => k) (fun xs p pxs hp => ?_)
  · refine gfnF D.of_ hr (ls, inrT T1) okOf (ga_cons (ge_var 11) (ga1 (ge_LT (GE.on (ge_var 4) fun _ _ r => inrT_T r)))) (by decide) fun y py => ?_
    cases (show _ = _ from py)
    exact ⟨mix, hmix, rfl⟩
  cases (show _ = _ from pxs)
  refine gs_append (R := rO (rTold C)) (xs := mix.map some) (Pe := Is none) 10 ge_nonO (fun y py => ?_) (by rw [List.length_map]; omega)
  cases (show _ = _ from py)
  refine gs_froze1 (R := rO (rTold C)) (xs := mix.map some ++ [none]) 10 rfl rfl hp ?_
  refine gs_ret (ge_same (R := rL (rTold C)) (x := mix) (rck_list (eqk_pair (eqk_list eqk_nat) (eqk_q D.F) (Nat.le_refl _) (Nat.le_refl _))) (hr.mono (by decide)) ?_ ?_)
  · refine gfnH D.of_ hr (ls, inrT T1) okOf (ga_cons (ge_var 11) (ga1 (ge_LT (GE.on (ge_var 4) fun _ _ r => inrT_T r)))) (by decide) fun H1 H2 y v hf py ry => ?_
    cases (show _ = _ from py)
    have ry' : (rO (rFr H1 (rTold C))).r H2 (mixR ls ((inrT T1).map fun r => r.map worth)) v := ry
    rw [hmix] at ry'
    exact ⟨mix, rfl, rFr_list ry'⟩
  · refine GE.on (R := rL (rO (rTold C))) (x := mix.map some) ?_ fun _ _ r => rL_dn (R := rTold C) (S := rO (rTold C)) (f := some) (fun _ _ k => k) r
    refine GF.ge (GF.to (x := cut (mix.map some ++ [none]) none (some (-1))) (gf_slice (ge_var 10) go_none (go_some (ge_neg ge_int))) (cut_last _ _))
end
end TW

namespace TW
open PySem PySem.Spec L2 TL
section
variable {Pg : Program} {w : World} {K : PySem.W.Frag} {mg : Str → Option Value} {base : Heap} {C CH : Addr}
/-- the drawn table -/
def lrD : List Stmt := subs ((defBody S_law_right).getD 8 (.Pass ⟨0, 0, 0, 0⟩))
theorem lr_b (D : Defs Pg w K mg base C CH) (PL : Plain) {n : Nat} {ls : List (List (List Int))} (hH : HouseOk n ls) {one : List (List Nat × (Int ⊕ Rat))} (h1 : MixB ls.length one)
    {f : Addr} {cdv : Value} {A : Around} {outer : List PySem.Env} {s : Shared} {H : Hp} {E : XK} {L : List Addr} (hr : Room 10 (A.deeper (PyProof.Rows.envOfC "_law_right" (defScope S_law_right) s.heap.objs.size f cdv))) {pt : Addr} :
    GS (cxOf CX0 Pg w K mg base N_law_right "_law_right" (defScope S_law_right) f cdv A outer s H E).nox lrB ⟨L, [pt], H, L, [.val rV (.ref pt), .val rNat n, .val (rL (rL (rL rI))) ls, .val (rL (rPart C)) one, .val (rL (rL (rQ C))) (tableM ls (one.map toldX)), .nil, .nil, .nil, .nil, .nil, .nil, .val (rH C CH) ls, .val (rL (rL rNat)) (lawBase ls).1, .val (rL PJ) (lawBase ls).2, .nil, .nil, .nil, .nil], []⟩ rB (Is true) fun _ _ => False := by
  have hn3 := hH.2.2.2.1
  have hn1 := hH.2.2.1
  refine gs_own (R := rL rI) (Pe := Is []) 5 sc_law_right.nd gf_nil (fun xs p pxs hp => ?_)
  cases (show _ = _ from pxs)
  refine gs_forP (T := rNat) (PX := Is (List.range n)) (fun _ j ss => ∃ tb : List (List Int), tb.length = j ∧ (∀ r ∈ tb, RowB n r) ∧ ss = [.val rV (.ref pt), .val rNat n, .val (rL (rL (rL rI))) ls, .val (rL (rPart C)) one, .val (rL (rL (rQ C))) (tableM ls (one.map toldX)), .own p (rL rI) tb, .nil, .nil, .nil, .nil, .nil, .val (rH C CH) ls, .val (rL (rL rNat)) (lawBase ls).1, .val (rL PJ) (lawBase ls).2, .nil, .nil, .nil, .nil]) rfl PassesOwn.never
    (range_GI D.B.range (ge_nat (ge_var 1)) (by omega)) (gg_name (n := 18) 6 sc_law_right.nd) (fun xs _ => ⟨_, ⟨[], rfl, fun r hr => (nomatch hr), rfl⟩, (.keep (.keep (.keep (.keep (.keep (.keep (.keep (.keep (.keep (.keep (.keep (.keep (.keep (.keep (.keep (.keep (.keep (.keep .nil))))))))))))))))))⟩) (fun xs i ss _ e => by obtain ⟨tb, _, _, rfl⟩ := e; rfl) (fun gs xs j line ss pxs hxj e => ?_) (fun xs ss pxs e => ?_)
  · cases (show _ = _ from pxs)
    obtain ⟨tb, htb, hrows, rfl⟩ := e
    have hj := (range_at hxj).2
    have hj1 := (range_at hxj).1
    refine gs_append (R := rL rI) (xs := tb) (Pe := RowB n) 5 (GF.ge ?_) (fun y hy => ?_) (by omega)
    · refine gf_lcP (T := rNat) (PX := Is (List.range n)) (Pe := fun _ i => i.natAbs ≤ 2) (own := [("_law_place", 15)]) rfl sc_law_right.nd (range_GI D.B.range (ge_nat (ge_var 1)) (by omega)) (blkOk_by (N := N_law_right) (sc := defScope S_law_right) (by decide +kernel)) (fun _ _ _ _ _ => gg_name (n := 18) 15 sc_law_right.nd) rfl (by decide) (fun D' xs x px hx _ _ _ _ _ => ?_) (fun xs ys px py => ?_)
      · refine ge_subP (Pa := fun i => ∃ k : Nat, k < 5 ∧ i = (k : Int)) (Pb := Is 2) (ge_natP (P := fun k => k < 5) ?_) ge_int fun x y hx hy => ?_
        · exact gfnP D.draw hr List.mem_cons_self 5 ⟨by decide, by decide⟩ (ga_cons (ge_var 0) (ga1 (ge_ofNat ge_int rfl)))
        · obtain ⟨k, hk, rfl⟩ := hx
          cases (show _ = _ from hy)
          omega
      · cases (show _ = _ from px)
        refine ⟨by have := Paired.length py; rw [List.length_range] at this; exact this.symm, fun i hi => ?_⟩
        obtain ⟨k, hk⟩ := List.getElem?_of_mem hi
        obtain ⟨x, _, hx⟩ := Paired.get py hk
        exact hx
    · exact gs_end fun σ H hh => ⟨_, ⟨tb ++ [y], by simp [htb], fun r hr1 => by
        rcases List.mem_append.mp hr1 with h | h
        · exact hrows r h
        · rw [List.mem_singleton.mp h]; exact hy, rfl⟩, hh.less (.keep (.keep (.keep (.keep (.keep (.keep (.drop (.keep (.keep (.keep (.keep (.keep (.keep (.keep (.keep (.keep (.keep (.keep .nil))))))))))))))))))⟩
  cases (show _ = _ from pxs)
  obtain ⟨tb, htb, hrows, rfl⟩ := e
  rw [List.length_range] at htb
  have hsq : Sq n tb := ⟨htb, fun r hr1 => (hrows r hr1).1⟩
  have hent : Ent 2 tb := fun r hr1 => (hrows r hr1).2
  refine gs_froze1 (R := rL rI) (xs := tb) 5 rfl rfl hp ?_
  have hi := sq_inl hsq
  have hwi := inlT_worth tb
  have hfl : tb.flatten.length = n * n := Sq.flat hsq.2 hsq.1
  have hnn := Nat.mul_le_mul hn3 hn3
  have fin : GS (cxOf CX0 Pg w K mg base N_law_right "_law_right" (defScope S_law_right) f cdv A outer s H E).nox ((defBody S_law_right).drop 10) ⟨L, [pt], H, L, [.val rV (.ref pt), .val rNat n, .val (rL (rL (rL rI))) ls, .val (rL (rPart C)) one, .val (rL (rL (rQ C))) (tableM ls (one.map toldX)), .val (rL (rL rI)) tb, .nil, .nil, .nil, .nil, .nil, .val (rH C CH) ls, .val (rL (rL rNat)) (lawBase ls).1, .val (rL PJ) (lawBase ls).2, .nil, .nil, .nil, .nil], []⟩ rB (Is true) fun _ _ => False := by
    refine gs_ifRet (gt_eq (ge_nat (ge_var 1)) ge_int) (fun z => gs_ret ge_bl) (fun z => ?_)
    exact gs_less (.keep (.keep (.keep (.keep (.keep (.drop (.keep (.keep (.keep (.keep (.keep (.keep (.drop (.drop (.keep (.keep (.keep (.keep .nil)))))))))))))))))) (lr_c (t3 := .nil) (t5 := .nil) (t6 := .nil) (t14 := .nil) (t15 := .nil) (t16 := .nil) (t17 := .nil) D PL hH h1 hr)
  refine gs_if (ι := PUnit) (fun _ => ⟨L, [pt], H, L, [.val rV (.ref pt), .val rNat n, .val (rL (rL (rL rI))) ls, .val (rL (rPart C)) one, .val (rL (rL (rQ C))) (tableM ls (one.map toldX)), .val (rL (rL rI)) tb, .nil, .nil, .nil, .nil, .nil, .val (rH C CH) ls, .val (rL (rL rNat)) (lawBase ls).1, .val (rL PJ) (lawBase ls).2, .nil, .nil, .nil, .nil], []⟩)
    (gt_joinsF (ss := (lawBase ls).2) (row := tb.flatten) D.joins hr (by decide) (gf_list (xs := (lawBase ls).2) D.B.list (ge_LT (ge_var 13))) (fun q => ?_) (PL.join n ls tb hH hsq hent)) (fun z => ?_) (fun z => ?_) (fun _ => fin) (fun _ => ⟨rfl, rfl, rfl⟩)
  · exact gfn D.long hr tb (by show tb.flatten.length < 1000; omega) (ga1 (ge_var 5))
  · obtain ⟨hO, hN⟩ := PL.out n ls tb hH hsq hent (show true = _ from z).symm
    refine gs_ifNever (Pc := Is (none : Option (List (List Nat × Rat))).isSome) (gt_notN (fun _ _ _ => Rp.notNon_list) (R := rL (rTold C)) ?_) (fun z => by cases (show _ = _ from z)) (gs_end fun σ H hh => ⟨⟨⟩, hh⟩)
    refine gkw2H (R1 := rLT (rL (rIQ C))) (R2 := rH C CH) (x1 := inlT tb) (x2 := ls) D.ofK hr (ls, inlT tb) ⟨⟨n, hH, hi.1, hi.2⟩, by rw [hwi]; exact hO⟩ ?_ (ge_var 11) rfl fun H1 H2 y v py ry => ?_
    · exact GE.on (R := rTs (rL rI)) (x := tb) (ge_tuple D.B.tuple (ge_var 5)) fun H v r => by
        obtain ⟨p, vs, a, b, c⟩ := r
        have c2 : Paired ((rL (rIQ C)).r H) (tb.map fun r => r.map Sum.inl) vs := Paired.on (R := rL (rIQ C)) (f := fun r : List Int => r.map Sum.inl) (Paired.imp (fun x v k => rL_up (R := TL.rI) (S := rIQ C) (f := Sum.inl) (fun _ _ k => k) k) c)
        exact .inr ⟨p, vs, a, b, c2⟩
    · cases (show _ = _ from py)
      have ry' : (rO (rFr H1 (rTold C))).r H2 (mixR ls ((inlT tb).map fun r => r.map worth)) v := ry
      rw [hwi, hN] at ry'
      exact ⟨none, rfl, ry'⟩
  · obtain ⟨mix, hK⟩ := PL.drawn n ls tb hH hsq hent (show false = _ from z).symm
    refine gs_ifNever (Pc := Is false) (gt_not (x := true) (gt_val ?_)) (fun z => by cases (show _ = _ from z)) (gs_end fun σ H hh => ⟨⟨⟩, hh⟩)
    refine gfn D.right hr (ls, (lawBase ls).1, castT tb) ⟨n, mix, hK⟩ (ga_cons (ge_var 2) (ga_cons (ge_var 11) (ga_cons (ge_var 12) (ga1 (ge_qT ?_)))))
    exact gfn D.told hr tb (fun r hr1 i hi => Nat.lt_of_le_of_lt (hent r hr1 i hi) (Nat.lt_of_lt_of_le (by decide : 2 < 2 ^ 2) (Nat.pow_le_pow_right (by decide) (by decide)))) (ga1 (ge_var 5))
end
end TW

namespace TW
open PySem PySem.Spec L2 TL
section
variable {Pg : Program} {w : World} {K : PySem.W.Frag} {mg : Str → Option Value} {base : Heap} {C CH : Addr}
theorem ok_lright (D0 : Defs Pg w K mg base C CH) (PL : Plain) (D : Df K mg "_law_right" (tp 89) ["_law_pot_here"]) : Fn Pg w K mg base "_law_right" ["_law_pot_here"] 11 (spLRight) := by
  refine fn_typedP D sc_law_right (fun _ => rfl) (by decide) fun _ _ pt f cdv A outer s H E L hr => ?_
  refine gs_set (R := rNat) (Pe := fun n => 1 ≤ n ∧ n ≤ 3) 1 sc_law_right.nd (by
    refine GE.re (R := rI) (P := fun i => 1 ≤ i ∧ i ≤ 3) (pick_int (C := C) (xs := [2, 2, 2, 1, 2, 3]) ?_ (by decide)) fun x v H p r => ⟨x.toNat, by omega, ?_⟩
    · exact gfnP D0.pick hr List.mem_cons_self ([2, 2, 2, 1, 2, 3].map Sum.inl) ⟨by decide, by decide⟩ (ga_cons (ge_var 0) (ga1 (ge_ints (ge_lst [2, 2, 2, 1, 2, 3] (ga_cons ge_int (ga_cons ge_int (ga_cons ge_int (ga_cons ge_int (ga_cons ge_int (ga1 ge_int)))))))))) 
    · cases (show _ = _ from r)
      show V.int x = V.int (x.toNat : Int)
      rw [Int.toNat_of_nonneg (by omega)]) (fun n hn => ?_)
  refine gs_set (R := rL (rL (rL rI))) (Pe := fun ls => HouseOk n ls) 2 sc_law_right.nd (by
    refine gfnP D0.letters hr List.mem_cons_self (n, if n = 3 then 2 else 3) ⟨hn.1, hn.2, by show 1 ≤ (if n = 3 then 2 else 3); split <;> decide, by show (if n = 3 then 2 else 3) ≤ 3; split <;> decide⟩ (ga_cons (ge_var 0) (ga_cons (ge_var 1) (ga1 (ge_ifExp (gt_eq (ge_nat (ge_var 1)) ge_int) (fun z => ?_) (fun z => ?_))))) (hP := fun ls h => h.1)
    · have z2 := of_decide_eq_true (show true = decide ((n : Int) = 3) from z).symm
      exact ge_ofNat ge_int (by rw [if_pos (by omega)]; rfl)
    · have z2 := of_decide_eq_false (show false = decide ((n : Int) = 3) from z).symm
      exact ge_ofNat ge_int (by rw [if_neg (by omega)]; rfl)) (fun ls hH => ?_)
  have hn3 := hH.2.2.2.1
  refine gs_asg (R := rP (rH C CH) (rP (rL (rL rNat)) (rL PJ))) (Pe := Is (ls, lawBase ls)) (ge_pair (ge_mkH D0.HF (hr.mono (by decide)) hH (ge_var 2)) (by exact gfn D0.lbase hr ls ⟨n, hH⟩ (ga1 (ge_var 2)))) (gg_pair rfl (gg_name (n := 18) 11 sc_law_right.nd) (gg_pair rfl (gg_name (n := 18) 12 sc_law_right.nd) (gg_name (n := 18) 13 sc_law_right.nd))) rfl (fun y py => ?_)
  cases (show _ = _ from py)
  refine gs_set (R := rL (rPart C)) (Pe := MixB ls.length) 3 sc_law_right.nd (by
    exact gfnP D0.mixture hr List.mem_cons_self ls.length ⟨hH.1, hH.2.1⟩ (ga_cons (ge_var 0) (ga1 (ge_ofNat (ge_len (xs := ls) D0.B.len (ge_var 2)) rfl)))) (fun one h1 => ?_)
  obtain ⟨ok1, sq1, d1⟩ := PL.mixOk n ls one hH (by have := h1.1; omega) h1.2
  refine gs_setI (R := rL (rL (rQ C))) (x := tableM ls (one.map toldX)) 4 sc_law_right.nd (by exact gfn D0.by_ hr (ls, one) ⟨⟨n, hH⟩, ok1⟩ (ga_cons (ge_var 11) (ga1 (ge_LT (ge_var 3))))) ?_
  refine gs_ifNever (Pc := Is (false || (false || (decide ((n : Int) < 3) && false)))) (GW.gt (gw_or ?g1 fun _ => gw_or ?g2 fun _ => gw_or1 (GW.gt (gw_and (gt_lt (ge_nat (ge_var 1)) ge_int) fun _ => gw_and1 ?g3)))) (fun z => ?g4) ?g5
  case g1 =>
    refine gt_differ (R := rL (rL (rQ C))) (x := tableM ls (one.map toldX)) (nek_list (eqk_list (eqk_q D0.F))) (hr.mono (by decide)) (ge_var 4) ?_
    exact gfn D0.mixed hr (ls, one) ⟨⟨n, hH⟩, ok1⟩ (ga_cons (ge_var 2) (ga1 (ge_var 3)))
  case g2 =>
    refine gt_differ (R := rL (rL (rQ C))) (x := tableM ls (one.map toldX)) (nek_list (eqk_list (eqk_q D0.F))) (hr.mono (by decide)) ?_ (ge_var 4)
    exact gkw2 (R1 := rLT (rPart C)) (R2 := rH C CH) (x1 := one) (x2 := ls) D0.byK hr (ls, one) ⟨⟨n, hH⟩, ok1⟩ (ge_TL (ge_tuple D0.B.tuple (ge_var 3))) (ge_var 11) rfl
  case g3 =>
    refine gt_differ (R := rL (rL rNat)) (x := (lawBase ls).1) (nek_list (eqk_list eqk_nat)) (hr.mono (by decide)) ?_ (ge_var 12)
    rw [← PL.same n ls hH]
    exact gfn D0.words hr ls ⟨n, hH⟩ (ga1 (ge_var 11))
  case g4 =>
    have : true = (false || (false || (decide ((n : Int) < 3) && false))) := z
    simp at this
  obtain ⟨mix, hK⟩ := PL.told n ls one hH h1
  refine gs_ifNever (Pc := Is false) (gt_not (x := true) (gt_val ?_)) (fun z => by cases (show _ = _ from z)) ?_
  · exact gfn D0.right hr (ls, (lawBase ls).1, tableM ls (one.map toldX)) ⟨n, mix, hK⟩ (ga_cons (ge_var 2) (ga_cons (ge_var 11) (ga_cons (ge_var 12) (ga1 (ge_var 4)))))
  exact lr_b D0 PL hH h1 hr
end
/-- the script, as it comes -/
def rSc (K : PySem.W.Frag) : Rp (List Int) := ⟨fun H xs v => ∃ a, v = .ref a ∧ SqL K H a (xs.map V.int), fun e ⟨a, h1, h2⟩ => ⟨a, h1, h2.elim (fun h => .inl (h.elim (fun h => .inl (e _ _ h)) fun ⟨o, h⟩ => .inr ⟨o, e _ _ h⟩)) fun h => .inr h⟩⟩
theorem sq_hd {K : PySem.W.Frag} {L : List Addr} {H : Hp} {a : Addr} {xs : List V} (h : SqL K (hd L H) a xs) : SqL K H a xs := h.elim (fun h => .inl (h.elim (fun h => .inl (hd_some h).2) fun ⟨o, h⟩ => .inr ⟨o, (hd_some h).2⟩)) fun h => .inr h
section
variable {X : Cx} {Γ : TL.Env} {e a b : Expr} {p pos : Pos}
theorem ge_lenS {xs : List Int} (hm : X.mg "len" = none) (h : GE X e Γ (rSc X.K) (Is xs)) (hg : Gl X "len" := by rfl) (hs : starEach [e] X.env = (false, eval e X.env) :: starEach [] X.env := by rfl) : GE X (.Call (.Name "len" p) [e] [] pos) Γ TL.rI (Is (xs.length : Int)) :=
  ge_callB call_len_seq hm PySem.boot_len (ga1 h hs) (fun σ H vs hh z r Q q => by
    obtain ⟨v, rfl, l, rfl, hl⟩ := r.one
    refine ⟨l, xs.map V.int, rfl, .inl (sq_hd hl), ?_⟩
    rw [List.length_map]
    exact q _ _ H rfl hh.evr rfl) hg (he := hs) (hpl := by rfl)
theorem ge_ixS {xs : List Int} {j : Int} {k : Nat} {x : Int} (ha : GE X a Γ (rSc X.K) (Is xs)) (hb : GE X b Γ TL.rI (Is j)) (ej : j = (k : Int)) (hx : xs[k]? = some x) (hs : PlainIx b := by exact fun _ _ => rfl) : GE X (.Subscript a b pos) Γ TL.rI (Is x) :=
  ge_of (pe_ix ix_list pe_s pe_s hs) fun σ H h Q q => ha σ H h _ fun x' v H1 p1 e1 z1 r1 => hb σ H1 (h.ev e1) _ fun y' u H2 p2 e2 z2 r2 => by
    cases (show _ = _ from p1); cases (show _ = _ from p2); cases (show _ = _ from r2)
    have r1 := (rSc X.K).mono ((h.ev e1).hdx e2) r1
    obtain ⟨l, rfl, hl⟩ := r1
    exact ⟨l, xs.map V.int, _, .int x, rfl, rfl, sq_hd hl, by rw [ej]; exact atI_nat (by rw [List.getElem?_map, hx]; rfl), q x _ H2 rfl (e1.trans e2) rfl⟩
/-- a pot made anew is handed on -/
theorem ge_potCall {β ι : Type} {S : Rp β} {as : ι → List Bd} {ok : ι → Prop} {P : ι → β → Prop} {k j : Nat} {ps : List Str} {x : Str} {e : Expr} (F : Fn X.prog X.w X.K X.mg X.base x ps k (spP as ok S P)) (hr : Room j X.A) (i : ι) (o : ok i) (has : as i = [])
    (ha : GF X e Γ TL.rI (fun y => ∃ a b : Int, y = [a, b] ∧ 0 ≤ a ∧ 0 ≤ b ∧ b < 4294967296)) (hS : ∀ L H x v, S.r (hd L H) x v → ∀ M, S.r (hd M H) x v) (hj : k ≤ j := by decide)
    (hg : Gl X x := by rfl) (hdb : (x == ("__debug__" : Str)) = false := by decide) (he : starEach [e] X.env = (false, eval e X.env) :: starEach [] X.env := by rfl) : GE X (.Call (.Name x p) [e] [] pos) Γ S (P i) := by
  obtain ⟨f, fd, G, m, kp, hb⟩ := F.ex
  refine ge_of (pe_call G (hr.mono hj) hg m kp hb .nil pass0 (pa_cons pe_s pa_nil he) hdb he (by rfl)) fun σ H h Q q => ha σ H h _ fun y pt vs H1 py hp ev hl r => ?_
  obtain ⟨a, b, rfl, h1, h2, h3⟩ := py
  have hv : vs = [.int a, .int b] := by
    cases r with
    | cons k1 r =>
      cases r with
      | cons k2 r =>
        cases r
        cases (show _ = _ from k1); cases (show _ = _ from k2); rfl
  subst hv
  have hl1 := (h.ev ev).al
  refine ⟨i, pt, [], [pt], rfl, o, ⟨a, b, h1, ⟨h2, h3⟩, hl⟩, List.mem_cons_self, (fun l ml => by rw [List.mem_singleton.mp ml, hl]; intro z; cases z), (by rw [has]; rfl), fun y v H' py ev2 ry => q y v H' py ?_ (hS _ _ _ _ ry _)⟩
  intro c oo hc
  have ne : c ≠ pt := fun z => by rw [z, hp] at hc; cases hc
  refine ⟨fun n => (ev2 c oo ((ev c oo hc).1 n)).1 (by simp [ne]), fun mm => ?_⟩
  obtain ⟨x1, x2, x3, x4, x5⟩ := (ev c oo hc).2 mm
  exact ⟨x1, x2, x3, x4, (ev2 c _ x5).1 (by simp [ne])⟩
end
section
variable {Pg : Program} {w : World} {K : PySem.W.Frag} {mg : Str → Option Value} {base : Heap} {C CH : Addr}
abbrev N_law_pot : List Str := ["_law_script", "_law_k", "_law_cell"]
abbrev S_law_pot : Stmt := tp 73
theorem sc_law_pot : FnScope N_law_pot ["_law_script", "_law_k"] (defScope S_law_pot) := ⟨rfl, rfl, rfl, by decide +kernel, rfl, by decide +kernel, by decide +kernel⟩
abbrev spLPot (K : PySem.W.Frag) : Sp := spH (fun x : List Int => [⟨rSc K, x⟩, ⟨rI, 0⟩]) (fun _ => True) (fun H => rO (rFr H rI)) (fun _ y => ∃ a b : Int, y = some [a, b] ∧ 0 ≤ a ∧ 0 ≤ b ∧ b < 4294967296)
theorem ok_lpot (B : Blt mg) (D : Df K mg "_law_pot" (tp 73) ["_law_script", "_law_k"]) : Fn Pg w K mg base "_law_pot" ["_law_script", "_law_k"] 1 (spLPot K) := by
  refine fn_typedH D sc_law_pot (fun _ => rfl) (by decide) fun xs hx f cdv A outer s H E L hr => ?_
  refine gs_setI (R := rI) (x := if 0 < xs.length then (if xs.getD 0 0 < 0 then - xs.getD 0 0 else xs.getD 0 0) else 373) 2 sc_law_pot.nd (ge_ifExp (gt_lt (ge_var 1) (ge_lenS (xs := xs) B.len (ge_var 0))) (fun z => ?_) (fun z => ?_)) ?_
  · have z2 := of_decide_eq_true (show true = decide ((0 : Int) < (xs.length : Int)) from z).symm
    rw [if_pos (by omega)]
    exact ge_abs B.abs (ge_ixS (xs := xs) (k := 0) (ge_var 0) (ge_var 1) rfl (getD_get (by omega)))
  · have z2 := of_decide_eq_false (show false = decide ((0 : Int) < (xs.length : Int)) from z).symm
    rw [if_neg (by omega)]
    exact (ge_add (ge_mul ge_int (ge_var 1) (big_mul (big_small (by decide)) (big_small (by decide)))) ge_int).to (by decide)
  generalize (if 0 < xs.length then (if xs.getD 0 0 < 0 then - xs.getD 0 0 else xs.getD 0 0) else 373) = c
  have hm := Int.emod_nonneg c (show (2147483549 : Int) ≠ 0 by decide)
  have hm2 := Int.emod_lt_of_pos c (show (0 : Int) < 2147483549 by decide)
  refine gs_ret (GE.re (R := rFr H rI) (P := Is [if c - 10 ^ Int.toNat 18 > 0 then c - 10 ^ Int.toNat 18 else 0, (c % 2147483549 * 40699 + 4021 * 0 + 383) % 2147483563 + 1]) (GF.fr (gf_lst [if c - 10 ^ Int.toNat 18 > 0 then c - 10 ^ Int.toNat 18 else 0, (c % 2147483549 * 40699 + 4021 * 0 + 383) % 2147483563 + 1] (ga_cons (ge_max2 rfl B.max ge_int (ge_sub (ge_var 2) (ge_rI (x := 10) (y := 18) op_pow ge_int ge_int ?_))) (ga1 (ge_add (ge_mod (ge_intI B.int (ge_add (ge_add (ge_mul (ge_mod (ge_intI B.int (ge_var 2)) ge_int (by decide)) ge_int ?_) (ge_mul ge_int (ge_var 1) ?_)) ge_int)) ge_int (by decide)) ge_int))) rfl (Nat.le_of_ble_eq_true rfl))) fun y v H' py ry => ?_)
  · exact ⟨by decide, by decide, by decide⟩
  · exact big_mul (Big.of_lt (n := 32) (by omega) (by decide)) (big_small (by decide))
  · exact big_mul (big_small (by decide)) (big_small (by show (0 : Int).natAbs < 1000000; decide))
  · cases (show _ = _ from py)
    refine ⟨some _, ⟨_, _, rfl, ?_, ?_, ?_⟩, ry⟩
    · split <;> omega
    · have := Int.emod_nonneg (c % 2147483549 * 40699 + 4021 * 0 + 383) (show (2147483563 : Int) ≠ 0 by decide)
      omega
    · have := Int.emod_lt_of_pos (c % 2147483549 * 40699 + 4021 * 0 + 383) (show (0 : Int) < 2147483563 by decide)
      omega
abbrev N_law : List Str := ["_law_script"]
abbrev S_law : Stmt := tp 90
theorem sc_law : FnScope N_law ["_law_script"] (defScope S_law) := ⟨rfl, rfl, rfl, by decide +kernel, rfl, by decide +kernel, by decide +kernel⟩
abbrev spLaw (K : PySem.W.Frag) : Sp := spG (fun x : List Int => [⟨rSc K, x⟩]) (fun _ => True) rB (fun _ => Is true)
theorem ok_law {f0 : Addr} {fd0 : FuncData} (G1 : Fn Pg w K mg base "_law_pot" ["_law_script", "_law_k"] 1 (spLPot K)) (G2 : Fn Pg w K mg base "_law_right" ["_law_pot_here"] 11 (spLRight)) (D : L2.Fun K "law" "law" S_law f0 fd0) : FnOk Pg w K mg base CX0 12 f0 fd0 ["_law_script"] (spLaw K) := by
  refine fn_typed D sc_law (fun _ => rfl) (by decide) fun xs hx0 cdv A outer s H E L hr => ?_
  refine gs_ret (GE.imp (ge_potCall (P := fun (_ : Unit) => Is true) G2 hr () trivial rfl ?_ (fun _ _ _ _ r _ => r)) fun _ h => h)
  refine gfnF G1 hr xs trivial (ga_cons (ge_var 0) (ga1 ge_int)) (by decide) fun y py => ?_
  obtain ⟨a, b, rfl, h⟩ := py
  exact ⟨[a, b], rfl, a, b, rfl, h⟩
end
end TW

namespace TW
abbrev Vc := Nat → Rat
def vec (r : List Int) : Vc := fun j => ((r.getD j 0 : Int) : Rat)
def SpanL : List Vc → Vc → Prop
  | [], v => ∀ j, v j = 0
  | r :: rs, v => ∃ c : Rat, SpanL rs fun j => v j - c * r j
theorem SpanL.eq {rs : List Vc} {u v : Vc} (h : SpanL rs u) (e : ∀ j, u j = v j) : SpanL rs v := by
  have : u = v := funext e
  rw [← this]; exact h
theorem SpanL.zero : ∀ {rs : List Vc}, SpanL rs fun _ => 0
  | [] => fun _ => rfl
  | r :: rs => ⟨0, (SpanL.zero (rs := rs)).eq fun j => by grind⟩
theorem SpanL.add : ∀ {rs : List Vc} {u v : Vc}, SpanL rs u → SpanL rs v → SpanL rs fun j => u j + v j
  | [], u, v, hu, hv => fun j => by show u j + v j = 0; rw [hu j, hv j]; grind
  | r :: rs, u, v, ⟨c, hc⟩, ⟨d, hd⟩ => ⟨c + d, (SpanL.add hc hd).eq fun j => by grind⟩
theorem SpanL.smul {k : Rat} : ∀ {rs : List Vc} {u : Vc}, SpanL rs u → SpanL rs fun j => k * u j
  | [], u, hu => fun j => by show k * u j = 0; rw [hu j]; grind
  | r :: rs, u, ⟨c, hc⟩ => ⟨k * c, (SpanL.smul (k := k) hc).eq fun j => by grind⟩
theorem SpanL.sub {rs : List Vc} {u v : Vc} {k : Rat} (hu : SpanL rs u) (hv : SpanL rs v) : SpanL rs fun j => u j - k * v j := (hu.add (hv.smul (k := -k))).eq fun j => by grind
theorem SpanL.weak {r : Vc} {rs : List Vc} {v : Vc} (h : SpanL rs v) : SpanL (r :: rs) v := ⟨0, h.eq fun j => by grind⟩
theorem SpanL.mem : ∀ {rs : List Vc} {v : Vc}, v ∈ rs → SpanL rs v
  | r :: rs, v, h => by
    rcases List.mem_cons.mp h with rfl | h
    · exact ⟨1, SpanL.zero.eq fun j => by grind⟩
    · exact (SpanL.mem h).weak
theorem SpanL.trans : ∀ {rs ss : List Vc} {v : Vc}, (∀ r ∈ rs, SpanL ss r) → SpanL rs v → SpanL ss v
  | [], ss, v, _, hv => SpanL.zero.eq fun j => (hv j).symm
  | r :: rs, ss, v, h, ⟨c, hc⟩ => by
    have h1 := SpanL.trans (fun x hx => h x (List.mem_cons_of_mem _ hx)) hc
    have h2 := h r List.mem_cons_self
    exact (h1.add (h2.smul (k := c))).eq fun j => by grind
theorem SpanL.mono {rs ss : List Vc} {v : Vc} (h : ∀ r ∈ rs, r ∈ ss) (hv : SpanL rs v) : SpanL ss v := hv.trans fun r hr => SpanL.mem (h r hr)
theorem span_at {h : Nat} : ∀ {rs : List Vc} {v : Vc}, (∀ r ∈ rs, r h = 0) → SpanL rs v → v h = 0
  | [], v, _, hv => hv h
  | r :: rs, v, hz, ⟨c, hc⟩ => by
    have h1 := span_at (fun x hx => hz x (List.mem_cons_of_mem _ hx)) hc
    have h2 := hz r List.mem_cons_self
    rw [h2] at h1
    grind
/-- a linear map -/
structure Lin (f : Vc → Vc) : Prop where
  zero : ∀ v : Vc, (∀ j, v j = 0) → ∀ j, f v j = 0
  sub : ∀ (u v : Vc) (c : Rat) (j : Nat), f (fun j => u j - c * v j) j = f u j - c * f v j
theorem SpanL.lin {f : Vc → Vc} (hf : Lin f) : ∀ {rs : List Vc} {v : Vc}, SpanL rs v → SpanL (rs.map f) (f v)
  | [], v, h => hf.zero v h
  | r :: rs, v, ⟨c, hc⟩ => ⟨c, (SpanL.lin hf hc).eq fun j => hf.sub v r c j⟩
theorem vec_zero {r : List Int} : (r.any fun n => n != 0) = false ↔ ∀ j, vec r j = 0 := by
  constructor
  · intro h j
    have h2 : ∀ x ∈ r, x = 0 := by simpa using h
    unfold vec
    rw [List.getD_eq_getElem?_getD]
    cases hx : r[j]? with
    | none => rfl
    | some x => rw [h2 x (List.mem_of_getElem? hx)]; rfl
  · intro h
    rw [List.any_eq_false]
    intro x hx
    obtain ⟨j, hj⟩ := List.getElem?_of_mem hx
    have := h j
    unfold vec at this
    rw [List.getD_eq_getElem?_getD, hj] at this
    have h3 : ((x : Int) : Rat) = 0 := this
    have h4 : x = 0 := by exact_mod_cast h3
    simp [h4]
theorem vec_int {r : List Int} {j : Nat} : vec r j = 0 ↔ r.getD j 0 = 0 := by
  unfold vec
  constructor
  · intro h; exact_mod_cast h
  · intro h; rw [h]; rfl
theorem RowsOk.tail {m : Nat} {r : List Int} {rs : List (List Int)} (h : RowsOk m (r :: rs)) : RowsOk m rs :=
  ⟨fun x hx => h.len x (List.mem_cons_of_mem _ hx), fun x hx => h.ne x (List.mem_cons_of_mem _ hx), fun i j a b hij ha hb => h.zero (i + 1) (j + 1) a b (by omega) (by simpa using ha) (by simpa using hb)⟩
/-- what lies in the span and is 0 at all heads is 0 -/
theorem ech_zero {m : Nat} : ∀ {rows : List (List Int)} {v : Vc}, RowsOk m rows → SpanL (rows.map vec) v → (∀ r ∈ rows, v (headOf r) = 0) → ∀ j, v j = 0
  | [], v, _, hv, _ => hv
  | r :: rs, v, h, ⟨c, hc⟩, hz => by
    have hr : vec r (headOf r) ≠ 0 := fun e => head_ne (h.ne r List.mem_cons_self) (vec_int.mp e)
    have h1 := span_at (h := headOf r) (fun x hx => by
      obtain ⟨s, hs, rfl⟩ := List.mem_map.mp hx
      obtain ⟨j, hj⟩ := List.getElem?_of_mem hs
      exact vec_int.mpr (h.zero 0 (j + 1) r s (by omega) rfl (by simpa using hj))) hc
    have h2 := hz r List.mem_cons_self
    rw [h2] at h1
    have h3 : c = 0 := by
      have : c * vec r (headOf r) = 0 := by grind
      rcases Rat.mul_eq_zero.mp this with h | h
      · exact h
      · exact absurd h hr
    exact ech_zero h.tail (hc.eq fun j => by rw [h3]; grind) fun s hs => hz s (List.mem_cons_of_mem _ hs)
/-- l is row but for a factor and what lies in the span of the rows -/
def Red (rows : List (List Int)) (row l : List Int) : Prop := ∃ c : Rat, c ≠ 0 ∧ SpanL (rows.map vec) fun j => vec l j - c * vec row j
theorem Red.start (rows : List (List Int)) (row : List Int) : Red rows row row := ⟨1, by decide, SpanL.zero.eq fun j => by grind⟩
theorem vec_scale {g : Int} {r s : List Int} (h : r = s.map fun x => g * x) (j : Nat) : vec r j = (g : Rat) * vec s j := by
  unfold vec
  rw [h, getD_map0 (by simp)]
  push_cast; rfl
theorem vec_comb {l s : List Int} {a b : Int} (h : l.length = s.length) (j : Nat) : vec ((l.zip s).map fun x => a * x.1 - b * x.2) j = (a : Rat) * vec l j - (b : Rat) * vec s j := by
  unfold vec
  rw [getD_zipf (by simp) h]
  push_cast; rfl
theorem Red.bare {rows : List (List Int)} {row l : List Int} (h : Red rows row l) : Red rows row (bareR l) := by
  obtain ⟨c, hc, hs⟩ := h
  obtain ⟨g, hg, e⟩ := bareR_scale l
  have hgq : (g : Rat) ≠ 0 := by
    intro z
    have : g = 0 := by exact_mod_cast z
    omega
  refine ⟨(g : Rat)⁻¹ * c, ?_, (hs.smul (k := (g : Rat)⁻¹)).eq fun j => ?_⟩
  · intro z
    rcases Rat.mul_eq_zero.mp z with h | h
    · have h1 : (g : Rat)⁻¹ * (g : Rat) = 1 := Rat.inv_mul_cancel _ hgq
      rw [h] at h1
      grind
    · exact hc h
  · rw [vec_scale e j]
    have : (g : Rat)⁻¹ * (g : Rat) = 1 := Rat.inv_mul_cancel _ hgq
    grind
theorem Red.clear0 {rows : List (List Int)} {row l s : List Int} (h : Red rows row l) (hs : s ∈ rows) (hl : l.length = s.length) (hn : ∃ y ∈ s, y ≠ 0) : Red rows row (clear0 l s (headOf s)) := by
  unfold TW.clear0
  split
  · exact h
  · obtain ⟨c, hc, hsp⟩ := h
    have hp : ((s.getD (headOf s) 0 : Int) : Rat) ≠ 0 := fun z => head_ne hn (by exact_mod_cast z)
    refine ⟨((s.getD (headOf s) 0 : Int) : Rat) * c, fun z => (Rat.mul_eq_zero.mp z).elim hp hc, ((hsp.smul (k := ((s.getD (headOf s) 0 : Int) : Rat))).sub (k := ((l.getD (headOf s) 0 : Int) : Rat)) (SpanL.mem (List.mem_map_of_mem hs))).eq fun j => ?_⟩
    rw [vec_comb hl]
    grind
theorem cleared_clear0 (l s : List Int) (p : Nat) : clearedR l s p = clear0 l s p ∨ clearedR l s p = bareR (clear0 l s p) := by
  unfold clearedR clear0
  split
  · exact .inl rfl
  · exact .inr rfl
theorem Red.cleared {rows : List (List Int)} {row l s : List Int} (h : Red rows row l) (hs : s ∈ rows) (hl : l.length = s.length) (hn : ∃ y ∈ s, y ≠ 0) : Red rows row (clearedR l s (headOf s)) := by
  rcases cleared_clear0 l s (headOf s) with e | e <;> rw [e]
  · exact h.clear0 hs hl hn
  · exact (h.clear0 hs hl hn).bare
theorem red_left {m : Nat} {rows : List (List Int)} (h : RowsOk m rows) {row : List Int} (hr : row.length = m) : ∀ i, i ≤ rows.length → Red rows row (leftOf (rows.take i) row)
  | 0, _ => Red.start _ _
  | i + 1, hi => by
    obtain ⟨s, hs⟩ : ∃ s, rows[i]? = some s := ⟨_, List.getElem?_eq_getElem (by omega)⟩
    have hm := List.mem_of_getElem? hs
    rw [take_snoc hs, leftOf_snoc]
    exact (red_left h hr i (by omega)).cleared hm (by rw [(left_spec h hr i (by omega)).1, h.len s hm]) (h.ne s hm)
theorem red_left0 {m : Nat} {rows : List (List Int)} (h : RowsOk m rows) {row : List Int} (hr : row.length = m) : ∀ i, i ≤ rows.length → Red rows row (left0 (rows.take i) row)
  | 0, _ => Red.start _ _
  | i + 1, hi => by
    obtain ⟨s, hs⟩ : ∃ s, rows[i]? = some s := ⟨_, List.getElem?_eq_getElem (by omega)⟩
    have hm := List.mem_of_getElem? hs
    rw [take_snoc hs, left0_snoc]
    exact (red_left0 h hr i (by omega)).clear0 hm (by rw [(left0_spec h hr i (by omega)).1, h.len s hm]) (h.ne s hm)
theorem red_iff {m : Nat} {rows : List (List Int)} (h : RowsOk m rows) {row l : List Int} (hr : Red rows row l) (hz : ∀ r ∈ rows, l.getD (headOf r) 0 = 0) : (l.any fun n => n != 0) = false ↔ SpanL (rows.map vec) (vec row) := by
  obtain ⟨c, hc, hs⟩ := hr
  rw [vec_zero]
  constructor
  · intro h0
    have h1 : SpanL (rows.map vec) fun j => -c * vec row j := hs.eq fun j => by rw [h0 j]; grind
    refine (h1.smul (k := (-c)⁻¹)).eq fun j => ?_
    have : (-c)⁻¹ * (-c) = 1 := Rat.inv_mul_cancel _ (by intro z; exact hc (by grind))
    grind
  · intro h0
    refine ech_zero h (((hs.add (h0.smul (k := c)))).eq fun j => ?_) fun r hr => vec_int.mpr (hz r hr)
    grind
theorem left_iff {m : Nat} {rows : List (List Int)} (h : RowsOk m rows) {row : List Int} (hr : row.length = m) : ((leftOf rows row).any fun n => n != 0) = false ↔ SpanL (rows.map vec) (vec row) := by
  have h1 := red_left h hr rows.length (Nat.le_refl _)
  have h2 := (left_spec h hr rows.length (Nat.le_refl _)).2
  rw [List.take_length] at h1 h2
  refine red_iff h h1 fun r hr => ?_
  obtain ⟨j, hj⟩ := List.getElem?_of_mem hr
  exact h2 j r (List.getElem?_eq_some_iff.mp hj).1 hj
theorem join_iff {m : Nat} {rows : List (List Int)} (h : RowsOk m rows) {row : List Int} (hr : row.length = m) : joinQ rows row = false ↔ SpanL (rows.map vec) (vec row) := by
  have h1 := red_left0 h hr rows.length (Nat.le_refl _)
  have h2 := (left0_spec h hr rows.length (Nat.le_refl _)).2
  rw [List.take_length] at h1 h2
  unfold joinQ lawLeft
  refine red_iff h h1.bare fun r hr => ?_
  obtain ⟨j, hj⟩ := List.getElem?_of_mem hr
  exact (bareR_zero _ _).mpr (h2 j r (List.getElem?_eq_some_iff.mp hj).1 hj)
/-- a row that joins spans with the others what the row itself does -/
theorem red_span {rows : List (List Int)} {row l : List Int} (h : Red rows row l) (v : Vc) : SpanL ((rows ++ [l]).map vec) v ↔ SpanL ((rows ++ [row]).map vec) v := by
  obtain ⟨c, hc, hs⟩ := h
  have sub : ∀ (x : List Int) {u : Vc}, SpanL (rows.map vec) u → SpanL ((rows ++ [x]).map vec) u := fun x u hu => hu.mono fun r hr => by
    rw [List.map_append]; exact List.mem_append_left _ hr
  constructor
  · refine SpanL.trans fun r hr => ?_
    rw [List.map_append] at hr
    rcases List.mem_append.mp hr with h | h
    · exact sub row (SpanL.mem h)
    · have e : r = vec l := by simpa using h
      rw [e]
      exact ((sub row hs).add ((SpanL.mem (show vec row ∈ (rows ++ [row]).map vec by simp)).smul (k := c))).eq fun j => by grind
  · refine SpanL.trans fun r hr => ?_
    rw [List.map_append] at hr
    rcases List.mem_append.mp hr with h | h
    · exact sub l (SpanL.mem h)
    · have e : r = vec row := by simpa using h
      rw [e]
      refine (((SpanL.mem (show vec l ∈ (rows ++ [l]).map vec by simp)).sub (k := 1) (sub l hs)).smul (k := c⁻¹)).eq fun j => ?_
      have : c⁻¹ * c = 1 := Rat.inv_mul_cancel _ hc
      grind
end TW

namespace TW
theorem flat_get {α : Type} {n : Nat} {d : α} : ∀ {t : List (List α)} {i k : Nat}, (∀ r ∈ t, r.length = n) → i < t.length → k < n → t.flatten.getD (i * n + k) d = (t.getD i []).getD k d
  | [], i, k, _, hi, _ => by simp at hi
  | r :: t, 0, k, h, _, hk => by
    have hr := h r List.mem_cons_self
    simp only [List.flatten_cons, Nat.zero_mul, Nat.zero_add, List.getD_cons_zero]
    rw [List.getD_eq_getElem?_getD, List.getD_eq_getElem?_getD, List.getElem?_append_left (by omega)]
  | r :: t, i + 1, k, h, hi, hk => by
    have hr := h r List.mem_cons_self
    have ih := flat_get (d := d) (fun x hx => h x (List.mem_cons_of_mem _ hx)) (show i < t.length by simpa using hi) hk
    simp only [List.flatten_cons, List.getD_cons_succ]
    rw [← ih, List.getD_eq_getElem?_getD, List.getD_eq_getElem?_getD, List.getElem?_append_right (by rw [Nat.succ_mul]; omega), show (i + 1) * n + k - r.length = i * n + k by rw [Nat.succ_mul]; omega]
theorem zip_range {α β : Type} {n : Nat} {a : List α} {b : List β} (da : α) (db : β) (ha : a.length = n) (hb : b.length = n) : a.zip b = (List.range n).map fun k => (a.getD k da, b.getD k db) := by
  refine List.ext_getElem? fun i => ?_
  rw [List.getElem?_map]
  rcases Nat.lt_or_ge i n with h | h
  · rw [List.getElem?_range h, (List.getElem?_zip_eq_some (z := (a.getD i da, b.getD i db))).mpr ⟨getD_get (by omega), getD_get (by omega)⟩]; rfl
  · rw [List.getElem?_eq_none (by rw [List.length_zip]; omega), List.getElem?_eq_none (by simpa using h)]; rfl
theorem cell_sum {n : Nat} {row : List Int} {b : List (List Int)} (hr : row.length = n) (hb : b.length = n) (t : Nat) : cellT row b t = ((List.range n).map fun k => row.getD k 0 * (b.getD k []).getD t 0).sum := by
  unfold cellT
  rw [zip_range 0 [] hr hb, List.map_map]; rfl
theorem cast_sum : ∀ xs : List Int, ((xs.sum : Int) : Rat) = (xs.map fun i : Int => (i : Rat)).sum
  | [] => rfl
  | x :: xs => by
    rw [List.sum_cons, List.map_cons, List.sum_cons, ← cast_sum xs]
    push_cast; rfl
theorem sum_lin (xs : List Nat) (a b : Nat → Rat) (c : Rat) : (xs.map fun k => a k - c * b k).sum = (xs.map a).sum - c * (xs.map b).sum := by
  induction xs with
  | nil => simp; grind
  | cons x xs ih => rw [List.map_cons, List.sum_cons, ih, List.map_cons, List.sum_cons, List.map_cons, List.sum_cons]; grind
theorem sum_zero (xs : List Nat) (a : Nat → Rat) (h : ∀ k, a k = 0) : (xs.map a).sum = 0 := by
  induction xs with
  | nil => rfl
  | cons x xs ih => rw [List.map_cons, List.sum_cons, ih, h]; grind
def mapL (n : Nat) (M : List (List Int)) (v : Vc) : Vc := fun j => if j < n * n then ((List.range n).map fun k => v (j / n * n + k) * ((((M.getD k []).getD (j % n) 0 : Int)) : Rat)).sum else 0
theorem lin_mapL (n : Nat) (M : List (List Int)) : Lin (mapL n M) := by
  refine ⟨fun v hv j => ?_, fun u v c j => ?_⟩
  · unfold mapL
    split
    · exact sum_zero _ _ fun k => by rw [hv]; grind
    · rfl
  · unfold mapL
    split
    · rw [← sum_lin]
      congr 1
      refine List.map_congr_left fun k _ => ?_
      grind
    · grind
theorem vec_mul {n : Nat} {a M : List (List Int)} (ha : Sq n a) (hM : Sq n M) (h1 : 1 ≤ n) (j : Nat) : vec (mulT a M).flatten j = mapL n M (vec a.flatten) j := by
  have hm := sq_mul ha hM h1
  have hg : (M.getD 0 []).length = n := hM.2 _ (getD_mem (by have := hM.1; omega))
  unfold mapL
  split
  · rename_i hj
    have hi : j / n < n := Nat.div_lt_of_lt_mul hj
    have ht : j % n < n := Nat.mod_lt _ h1
    have e : j = j / n * n + j % n := by rw [Nat.mul_comm]; exact (Nat.div_add_mod j n).symm
    have e1 : (mulT a M).flatten.getD j 0 = ((mulT a M).getD (j / n) []).getD (j % n) 0 := by
      conv => lhs; rw [e]
      exact flat_get hm.2 (by rw [hm.1]; exact hi) ht
    have e2 : (mulT a M).getD (j / n) [] = (List.range n).map fun to => cellT (a.getD (j / n) []) M to := by
      unfold mulT
      rw [hg, List.getD_eq_getElem?_getD, List.getElem?_map, getD_get (d := []) (by rw [ha.1]; exact hi)]; rfl
    have e3 : ((List.range n).map fun to => cellT (a.getD (j / n) []) M to).getD (j % n) 0 = cellT (a.getD (j / n) []) M (j % n) := by
      rw [List.getD_eq_getElem?_getD, List.getElem?_map, List.getElem?_range ht]; rfl
    unfold vec
    rw [e1, e2, e3, cell_sum (ha.2 _ (getD_mem (by rw [ha.1]; exact hi))) hM.1, cast_sum, List.map_map]
    congr 1
    refine List.map_congr_left fun k hk => ?_
    have hk := List.mem_range.mp hk
    show ((_ * _ : Int) : Rat) = _
    rw [flat_get ha.2 (by rw [ha.1]; exact hi) hk]
    push_cast; rfl
  · rename_i hj
    unfold vec
    rw [List.getD_eq_getElem?_getD, List.getElem?_eq_none (by rw [Sq.flat hm.2 hm.1]; omega)]; rfl
def rowV (ls : List (List (List Int))) (w : List Nat) : Vc := vec (rowOf ls w)
def SW (ls : List (List (List Int))) (A : List (List Nat)) (v : Vc) : Prop := SpanL (A.map (rowV ls)) v
def Wd (ls : List (List (List Int))) (w : List Nat) : Prop := ∀ l ∈ w, l < ls.length
theorem rowV_snoc {n : Nat} {ls : List (List (List Int))} (hH : HouseOk n ls) {w : List Nat} (hw : Wd ls w) {l : Nat} (hl : l < ls.length) : rowV ls (w ++ [l]) = mapL n (ls.getD l []) (rowV ls w) := by
  funext j
  have h1 := (word_ok hH _ w rfl hw).1
  have h2 := (hH.2.2.2.2 _ (getD_mem (d := []) hl)).1
  unfold rowV rowOf
  rw [wordT_snoc]
  exact vec_mul h1 h2 hH.2.2.1 j
theorem SW.mono {ls : List (List (List Int))} {A B : List (List Nat)} {v : Vc} (h : SW ls A v) (k : ∀ w ∈ A, w ∈ B) : SW ls B v := SpanL.mono (fun r hr => by
  obtain ⟨w, hw, rfl⟩ := List.mem_map.mp hr
  exact List.mem_map_of_mem (k w hw)) h
/-- a word's row in a span: the longer word's row in the span of the longer rows -/
theorem SW.longer {n : Nat} {ls : List (List (List Int))} (hH : HouseOk n ls) {A B : List (List Nat)} {v : List Nat} {l : Nat} (hA : ∀ w ∈ A, Wd ls w) (hv : Wd ls v) (hl : l < ls.length) (h : SW ls A (rowV ls v)) (k : ∀ w ∈ A, SW ls B (rowV ls (w ++ [l]))) : SW ls B (rowV ls (v ++ [l])) := by
  have h1 := SpanL.lin (lin_mapL n (ls.getD l [])) h
  rw [← rowV_snoc hH hv hl, List.map_map] at h1
  refine SpanL.trans (fun r hr => ?_) h1
  obtain ⟨w, hw, rfl⟩ := List.mem_map.mp hr
  have := k w hw
  rw [rowV_snoc hH (hA w hw) hl] at this
  exact this
def SpanEq (ls : List (List (List Int))) (rows : List (List Int)) (A : List (List Nat)) : Prop := ∀ v, SpanL (rows.map vec) v ↔ SW ls A v
theorem span_snoc_congr {R S : List Vc} (h : ∀ v, SpanL R v ↔ SpanL S v) (x : Vc) (v : Vc) : SpanL (R ++ [x]) v ↔ SpanL (S ++ [x]) v := by
  constructor
  · refine SpanL.trans fun r hr => ?_
    rcases List.mem_append.mp hr with h1 | h1
    · exact SpanL.mono (fun y hy => List.mem_append_left _ hy) ((h r).mp (SpanL.mem h1))
    · exact SpanL.mem (List.mem_append_right _ h1)
  · refine SpanL.trans fun r hr => ?_
    rcases List.mem_append.mp hr with h1 | h1
    · exact SpanL.mono (fun y hy => List.mem_append_left _ hy) ((h r).mpr (SpanL.mem h1))
    · exact SpanL.mem (List.mem_append_right _ h1)
theorem SpanEq.snoc {ls : List (List (List Int))} {rows : List (List Int)} {A : List (List Nat)} (h : SpanEq ls rows A) {w : List Nat} {l : List Int} (hr : Red rows (rowOf ls w) l) : SpanEq ls (rows ++ [l]) (A ++ [w]) := fun v => by
  rw [red_span hr v]
  unfold SW
  rw [List.map_append, List.map_append]
  exact span_snoc_congr h _ v
abbrev Mk' := List (List Nat × Bool)
def acc (M : Mk') : List (List Nat) := (M.filter (·.2)).map (·.1)
theorem acc_append (M N : Mk') : acc (M ++ N) = acc M ++ acc N := by unfold acc; rw [List.filter_append, List.map_append]
theorem acc_sub {M : Mk'} {w : List Nat} (h : w ∈ acc M) : w ∈ M.map (·.1) := by
  obtain ⟨x, hx, rfl⟩ := List.mem_map.mp h
  exact List.mem_map_of_mem (List.mem_filter.mp hx).1
def GoodM (ls : List (List (List Int))) (base : List (List Nat)) : Mk' → Mk' → Prop
  | _, [] => True
  | M, (w, b) :: r => (b = false → SW ls (base ++ acc M) (rowV ls w)) ∧ GoodM ls base (M ++ [(w, b)]) r
theorem GoodM.app {ls : List (List (List Int))} {base : List (List Nat)} : ∀ {M N P : Mk'}, GoodM ls base M N → GoodM ls base (M ++ N) P → GoodM ls base M (N ++ P)
  | M, [], P, _, h => by simpa using h
  | M, (w, b) :: r, P, ⟨h1, h2⟩, h => ⟨h1, GoodM.app h2 (by simpa using h)⟩
structure Lock (n : Nat) (ls : List (List (List Int))) (base : List (List Nat)) (M : Mk') (sP sL : List (List Int) × List (List Nat)) : Prop where
  cP : Ci n ls sP.1
  cL : Ci n ls sL.1
  eP : sP.2 = acc M
  eL : sL.2 = acc M
  lP : sP.1.length = (base ++ acc M).length
  lL : sL.1.length = (base ++ acc M).length
  spP : SpanEq ls sP.1 (base ++ acc M)
  spL : SpanEq ls sL.1 (base ++ acc M)
theorem joinP_iff {n : Nat} {ls : List (List (List Int))} {rows : List (List Int)} (h : Ci n ls rows) {w : List Nat} (hw : Wd ls w) : ((leftOf rows (rowOf ls w)).any fun n => n != 0) = false ↔ SpanL (rows.map vec) (rowV ls w) := left_iff h.ok (rowOf_len h.H hw)
theorem joinL_iff {n : Nat} {ls : List (List (List Int))} {rows : List (List Int)} (h : Ci n ls rows) {w : List Nat} (hw : Wd ls w) : joinQ rows (rowOf ls w) = false ↔ SpanL (rows.map vec) (rowV ls w) := join_iff h.ok (rowOf_len h.H hw)
/-- both look at a word -/
theorem Lock.both {n : Nat} {ls : List (List (List Int))} {base : List (List Nat)} {M : Mk'} {sP sL : List (List Int) × List (List Nat)} (k : Lock n ls base M sP sL) {w : List Nat} (hw : Wd ls w) (hl : w.length ≤ base.length) :
    ∃ b, Lock n ls base (M ++ [(w, b)]) (tryW ls sP w) (stepL ls sL w) ∧ (b = false → SW ls (base ++ acc M) (rowV ls w)) ∧ SW ls (base ++ acc (M ++ [(w, b)])) (rowV ls w) := by
  have cP : Cand ls sP.1.length w := ⟨by rw [k.lP, List.length_append]; omega, hw⟩
  have cL : Cand ls sL.1.length w := ⟨by rw [k.lL, List.length_append]; omega, hw⟩
  have iP := joinP_iff k.cP hw
  have iL := joinL_iff k.cL hw
  have tP := k.cP.try (st := sP) cP
  have tL := k.cL.tryL (st := sL) cL
  by_cases hs : SW ls (base ++ acc M) (rowV ls w)
  · have e1 := iP.mpr ((k.spP _).mpr hs)
    have e2 := iL.mpr ((k.spL _).mpr hs)
    have a1 : tryW ls sP w = sP := if_neg (by rw [e1]; decide)
    have a2 : stepL ls sL w = sL := if_neg (by rw [e2]; decide)
    have a3 : acc (M ++ [(w, false)]) = acc M := by rw [acc_append]; simp [acc]
    refine ⟨false, ?_, fun _ => hs, by rw [a3]; exact hs⟩
    rw [a1, a2]
    exact ⟨k.cP, k.cL, by rw [a3]; exact k.eP, by rw [a3]; exact k.eL, by rw [a3]; exact k.lP, by rw [a3]; exact k.lL, by rw [a3]; exact k.spP, by rw [a3]; exact k.spL⟩
  · have e1 : ((leftOf sP.1 (rowOf ls w)).any fun n => n != 0) = true := by
      cases h : (leftOf sP.1 (rowOf ls w)).any fun n => n != 0 with
      | true => rfl
      | false => exact absurd ((k.spP _).mp (iP.mp h)) hs
    have e2 : joinQ sL.1 (rowOf ls w) = true := by
      cases h : joinQ sL.1 (rowOf ls w) with
      | true => rfl
      | false => exact absurd ((k.spL _).mp (iL.mp h)) hs
    have a1 : tryW ls sP w = (sP.1 ++ [bareR (leftOf sP.1 (rowOf ls w))], sP.2 ++ [w]) := if_pos e1
    have a2 : stepL ls sL w = (sL.1 ++ [lawLeft sL.1 (rowOf ls w)], sL.2 ++ [w]) := if_pos e2
    have a3 : acc (M ++ [(w, true)]) = acc M ++ [w] := by rw [acc_append]; simp [acc]
    have rP := (red_left k.cP.ok (rowOf_len k.cP.H hw) sP.1.length (Nat.le_refl _)).bare
    have rL := (red_left0 k.cL.ok (rowOf_len k.cL.H hw) sL.1.length (Nat.le_refl _)).bare
    rw [List.take_length] at rP rL
    refine ⟨true, ?_, (fun z => by cases z), ?_⟩
    · rw [a1] at tP ⊢
      rw [a2] at tL ⊢
      refine ⟨tP, tL, by rw [a3, ← k.eP], by rw [a3, ← k.eL], ?_, ?_, ?_, ?_⟩
      · show (sP.1 ++ [_]).length = _
        rw [a3, ← List.append_assoc, List.length_append, k.lP, List.length_append (as := base ++ acc M)]; rfl
      · show (sL.1 ++ [_]).length = _
        rw [a3, ← List.append_assoc, List.length_append, k.lL, List.length_append (as := base ++ acc M)]; rfl
      · rw [a3, ← List.append_assoc]; exact k.spP.snoc rP
      · rw [a3, ← List.append_assoc]; exact k.spL.snoc rL
    · rw [a3]
      exact SpanL.mem (List.mem_map_of_mem (by simp))
/-- the law alone looks at a word whose row is in the span -/
theorem Lock.law {n : Nat} {ls : List (List (List Int))} {base : List (List Nat)} {M : Mk'} {sP sL : List (List Int) × List (List Nat)} (k : Lock n ls base M sP sL) {w : List Nat} (hw : Wd ls w) (hs : SW ls (base ++ acc M) (rowV ls w)) :
    Lock n ls base (M ++ [(w, false)]) sP (stepL ls sL w) := by
  have e2 := (joinL_iff k.cL hw).mpr ((k.spL _).mpr hs)
  have a2 : stepL ls sL w = sL := if_neg (by rw [e2]; decide)
  have a3 : acc (M ++ [(w, false)]) = acc M := by rw [acc_append]; simp [acc]
  rw [a2]
  exact ⟨k.cP, k.cL, by rw [a3]; exact k.eP, by rw [a3]; exact k.eL, by rw [a3]; exact k.lP, by rw [a3]; exact k.lL, by rw [a3]; exact k.spP, by rw [a3]; exact k.spL⟩
end TW

namespace TW
/-- some words, both look at them -/
theorem both_all {n : Nat} {ls : List (List (List Int))} {base : List (List Nat)} : ∀ (ws : List (List Nat)) (M : Mk') (sP sL : List (List Int) × List (List Nat)), Lock n ls base M sP sL → (∀ w ∈ ws, Wd ls w ∧ w.length ≤ base.length) →
    ∃ M' : Mk', M'.map (·.1) = ws ∧ Lock n ls base (M ++ M') (ws.foldl (tryW ls) sP) (ws.foldl (stepL ls) sL) ∧ GoodM ls base M M' ∧ ∀ w ∈ ws, SW ls (base ++ acc (M ++ M')) (rowV ls w)
  | [], M, sP, sL, k, _ => ⟨[], rfl, by simpa using k, trivial, fun w hw => nomatch hw⟩
  | w :: ws, M, sP, sL, k, h => by
    have hw := h w List.mem_cons_self
    obtain ⟨b, k1, g1, s1⟩ := k.both hw.1 hw.2
    obtain ⟨M', e, k2, g2, s2⟩ := both_all ws _ _ _ k1 fun x hx => h x (List.mem_cons_of_mem _ hx)
    have ea : M ++ [(w, b)] ++ M' = M ++ (w, b) :: M' := by simp
    rw [ea] at k2 s2
    refine ⟨(w, b) :: M', by simp [e], k2, ⟨g1, g2⟩, fun x hx => ?_⟩
    rcases List.mem_cons.mp hx with rfl | hx
    · refine s1.mono fun y hy => ?_
      rw [← ea, acc_append (M ++ [(x, b)])]
      rcases List.mem_append.mp hy with hy | hy
      · exact List.mem_append_left _ hy
      · exact List.mem_append_right _ (List.mem_append_left _ hy)
    · exact s2 x hx
/-- some words, the law alone looks at them: all are in the span -/
theorem law_all {n : Nat} {ls : List (List (List Int))} {base : List (List Nat)} : ∀ (ws : List (List Nat)) (M : Mk') (sP sL : List (List Int) × List (List Nat)), Lock n ls base M sP sL → (∀ w ∈ ws, Wd ls w ∧ SW ls (base ++ acc M) (rowV ls w)) →
    ∃ M' : Mk', M'.map (·.1) = ws ∧ Lock n ls base (M ++ M') sP (ws.foldl (stepL ls) sL) ∧ GoodM ls base M M' ∧ ∀ w ∈ ws, SW ls (base ++ acc (M ++ M')) (rowV ls w)
  | [], M, sP, sL, k, _ => ⟨[], rfl, by simpa using k, trivial, fun w hw => nomatch hw⟩
  | w :: ws, M, sP, sL, k, h => by
    have hw := h w List.mem_cons_self
    have k1 := k.law hw.1 hw.2
    have a3 : acc (M ++ [(w, false)]) = acc M := by rw [acc_append]; simp [acc]
    obtain ⟨M', e, k2, g2, s2⟩ := law_all ws _ _ _ k1 fun x hx => ⟨(h x (List.mem_cons_of_mem _ hx)).1, by rw [a3]; exact (h x (List.mem_cons_of_mem _ hx)).2⟩
    have ea : M ++ [(w, false)] ++ M' = M ++ (w, false) :: M' := by simp
    rw [ea] at k2 s2
    refine ⟨(w, false) :: M', by simp [e], k2, ⟨fun _ => hw.2, g2⟩, fun x hx => ?_⟩
    rcases List.mem_cons.mp hx with rfl | hx
    · refine hw.2.mono fun y hy => ?_
      rw [acc_append]
      rcases List.mem_append.mp hy with hy | hy
      · exact List.mem_append_left _ hy
      · exact List.mem_append_right _ (List.mem_append_left _ hy)
    · exact s2 x hx
theorem nextW_cons (ls : List (List (List Int))) (w : List Nat) (ws : List (List Nat)) : nextW ls (w :: ws) = ((List.range ls.length).map fun l => w ++ [l]) ++ nextW ls ws := by
  unfold nextW; rw [List.flatMap_cons]
/-- a layer: W are the marked words of the layer before -/
theorem layer_lock {n : Nat} {ls : List (List (List Int))} (hH : HouseOk n ls) {lt base : List (List Nat)} (hlt : ∀ w ∈ lt, w ∈ base) (hwd : ∀ w ∈ lt, Wd ls w) (h1 : ∀ u ∈ lt, ∀ l, l < ls.length → SW ls base (rowV ls (u ++ [l]))) :
    ∀ (rest pre M : Mk') (sP sL : List (List Int) × List (List Nat)), Lock n ls base M sP sL → GoodM ls lt pre rest → (∀ x ∈ rest, Wd ls x.1 ∧ x.1.length < base.length) → (∀ x ∈ pre, Wd ls x.1) → (∀ x ∈ pre, ∀ l, l < ls.length → SW ls (base ++ acc M) (rowV ls (x.1 ++ [l]))) →
    ∃ M' : Mk', M'.map (·.1) = nextW ls (rest.map (·.1)) ∧ Lock n ls base (M ++ M') ((nextW ls (acc rest)).foldl (tryW ls) sP) ((nextW ls (rest.map (·.1))).foldl (stepL ls) sL) ∧ GoodM ls base M M' ∧ ∀ x ∈ pre ++ rest, ∀ l, l < ls.length → SW ls (base ++ acc (M ++ M')) (rowV ls (x.1 ++ [l]))
  | [], pre, M, sP, sL, k, _, _, _, hT => ⟨[], rfl, by simpa [nextW, acc] using k, trivial, by simpa using hT⟩
  | (v, b) :: rest, pre, M, sP, sL, k, ⟨g1, g2⟩, hr, hp, hT => by
    have hv := hr (v, b) List.mem_cons_self
    have hcand : ∀ w ∈ (List.range ls.length).map fun l => v ++ [l], Wd ls w ∧ w.length ≤ base.length := fun w hw => by
      obtain ⟨l, hl, rfl⟩ := List.mem_map.mp hw
      refine ⟨fun x hx => ?_, by have h2 : v.length < base.length := hv.2; rw [List.length_append, List.length_singleton]; omega⟩
      rcases List.mem_append.mp hx with h | h
      · exact hv.1 x h
      · rw [List.mem_singleton.mp h]; exact List.mem_range.mp hl
    have step : ∃ M1 : Mk', M1.map (·.1) = ((List.range ls.length).map fun l => v ++ [l]) ∧ Lock n ls base (M ++ M1) (if b then ((List.range ls.length).map fun l => v ++ [l]).foldl (tryW ls) sP else sP) (((List.range ls.length).map fun l => v ++ [l]).foldl (stepL ls) sL) ∧ GoodM ls base M M1 ∧
        ∀ w ∈ (List.range ls.length).map fun l => v ++ [l], SW ls (base ++ acc (M ++ M1)) (rowV ls w) := by
      cases b with
      | true => exact both_all _ M sP sL k hcand
      | false =>
        have hs := g1 rfl
        exact law_all _ M sP sL k fun w hw => by
          refine ⟨(hcand w hw).1, ?_⟩
          obtain ⟨l, hl, rfl⟩ := List.mem_map.mp hw
          have hl := List.mem_range.mp hl
          refine hs.longer hH (fun u hu => ?_) hv.1 hl fun u hu => ?_
          · rcases List.mem_append.mp hu with h | h
            · exact hwd u h
            · obtain ⟨x, hx, rfl⟩ := List.mem_map.mp (acc_sub h)
              exact hp x hx
          · rcases List.mem_append.mp hu with h | h
            · exact (h1 u h l hl).mono fun y hy => List.mem_append_left _ hy
            · obtain ⟨x, hx, rfl⟩ := List.mem_map.mp (acc_sub h)
              exact hT x hx l hl
    obtain ⟨M1, e1, k1, gd1, s1⟩ := step
    have mono : ∀ (N : Mk') {u : Vc}, SW ls (base ++ acc M) u → SW ls (base ++ acc (M ++ N)) u := fun N u hu => hu.mono fun y hy => by
      rw [acc_append]
      rcases List.mem_append.mp hy with hy | hy
      · exact List.mem_append_left _ hy
      · exact List.mem_append_right _ (List.mem_append_left _ hy)
    obtain ⟨M2, e2, k2, gd2, s2⟩ := layer_lock hH hlt hwd h1 rest (pre ++ [(v, b)]) (M ++ M1) _ _ k1 g2 (fun x hx => hr x (List.mem_cons_of_mem _ hx)) (fun x hx => by
      rcases List.mem_append.mp hx with h | h
      · exact hp x h
      · rw [List.mem_singleton.mp h]; exact hv.1) (fun x hx l hl => by
      rcases List.mem_append.mp hx with h | h
      · exact mono M1 (hT x h l hl)
      · rw [List.mem_singleton.mp h]; exact s1 _ (List.mem_map.mpr ⟨l, List.mem_range.mpr hl, rfl⟩))
    refine ⟨M1 ++ M2, ?_, ?_, gd1.app gd2, ?_⟩
    · rw [List.map_append, e1, e2, List.map_cons, nextW_cons]
    · rw [List.map_cons, nextW_cons, List.foldl_append, ← List.append_assoc]
      have ea : nextW ls (acc ((v, b) :: rest)) = (if b then ((List.range ls.length).map fun l => v ++ [l]) else []) ++ nextW ls (acc rest) := by
        cases b with
        | true => show nextW ls (v :: acc rest) = _; rw [nextW_cons]; rfl
        | false => rfl
      rw [ea, List.foldl_append]
      have eb : (if b then ((List.range ls.length).map fun l => v ++ [l]) else []).foldl (tryW ls) sP = (if b then ((List.range ls.length).map fun l => v ++ [l]).foldl (tryW ls) sP else sP) := by cases b <;> rfl
      rw [eb]
      exact k2
    · intro x hx l hl
      rw [← List.append_assoc]
      exact s2 x (by simpa using hx) l hl
theorem acc_words {M : Mk'} {ws : List (List Nat)} (h : M.map (·.1) = ws) : ∀ w ∈ acc M, w ∈ ws := fun w hw => h ▸ acc_sub hw
theorem len_pos {ls : List (List (List Int))} (h : 1 ≤ ls.length) {ws : List (List Nat)} (hw : ws ≠ []) : nextW ls ws ≠ [] := by
  intro z
  have := nextW_len ls ws
  rw [z] at this
  have h2 := List.length_pos_iff.mpr hw
  have := Nat.mul_pos h2 h
  simp at *
  omega
/-- what is known of the two at the end -/
structure Ends' (n : Nat) (ls : List (List (List Int))) (ws : List (List Nat)) (rL : List (List Int)) : Prop where
  cL : Ci n ls rL
  sp : SpanEq ls rL ws
  wd : ∀ w ∈ ws, Wd ls w
  closed : ∀ u ∈ ws, ∀ l, l < ls.length → SW ls ws (rowV ls (u ++ [l]))
  rP : ∃ rP, Ci n ls rP ∧ SpanEq ls rP ws ∧ rP.length = ws.length
theorem loops {n : Nat} {ls : List (List (List Int))} (hH : HouseOk n ls) : ∀ (fuel : Nat) (lt : List (List Nat)) (W : Mk') (rP rL : List (List Int)), Bi n ls fuel (lt ++ acc W) rP (acc W) → Ci n ls rL → rL.length = (lt ++ acc W).length → SpanEq ls rP (lt ++ acc W) → SpanEq ls rL (lt ++ acc W) →
    GoodM ls lt [] W → (∀ w ∈ lt, Wd ls w) → (∀ x ∈ W, Wd ls x.1 ∧ (acc W ≠ [] → x.1.length < (lt ++ acc W).length)) → (∀ u ∈ lt, ∀ l, l < ls.length → SW ls (lt ++ acc W) (rowV ls (u ++ [l]))) → (∀ w ∈ acc W, w ∈ lt ++ acc W) →
    baseLoop ls fuel (lt ++ acc W) rP (acc W) = (lawLoop ls fuel (lt ++ acc W) rL (if (acc W).isEmpty then [] else nextW ls (W.map (·.1)))).1 ∧
    Ends' n ls (lawLoop ls fuel (lt ++ acc W) rL (if (acc W).isEmpty then [] else nextW ls (W.map (·.1)))).1 (lawLoop ls fuel (lt ++ acc W) rL (if (acc W).isEmpty then [] else nextW ls (W.map (·.1)))).2 := by
  intro fuel
  induction fuel with
  | zero =>
    intro lt W rP rL hB cL lL spP spL hG hwd hW h1 _
    have hem : acc W = [] := by
      cases h : acc W with
      | nil => rfl
      | cons a b => exact absurd (hB.pos (by rw [h]; simp)) (by omega)
    have e : lt ++ acc W = lt := by rw [hem]; simp
    refine ⟨rfl, cL, spL, fun w hw => ?_, fun u hu l hl => h1 u (by rwa [e] at hu) l hl, rP, hB.c, spP, hB.both.symm⟩
    show Wd ls w
    exact hwd w (by have hw' : w ∈ lt ++ acc W := hw; rwa [e] at hw')
  | succ fuel ih =>
    intro lt W rP rL hB cL lL spP spL hG hwd hW h1 h2
    by_cases hem : acc W = []
    · have e : lt ++ acc W = lt := by rw [hem]; simp
      have e1 : baseLoop ls (fuel + 1) (lt ++ acc W) rP (acc W) = lt ++ acc W := by unfold baseLoop; rw [hem]; rfl
      have e2 : lawLoop ls (fuel + 1) (lt ++ acc W) rL (if (acc W).isEmpty then [] else nextW ls (W.map (·.1))) = (lt ++ acc W, rL) := by unfold lawLoop; rw [hem]; rfl
      rw [e1, e2]
      refine ⟨rfl, cL, spL, fun w hw => ?_, fun u hu l hl => h1 u (by rwa [e] at hu) l hl, rP, hB.c, spP, hB.both.symm⟩
      exact hwd w (by have hw' : w ∈ lt ++ acc W := hw; rwa [e] at hw')
    · have hne : (acc W).isEmpty = false := by
        cases h : acc W with
        | nil => exact absurd h hem
        | cons a b => rfl
      have hWne : W.map (·.1) ≠ [] := fun z => by
        have : W = [] := by simpa using z
        rw [this] at hem
        exact hem rfl
      have hnx : (nextW ls (W.map (·.1))).isEmpty = false := by
        have := len_pos hH.1 hWne
        cases h : nextW ls (W.map (·.1)) with
        | nil => exact absurd h this
        | cons a b => rfl
      have k0 : Lock n ls (lt ++ acc W) [] (rP, []) (rL, []) := ⟨hB.c, cL, rfl, rfl, by simpa [acc] using hB.both.symm, by simpa [acc] using lL, by simpa [acc] using spP, by simpa [acc] using spL⟩
      obtain ⟨M, eM, kM, gM, sM⟩ := layer_lock hH (lt := lt) (base := lt ++ acc W) (fun w hw => List.mem_append_left _ hw) hwd h1 W [] [] _ _ k0 hG (fun x hx => ⟨(hW x hx).1, (hW x hx).2 hem⟩) (fun x hx => nomatch hx) (fun x hx => nomatch hx)
      rw [List.nil_append] at kM sM
      have eP : layerW ls rP (acc W) = ((nextW ls (acc W)).foldl (tryW ls) (rP, [])) := rfl
      have eL : layerL ls rL (nextW ls (W.map (·.1))) = ((nextW ls (W.map (·.1))).foldl (stepL ls) (rL, [])) := rfl
      have e1 : baseLoop ls (fuel + 1) (lt ++ acc W) rP (acc W) = baseLoop ls fuel (lt ++ acc W ++ acc M) (layerW ls rP (acc W)).1 (acc M) := by
        conv => lhs; unfold baseLoop
        rw [hne]
        simp only [Bool.false_eq_true, if_false]
        rw [eP, kM.eP]
      have e2 : lawLoop ls (fuel + 1) (lt ++ acc W) rL (if (acc W).isEmpty then [] else nextW ls (W.map (·.1))) = lawLoop ls fuel (lt ++ acc W ++ acc M) (layerL ls rL (nextW ls (W.map (·.1)))).1 (if (acc M).isEmpty then [] else nextW ls (M.map (·.1))) := by
        rw [hne]
        simp only [Bool.false_eq_true, if_false]
        conv => lhs; unfold lawLoop
        rw [hnx]
        simp only [Bool.false_eq_true, if_false]
        rw [eL, kM.eL, eM]
      rw [e1, e2]
      have hB' := hB.step hem
      have hP2 : (layerW ls rP (acc W)).2 = acc M := kM.eP
      rw [hP2] at hB'
      have hwd2 : ∀ w ∈ lt ++ acc W, Wd ls w := fun w hw => by
        rcases List.mem_append.mp hw with h | h
        · exact hwd w h
        · obtain ⟨x, hx, rfl⟩ := List.mem_map.mp (acc_sub h)
          exact (hW x hx).1
      refine ih (lt ++ acc W) M _ _ hB' kM.cL kM.lL kM.spP kM.spL gM hwd2 (fun x hx => ?_) (fun u hu l hl => ?_) (fun w hw => List.mem_append_right _ hw)
      · have hxm : x.1 ∈ nextW ls (W.map (·.1)) := eM ▸ List.mem_map_of_mem hx
        obtain ⟨v, hv, hxv⟩ := List.mem_flatMap.mp hxm
        obtain ⟨l, hl, hxl⟩ := List.mem_map.mp hxv
        obtain ⟨y, hy, rfl⟩ := List.mem_map.mp hv
        have hyW := hW y hy
        rw [← hxl]
        refine ⟨fun z hz => ?_, fun hne2 => ?_⟩
        · rcases List.mem_append.mp hz with h | h
          · exact hyW.1 z h
          · rw [List.mem_singleton.mp h]; exact List.mem_range.mp hl
        · have := hyW.2 hem
          have := List.length_pos_iff.mpr hne2
          simp only [List.length_append, List.length_singleton] at *
          omega
      · rcases List.mem_append.mp hu with h | h
        · exact (h1 u h l hl).mono fun y hy => List.mem_append_left _ hy
        · obtain ⟨x, hx, rfl⟩ := List.mem_map.mp (acc_sub h)
          exact sM x (by simpa using hx) l hl
end TW

namespace TW
theorem loop_mem {ls : List (List (List Int))} {w : List Nat} : ∀ (fuel : Nat) (found : List (List Nat)) (rows : List (List Int)) (last : List (List Nat)), w ∈ found → w ∈ baseLoop ls fuel found rows last
  | 0, found, _, _, h => h
  | k + 1, found, rows, last, h => by
    unfold baseLoop
    split
    · exact h
    · exact loop_mem k _ _ _ (List.mem_append_left _ h)
theorem fold_sub {ls : List (List (List Int))} : ∀ (ws : List (List Nat)) (st : List (List Int) × List (List Nat)), ∃ s, s.Sublist ws ∧ (ws.foldl (tryW ls) st).2 = st.2 ++ s
  | [], st => ⟨[], List.Sublist.refl _, by simp⟩
  | w :: ws, st => by
    obtain ⟨s, h1, h2⟩ := fold_sub ws (tryW ls st w)
    rw [List.foldl_cons, h2]
    unfold tryW
    split
    · exact ⟨w :: s, h1.cons_cons w, by simp⟩
    · exact ⟨s, h1.cons w, rfl⟩
theorem next_nodup {ls : List (List (List Int))} : ∀ {ws : List (List Nat)}, ws.Nodup → (nextW ls ws).Nodup
  | [], _ => by simp [nextW]
  | w :: ws, h => by
    rw [nextW_cons, List.nodup_append]
    have h' := List.nodup_cons.mp h
    refine ⟨?_, next_nodup h'.2, fun a ha b hb e => ?_⟩
    · rw [List.Nodup, List.pairwise_map]
      refine List.Pairwise.imp ?_ List.nodup_range
      intro a b hab e
      exact hab (by simpa using e)
    · obtain ⟨l, _, rfl⟩ := List.mem_map.mp ha
      obtain ⟨v, hv, hb⟩ := List.mem_flatMap.mp hb
      obtain ⟨l', _, rfl⟩ := List.mem_map.mp hb
      have := List.append_inj' e rfl
      rw [this.1] at h'
      exact h'.1 hv
theorem next_len {ls : List (List (List Int))} {ws : List (List Nat)} {k : Nat} (h : ∀ w ∈ ws, w.length = k) : ∀ w ∈ nextW ls ws, w.length = k + 1 := fun w hw => by
  obtain ⟨v, hv, hw⟩ := List.mem_flatMap.mp hw
  obtain ⟨l, _, rfl⟩ := List.mem_map.mp hw
  simp [h v hv]
theorem loop_nodup {ls : List (List (List Int))} : ∀ (fuel k : Nat) (found : List (List Nat)) (rows : List (List Int)) (last : List (List Nat)), found.Nodup → last.Nodup → (∀ w ∈ last, w.length = k) → (∀ w ∈ found, w.length ≤ k) → (baseLoop ls fuel found rows last).Nodup
  | 0, _, found, _, _, h, _, _, _ => h
  | f + 1, k, found, rows, last, h, hl, hk, hf => by
    unfold baseLoop
    split
    · exact h
    · obtain ⟨s, h1, h2⟩ := fold_sub (ls := ls) (nextW ls last) (rows, [])
      have h2' : (layerW ls rows last).2 = s := by rw [show layerW ls rows last = (nextW ls last).foldl (tryW ls) (rows, []) from rfl, h2]; simp
      rw [h2']
      have hs := next_len (ls := ls) hk
      have hsl : ∀ w ∈ s, w.length = k + 1 := fun w hw => hs w (h1.subset hw)
      refine loop_nodup f (k + 1) _ _ _ ?_ ((next_nodup hl).sublist h1) hsl fun w hw => ?_
      · rw [List.nodup_append]
        refine ⟨h, (next_nodup hl).sublist h1, fun a ha b hb e => ?_⟩
        have := hf a ha
        have := hsl b hb
        rw [e] at *
        omega
      · rcases List.mem_append.mp hw with h | h
        · have := hf w h; omega
        · exact Nat.le_of_eq (hsl w h)
theorem loop_at {n : Nat} {ls : List (List (List Int))} : ∀ (fuel : Nat) (found : List (List Nat)) (rows : List (List Int)) (last : List (List Nat)), Bi n ls fuel found rows last → (∀ (j : Nat) (w : List Nat), found[j]? = some w → w.length ≤ j) → ∀ (j : Nat) (w : List Nat), (baseLoop ls fuel found rows last)[j]? = some w → w.length ≤ j
  | 0, found, _, _, _, h => h
  | f + 1, found, rows, last, hB, h => by
    unfold baseLoop
    split
    · exact h
    · rename_i he
      have hne : last ≠ [] := by intro z; rw [z] at he; exact he rfl
      refine loop_at f _ _ _ (hB.step hne) fun j w hj => ?_
      rcases Nat.lt_or_ge j found.length with hlt | hge
      · rw [List.getElem?_append_left hlt] at hj
        exact h j w hj
      · rw [List.getElem?_append_right hge] at hj
        have hm := List.mem_of_getElem? hj
        obtain ⟨_, _, _, d⟩ := layer_spec (nextW ls last) (rows, []) hB.c (next_cand hB.cand)
        rcases d w hm with h1 | h1
        · cases h1
        · have := (next_cand hB.cand w h1).1
          have := hB.both
          omega
/-- what is known of the base of a house -/
structure BaseF (n : Nat) (ls : List (List (List Int))) : Prop where
  same : baseW ls = (lawBase ls).1
  cL : Ci n ls (lawBase ls).2
  sp : SpanEq ls (lawBase ls).2 (baseW ls)
  wd : ∀ w ∈ baseW ls, Wd ls w
  all : ∀ w, Wd ls w → SW ls (baseW ls) (rowV ls w)
  nodup : (baseW ls).Nodup
  at_ : ∀ (j : Nat) (w : List Nat), (baseW ls)[j]? = some w → w.length ≤ j
  le : (baseW ls).length ≤ n * n
  pos : 0 < (baseW ls).length
theorem base_facts {n : Nat} {ls : List (List (List Int))} (hH : HouseOk n ls) : BaseF n ls := by
  have hB := Bi.start hH
  have hw0 : Wd ls [] := fun l hl => nomatch hl
  have c0 : Ci n ls [] := (Li.start hH).c
  have hl0 := rowOf_len hH hw0
  have hne : joinQ [] (rowOf ls []) = true := by
    cases h : joinQ [] (rowOf ls []) with
    | true => rfl
    | false =>
      have h1 := (joinL_iff c0 hw0).mp h
      have h2 := hB.c.ok.ne _ (List.mem_singleton.mpr rfl)
      have h3 := vec_zero.mpr h1
      rw [any_ne.mpr h2] at h3
      cases h3
  have cL := c0.tryL (st := ([], [])) (w := []) ⟨Nat.le_refl _, hw0⟩
  have est : stepL ls ([], []) [] = ([lawLeft [] (rowOf ls [])], [[]]) := if_pos hne
  rw [est] at cL
  have sp0 : SpanEq ls [] [] := fun v => Iff.rfl
  have rL := (red_left0 c0.ok hl0 0 (Nat.le_refl _)).bare
  have spL := sp0.snoc (w := []) rL
  have key := loops hH 11 [] [([], true)] [rowOf ls []] [lawLeft [] (rowOf ls [])] hB cL rfl (fun v => Iff.rfl) spL ⟨(fun z => by cases z), trivial⟩ (fun w hw => nomatch hw) (fun x hx => by
    rw [List.mem_singleton.mp hx]
    exact ⟨hw0, fun _ => by show 0 < 1; decide⟩) (fun u hu => nomatch hu) (fun w hw => by simpa using hw)
  have el : lawBase ls = lawLoop ls 11 [[]] [lawLeft [] (rowOf ls [])] (nextW ls [[]]) := by
    show lawLoop ls 12 [] [] [[]] = _
    conv => lhs; unfold lawLoop
    have : layerL ls [] [[]] = ([lawLeft [] (rowOf ls [])], [[]]) := est
    rw [this]; rfl
  have key2 : baseW ls = (lawBase ls).1 ∧ Ends' n ls (lawBase ls).1 (lawBase ls).2 := by rw [el]; exact key
  obtain ⟨hs, hE⟩ := key2
  rw [← hs] at hE
  have hnil : [] ∈ baseW ls := loop_mem 11 _ _ _ (List.mem_singleton.mpr rfl)
  have hall : ∀ (k : Nat) (w : List Nat), w.length = k → Wd ls w → SW ls (baseW ls) (rowV ls w) := fun k => by
    induction k with
    | zero =>
      intro w hk _
      have : w = [] := List.length_eq_zero_iff.mp hk
      rw [this]
      exact SpanL.mem (List.mem_map_of_mem hnil)
    | succ k ih =>
      intro w hk hw
      have hne : w ≠ [] := by intro z; subst z; simp at hk
      obtain ⟨v, l, rfl⟩ : ∃ v l, w = v ++ [l] := ⟨w.dropLast, w.getLast hne, (List.dropLast_concat_getLast hne).symm⟩
      have hv : Wd ls v := fun x m => hw x (List.mem_append_left _ m)
      have hl := hw l (by simp)
      exact (ih v (by simpa using hk) hv).longer hH hE.wd hv hl fun u hu => hE.closed u hu l hl
  obtain ⟨rP, c1, _, e1⟩ := hE.rP
  refine ⟨hs, hE.cL, hE.sp, hE.wd, fun w hw => hall _ w rfl hw, ?_, ?_, ?_, List.length_pos_of_mem hnil⟩
  · exact loop_nodup 11 0 [[]] _ [[]] (by simp) (by simp) (by simp) (by simp)
  · refine loop_at 11 _ _ _ hB fun j w hj => ?_
    have h1 := (List.getElem?_eq_some_iff.mp hj).1
    simp at h1
    subst h1
    simp at hj; subst hj; exact Nat.le_refl _
  · rw [← e1]; exact rows_le c1.ok
/-- a list's things that a sublist has -/
theorem filter_sublist {s l : List (List Nat)} (h : s.Sublist l) (hl : l.Nodup) : l.filter (inW s) = s := by
  induction h with
  | slnil => rfl
  | cons a h ih =>
    rename_i l1 l2
    have h' := List.nodup_cons.mp hl
    have hn : ¬ a ∈ l1 := fun m => h'.1 (h.subset m)
    rw [List.filter_cons, if_neg (by unfold inW; simpa using hn)]
    exact ih h'.2
  | cons_cons a h ih =>
    rename_i l1 l2
    have h' := List.nodup_cons.mp hl
    rw [List.filter_cons, if_pos (by unfold inW; simp)]
    congr 1
    have e : l2.filter (inW (a :: l1)) = l2.filter (inW l1) := by
      refine List.filter_congr fun x hx => ?_
      unfold inW
      have : x ≠ a := fun z => h'.1 (z ▸ hx)
      simp [this]
    rw [e]
    exact ih h'.2
end TW

namespace TW
def dotv (m : Nat) (r : List Int) (y : Vc) : Rat := ((List.range m).map fun j => vec r j * y j).sum
theorem dot_comb {m : Nat} {r l s : List Int} {c d : Rat} (h : ∀ j, vec r j = c * vec l j - d * vec s j) (y : Vc) : dotv m r y = c * dotv m l y - d * dotv m s y := by
  unfold dotv
  have e1 : ((List.range m).map fun j => vec r j * y j) = (List.range m).map fun j => (c * (vec l j * y j)) - d * (vec s j * y j) := List.map_congr_left fun j _ => by rw [h]; grind
  rw [e1, sum_lin]
  have e2 := sum_lin (List.range m) (fun _ => 0) (fun j => vec l j * y j) (-c)
  have e3 : ((List.range m).map fun j => c * (vec l j * y j)) = (List.range m).map fun j => (0 : Rat) - (-c) * (vec l j * y j) := List.map_congr_left fun j _ => by grind
  rw [e3, e2, sum_zero _ _ (fun _ => rfl)]
  grind
theorem bare_vec (l : List Int) : ∃ c : Rat, c ≠ 0 ∧ ∀ j, vec (bareR l) j = c * vec l j := by
  obtain ⟨g, hg, e⟩ := bareR_scale l
  have hgq : (g : Rat) ≠ 0 := by
    intro z
    have : g = 0 := by exact_mod_cast z
    omega
  have hi : (g : Rat)⁻¹ * (g : Rat) = 1 := Rat.inv_mul_cancel _ hgq
  refine ⟨(g : Rat)⁻¹, fun z => by rw [z] at hi; grind, fun j => ?_⟩
  rw [vec_scale e j]
  grind
theorem cleared_vec {l s : List Int} {p : Nat} (h : l.length = s.length) (hp : vec s p ≠ 0) : ∃ c d : Rat, c ≠ 0 ∧ ∀ j, vec (clearedR l s p) j = c * vec l j - d * vec s j := by
  unfold clearedR
  split
  · exact ⟨1, 0, by decide, fun j => by grind⟩
  · obtain ⟨c, hc, e⟩ := bare_vec ((l.zip s).map fun x => s.getD p 0 * x.1 - l.getD p 0 * x.2)
    refine ⟨c * vec s p, c * vec l p, fun z => (Rat.mul_eq_zero.mp z).elim hc hp, fun j => ?_⟩
    rw [e, vec_comb h]
    unfold vec
    grind
theorem headed_vec (l : List Int) (p : Nat) : ∃ c : Rat, c ≠ 0 ∧ ∀ j, vec (headedR l p) j = c * vec l j := by
  obtain ⟨c, hc, e⟩ := bare_vec l
  unfold headedR
  split
  · exact ⟨c, hc, e⟩
  · refine ⟨-c, fun z => hc (by grind), fun j => ?_⟩
    have : vec ((bareR l).map fun x => 0 - x) j = - vec (bareR l) j := by
      unfold vec
      rw [getD_map0 (by simp)]
      push_cast; grind
    rw [this, e]; grind
theorem headOf_eq {r : List Int} {q : Nat} (h : r.getD q 0 ≠ 0) (hz : ∀ j, j < q → r.getD j 0 = 0) : headOf r = q := by
  have hq : q < r.length := by
    rcases Nat.lt_or_ge q r.length with h1 | h1
    · exact h1
    · exact absurd (by rw [List.getD_eq_getElem?_getD, List.getElem?_eq_none h1]; rfl) h
  have hne : ∃ y ∈ r, y ≠ 0 := ⟨_, getD_mem hq, h⟩
  have h1 := head_ne hne
  rcases Nat.lt_trichotomy (headOf r) q with h2 | h2 | h2
  · exact absurd (hz _ h2) h1
  · exact h2
  · have h3 := List.not_of_lt_findIdx (p := fun x : Int => x != 0) (xs := r) (i := q) h2
    have : r.getD q 0 = r[q]'hq := by simp [List.getD, List.getElem?_eq_getElem hq]
    rw [this] at h
    exact absurd h (by simpa using h3)
theorem before_head {r : List Int} {j : Nat} (h : j < headOf r) : r.getD j 0 = 0 := by
  have hj : j < r.length := Nat.lt_of_lt_of_le h (List.findIdx_le_length)
  have h3 := List.not_of_lt_findIdx (p := fun x : Int => x != 0) (xs := r) (i := j) h
  have : r.getD j 0 = r[j]'hj := by simp [List.getD, List.getElem?_eq_getElem hj]
  rw [this]
  simpa using h3
def Sol (m : Nat) (rows : List (List Int)) (y : Vc) : Prop := ∀ r ∈ rows, dotv m r y = 0
structure St' (m p : Nat) (rows0 : List (List Int)) (s : List (List Int) × List (List Int)) : Prop where
  len : ∀ r ∈ s.1 ++ s.2, r.length = m
  sol : ∀ y, Sol m rows0 y ↔ Sol m (s.1 ++ s.2) y
  left : ∀ r ∈ s.1, ∀ j, j < p → r.getD j 0 = 0
  ne : ∀ r ∈ s.2, ∃ y ∈ r, y ≠ 0
  hd : ∀ r ∈ s.2, headOf r < p
  red : ∀ (i k : Nat) (a b : List Int), i ≠ k → s.2[i]? = some a → s.2[k]? = some b → a.getD (headOf b) 0 = 0
theorem step_none {m p : Nat} {rows0 : List (List Int)} {s : List (List Int) × List (List Int)} (h : St' m p rows0 s) (hn : firstR s.1 p = none) : St' m (p + 1) rows0 s := by
  unfold firstR at hn
  rw [List.findIdx?_eq_none_iff] at hn
  refine ⟨h.len, h.sol, fun r hr j hj => ?_, h.ne, fun r hr => Nat.lt_succ_of_lt (h.hd r hr), h.red⟩
  rcases Nat.lt_or_ge j p with h1 | h1
  · exact h.left r hr j h1
  · obtain rfl : j = p := by omega
    have := hn r hr
    simpa using this
theorem step_some {m p k : Nat} {rows0 l f : List (List Int)} (h : St' m p rows0 (l, f)) (hk : firstR l p = some k) : St' m (p + 1) rows0 (stepR p (l, f)) := by
  have hst : stepR p (l, f) = ((l.take k ++ l.drop (k + 1)).map fun r => clearedR r (headedR (l.getD k []) p) p, (f.map fun r => clearedR r (headedR (l.getD k []) p) p) ++ [headedR (l.getD k []) p]) := by
    unfold stepR; simp only; rw [hk]
  rw [hst]
  unfold firstR at hk
  rw [List.findIdx?_eq_some_iff_getElem] at hk
  obtain ⟨hkl, hkp, _⟩ := hk
  have hkm : l.getD k [] ∈ l := getD_mem hkl
  have hkl' : l.getD k [] = l[k] := by simp [List.getD, List.getElem?_eq_getElem hkl]
  have hkz : (l.getD k []).getD p 0 ≠ 0 := by rw [hkl']; simpa using hkp
  obtain ⟨ch, hch, eh⟩ := headed_vec (l.getD k []) p
  have hlen : (headedR (l.getD k []) p).length = m := by rw [headedR_len]; exact h.len _ (List.mem_append_left _ hkm)
  have hhp : vec (headedR (l.getD k []) p) p ≠ 0 := by
    rw [eh]
    intro z
    rcases Rat.mul_eq_zero.mp z with z | z
    · exact hch z
    · exact hkz (vec_int.mp z)
  have hhz : ∀ j, j < p → (headedR (l.getD k []) p).getD j 0 = 0 := fun j hj => by
    rw [← vec_int, eh, vec_int.mpr (h.left _ hkm j hj)]
    grind
  have hhead : headOf (headedR (l.getD k []) p) = p := headOf_eq (fun z => hhp (vec_int.mpr z)) hhz
  have hdot : ∀ y, dotv m (headedR (l.getD k []) p) y = ch * dotv m (l.getD k []) y := fun y => by
    rw [dot_comb (c := ch) (d := 0) (l := l.getD k []) (s := []) fun j => by rw [eh]; grind]
    grind
  have hin : ∀ {r : List Int}, r ∈ l.take k ++ l.drop (k + 1) → r ∈ l := fun {r} hr => by
    rcases List.mem_append.mp hr with h1 | h1
    · exact List.mem_of_mem_take h1
    · exact List.mem_of_mem_drop h1
  generalize hh : headedR (l.getD k []) p = hd at hlen hhp hhz hhead hdot ⊢
  have hcl : ∀ {r : List Int}, r ∈ l ++ f → ∃ c d : Rat, c ≠ 0 ∧ ∀ j, vec (clearedR r hd p) j = c * vec r j - d * vec hd j := fun {r} hr => cleared_vec (by rw [hlen]; exact h.len r hr) hhp
  have hcd : ∀ {r : List Int}, r ∈ l ++ f → ∀ y, dotv m hd y = 0 → (dotv m (clearedR r hd p) y = 0 ↔ dotv m r y = 0) := fun {r} hr y hy => by
    obtain ⟨c, d, hc, e⟩ := hcl hr
    rw [dot_comb e, hy]
    constructor
    · intro z
      have : c * dotv m r y = 0 := by grind
      exact (Rat.mul_eq_zero.mp this).resolve_left hc
    · intro z; rw [z]; grind
  have fhead : ∀ {r : List Int}, r ∈ f → headOf (clearedR r hd p) = headOf r := fun {r} hr => by
    obtain ⟨c, d, hc, e⟩ := hcl (List.mem_append_right _ hr)
    have hlt := h.hd r hr
    refine headOf_eq (fun z => ?_) fun j hj => ?_
    · have h1 := vec_int.mpr z
      rw [e, vec_int.mpr (hhz _ hlt)] at h1
      have h2 : c * vec r (headOf r) = 0 := by grind
      exact head_ne (h.ne r hr) (vec_int.mp ((Rat.mul_eq_zero.mp h2).resolve_left hc))
    · rw [← vec_int, e, vec_int.mpr (before_head hj), vec_int.mpr (hhz j (by omega))]
      grind
  refine ⟨fun r hr => ?_, fun y => ?_, fun r hr j hj => ?_, fun r hr => ?_, fun r hr => ?_, fun i q a b hiq ha hb => ?_⟩
  · rcases List.mem_append.mp hr with h1 | h1
    · obtain ⟨x, hx, rfl⟩ := List.mem_map.mp h1
      have hx' := h.len x (List.mem_append_left _ (hin hx))
      rw [cleared_len (by rw [hlen]; exact hx')]; exact hx'
    · rcases List.mem_append.mp h1 with h1 | h1
      · obtain ⟨x, hx, rfl⟩ := List.mem_map.mp h1
        have hx' := h.len x (List.mem_append_right _ hx)
        rw [cleared_len (by rw [hlen]; exact hx')]; exact hx'
      · rw [List.mem_singleton.mp h1]; exact hlen
  · rw [h.sol y]
    constructor
    · intro hs r hr
      have h0 : dotv m hd y = 0 := by rw [hdot, hs _ (List.mem_append_left _ hkm)]; grind
      rcases List.mem_append.mp hr with h1 | h1
      · obtain ⟨x, hx, rfl⟩ := List.mem_map.mp h1
        exact (hcd (List.mem_append_left _ (hin hx)) y h0).mpr (hs x (List.mem_append_left _ (hin hx)))
      · rcases List.mem_append.mp h1 with h1 | h1
        · obtain ⟨x, hx, rfl⟩ := List.mem_map.mp h1
          exact (hcd (List.mem_append_right _ hx) y h0).mpr (hs x (List.mem_append_right _ hx))
        · rw [List.mem_singleton.mp h1]; exact h0
    · intro hs r hr
      have h0 : dotv m hd y = 0 := hs hd (by simp)
      rcases List.mem_append.mp hr with h1 | h1
      · obtain ⟨i, hi⟩ := List.getElem?_of_mem h1
        rcases Nat.lt_trichotomy i k with h2 | h2 | h2
        · have hx : r ∈ l.take k ++ l.drop (k + 1) := List.mem_append_left _ (List.mem_of_getElem? (i := i) (by rw [List.getElem?_take, if_pos h2]; exact hi))
          exact (hcd (List.mem_append_left _ h1) y h0).mp (hs _ (List.mem_append_left _ (List.mem_map_of_mem hx)))
        · subst h2
          have e : r = l.getD i [] := by simp [List.getD, hi]
          rw [hdot, ← e] at h0
          exact (Rat.mul_eq_zero.mp h0).resolve_left hch
        · have hx : r ∈ l.take k ++ l.drop (k + 1) := List.mem_append_right _ (List.mem_of_getElem? (i := i - (k + 1)) (by rw [List.getElem?_drop, show k + 1 + (i - (k + 1)) = i by omega]; exact hi))
          exact (hcd (List.mem_append_left _ h1) y h0).mp (hs _ (List.mem_append_left _ (List.mem_map_of_mem hx)))
      · exact (hcd (List.mem_append_right _ h1) y h0).mp (hs _ (List.mem_append_right _ (List.mem_append_left _ (List.mem_map_of_mem h1))))
  · obtain ⟨x, hx, rfl⟩ := List.mem_map.mp hr
    have hxl : x.length = hd.length := by rw [hlen]; exact h.len x (List.mem_append_left _ (hin hx))
    rcases Nat.lt_or_ge j p with h1 | h1
    · exact cleared_keep hxl (h.left x (hin hx) j h1) (hhz j h1)
    · obtain rfl : j = p := by omega
      exact cleared_zero hxl
  · rcases List.mem_append.mp hr with h1 | h1
    · obtain ⟨x, hx, rfl⟩ := List.mem_map.mp h1
      obtain ⟨c, d, hc, e⟩ := hcl (List.mem_append_right _ hx)
      have hlt := h.hd x hx
      have hz : (clearedR x hd p).getD (headOf x) 0 ≠ 0 := fun z => by
        have h1 := vec_int.mpr z
        rw [e, vec_int.mpr (hhz _ hlt)] at h1
        have h2 : c * vec x (headOf x) = 0 := by grind
        exact head_ne (h.ne x hx) (vec_int.mp ((Rat.mul_eq_zero.mp h2).resolve_left hc))
      have hb : headOf x < (clearedR x hd p).length := by
        have hxl := h.len x (List.mem_append_right _ hx)
        rw [cleared_len (by rw [hlen]; exact hxl)]
        exact headOf_lt (h.ne x hx)
      exact ⟨_, getD_mem hb, hz⟩
    · rw [List.mem_singleton.mp h1]
      refine ⟨hd.getD p 0, getD_mem ?_, fun z => hhp (vec_int.mpr z)⟩
      rcases Nat.lt_or_ge p hd.length with h2 | h2
      · exact h2
      · exact absurd (vec_int.mpr (by rw [List.getD_eq_getElem?_getD, List.getElem?_eq_none h2]; rfl)) hhp
  · rcases List.mem_append.mp hr with h1 | h1
    · obtain ⟨x, hx, rfl⟩ := List.mem_map.mp h1
      rw [fhead hx]
      exact Nat.lt_succ_of_lt (h.hd x hx)
    · rw [List.mem_singleton.mp h1, hhead]; exact Nat.lt_succ_self p
  · have hfl : (f.map fun r => clearedR r hd p).length = f.length := List.length_map _
    have get : ∀ {i : Nat} {a : List Int}, ((f.map fun r => clearedR r hd p) ++ [hd])[i]? = some a → (∃ x, f[i]? = some x ∧ a = clearedR x hd p) ∨ (i = f.length ∧ a = hd) := fun {i a} ha => by
      rcases Nat.lt_or_ge i f.length with h1 | h1
      · rw [List.getElem?_append_left (by rw [hfl]; exact h1), List.getElem?_map] at ha
        obtain ⟨x, hx, e⟩ := Option.map_eq_some_iff.mp ha
        exact .inl ⟨x, hx, e.symm⟩
      · rw [List.getElem?_append_right (by rw [hfl]; exact h1), hfl] at ha
        have := (List.getElem?_eq_some_iff.mp ha).1
        simp at this
        have e : i = f.length := by omega
        subst e
        simp at ha
        exact .inr ⟨rfl, ha.symm⟩
    rcases get ha with ⟨x, hx, rfl⟩ | ⟨hi, rfl⟩
    · have hxm := List.mem_of_getElem? hx
      have hxl : x.length = hd.length := by rw [hlen]; exact h.len x (List.mem_append_right _ hxm)
      rcases get hb with ⟨z, hz, rfl⟩ | ⟨hq, rfl⟩
      · have hzm := List.mem_of_getElem? hz
        rw [fhead hzm]
        exact cleared_keep hxl (h.red i q x z hiq hx hz) (hhz _ (h.hd z hzm))
      · rw [hhead]; exact cleared_zero hxl
    · rcases get hb with ⟨z, hz, rfl⟩ | ⟨hq, rfl⟩
      · have hzm := List.mem_of_getElem? hz
        rw [fhead hzm]
        exact hhz _ (h.hd z hzm)
      · exact absurd (hi.trans hq.symm) hiq
theorem st_all {m : Nat} {rows0 : List (List Int)} (hl : ∀ r ∈ rows0, r.length = m) : ∀ p, St' m p rows0 (stepsR rows0 p)
  | 0 => ⟨by simpa [stepsR] using hl, fun y => by simp [stepsR, Sol], fun r _ j hj => by omega, fun r hr => by simp [stepsR] at hr, fun r hr => by simp [stepsR] at hr, fun i k a b _ ha => by simp [stepsR] at ha⟩
  | p + 1 => by
    have ih := st_all hl p
    rw [stepsR_succ]
    generalize stepsR rows0 p = s at ih
    obtain ⟨l, f⟩ := s
    cases hk : firstR l p with
    | none =>
      have : stepR p (l, f) = (l, f) := by unfold stepR; simp only; rw [hk]
      rw [this]
      exact step_none ih hk
    | some k => exact step_some ih hk
end TW

namespace TW
theorem sum_one {m a : Nat} (t : Nat → Rat) (ha : a < m) (h : ∀ j, j ≠ a → t j = 0) : ((List.range m).map t).sum = t a := by
  induction m with
  | zero => omega
  | succ m ih =>
    rw [List.range_succ, List.map_append, List.sum_append, List.map_singleton, List.sum_singleton]
    by_cases e : a = m
    · subst e
      have : ((List.range a).map t).sum = 0 := by
        have e2 : (List.range a).map t = (List.range a).map fun _ => (0 : Rat) := List.map_congr_left fun j hj => h j (by have := List.mem_range.mp hj; omega)
        rw [e2]; exact sum_zero _ _ fun _ => rfl
      rw [this]; grind
    · rw [ih (by omega), h m (fun z => e z.symm)]; grind
theorem sum_add2 (xs : List Nat) (a b : Nat → Rat) : (xs.map fun k => a k + b k).sum = (xs.map a).sum + (xs.map b).sum := by
  induction xs with
  | nil => simp; grind
  | cons x xs ih => rw [List.map_cons, List.sum_cons, ih, List.map_cons, List.sum_cons, List.map_cons, List.sum_cons]; grind
theorem sum_two {m a b : Nat} (t : Nat → Rat) (ha : a < m) (hb : b < m) (hab : a ≠ b) (h : ∀ j, j ≠ a → j ≠ b → t j = 0) : ((List.range m).map t).sum = t a + t b := by
  have e : (List.range m).map t = (List.range m).map fun j => (if j = a then t j else 0) + (if j = a then 0 else t j) := List.map_congr_left fun j _ => by
    split <;> grind
  rw [e, sum_add2, sum_one (a := a) _ ha fun j hj => if_neg hj, sum_one (a := b) _ hb fun j hj => by
    split
    · rfl
    · rename_i hja; exact h j hja hj]
  rw [if_pos rfl, if_neg (fun z => hab z.symm)]
def toldR (r : List Int) : List Rat := r.map fun x => Rat.divInt x (r.getD (headOf r) 0)
theorem divInt_num_zero {x h : Int} (hh : h ≠ 0) : (Rat.divInt x h).num = 0 ↔ x = 0 := by
  constructor
  · intro z
    have h1 : Rat.divInt x h = 0 := Rat.num_eq_zero.mp z
    rw [Rat.divInt_eq_div] at h1
    have hq : ((h : Int) : Rat) ≠ 0 := fun e => hh (by exact_mod_cast e)
    have h2 : ((x : Int) : Rat) = 0 := by
      have h3 : (x : Rat) / (h : Rat) * (h : Rat) = (x : Rat) := by
        rw [Rat.div_def]
        have : (h : Rat)⁻¹ * (h : Rat) = 1 := Rat.inv_mul_cancel _ hq
        grind
      rw [h1] at h3
      grind
    exact_mod_cast h2
  · intro z; rw [z]; simp
theorem told_head {r : List Int} (hn : ∃ y ∈ r, y ≠ 0) : headOf ((toldR r).map (·.num)) = headOf r := by
  have hh := head_ne hn
  have get : ∀ j, ((toldR r).map (·.num)).getD j 0 = 0 ↔ r.getD j 0 = 0 := fun j => by
    unfold toldR
    generalize r.getD (headOf r) 0 = q at hh
    rw [List.map_map, List.getD_eq_getElem?_getD, List.getElem?_map, List.getD_eq_getElem?_getD]
    cases h : r[j]? with
    | none => exact ⟨fun _ => rfl, fun _ => rfl⟩
    | some x => exact divInt_num_zero hh
  exact headOf_eq (fun z => hh ((get _).mp z)) fun j hj => (get j).mpr (before_head hj)
theorem divInt_vec (a b : Int) : Rat.divInt a b = (a : Rat) / (b : Rat) := Rat.divInt_eq_div a b
theorem told_at {r : List Int} {j : Nat} (hj : j < r.length) : (toldR r).getD j 0 = vec r j / vec r (headOf r) := by
  unfold toldR vec
  rw [List.getD_eq_getElem?_getD, List.getElem?_map, getD_get (d := 0) hj]
  show Rat.divInt _ _ = _
  rw [divInt_vec]
theorem toldRows_map (F : List (List Int)) : toldRows F = F.map toldR := rfl
def setV (wide : Nat) (f : List Rat) (r : List Int) : List Rat := f.set (headOf r) ((toldR r).getD wide 0)
theorem place_some {wide : Nat} : ∀ (F : List (List Int)) (f0 : List Rat), (∀ r ∈ F, (∃ y ∈ r, y ≠ 0) ∧ headOf r ≠ wide) → (F.map toldR).foldl (placeR wide) (some f0) = some (F.foldl (setV wide) f0)
  | [], f0, _ => rfl
  | r :: F, f0, h => by
    have hr := h r List.mem_cons_self
    rw [List.map_cons, List.foldl_cons, List.foldl_cons]
    have : placeR wide (some f0) (toldR r) = some (setV wide f0 r) := by
      show (if headOf ((toldR r).map (·.num)) = wide then none else some (f0.set (headOf ((toldR r).map (·.num))) ((toldR r).getD wide 0))) = _
      rw [told_head hr.1, if_neg hr.2]; rfl
    rw [this]
    exact place_some F _ fun x hx => h x (List.mem_cons_of_mem _ hx)
theorem place_no {wide : Nat} : ∀ (F : List (List Int)) (f0 : List Rat), (∀ r ∈ F, ∃ y ∈ r, y ≠ 0) → (∃ r ∈ F, headOf r = wide) → (F.map toldR).foldl (placeR wide) (some f0) = none
  | [], _, _, ⟨_, h, _⟩ => nomatch h
  | r :: F, f0, h, ⟨x, hx, e⟩ => by
    have hr := h r List.mem_cons_self
    rw [List.map_cons, List.foldl_cons]
    have hp : placeR wide (some f0) (toldR r) = if headOf r = wide then none else some (setV wide f0 r) := by
      show (if headOf ((toldR r).map (·.num)) = wide then none else some (f0.set (headOf ((toldR r).map (·.num))) ((toldR r).getD wide 0))) = _
      rw [told_head hr]; rfl
    rw [hp]
    split
    · exact placeR_none wide _
    · rename_i hne
      rcases List.mem_cons.mp hx with rfl | hx
      · exact absurd e hne
      · exact place_no F _ (fun z hz => h z (List.mem_cons_of_mem _ hz)) ⟨x, hx, e⟩
theorem setV_len (wide : Nat) : ∀ (F : List (List Int)) (f0 : List Rat), (F.foldl (setV wide) f0).length = f0.length
  | [], _ => rfl
  | r :: F, f0 => by rw [List.foldl_cons, setV_len wide F]; simp [setV]
theorem setV_out {wide j : Nat} : ∀ (F : List (List Int)) (f0 : List Rat), (∀ r ∈ F, headOf r ≠ j) → (F.foldl (setV wide) f0).getD j 0 = f0.getD j 0
  | [], _, _ => rfl
  | r :: F, f0, h => by
    rw [List.foldl_cons, setV_out F _ fun x hx => h x (List.mem_cons_of_mem _ hx)]
    unfold setV
    rw [List.getD_eq_getElem?_getD, List.getElem?_set_ne (h r List.mem_cons_self), ← List.getD_eq_getElem?_getD]
theorem setV_in {wide : Nat} : ∀ (F : List (List Int)) (f0 : List Rat), (F.map headOf).Nodup → ∀ r ∈ F, headOf r < f0.length → (F.foldl (setV wide) f0).getD (headOf r) 0 = (toldR r).getD wide 0
  | [], _, _, r, hr, _ => nomatch hr
  | x :: F, f0, hn, r, hr, hl => by
    rw [List.map_cons, List.nodup_cons] at hn
    rw [List.foldl_cons]
    rcases List.mem_cons.mp hr with rfl | hr
    · rw [setV_out F _ fun y hy e => hn.1 (by rw [← e]; exact List.mem_map_of_mem hy)]
      unfold setV
      rw [List.getD_eq_getElem?_getD, List.getElem?_set_self hl]; rfl
    · exact setV_in F _ hn.2 r hr (by simpa [setV] using hl)
theorem wholes_vec (rs : List Rat) (j : Nat) : vec (wholesR rs) j = (lcmD rs : Rat) * rs.getD j 0 := by
  have hd : ∀ (rs : List Rat) (b : Nat), (b ∣ rs.foldl (fun b r => Nat.lcm b r.den) b) ∧ ∀ r ∈ rs, r.den ∣ rs.foldl (fun b r => Nat.lcm b r.den) b := by
    intro rs
    induction rs with
    | nil => intro b; exact ⟨Nat.dvd_refl _, fun r hr => nomatch hr⟩
    | cons x rs ih =>
      intro b
      obtain ⟨h1, h2⟩ := ih (Nat.lcm b x.den)
      refine ⟨Nat.dvd_trans (Nat.dvd_lcm_left _ _) h1, fun r hr => ?_⟩
      rcases List.mem_cons.mp hr with rfl | hr
      · exact Nat.dvd_trans (Nat.dvd_lcm_right _ _) h1
      · exact h2 r hr
  unfold vec wholesR
  rw [List.getD_eq_getElem?_getD, List.getElem?_map, List.getD_eq_getElem?_getD]
  cases h : rs[j]? with
  | none => simp
  | some r =>
    obtain ⟨k, hk⟩ := (hd rs 1).2 r (List.mem_of_getElem? h)
    have hk' : lcmD rs = r.den * k := hk
    have hden : (r.den : Int) ≠ 0 := den_ne r
    show ((r.num * ((lcmD rs : Int) / (r.den : Int)) : Int) : Rat) = _
    rw [hk']
    have e1 : ((r.den * k : Nat) : Int) / (r.den : Int) = (k : Int) := by
      rw [Int.natCast_mul, Int.mul_ediv_cancel_left _ hden]
    rw [e1]
    have e2 : r = (r.num : Rat) / (r.den : Rat) := by
      conv => lhs; rw [← Rat.num_divInt_den r, divInt_vec]
      rfl
    have hq : (r.den : Rat) ≠ 0 := by
      intro z
      have : r.den = 0 := by exact_mod_cast z
      have := r.den_pos
      omega
    show ((r.num * (k : Int) : Int) : Rat) = ((r.den * k : Nat) : Rat) * r
    conv => rhs; rw [e2]
    push_cast
    rw [Rat.div_def]
    have : (r.den : Rat) * (r.den : Rat)⁻¹ = 1 := Rat.mul_inv_cancel _ hq
    grind
theorem lcmD_pos (rs : List Rat) : 0 < lcmD rs := by
  have : ∀ (rs : List Rat) (b : Nat), 0 < b → 0 < rs.foldl (fun b r => Nat.lcm b r.den) b := by
    intro rs
    induction rs with
    | nil => intro b h; exact h
    | cons x rs ih => intro b h; exact ih _ (Nat.lcm_pos h x.den_pos)
  exact this rs 1 (by decide)
end TW

namespace TW
def lhs (wide : Nat) (c : List Rat) (y : Vc) : Rat := ((List.range wide).map fun j => c.getD j 0 * y j).sum
theorem dot_row {wide : Nat} {c : List Rat} (hc : c.length = wide) (g : Rat) (y : Vc) : dotv (wide + 1) (wholesR (c ++ [g])) y = (lcmD (c ++ [g]) : Rat) * (lhs wide c y + g * y wide) := by
  unfold dotv
  rw [List.range_succ, List.map_append, List.sum_append, List.map_singleton, List.sum_singleton, wholes_vec]
  have e1 : (c ++ [g]).getD wide 0 = g := by
    rw [List.getD_eq_getElem?_getD, List.getElem?_append_right (by omega), hc]; simp
  have e2 : ((List.range wide).map fun j => vec (wholesR (c ++ [g])) j * y j) = (List.range wide).map fun j => (0 : Rat) - (-(lcmD (c ++ [g]) : Rat)) * (c.getD j 0 * y j) := List.map_congr_left fun j hj => by
    have hj := List.mem_range.mp hj
    rw [wholes_vec]
    have : (c ++ [g]).getD j 0 = c.getD j 0 := by rw [List.getD_eq_getElem?_getD, List.getElem?_append_left (by omega), ← List.getD_eq_getElem?_getD]
    rw [this]; grind
  rw [e1, e2, sum_lin, sum_zero _ _ fun _ => rfl]
  unfold lhs
  grind
section
variable {cols : List (List Rat)} {goals : List Rat} {wide : Nat}
def Eqs (cols : List (List Rat)) (goals : List Rat) (wide : Nat) (y : Vc) : Prop := ∀ x ∈ cols.zip goals, lhs wide x.1 y = x.2
theorem sol_iff (hc : ∀ r ∈ cols, r.length = wide) {y : Vc} (hy : y wide = -1) : Sol (wide + 1) (solveRows cols goals) y ↔ Eqs cols goals wide y := by
  have key : ∀ x ∈ cols.zip goals, dotv (wide + 1) (wholesR (x.1 ++ [x.2])) y = 0 ↔ lhs wide x.1 y = x.2 := fun x hx => by
    have hL : ((lcmD (x.1 ++ [x.2]) : Nat) : Rat) ≠ 0 := by
      have := lcmD_pos (x.1 ++ [x.2])
      intro z
      have : lcmD (x.1 ++ [x.2]) = 0 := by exact_mod_cast z
      omega
    rw [dot_row (hc _ (zip_len hx).1), hy]
    constructor
    · intro z
      have := (Rat.mul_eq_zero.mp z).resolve_left hL
      grind
    · intro z; rw [z]; grind
  constructor
  · intro h x hx
    exact (key x hx).mp (h _ (List.mem_map_of_mem (List.mem_map_of_mem hx)))
  · intro h r hr
    obtain ⟨z, hz, rfl⟩ := List.mem_map.mp hr
    obtain ⟨x, hx, rfl⟩ := List.mem_map.mp hz
    exact (key x hx).mpr (h x hx)
theorem solve_len (hc : ∀ r ∈ cols, r.length = wide) : ∀ r ∈ solveRows cols goals, r.length = wide + 1 := fun r hr => by
  obtain ⟨z, hz, rfl⟩ := List.mem_map.mp hr
  obtain ⟨x, hx, rfl⟩ := List.mem_map.mp hz
  unfold wholesR
  rw [List.length_map, List.length_append, hc _ (zip_len hx).1]; rfl
theorem solve_wide (hc : ∀ r ∈ cols, r.length = wide) (hl : cols.length = goals.length) (h0 : 0 < cols.length) : wideR (solveRows cols goals) = wide + 1 := by
  refine solve_len hc _ (getD_mem ?_)
  unfold solveRows
  rw [List.length_map, List.length_map, List.length_zip]; omega
/-- the rows found: reduced, and of the same solutions -/
structure Fin' (cols : List (List Rat)) (goals : List Rat) (wide : Nat) (F : List (List Int)) : Prop where
  len : ∀ r ∈ F, r.length = wide + 1
  sol : ∀ y, Sol (wide + 1) (solveRows cols goals) y ↔ Sol (wide + 1) F y
  ne : ∀ r ∈ F, ∃ y ∈ r, y ≠ 0
  red : ∀ (i k : Nat) (a b : List Int), i ≠ k → F[i]? = some a → F[k]? = some b → a.getD (headOf b) 0 = 0
theorem fin_of (hc : ∀ r ∈ cols, r.length = wide) (hl : cols.length = goals.length) (h0 : 0 < cols.length) : Fin' cols goals wide (intSteps (solveRows cols goals)) := by
  unfold intSteps
  rw [solve_wide hc hl h0]
  have S := st_all (solve_len (goals := goals) hc) (wide + 1)
  refine ⟨fun r hr => S.len r (List.mem_append_right _ hr), fun y => ?_, S.ne, S.red⟩
  rw [S.sol y]
  constructor
  · intro h r hr; exact h r (List.mem_append_right _ hr)
  · intro h r hr
    rcases List.mem_append.mp hr with h1 | h1
    · unfold dotv
      have e : ((List.range (wide + 1)).map fun j => vec r j * y j) = (List.range (wide + 1)).map fun _ => (0 : Rat) := List.map_congr_left fun j hj => by
        rw [vec_int.mpr (S.left r h1 j (List.mem_range.mp hj))]; grind
      rw [e]; exact sum_zero _ _ fun _ => rfl
    · exact h r h1
theorem Fin'.heads {F : List (List Int)} (h : Fin' cols goals wide F) : (F.map headOf).Nodup := by
  rw [List.Nodup, List.pairwise_iff_getElem]
  intro i j hi hj hij
  rw [List.length_map] at hi hj
  rw [List.getElem_map, List.getElem_map]
  intro e
  have h1 := h.red i j _ _ (by omega) (List.getElem?_eq_getElem hi) (List.getElem?_eq_getElem hj)
  rw [← e] at h1
  exact head_ne (h.ne _ (List.getElem_mem hi)) h1
theorem Fin'.le {F : List (List Int)} (h : Fin' cols goals wide F) : ∀ r ∈ F, headOf r ≤ wide := fun r hr => by
  have := headOf_lt (h.ne r hr)
  rw [h.len r hr] at this
  omega
theorem Fin'.other {F : List (List Int)} (h : Fin' cols goals wide F) {a b : List Int} (ha : a ∈ F) (hb : b ∈ F) (hne : headOf a ≠ headOf b) : a.getD (headOf b) 0 = 0 := by
  obtain ⟨i, hi⟩ := List.getElem?_of_mem ha
  obtain ⟨k, hk⟩ := List.getElem?_of_mem hb
  refine h.red i k a b (fun e => hne ?_) hi hk
  subst e
  rw [hi] at hk; cases hk; rfl
def yOf (wide : Nat) (f : List Rat) : Vc := fun j => if j < wide then f.getD j 0 else if j = wide then -1 else 0
/-- what is found is a solution -/
theorem solve_sound (hw : (cols.getD 0 []).length = wide) (hc : ∀ r ∈ cols, r.length = wide) (hl : cols.length = goals.length) (h0 : 0 < cols.length) {f : List Rat} (hs : solutionR cols goals = some f) :
    (∀ r ∈ intSteps (solveRows cols goals), headOf r ≠ wide) ∧ f = (intSteps (solveRows cols goals)).foldl (setV wide) (List.replicate wide 0) ∧ f.length = wide ∧ Eqs cols goals wide (yOf wide f) := by
  have hF := fin_of hc hl h0
  have hs' : ((intSteps (solveRows cols goals)).map toldR).foldl (placeR wide) (some (List.replicate wide 0)) = some f := by
    rw [← hs]
    unfold solutionR
    rw [hw, toldRows_map]
  generalize intSteps (solveRows cols goals) = F at hF hs'
  have hnw : ∀ r ∈ F, headOf r ≠ wide := fun r hr e => by
    rw [place_no F _ hF.ne ⟨r, hr, e⟩] at hs'
    cases hs'
  rw [place_some F _ fun r hr => ⟨hF.ne r hr, hnw r hr⟩] at hs'
  have ef : f = F.foldl (setV wide) (List.replicate wide 0) := (Option.some.inj hs').symm
  have hfl : f.length = wide := by rw [ef, setV_len]; simp
  refine ⟨hnw, ef, hfl, ?_⟩
  have hyw : yOf wide f wide = -1 := by unfold yOf; rw [if_neg (by omega), if_pos rfl]
  rw [← sol_iff hc hyw, hF.sol]
  intro r hr
  have hrw := hF.le r hr
  have hrn := hnw r hr
  have hlt : headOf r < wide := by omega
  have hrl := hF.len r hr
  have hv : vec r (headOf r) ≠ 0 := fun z => head_ne (hF.ne r hr) (vec_int.mp z)
  unfold dotv
  rw [sum_two (a := headOf r) (b := wide) _ (by omega) (by omega) hrn fun j h1 h2 => ?_]
  · rw [hyw]
    have e1 : yOf wide f (headOf r) = vec r wide / vec r (headOf r) := by
      unfold yOf
      rw [if_pos hlt, ef, setV_in F _ hF.heads r hr (by simpa using hlt), told_at (by omega)]
    rw [e1, Rat.div_def]
    have : vec r (headOf r) * (vec r (headOf r))⁻¹ = 1 := Rat.mul_inv_cancel _ hv
    grind
  · by_cases hj : j < wide
    · by_cases hh : ∃ b ∈ F, headOf b = j
      · obtain ⟨b, hb, e⟩ := hh
        have : r.getD j 0 = 0 := by rw [← e]; exact hF.other hr hb (by rw [e]; exact fun z => h1 z.symm)
        rw [vec_int.mpr this]; grind
      · have e1 : yOf wide f j = 0 := by
          unfold yOf
          rw [if_pos hj, ef, setV_out F _ fun b hb e => hh ⟨b, hb, e⟩, List.getD_eq_getElem?_getD, List.getElem?_replicate, if_pos hj]; rfl
        rw [e1]; grind
    · have e1 : yOf wide f j = 0 := by unfold yOf; rw [if_neg hj, if_neg h2]
      rw [e1]; grind
/-- if there is a solution, one is found -/
theorem solve_complete (hw : (cols.getD 0 []).length = wide) (hc : ∀ r ∈ cols, r.length = wide) (hl : cols.length = goals.length) (h0 : 0 < cols.length) {y : Vc} (hy : y wide = -1) (hs : Eqs cols goals wide y) : ∃ f, solutionR cols goals = some f := by
  have hF := fin_of hc hl h0
  have h1 := (hF.sol y).mp ((sol_iff hc hy).mpr hs)
  have hnw : ∀ r ∈ intSteps (solveRows cols goals), headOf r ≠ wide := fun r hr e => by
    have hd := h1 r hr
    unfold dotv at hd
    rw [sum_one (a := wide) _ (by omega) fun j hj => ?_] at hd
    · rw [hy] at hd
      have : vec r wide = 0 := by grind
      exact head_ne (hF.ne r hr) (by rw [e]; exact vec_int.mp this)
    · rcases Nat.lt_or_ge j wide with h2 | h2
      · rw [vec_int.mpr (before_head (by rw [e]; exact h2))]; grind
      · have : r.getD j 0 = 0 := by rw [List.getD_eq_getElem?_getD, List.getElem?_eq_none (by rw [hF.len r hr]; omega)]; rfl
        rw [vec_int.mpr this]; grind
  unfold solutionR
  rw [hw, toldRows_map, place_some _ _ fun r hr => ⟨hF.ne r hr, hnw r hr⟩]
  exact ⟨_, rfl⟩
end
end TW

namespace TW
def aW (wide j : Nat) : Nat := if j < wide then 3 * j + 3 else 23
def Sk (wide : Nat) : Nat → Nat
  | 0 => 0
  | p + 1 => 2 * Sk wide p + aW wide p + 1
def WLt (wide S : Nat) (r : List Int) : Prop := ∀ (j : Nat) (x : Int), r[j]? = some x → x.natAbs < 2 ^ (aW wide j + S)
theorem WLt.mono {wide S T : Nat} {r : List Int} (h : WLt wide S r) (k : S ≤ T) : WLt wide T r := fun j x hx => Nat.lt_of_lt_of_le (h j x hx) (Nat.pow_le_pow_right (by decide) (by omega))
theorem WLt.bare {wide S : Nat} {r : List Int} (h : WLt wide S r) : WLt wide S (bareR r) := fun j x hx => by
  unfold bareR at hx
  split at hx
  · rw [List.getElem?_map] at hx
    obtain ⟨y, hy, rfl⟩ := Option.map_eq_some_iff.mp hx
    exact Nat.lt_of_le_of_lt (ediv_natAbs_le _ _) (h j y hy)
  · exact h j x hx
theorem WLt.headed {wide S p : Nat} {r : List Int} (h : WLt wide S r) : WLt wide S (headedR r p) := fun j x hx => by
  unfold headedR at hx
  split at hx
  · exact h.bare j x hx
  · rw [List.getElem?_map] at hx
    obtain ⟨y, hy, rfl⟩ := Option.map_eq_some_iff.mp hx
    have := h.bare j y hy
    omega
theorem WLt.cleared {wide S p : Nat} {l s : List Int} (hl : WLt wide S l) (hs : WLt wide S s) (e : l.length = s.length) (hp : p < l.length) : WLt wide (2 * S + aW wide p + 1) (clearedR l s p) := by
  unfold clearedR
  split
  · exact hl.mono (by omega)
  · refine WLt.bare fun j x hx => ?_
    rw [List.getElem?_map] at hx
    obtain ⟨y, hy, rfl⟩ := Option.map_eq_some_iff.mp hx
    rw [List.getElem?_zip_eq_some] at hy
    have a1 := hl j _ hy.1
    have a2 := hs j _ hy.2
    have b1 := hl p _ (getD_get (d := 0) hp)
    have b2 := hs p _ (getD_get (d := 0) (by omega))
    have := natAbs_mulsub_lt (a := s.getD p 0) (b := y.1) (c := l.getD p 0) (d := y.2) b2 a1 b1 a2
    refine Nat.lt_of_lt_of_le this (Nat.pow_le_pow_right (by decide) ?_)
    omega
theorem step_w {wide S p m : Nat} {s : List (List Int) × List (List Int)} (hm : p < m) (h : ∀ r ∈ s.1 ++ s.2, r.length = m ∧ WLt wide S r) : ∀ r ∈ (stepR p s).1 ++ (stepR p s).2, WLt wide (2 * S + aW wide p + 1) r := by
  obtain ⟨l, f⟩ := s
  intro r hr
  cases hk : firstR l p with
  | none =>
    have e : stepR p (l, f) = (l, f) := by unfold stepR; simp only; rw [hk]
    rw [e] at hr
    exact (h r hr).2.mono (by omega)
  | some k =>
    have e : stepR p (l, f) = ((l.take k ++ l.drop (k + 1)).map fun r => clearedR r (headedR (l.getD k []) p) p, (f.map fun r => clearedR r (headedR (l.getD k []) p) p) ++ [headedR (l.getD k []) p]) := by
      unfold stepR; simp only; rw [hk]
    rw [e] at hr
    unfold firstR at hk
    rw [List.findIdx?_eq_some_iff_getElem] at hk
    have hkm : l.getD k [] ∈ l := getD_mem hk.1
    have hh := h _ (List.mem_append_left _ hkm)
    have hhl : (headedR (l.getD k []) p).length = m := by rw [headedR_len]; exact hh.1
    have hc : ∀ x ∈ l ++ f, WLt wide (2 * S + aW wide p + 1) (clearedR x (headedR (l.getD k []) p) p) := fun x hx => (h x hx).2.cleared hh.2.headed (by rw [hhl]; exact (h x hx).1) (by rw [(h x hx).1]; exact hm)
    rcases List.mem_append.mp hr with h1 | h1
    · obtain ⟨x, hx, rfl⟩ := List.mem_map.mp h1
      refine hc x (List.mem_append_left _ ?_)
      rcases List.mem_append.mp hx with h2 | h2
      · exact List.mem_of_mem_take h2
      · exact List.mem_of_mem_drop h2
    · rcases List.mem_append.mp h1 with h1 | h1
      · obtain ⟨x, hx, rfl⟩ := List.mem_map.mp h1
        exact hc x (List.mem_append_right _ hx)
      · rw [List.mem_singleton.mp h1]
        exact hh.2.headed.mono (by omega)
theorem steps_w {wide m : Nat} {rows0 : List (List Int)} (hl : ∀ r ∈ rows0, r.length = m) (h0 : ∀ r ∈ rows0, WLt wide 0 r) : ∀ p, p ≤ m → ∀ r ∈ (stepsR rows0 p).1 ++ (stepsR rows0 p).2, r.length = m ∧ WLt wide (Sk wide p) r
  | 0, _ => fun r hr => by
    have : r ∈ rows0 := by simpa [stepsR] using hr
    exact ⟨hl r this, h0 r this⟩
  | p + 1, hp => fun r hr => by
    have ih := steps_w hl h0 p (by omega)
    have S := st_all hl (p + 1)
    refine ⟨S.len r hr, ?_⟩
    rw [stepsR_succ] at hr
    exact step_w (by omega) ih r hr
theorem Sk_mono {wide i j : Nat} (h : i ≤ j) : Sk wide i ≤ Sk wide j := by
  induction h with
  | refl => exact Nat.le_refl _
  | step _ ih => show _ ≤ 2 * Sk wide _ + _ + 1; omega
theorem Sk_small : ∀ wide, wide < 10 → Sk wide wide ≤ 3550 := by decide
theorem WLt.lt {wide S n : Nat} {r : List Int} (h : WLt wide S r) (hw : wide ≤ 9) (hn : 30 + S ≤ n) : Lt n r := fun x hx => by
  obtain ⟨j, hj⟩ := List.getElem?_of_mem hx
  refine Nat.lt_of_lt_of_le (h j x hj) (Nat.pow_le_pow_right (by decide) ?_)
  unfold aW
  split <;> omega
section
variable {cols : List (List Rat)} {goals : List Rat} {wide : Nat}
theorem ok_solve (hw : (cols.getD 0 []).length = wide) (hc : ∀ r ∈ cols, r.length = wide) (hl : cols.length = goals.length) (h0 : 0 < cols.length) (hn : cols.length < 1000) (h9 : wide ≤ 9) (hd : ∀ x ∈ cols.zip goals, ∀ q ∈ x.1 ++ [x.2], q.den ∣ 6 ∧ Big q.num) (hs : ∀ r ∈ solveRows cols goals, WLt wide 0 r) : OkSolve cols goals := by
  have hwd := solve_wide (goals := goals) hc hl h0
  have hlen := solve_len (goals := goals) hc
  have hS := steps_w hlen hs
  have hsk := Sk_small wide (by omega)
  have hF := fin_of hc hl h0
  have hFw : ∀ r ∈ intSteps (solveRows cols goals), Lt 9000 r := fun r hr => by
    unfold intSteps at hr
    rw [hwd] at hr
    refine (hS (wide + 1) (Nat.le_refl _) r (List.mem_append_right _ hr)).2.lt h9 ?_
    show 30 + (2 * Sk wide wide + aW wide wide + 1) ≤ 9000
    have : aW wide wide = 23 := by unfold aW; rw [if_neg (by omega)]
    omega
  refine ⟨h0, by omega, by omega, fun r hr => by rw [hw]; exact hc r hr, hd, ⟨?_, by rw [hwd]; omega, fun p hp r hr => ?_⟩, fun r hr => ⟨hF.ne r hr, hFw r hr⟩, fun row hrow => ?_⟩
  · unfold solveRows
    rw [List.length_map, List.length_map, List.length_zip]; omega
  · rw [hwd] at hp ⊢
    have h1 := hS p (by omega) r hr
    refine ⟨h1.1, h1.2.lt h9 ?_⟩
    have := Sk_mono (wide := wide) (show p ≤ wide by omega)
    omega
  · rw [toldRows_map] at hrow
    obtain ⟨r, hr, rfl⟩ := List.mem_map.mp hrow
    rw [hw]
    refine ⟨by unfold toldR; rw [List.length_map]; exact hF.len r hr, ?_⟩
    have hh := head_ne (hF.ne r hr)
    have hb := headOf_lt (hF.ne r hr)
    refine ⟨Rat.divInt (r.getD (headOf r) 0) (r.getD (headOf r) 0), List.mem_map.mpr ⟨_, getD_mem hb, rfl⟩, fun z => ?_⟩
    exact hh ((divInt_num_zero hh).mp (by rw [z]; rfl))
/-- the numbers found are small -/
theorem sol_small (hw : (cols.getD 0 []).length = wide) (hc : ∀ r ∈ cols, r.length = wide) (hl : cols.length = goals.length) (h0 : 0 < cols.length) (h9 : wide ≤ 9) (hs : ∀ r ∈ solveRows cols goals, WLt wide 0 r) {f : List Rat} (hf : solutionR cols goals = some f) : ∀ q ∈ f, BgQ 4400 q := by
  obtain ⟨hnw, ef, hfl, _⟩ := solve_sound hw hc hl h0 hf
  have hwd := solve_wide (goals := goals) hc hl h0
  have hlen := solve_len (goals := goals) hc
  have hS := steps_w hlen hs
  have hsk := Sk_small wide (by omega)
  have hF := fin_of hc hl h0
  have hFw : ∀ r ∈ intSteps (solveRows cols goals), Lt 4400 r := fun r hr => by
    unfold intSteps at hr hnw
    rw [hwd] at hr hnw
    have e : stepsR (solveRows cols goals) (wide + 1) = stepR wide (stepsR (solveRows cols goals) wide) := stepsR_succ _ _
    have same : stepR wide (stepsR (solveRows cols goals) wide) = stepsR (solveRows cols goals) wide := by
      have hst := st_all hlen wide
      generalize stepsR (solveRows cols goals) wide = s at e hst ⊢
      obtain ⟨l, f'⟩ := s
      cases hk : firstR l wide with
      | none => unfold stepR; simp only; rw [hk]
      | some k =>
        exfalso
        have e2 : stepR wide (l, f') = ((l.take k ++ l.drop (k + 1)).map fun r => clearedR r (headedR (l.getD k []) wide) wide, (f'.map fun r => clearedR r (headedR (l.getD k []) wide) wide) ++ [headedR (l.getD k []) wide]) := by
          unfold stepR; simp only; rw [hk]
        rw [e, e2] at hnw
        unfold firstR at hk
        rw [List.findIdx?_eq_some_iff_getElem] at hk
        have hkm : l.getD k [] ∈ l := getD_mem hk.1
        have hkz : (l.getD k []).getD wide 0 ≠ 0 := by
          have : l.getD k [] = l[k]'hk.1 := by simp [List.getD, List.getElem?_eq_getElem hk.1]
          rw [this]; simpa using hk.2.1
        obtain ⟨ch, hch, eh⟩ := headed_vec (l.getD k []) wide
        refine hnw (headedR (l.getD k []) wide) (List.mem_append_right _ (List.mem_singleton.mpr rfl)) (headOf_eq (fun z => ?_) fun j hj => ?_)
        · have z2 := vec_int.mpr z
          rw [eh] at z2
          exact hkz (vec_int.mp ((Rat.mul_eq_zero.mp z2).resolve_left hch))
        · rw [← vec_int, eh, vec_int.mpr (hst.left _ hkm j hj)]; grind
    rw [e, same] at hr
    exact (hS wide (by omega) r (List.mem_append_right _ hr)).2.lt h9 (by omega)
  intro q hq
  obtain ⟨j, hj⟩ := List.getElem?_of_mem hq
  have hjl : j < wide := by have := (List.getElem?_eq_some_iff.mp hj).1; omega
  have ej : q = f.getD j 0 := by simp [List.getD, hj]
  by_cases hh : ∃ r ∈ intSteps (solveRows cols goals), headOf r = j
  · obtain ⟨r, hr, e⟩ := hh
    have hrl := hF.len r hr
    rw [ej, ef, ← e, setV_in _ _ hF.heads r hr (by rw [e]; simpa using hjl)]
    have hv := head_ne (hF.ne r hr)
    have : (toldR r).getD wide 0 = Rat.divInt (r.getD wide 0) (r.getD (headOf r) 0) := by
      unfold toldR
      rw [List.getD_eq_getElem?_getD, List.getElem?_map, getD_get (d := 0) (show wide < r.length by omega)]; rfl
    rw [this]
    exact BgQ.divInt hv (lt_getD (hFw r hr) (by omega)) (lt_getD (hFw r hr) (headOf_lt (hF.ne r hr)))
  · rw [ej, ef, setV_out _ _ fun r hr e => hh ⟨r, hr, e⟩, List.getD_eq_getElem?_getD, List.getElem?_replicate, if_pos hjl]
    exact zero_bg.mono (by decide)
end
end TW

namespace TW
def vq (t : List (List Rat)) : Vc := fun k => t.flatten.getD k 0
theorem span_comb : ∀ {vs : List Vc} {v : Vc}, SpanL vs v → ∃ y : Vc, ∀ k, v k = ((List.range vs.length).map fun j => (vs.getD j fun _ => 0) k * y j).sum
  | [], v, h => ⟨fun _ => 0, fun k => by rw [h k]; rfl⟩
  | r :: rs, v, ⟨c, hc⟩ => by
    obtain ⟨y, hy⟩ := span_comb hc
    refine ⟨fun j => if j = 0 then c else y (j - 1), fun k => ?_⟩
    have := hy k
    rw [List.length_cons, List.range_succ_eq_map, List.map_cons, List.sum_cons, List.map_map]
    have e : (List.range rs.length).map ((fun j => ((r :: rs).getD j fun _ => 0) k * if j = 0 then c else y (j - 1)) ∘ Nat.succ) = (List.range rs.length).map fun j => (rs.getD j fun _ => 0) k * y j := List.map_congr_left fun j _ => by
      simp
    rw [e, ← this]
    simp; grind
theorem comb_span : ∀ (vs : List Vc) (y : Vc), SpanL vs fun k => ((List.range vs.length).map fun j => (vs.getD j fun _ => 0) k * y j).sum
  | [], y => fun k => rfl
  | r :: rs, y => ⟨y 0, (comb_span rs fun j => y (j + 1)).eq fun k => by
    show _ = ((List.range (r :: rs).length).map fun j => ((r :: rs).getD j fun _ => 0) k * y j).sum - y 0 * r k
    rw [List.length_cons, List.range_succ_eq_map, List.map_cons, List.sum_cons, List.map_map]
    have e : (List.range rs.length).map ((fun j => ((r :: rs).getD j fun _ => 0) k * y j) ∘ Nat.succ) = (List.range rs.length).map fun j => (rs.getD j fun _ => 0) k * y (j + 1) := List.map_congr_left fun j _ => by simp
    rw [e]
    simp; grind⟩
theorem flat_ext {n : Nat} {t o : List (List Rat)} (ht : Sq n t) (ho : Sq n o) (h : ∀ k, k < n * n → vq t k = vq o k) : t = o := by
  refine List.ext_getElem? fun i => ?_
  rcases Nat.lt_or_ge i n with hi | hi
  · rw [getD_get (d := []) (by rw [ht.1]; exact hi), getD_get (d := []) (by rw [ho.1]; exact hi)]
    congr 1
    have l1 := ht.2 _ (getD_mem (d := []) (show i < t.length by rw [ht.1]; exact hi))
    have l2 := ho.2 _ (getD_mem (d := []) (show i < o.length by rw [ho.1]; exact hi))
    refine List.ext_getElem? fun c => ?_
    rcases Nat.lt_or_ge c n with hcn | hcn
    · rw [getD_get (d := (0 : Rat)) (by rw [l1]; exact hcn), getD_get (d := (0 : Rat)) (by rw [l2]; exact hcn)]
      have hk : i * n + c < n * n := by
        have := Nat.mul_le_mul_right n (show i + 1 ≤ n from hi)
        rw [Nat.succ_mul] at this
        omega
      have := h _ hk
      unfold vq at this
      rw [flat_get ht.2 (by rw [ht.1]; exact hi) hcn, flat_get ho.2 (by rw [ho.1]; exact hi) hcn] at this
      rw [this]
    · rw [List.getElem?_eq_none (by omega), List.getElem?_eq_none (by omega)]
  · rw [List.getElem?_eq_none (by rw [ht.1]; exact hi), List.getElem?_eq_none (by rw [ho.1]; exact hi)]
theorem zip_sq {n : Nat} {t o : List (List Rat)} {g : Rat × Rat → Rat} (ht : Sq n t) (ho : Sq n o) : Sq n ((t.zip o).map fun x => (x.1.zip x.2).map g) ∧ ∀ k, k < n * n → vq ((t.zip o).map fun x => (x.1.zip x.2).map g) k = g (vq t k, vq o k) := by
  have hs : Sq n ((t.zip o).map fun x => (x.1.zip x.2).map g) := by
    refine ⟨by rw [List.length_map, List.length_zip, ht.1, ho.1]; omega, fun r hr => ?_⟩
    obtain ⟨x, hx, rfl⟩ := List.mem_map.mp hr
    have hz := zip_len hx
    rw [List.length_map, List.length_zip, ht.2 _ hz.1, ho.2 _ hz.2]; omega
  refine ⟨hs, fun k hk => ?_⟩
  have hn : 0 < n := by
    rcases Nat.eq_zero_or_pos n with h | h
    · subst h; simp at hk
    · exact h
  have hi : k / n < n := Nat.div_lt_of_lt_mul hk
  have hc : k % n < n := Nat.mod_lt _ hn
  have e : k = k / n * n + k % n := by rw [Nat.mul_comm]; exact (Nat.div_add_mod k n).symm
  have l1 := ht.2 _ (getD_mem (d := []) (show k / n < t.length by rw [ht.1]; exact hi))
  have l2 := ho.2 _ (getD_mem (d := []) (show k / n < o.length by rw [ho.1]; exact hi))
  unfold vq
  rw [e, flat_get hs.2 (by rw [hs.1]; exact hi) hc, flat_get ht.2 (by rw [ht.1]; exact hi) hc, flat_get ho.2 (by rw [ho.1]; exact hi) hc]
  have e1 : ((t.zip o).map fun x => (x.1.zip x.2).map g).getD (k / n) [] = ((t.getD (k / n) []).zip (o.getD (k / n) [])).map g := by
    rw [List.getD_eq_getElem?_getD, List.getElem?_map, (List.getElem?_zip_eq_some (z := (t.getD (k / n) [], o.getD (k / n) []))).mpr ⟨getD_get (by rw [ht.1]; exact hi), getD_get (by rw [ho.1]; exact hi)⟩]; rfl
  rw [e1, List.getD_eq_getElem?_getD, List.getElem?_map, (List.getElem?_zip_eq_some (z := ((t.getD (k / n) []).getD (k % n) 0, (o.getD (k / n) []).getD (k % n) 0))).mpr ⟨getD_get (by rw [l1]; exact hc), getD_get (by rw [l2]; exact hc)⟩]; rfl
theorem vq_cast (t : List (List Int)) (k : Nat) : vq (castT t) k = vec t.flatten k := by
  unfold vq vec
  rw [castT_flat]
  unfold castL
  rw [List.getD_eq_getElem?_getD, List.getElem?_map, List.getD_eq_getElem?_getD]
  cases t.flatten[k]? <;> rfl
theorem sq_cast {n : Nat} {t : List (List Int)} (h : Sq n t) : Sq n (castT t) := by
  refine ⟨by unfold castT; rw [List.length_map]; exact h.1, fun r hr => ?_⟩
  obtain ⟨x, hx, rfl⟩ := List.mem_map.mp hr
  unfold castL
  rw [List.length_map]; exact h.2 x hx
theorem sum_snoc (xs : List Rat) (x : Rat) : (xs ++ [x]).sum = xs.sum + x := by rw [List.sum_append, List.sum_singleton]
/-- a mixture's table as a vector -/
theorem table_vec {n : Nat} {ls : List (List (List Int))} (hH : HouseOk n ls) : ∀ (i : Nat) (mix : List (List Nat × Rat)), mix.length = i → (∀ x ∈ mix, Wd ls x.1) → Sq n (tableM ls mix) ∧ ∀ k, k < n * n → vq (tableM ls mix) k = (mix.map fun x => x.2 * rowV ls x.1 k).sum
  | 0, mix, hi, _ => by
    have : mix = [] := List.length_eq_zero_iff.mp hi
    subst this
    have e : tableM ls [] = scaleT (castT (idleT (sideH ls))) 0 := rfl
    rw [e, hH.side]
    have hs := sq_cast (sq_idle n)
    refine ⟨⟨by unfold scaleT; rw [List.length_map]; exact hs.1, fun r hr => by
      obtain ⟨x, hx, rfl⟩ := List.mem_map.mp hr
      rw [List.length_map]; exact hs.2 x hx⟩, fun k hk => ?_⟩
    show (scaleT (castT (idleT n)) 0).flatten.getD k 0 = 0
    unfold scaleT
    rw [← List.map_flatten, List.getD_eq_getElem?_getD, List.getElem?_map]
    cases (castT (idleT n)).flatten[k]? with
    | none => rfl
    | some q => show 0 * q = 0; grind
  | i + 1, mix, hi, hw => by
    have hne : mix ≠ [] := by intro z; subst z; simp at hi
    obtain ⟨a, x, rfl⟩ : ∃ a x, mix = a ++ [x] := ⟨mix.dropLast, mix.getLast hne, (List.dropLast_concat_getLast hne).symm⟩
    have ih := table_vec hH i a (by simpa using hi) fun y hy => hw y (List.mem_append_left _ hy)
    have hx := hw x (by simp)
    have h2 := sq_cast (word_ok hH _ x.1 rfl hx).1
    rw [tableM_snoc]
    have z := zip_sq (g := fun y => y.1 + x.2 * y.2) ih.1 h2
    refine ⟨z.1, fun k hk => ?_⟩
    rw [List.map_append, List.map_singleton, sum_snoc, ← ih.2 k hk]
    have := z.2 k hk
    rw [vq_cast] at this
    exact this
theorem D6.mono {A B : Nat} {q : Rat} (h : D6 A q) (k : A ≤ B) : D6 B q := let ⟨x, e, hx⟩ := h; ⟨x, e, Nat.le_trans hx k⟩
theorem D6.mulI {A : Nat} {q : Rat} (h : D6 A q) (i : Int) : D6 (A * i.natAbs) (q * (i : Rat)) := by
  obtain ⟨x, rfl, hx⟩ := h
  refine ⟨x * i, ?_, by rw [Int.natAbs_mul]; exact Nat.mul_le_mul_right _ hx⟩
  rw [Rat.divInt_eq_div, Rat.divInt_eq_div, Rat.div_def, Rat.div_def]
  push_cast; grind
theorem D6.int (i : Int) : D6 (6 * i.natAbs) (i : Rat) := by
  refine ⟨6 * i, ?_, by rw [Int.natAbs_mul]; exact Nat.le_refl _⟩
  rw [Rat.divInt_eq_div]
  push_cast; grind
theorem D6.sum {A : Nat} : ∀ {xs : List Rat}, (∀ x ∈ xs, D6 A x) → D6 (xs.length * A) xs.sum
  | [], _ => ⟨0, by simp, by simp⟩
  | x :: xs, h => by
    have := (h x List.mem_cons_self).add (D6.sum fun y hy => h y (List.mem_cons_of_mem _ hy))
    rw [List.sum_cons, List.length_cons, Nat.succ_mul, Nat.add_comm]
    exact this
theorem D6.den {A : Nat} {q : Rat} (h : D6 A q) : q.den ∣ 6 ∧ q.num.natAbs ≤ A := by
  obtain ⟨x, rfl, hx⟩ := h
  have h1 := divInt_le (t := x) (b := 6) (by decide)
  refine ⟨?_, Nat.le_trans h1.1 hx⟩
  rw [Rat.den_divInt, if_neg (by decide)]
  exact Nat.div_dvd_of_dvd (Nat.gcd_dvd_left _ _)
theorem nums_d6 : ∀ x ∈ nums, D6 12 (worth x) := by
  intro x hx
  simp only [nums, List.mem_cons, List.not_mem_nil, or_false] at hx
  rcases hx with rfl | rfl | rfl | rfl | rfl | rfl
  · exact ⟨6, by rw [Rat.divInt_eq_div]; show ((1 : Int) : Rat) = _; push_cast; grind, by decide⟩
  · exact ⟨-6, by rw [Rat.divInt_eq_div]; show ((-1 : Int) : Rat) = _; push_cast; grind, by decide⟩
  · exact ⟨12, by rw [Rat.divInt_eq_div]; show ((2 : Int) : Rat) = _; push_cast; grind, by decide⟩
  · exact ⟨0, by rw [Rat.divInt_eq_div]; show ((0 : Int) : Rat) = _; push_cast; grind, by decide⟩
  · exact ⟨3, by show Rat.divInt 1 2 = _; rw [Rat.divInt_eq_div, Rat.divInt_eq_div]; push_cast; grind, by decide⟩
  · exact ⟨-4, by show Rat.divInt (-2) 3 = _; rw [Rat.divInt_eq_div, Rat.divInt_eq_div]; push_cast; grind, by decide⟩
end TW

namespace TW
theorem cols_len {n : Nat} {ls : List (List (List Int))} (hH : HouseOk n ls) : (colsR ls).length = n * n ∧ ∀ r ∈ colsR ls, r.length = (baseW ls).length := by
  unfold colsR
  rw [hH.side]
  refine ⟨by simp, fun r hr => ?_⟩
  obtain ⟨k, _, rfl⟩ := List.mem_map.mp hr
  rw [List.length_map]
theorem cols_get {n : Nat} {ls : List (List (List Int))} (hH : HouseOk n ls) {k j : Nat} (hk : k < n * n) (hj : j < (baseW ls).length) : ((colsR ls).getD k []).getD j 0 = rowV ls ((baseW ls).getD j []) k := by
  unfold colsR
  rw [hH.side, List.getD_eq_getElem?_getD (l := (List.range (n * n)).map _), List.getElem?_map, List.getElem?_range hk]
  show ((baseW ls).map fun w => (((rowOf ls w).getD k 0 : Int) : Rat)).getD j 0 = _
  rw [List.getD_eq_getElem?_getD, List.getElem?_map, getD_get (d := []) hj]; rfl
theorem vs_get {ls : List (List (List Int))} {j : Nat} (hj : j < (baseW ls).length) : ((baseW ls).map (rowV ls)).getD j (fun _ => 0) = rowV ls ((baseW ls).getD j []) := by
  rw [List.getD_eq_getElem?_getD, List.getElem?_map, getD_get (d := []) hj]; rfl
theorem lhs_cols {n : Nat} {ls : List (List (List Int))} (hH : HouseOk n ls) {k : Nat} (hk : k < n * n) (y : Vc) : lhs (baseW ls).length ((colsR ls).getD k []) y = ((List.range (baseW ls).length).map fun j => (((baseW ls).map (rowV ls)).getD j fun _ => 0) k * y j).sum := by
  unfold lhs
  congr 1
  refine List.map_congr_left fun j hj => ?_
  have hj := List.mem_range.mp hj
  rw [cols_get hH hk hj, vs_get hj]
theorem zip_at {α β : Type} {xs : List α} {ys : List β} (da : α) (db : β) {x : α × β} (h : x ∈ xs.zip ys) : ∃ k, k < xs.length ∧ k < ys.length ∧ x = (xs.getD k da, ys.getD k db) := by
  obtain ⟨k, hk⟩ := List.getElem?_of_mem h
  rw [List.getElem?_zip_eq_some] at hk
  have h1 := (List.getElem?_eq_some_iff.mp hk.1).1
  have h2 := (List.getElem?_eq_some_iff.mp hk.2).1
  refine ⟨k, h1, h2, ?_⟩
  rw [getD_get (d := da) h1] at hk
  rw [getD_get (d := db) h2] at hk
  exact Prod.ext (Option.some.inj hk.1).symm (Option.some.inj hk.2).symm
theorem zip_in {α β : Type} {xs : List α} {ys : List β} (da : α) (db : β) {k : Nat} (h1 : k < xs.length) (h2 : k < ys.length) : (xs.getD k da, ys.getD k db) ∈ xs.zip ys :=
  List.mem_of_getElem? (i := k) (List.getElem?_zip_eq_some.mpr ⟨getD_get h1, getD_get h2⟩)
section
variable {n : Nat} {ls : List (List (List Int))} {t : List (List Rat)}
theorem eqs_iff (hH : HouseOk n ls) (ht : Sq n t) (y : Vc) : Eqs (colsR ls) t.flatten (baseW ls).length y ↔ ∀ k, k < n * n → ((List.range (baseW ls).length).map fun j => (((baseW ls).map (rowV ls)).getD j fun _ => 0) k * y j).sum = vq t k := by
  have hc := cols_len hH
  have hf : t.flatten.length = n * n := Sq.flat ht.2 ht.1
  constructor
  · intro h k hk
    rw [← lhs_cols hH hk]
    exact h _ (zip_in [] 0 (by rw [hc.1]; exact hk) (by rw [hf]; exact hk))
  · intro h x hx
    obtain ⟨k, h1, _, rfl⟩ := zip_at [] (0 : Rat) hx
    rw [hc.1] at h1
    show lhs _ ((colsR ls).getD k []) y = _
    rw [lhs_cols hH h1, h k h1]; rfl
theorem base9 (hH : HouseOk n ls) : (baseW ls).length ≤ 9 := by
  have h1 := (base_facts hH).le
  have h2 := hH.2.2.2.1
  have := Nat.mul_le_mul h2 h2
  omega
theorem base_wide (hH : HouseOk n ls) : ((colsR ls).getD 0 []).length = (baseW ls).length := by
  have hc := cols_len hH
  have := Nat.mul_pos hH.2.2.1 hH.2.2.1
  exact hc.2 _ (getD_mem (by omega))
theorem entry_le (hH : HouseOk n ls) {w : List Nat} (hw : Wd ls w) (k : Nat) : ((rowOf ls w).getD k 0).natAbs ≤ 8 ^ w.length := by
  rw [List.getD_eq_getElem?_getD]
  cases h : (rowOf ls w)[k]? with
  | none => exact Nat.zero_le _
  | some x =>
    obtain ⟨r, hr, hxr⟩ := List.mem_flatten.mp (List.mem_of_getElem? h)
    exact (word_ok hH _ w rfl hw).2 r hr x hxr
theorem zip_all (hH : HouseOk n ls) (hd : AllD6 1000000 t) : ∀ x ∈ (colsR ls).zip t.flatten, (∀ (j : Nat) (q : Rat), x.1[j]? = some q → ∃ i : Int, q = (i : Rat) ∧ i.natAbs ≤ 8 ^ j) ∧ D6 1000000 x.2 := fun x hx => by
  have hz := zip_len hx
  have hB := base_facts hH
  refine ⟨fun j q hq => ?_, ?_⟩
  · unfold colsR at hz
    obtain ⟨k, _, e⟩ := List.mem_map.mp hz.1
    rw [← e, List.getElem?_map] at hq
    obtain ⟨w, hw, rfl⟩ := Option.map_eq_some_iff.mp hq
    refine ⟨_, rfl, Nat.le_trans (entry_le hH (hB.wd w (List.mem_of_getElem? hw)) k) (Nat.pow_le_pow_right (by decide) (hB.at_ j w hw))⟩
  · obtain ⟨r, hr, hxr⟩ := List.mem_flatten.mp hz.2
    exact hd r hr _ hxr
theorem lcm_six {c : List Rat} {g : Rat} (hc : ∀ q ∈ c, q.den = 1) (hg : g.den ∣ 6) : lcmD (c ++ [g]) ∣ 6 := lcmD_6 fun r hr => by
  rcases List.mem_append.mp hr with h | h
  · rw [hc r h]; exact Nat.one_dvd _
  · rw [List.mem_singleton.mp h]; exact hg
theorem rows_w (hH : HouseOk n ls) (ht : Sq n t) (hd : AllD6 1000000 t) : ∀ r ∈ solveRows (colsR ls) t.flatten, WLt (baseW ls).length 0 r := fun r hr => by
  obtain ⟨z, hz, rfl⟩ := List.mem_map.mp hr
  obtain ⟨x, hx, rfl⟩ := List.mem_map.mp hz
  obtain ⟨h1, h2⟩ := zip_all hH hd x hx
  have hxl := (cols_len hH).2 _ (zip_len hx).1
  have h6 : lcmD (x.1 ++ [x.2]) ∣ 6 := lcm_six (fun q hq => by
    obtain ⟨j, hj⟩ := List.getElem?_of_mem hq
    obtain ⟨i, e, _⟩ := h1 j q hj
    rw [e]; exact ic_den i) h2.den.1
  have hL := dvd6_le h6
  intro j v hv
  unfold wholesR at hv
  generalize lcmD (x.1 ++ [x.2]) = M at hv hL h6
  rw [List.getElem?_map] at hv
  obtain ⟨q, hq, rfl⟩ := Option.map_eq_some_iff.mp hv
  rcases Nat.lt_or_ge j (baseW ls).length with hj | hj
  · rw [List.getElem?_append_left (by omega)] at hq
    obtain ⟨i, rfl, hi⟩ := h1 j q hq
    rw [ic_num, ic_den]
    have e : (i * ((M : Int) / ((1 : Nat) : Int))).natAbs = i.natAbs * M := by rw [Int.natAbs_mul]; simp
    rw [e]
    unfold aW
    rw [if_pos hj]
    have h8 : 8 ^ j * 8 = 2 ^ (3 * j + 3 + 0) := by rw [show (8 : Nat) = 2 ^ 3 by decide, ← Nat.pow_mul, ← Nat.pow_add]
    rw [← h8]
    have h3 : i.natAbs * M ≤ 8 ^ j * 6 := Nat.mul_le_mul hi hL.2
    have := Nat.pow_pos (n := j) (show 0 < 8 by decide)
    omega
  · have hjl : j = (baseW ls).length := by
      have := (List.getElem?_eq_some_iff.mp hq).1
      rw [List.length_append, hxl] at this
      simp at this
      omega
    rw [List.getElem?_append_right (by omega), hxl, hjl] at hq
    simp at hq
    subst hq
    have hb : (x.2.num * ((M : Int) / (x.2.den : Int))).natAbs ≤ 6000000 := by
      rw [Int.natAbs_mul]
      have a1 := h2.den.2
      have a2 : ((M : Int) / (x.2.den : Int)).natAbs ≤ 6 := Nat.le_trans (ediv_natAbs_le _ _) (by simpa using hL.2)
      exact Nat.le_trans (Nat.mul_le_mul a1 a2) (by decide)
    rw [hjl]
    unfold aW
    rw [if_neg (by omega)]
    exact Nat.lt_of_le_of_lt hb (by decide)
theorem solve_ok (hH : HouseOk n ls) (ht : Sq n t) (hd : AllD6 1000000 t) : OkSolve (colsR ls) t.flatten := by
  have hc := cols_len hH
  have hf : t.flatten.length = n * n := Sq.flat ht.2 ht.1
  have hnn := Nat.mul_le_mul hH.2.2.2.1 hH.2.2.2.1
  have hpos := Nat.mul_pos hH.2.2.1 hH.2.2.1
  refine ok_solve (base_wide hH) hc.2 (by rw [hc.1, hf]) (by omega) (by omega) (base9 hH) (fun x hx q hq => ?_) (rows_w hH ht hd)
  obtain ⟨h1, h2⟩ := zip_all hH hd x hx
  rcases List.mem_append.mp hq with h | h
  · obtain ⟨j, hj⟩ := List.getElem?_of_mem h
    obtain ⟨i, rfl, hi⟩ := h1 j q hj
    have hjl : j < (baseW ls).length := by rw [← hc.2 _ (zip_len hx).1]; exact (List.getElem?_eq_some_iff.mp hj).1
    have h9 := base9 hH
    rw [ic_den, ic_num]
    exact ⟨Nat.one_dvd _, Nat.lt_of_le_of_lt hi (eight_lt (by omega))⟩
  · rw [List.mem_singleton.mp h]
    exact ⟨h2.den.1, Big.of_lt (n := 20) (Nat.lt_of_le_of_lt h2.den.2 (by decide)) (by decide)⟩
theorem mul_comm_sum (xs : List Nat) (a b : Nat → Rat) : (xs.map fun j => a j * b j).sum = (xs.map fun j => b j * a j).sum := by
  congr 1
  exact List.map_congr_left fun j _ => by grind
theorem sgn_zero {q : Rat} : sgn q = 0 ↔ q.num = 0 := by
  unfold sgn
  split <;> split <;> omega
theorem drop_zero (k : Nat) : ∀ (ps : List (List Nat × Rat)), ((ps.filter fun x => !decide (sgn x.2 = 0)).map fun x => x.2 * rowV ls x.1 k).sum = (ps.map fun x => x.2 * rowV ls x.1 k).sum
  | [] => rfl
  | x :: ps => by
    rw [List.filter_cons]
    have ih := drop_zero k ps
    by_cases h : sgn x.2 = 0
    · have h0 : x.2 = 0 := Rat.num_eq_zero.mp (sgn_zero.mp h)
      rw [if_neg (by simp [h]), ih, List.map_cons, List.sum_cons, h0]
      grind
    · rw [if_pos (by simp [h]), List.map_cons, List.sum_cons, ih, List.map_cons, List.sum_cons]
theorem told_of (hH : HouseOk n ls) (ht : Sq n t) (hd : AllD6 1000000 t) (hs : SW ls (baseW ls) (vq t)) : ∃ mix, OkRight ls (lawBase ls).1 t n mix := by
  have hB := base_facts hH
  have hc := cols_len hH
  have hf : t.flatten.length = n * n := Sq.flat ht.2 ht.1
  have hpos := Nat.mul_pos hH.2.2.1 hH.2.2.1
  have hl : (colsR ls).length = t.flatten.length := by rw [hc.1, hf]
  have h0 : 0 < (colsR ls).length := by omega
  have h9 := base9 hH
  obtain ⟨y, hy⟩ := span_comb hs
  rw [List.length_map] at hy
  obtain ⟨f, hsol⟩ := solve_complete (base_wide hH) hc.2 hl h0 (y := fun j => if j < (baseW ls).length then y j else -1) (if_neg (by omega)) ((eqs_iff hH ht _).mpr fun k hk => by
    rw [hy k]
    congr 1
    refine List.map_congr_left fun j hj => ?_
    rw [if_pos (List.mem_range.mp hj)])
  obtain ⟨_, _, hfl, heq⟩ := solve_sound (base_wide hH) hc.2 hl h0 hsol
  have hbg := sol_small (base_wide hH) hc.2 hl h0 h9 (rows_w hH ht hd) hsol
  have hmix : mixR ls t = some (((baseW ls).zip f).filter fun x => !decide (sgn x.2 = 0)) := by unfold mixR; rw [hsol]; rfl
  have hmem : ∀ x ∈ ((baseW ls).zip f).filter fun x => !decide (sgn x.2 = 0), x.1 ∈ baseW ls ∧ x.2 ∈ f := fun x hx => zip_len (List.mem_filter.mp hx).1
  have hwd : ∀ x ∈ ((baseW ls).zip f).filter fun x => !decide (sgn x.2 = 0), Wd ls x.1 := fun x hx => hB.wd _ (hmem x hx).1
  have htv := table_vec hH _ _ rfl hwd
  refine ⟨_, hH, ht, solve_ok hH ht hd, hmix, ⟨?_, fun x hx => ⟨⟨?_, hwd x hx⟩, hbg _ (hmem x hx).2⟩⟩, ?_, ?_, fun x hx => ?_⟩
  · have := List.length_filter_le (fun x : List Nat × Rat => !decide (sgn x.2 = 0)) ((baseW ls).zip f)
    rw [List.length_zip] at this
    omega
  · obtain ⟨j, hj⟩ := List.getElem?_of_mem (hmem x hx).1
    have h1 := hB.at_ j _ hj
    have h2 := (List.getElem?_eq_some_iff.mp hj).1
    omega
  · refine flat_ext htv.1 ht fun k hk => ?_
    rw [htv.2 k hk, drop_zero]
    have h1 := (eqs_iff hH ht _).mp heq k hk
    rw [← h1, zip_range [] 0 rfl hfl, List.map_map]
    congr 1
    refine List.map_congr_left fun j hj => ?_
    have hj := List.mem_range.mp hj
    show f.getD j 0 * rowV ls ((baseW ls).getD j []) k = _
    rw [vs_get hj]
    unfold yOf
    rw [if_pos hj]
    grind
  · rw [← hB.same]
    refine filter_sublist ?_ hB.nodup
    have h1 := (List.filter_sublist (p := fun x : List Nat × Rat => !decide (sgn x.2 = 0)) (l := (baseW ls).zip f)).map (·.1)
    have h2 : ((baseW ls).zip f).map (·.1) = baseW ls := List.map_fst_zip (by omega)
    rw [h2] at h1
    exact h1
  · have := (List.mem_filter.mp hx).2
    intro z
    rw [sgn_zero.mpr z] at this
    simp at this
end
theorem sum_span {ls : List (List (List Int))} {A : List (List Nat)} : ∀ (mix : List (List Nat × Rat)), (∀ x ∈ mix, SW ls A (rowV ls x.1)) → SW ls A fun k => (mix.map fun x => x.2 * rowV ls x.1 k).sum
  | [], _ => SpanL.zero.eq fun k => rfl
  | x :: mix, h => (((h x List.mem_cons_self).smul (k := x.2)).add (sum_span mix fun y hy => h y (List.mem_cons_of_mem _ hy))).eq fun k => by rw [List.map_cons, List.sum_cons]
theorem sum_zeros : ∀ (xs : List Rat), (∀ x ∈ xs, x = 0) → xs.sum = 0
  | [], _ => rfl
  | x :: xs, h => by rw [List.sum_cons, h x List.mem_cons_self, sum_zeros xs fun y hy => h y (List.mem_cons_of_mem _ hy)]; grind
theorem vq_out {n : Nat} {t : List (List Rat)} (h : Sq n t) {k : Nat} (hk : n * n ≤ k) : vq t k = 0 := by
  unfold vq
  rw [List.getD_eq_getElem?_getD, List.getElem?_eq_none (by rw [Sq.flat h.2 h.1]; exact hk)]; rfl
theorem row_out {n : Nat} {ls : List (List (List Int))} (hH : HouseOk n ls) {w : List Nat} (hw : Wd ls w) {k : Nat} (hk : n * n ≤ k) : rowV ls w k = 0 := by
  unfold rowV vec
  rw [List.getD_eq_getElem?_getD, List.getElem?_eq_none (by rw [rowOf_len hH hw]; exact hk)]; rfl
/-- the plain laws hold -/
theorem plain : Plain := by
  have mixOk : ∀ (n : Nat) (ls : List (List (List Int))) (mix : List (List Nat × (Int ⊕ Rat))), HouseOk n ls → mix.length ≤ 15 → (∀ x ∈ mix, x.1.length ≤ 4 ∧ (∀ l ∈ x.1, l < ls.length) ∧ x.2 ∈ nums) → OkMix ls (mix.map toldX) ∧ Sq n (tableM ls (mix.map toldX)) ∧ AllD6 1000000 (tableM ls (mix.map toldX)) := by
    intro n ls mix hH hl hm
    have hw : ∀ x ∈ mix.map toldX, Wd ls x.1 := fun x hx => by
      obtain ⟨z, hz, rfl⟩ := List.mem_map.mp hx
      exact (hm z hz).2.1
    have htv := table_vec hH _ _ rfl hw
    have hent : ∀ k, k < n * n → D6 1000000 (vq (tableM ls (mix.map toldX)) k) := fun k hk => by
      rw [htv.2 k hk]
      refine (D6.sum (A := 49152) fun q hq => ?_).mono ?_
      · obtain ⟨x, hx, rfl⟩ := List.mem_map.mp hq
        obtain ⟨z, hz, rfl⟩ := List.mem_map.mp hx
        have h1 := (nums_d6 _ (hm z hz).2.2).mulI ((rowOf ls z.1).getD k 0)
        refine h1.mono ?_
        have h2 := entry_le hH (hm z hz).2.1 k
        have h3 : (8 : Nat) ^ z.1.length ≤ 8 ^ 4 := Nat.pow_le_pow_right (by decide) (hm z hz).1
        omega
      · rw [List.length_map, List.length_map]
        omega
    refine ⟨⟨by rw [List.length_map]; omega, fun x hx => ?_⟩, htv.1, fun r hr q hq => ?_⟩
    · obtain ⟨z, hz, rfl⟩ := List.mem_map.mp hx
      have h := hm z hz
      exact ⟨⟨by show z.1.length ≤ 16; omega, h.2.1⟩, ((nums_d6 _ h.2.2).small (n := 4) (by decide) (by decide)).mono (by decide)⟩
    · obtain ⟨k, hk⟩ := List.getElem?_of_mem (List.mem_flatten.mpr ⟨r, hr, hq⟩)
      have hkl := (List.getElem?_eq_some_iff.mp hk).1
      rw [Sq.flat htv.1.2 htv.1.1] at hkl
      have := hent k hkl
      unfold vq at this
      rw [List.getD_eq_getElem?_getD, hk] at this
      exact this
  have cast6 : ∀ {D : List (List Int)}, Ent 2 D → AllD6 1000000 (castT D) := fun {D} hE r hr q hq => by
    obtain ⟨r', hr', rfl⟩ := List.mem_map.mp hr
    obtain ⟨i, hi, rfl⟩ := List.mem_map.mp hq
    have := hE r' hr' i hi
    exact (D6.int i).mono (by omega)
  have vqc : ∀ (D : List (List Int)), vq (castT D) = vec D.flatten := fun D => funext (vq_cast D)
  have joinIff : ∀ (n : Nat) (ls : List (List (List Int))) (D : List (List Int)), HouseOk n ls → Sq n D → (joinQ (lawBase ls).2 D.flatten = false ↔ SW ls (baseW ls) (vq (castT D))) := fun n ls D hH hD => by
    have hB := base_facts hH
    rw [join_iff hB.cL.ok (Sq.flat hD.2 hD.1), vqc]
    exact hB.sp _
  refine ⟨fun n ls hH => (base_facts hH).same, mixOk, fun n ls mix hH hm => ?_, fun n ls D hH hD hE => ?_, fun n ls D hH hD hE hj => ?_, fun n ls D hH hD hE hj => ?_, fun n ls one other hH h1 h2 => ?_⟩
  · obtain ⟨ok, sq, d⟩ := mixOk n ls mix hH (by have := hm.1; omega) hm.2
    have hw : ∀ x ∈ mix.map toldX, Wd ls x.1 := fun x hx => (ok.2 x hx).1.2
    have htv := table_vec hH _ _ rfl hw
    have hB := base_facts hH
    refine told_of hH sq d ((sum_span (mix.map toldX) fun x hx => hB.all _ (hw x hx)).eq fun k => ?_)
    rcases Nat.lt_or_ge k (n * n) with hk | hk
    · exact (htv.2 k hk).symm
    · rw [vq_out sq hk]
      refine sum_zeros _ fun q hq => ?_
      obtain ⟨x, hx, rfl⟩ := List.mem_map.mp hq
      rw [row_out hH (hw x hx) hk]; grind
  · have hB := base_facts hH
    have hfl := Sq.flat hD.2 hD.1
    have h9 := hB.cL.le9
    have hL : Lt 2 D.flatten := fun x hx => by
      obtain ⟨r, hr, hxr⟩ := List.mem_flatten.mp hx
      have := hE r hr x hxr
      omega
    refine ⟨⟨n * n, hB.cL.ok, hfl, Nat.mul_pos hH.2.2.1 hH.2.2.1⟩, fun i hi => ?_, hB.cL.row_small, by omega⟩
    refine (left0_lt hB.cL.ok hB.cL.sz hfl hL i hi).mono ?_
    have h2 := Uk_mono (show i ≤ 9 by omega)
    have h3 := Uk9
    omega
  · refine ⟨solve_ok hH (sq_cast hD) (cast6 hE), ?_⟩
    cases hs : solutionR (colsR ls) (castT D).flatten with
    | none => unfold mixR; rw [hs]; rfl
    | some f =>
      exfalso
      have hc := cols_len hH
      have hsq := sq_cast hD
      have hf : (castT D).flatten.length = n * n := Sq.flat hsq.2 hsq.1
      have hpos := Nat.mul_pos hH.2.2.1 hH.2.2.1
      obtain ⟨_, _, hfl, heq⟩ := solve_sound (base_wide hH) hc.2 (by rw [hc.1, hf]) (by omega) hs
      have h1 := comb_span ((baseW ls).map (rowV ls)) (yOf (baseW ls).length f)
      rw [List.length_map] at h1
      have h2 : SW ls (baseW ls) (vq (castT D)) := h1.eq fun k => ?_
      · rw [(joinIff n ls D hH hD).mpr h2] at hj
        cases hj
      · rcases Nat.lt_or_ge k (n * n) with hk | hk
        · exact (eqs_iff hH hsq _).mp heq k hk
        · rw [vq_out hsq hk]
          refine sum_zeros _ fun q hq => ?_
          obtain ⟨j, hj2, rfl⟩ := List.mem_map.mp hq
          have hj2 := List.mem_range.mp hj2
          rw [vs_get hj2, row_out hH ((base_facts hH).wd _ (getD_mem hj2)) hk]; grind
  · exact told_of hH (sq_cast hD) (cast6 hE) ((joinIff n ls D hH hD).mp hj)
  · have w1 : ∀ x ∈ one.map toldX, Wd ls x.1 := fun x hx => by
      obtain ⟨z, hz, rfl⟩ := List.mem_map.mp hx
      exact (h1.2 z hz).2.1
    have w2 : ∀ x ∈ other.map toldX, Wd ls x.1 := fun x hx => by
      obtain ⟨z, hz, rfl⟩ := List.mem_map.mp hx
      exact (h2.2 z hz).2.1
    have w3 : ∀ x ∈ (one ++ one ++ other).map toldX, Wd ls x.1 := fun x hx => by
      rw [List.map_append, List.map_append] at hx
      rcases List.mem_append.mp hx with h | h
      · rcases List.mem_append.mp h with h | h <;> exact w1 x h
      · exact w2 x h
    have v1 := table_vec hH _ _ rfl w1
    have v2 := table_vec hH _ _ rfl w2
    have v3 := table_vec hH _ _ rfl w3
    have z := zip_sq (g := fun y => y.1 + y.1 + y.2) v1.1 v2.1
    refine flat_ext v3.1 z.1 fun k hk => ?_
    rw [v3.2 k hk]
    have e := z.2 k hk
    rw [v1.2 k hk, v2.2 k hk] at e
    refine Eq.trans ?_ e.symm
    rw [List.map_append, List.map_append, List.map_append, List.map_append, List.sum_append, List.sum_append]
end TW

namespace TW
open PySem PySem.Spec L2 TL
def RawT (K : PySem.W.Frag) (x : Str) (st : Stmt) : Prop := ∃ (f : Addr) (fd : FuncData), PySem.W.nsIn K mainGlobals x = some (some (.ref f)) ∧ L2.Fun K x x st f fd
def RawM (K : PySem.W.Frag) (x qual : Str) (st : Stmt) (f : Addr) : Prop := ∃ fd : FuncData, L2.Fun K x qual st f fd
def RawD (K : PySem.W.Frag) (x qual : Str) (st : Stmt) (dvs : List V) (f : Addr) : Prop := ∃ fd : FuncData, FunD K x qual (defArgs st) (defBody st) (defScope st) dvs [] f fd
section
variable {K : PySem.W.Frag} {x qual : Str} {st : Stmt} {f : Addr} {oc : Value} {od an : Option Addr} {osl : Array (Option Value)} {kV doc pm cdv ct : Value}
theorem rawT_mk (a : PySem.W.nsIn K mainGlobals x = some (some (.ref f))) (l : K.lookup f = some ⟨oc, od, .func (PySem.W.fnOf x x (defArgs st) (defBody st) (defScope st) .none kV doc pm an cdv ct), osl⟩) (c : PySem.W.codeIn K cdv x = true) (k : PySem.W.keepIn K (.ref f) = true) : RawT K x st := ⟨f, _, a, fun_mk l c k⟩
theorem rawM_mk (l : K.lookup f = some ⟨oc, od, .func (PySem.W.fnOf x qual (defArgs st) (defBody st) (defScope st) .none kV doc pm an cdv ct), osl⟩) (c : PySem.W.codeIn K cdv qual = true) (k : PySem.W.keepIn K (.ref f) = true) : RawM K x qual st f := ⟨_, fun_mk l c k⟩
theorem rawD_mk {Tt : Addr} {o : Obj} {n : Nat} {i : Int} {tk : Nat} (l : K.lookup f = some ⟨oc, od, .func (PySem.W.fnOf x qual (defArgs st) (defBody st) (defScope st) (.ref Tt) kV doc pm an cdv ct), osl⟩) (c : PySem.W.codeIn K cdv qual = true) (k : PySem.W.keepIn K (.ref f) = true) (lt : K.lookup Tt = some o) (ot : o.data = .seq #[.int i tk] n) : RawD K x qual st [.int i] f :=
  ⟨_, ⟨oc, od, _, kV, doc, pm, an, cdv, ct, osl, rfl, l, c, Or.inr ⟨(by intro z; cases z), Tt, o, [.int i tk], n, rfl, lt, ot, .cons ⟨tk, rfl⟩ .nil⟩, Or.inl rfl⟩, k⟩
theorem RawT.df {mg : Str → Option Value} {h : Heap} {ps : List Str} (R : RawT K x st) (X : K.In h) (G : h.Ns mainGlobals mg) (hb : ∀ (kV doc pm : Value) (an : Option Addr) (cdv ct : Value) (us : List Value), us.length = ps.length → bindArgs (PySem.W.fnOf x x (defArgs st) (defBody st) (defScope st) .none kV doc pm an cdv ct) ⟨us, []⟩ = pure (ps.zip us)) : Df K mg x st ps :=
  let ⟨f, fd, a, F⟩ := R
  ⟨f, fd, F, PySem.W.mg_of X G a, F.binds hb⟩
end
structure RawO (K : PySem.W.Frag) (C : Addr) : Prop where
  cl : Cls K C
  ha : PySem.W.findIn K (.ref C) "__class__" = some (some (.builtin "object.__class__"))
  hn : PySem.W.specialIn K (.builtin "object.__class__") "__get__" = some (some (.builtin "getset_descriptor.__get__"))
  htk : PySem.W.takesIn K (.builtin "object.__class__") = some true
  hm : PySem.W.mroIn K C (.type "object") = some true
  kInt : PySem.W.kitOne K (.type "int") (.ref C) = some false
  kI : PySem.W.kitOne K (.ref C) (.type "int") = some false
  kp : PySem.W.keepIn K (.ref C) = true
theorem kit_in {K : PySem.W.Frag} {C : Addr} {T : String} {b : Bool} (ic : PySem.W.isClsIn K C = true) (tc : PySem.W.typeIn K (.ref C) = some (.type "type")) (s : PySem.W.subIn K (.type T) (.ref C) = some b) : PySem.W.kitOne K (.type T) (.ref C) = some b := by
  unfold PySem.W.kitOne
  rw [if_neg (fun z => by cases beq_iff_eq.mp z)]
  show (if ((PySem.W.clsIn K C).isSome && PySem.W.typeIn K (.ref C) == some (.type "type")) = true then PySem.W.subIn K (.type T) (.ref C) else none) = some b
  rw [if_pos, s]
  rw [Bool.and_eq_true]
  exact ⟨ic, beq_iff_eq.mpr tc⟩
theorem kit_out {K : PySem.W.Frag} {C : Addr} {T : String} {b : Bool} (m : PySem.W.kitMeta T = true) (s : PySem.W.subIn K (.ref C) (.type T) = some b) : PySem.W.kitOne K (.ref C) (.type T) = some b := by
  unfold PySem.W.kitOne
  rw [if_neg (fun z => by cases beq_iff_eq.mp z)]
  show (if PySem.W.kitMeta T = true then PySem.W.subIn K (.ref C) (.type T) else none) = some b
  rw [if_pos m, s]
theorem rawO_mk {K : PySem.W.Frag} {C : Addr} (pg : PySem.W.plainGet K C Str.empty = true) (hd : PySem.W.hasDictIn K C = true) (po : PySem.W.plainOver K C = true) (sa : PySem.W.findIn K (.ref C) "__setattr__" = some (some (.builtin "object.__setattr__")))
    (ha : PySem.W.findIn K (.ref C) "__class__" = some (some (.builtin "object.__class__"))) (hn : PySem.W.specialIn K (.builtin "object.__class__") "__get__" = some (some (.builtin "getset_descriptor.__get__"))) (htk : PySem.W.takesIn K (.builtin "object.__class__") = some true) (hm : PySem.W.mroIn K C (.type "object") = some true)
    (ic : PySem.W.isClsIn K C = true) (tc : PySem.W.typeIn K (.ref C) = some (.type "type")) (sI : PySem.W.subIn K (.type "int") (.ref C) = some false) (sO : PySem.W.subIn K (.ref C) (.type "int") = some false) (kp : PySem.W.keepIn K (.ref C) = true) : RawO K C := ⟨⟨pg, hd, po, sa⟩, ha, hn, htk, hm, kit_in ic tc sI, kit_out (by decide +kernel) sO, kp⟩
theorem RawO.own {K : PySem.W.Frag} {mg : Str → Option Value} {x : Str} {C : Addr} (R : RawO K C) (m : mg x = some (.ref C)) : OwnC K mg x C := ⟨m, R.cl, R.ha, R.hn, R.htk, R.hm, R.kInt, R.kI, R.kp⟩
theorem bind_one {K : PySem.W.Frag} {f : Addr} {fd : FuncData} (FD : FunD K "__init__" "Ratio.__init__" (defArgs sInit) (defBody sInit) (defScope sInit) [.int 1] [] f fd) : ∃ ds, Vals [.int 1] ds ∧ Binds K fd ["self", "top", "bottom"] ds :=
  FD.binds1 (ps := ["self", "top", "bottom"]) 2 0 (by intro z; cases z) rfl fun Tt kV doc pm an cdv ct us its hl hi => match us, its, hl, hi with | [_, _], [_], _, _ => ⟨_, rfl, rfl⟩
theorem bind_two {K : PySem.W.Frag} {f : Addr} {fd : FuncData} (FD : FunD K "__init__" "Ratio.__init__" (defArgs sInit) (defBody sInit) (defScope sInit) [.int 1] [] f fd) : ∃ ds, Vals [] ds ∧ Binds K fd ["self", "top", "bottom"] ds :=
  FD.binds1 (ps := ["self", "top", "bottom"]) 3 1 (by intro z; cases z) rfl fun Tt kV doc pm an cdv ct us its hl hi => match us, its, hl, hi with | [_, _, _], [_], _, _ => ⟨_, rfl, rfl⟩
theorem raw_bl {K : PySem.W.Frag} {f : Addr} {fd : FuncData} (F : L2.Fun K "law" "law" S_law f fd) (s : Shared) (v : Value) : BindsTo s fd ⟨[v], []⟩ [("_law_script", v)] := by
  obtain ⟨oc, od, kV, doc, pm, an, cdv, ct, osl, rfl, lk, hcd⟩ := F.ex
  exact .of_eq rfl

theorem all_mk {l : PySem.W.OpenLaw} {w : World} {K : PySem.W.Frag} {h : Heap} {mg : Str → Option Value} {fa C CH fi fh a_add ar_add a_mul ar_mul ptop gtop psign gsign a_eq fl : Addr} {resttop restsign : List Value} {o_add or_add o_mul or_mul : Option Value} {t_size t_letters t_word t_mixed : Nat} (X : K.In h) (G : h.Ns mainGlobals mg) (hfa : mg "law" = some (.ref fa))
    (b_isi : PySem.W.nsIn K mainGlobals "isinstance" = some none)
    (b_int : PySem.W.nsIn K mainGlobals "int" = some none)
    (b_bool : PySem.W.nsIn K mainGlobals "bool" = some none)
    (b_list : PySem.W.nsIn K mainGlobals "list" = some none)
    (b_tuple : PySem.W.nsIn K mainGlobals "tuple" = some none)
    (b_len : PySem.W.nsIn K mainGlobals "len" = some none)
    (b_range : PySem.W.nsIn K mainGlobals "range" = some none)
    (b_zip : PySem.W.nsIn K mainGlobals "zip" = some none)
    (b_enum : PySem.W.nsIn K mainGlobals "enumerate" = some none)
    (b_sum : PySem.W.nsIn K mainGlobals "sum" = some none)
    (b_all : PySem.W.nsIn K mainGlobals "all" = some none)
    (b_any : PySem.W.nsIn K mainGlobals "any" = some none)
    (b_abs : PySem.W.nsIn K mainGlobals "abs" = some none)
    (b_max : PySem.W.nsIn K mainGlobals "max" = some none)
    (b_divmod : PySem.W.nsIn K mainGlobals "divmod" = some none)
    (b_gcd : PySem.W.nsIn K mainGlobals "gcd" = some (some (.builtin "math.gcd")))
    (b_lcm : PySem.W.nsIn K mainGlobals "lcm" = some (some (.builtin "math.lcm")))
    (c_size : PySem.W.nsIn K mainGlobals "MOST_SIZE" = some (some (.int 4 t_size)))
    (c_letters : PySem.W.nsIn K mainGlobals "MOST_LETTERS" = some (some (.int 3 t_letters)))
    (c_word : PySem.W.nsIn K mainGlobals "MOST_WORD" = some (some (.int 16 t_word)))
    (c_mixed : PySem.W.nsIn K mainGlobals "MOST_MIXED" = some (some (.int 40 t_mixed)))
    (aC : PySem.W.nsIn K mainGlobals "Ratio" = some (some (.ref C)))
    (aH : PySem.W.nsIn K mainGlobals "House" = some (some (.ref CH)))
    (oC : RawO K C)
    (oH : RawO K CH)
    (nT : PySem.W.findIn K (.ref C) "own_top" = some none)
    (nB : PySem.W.findIn K (.ref C) "own_bottom" = some none)
    (nL : PySem.W.findIn K (.ref CH) "own_letters" = some none)
    (nW : PySem.W.findIn K (.ref CH) "own_width" = some none)
    (mC : PySem.W.makesIn K C = true)
    (mH : PySem.W.makesIn K CH = true)
    (iC : PySem.W.findIn K (.ref C) "__init__" = some (some (.ref fi)))
    (jC : PySem.W.isFn K (.ref fi) = true)
    (dC : RawD K "__init__" "Ratio.__init__" sInit [.int 1] fi)
    (iH : PySem.W.findIn K (.ref CH) "__init__" = some (some (.ref fh)))
    (jH : PySem.W.isFn K (.ref fh) = true)
    (dH : RawM K "__init__" "House.__init__" S_House___init fh)
    (sf : PySem.W.selfFirst K C = true)
    (sb : PySem.W.subIn K (.type "int") (.ref C) = some false)
    (f_add : PySem.W.findIn K (.ref C) "__add__" = some (some (.ref a_add)))
    (i_add : PySem.W.isFn K (.ref a_add) = true)
    (d_add : RawM K "__add__" "Ratio.__add__" S_Ratio___add a_add)
    (r_add : PySem.W.findIn K (.ref C) "__radd__" = some (some (.ref ar_add)))
    (t_add : PySem.W.findIn K (.type "int") "__add__" = some o_add)
    (u_add : PySem.W.findIn K (.type "int") "__radd__" = some or_add)
    (f_mul : PySem.W.findIn K (.ref C) "__mul__" = some (some (.ref a_mul)))
    (i_mul : PySem.W.isFn K (.ref a_mul) = true)
    (d_mul : RawM K "__mul__" "Ratio.__mul__" S_Ratio___mul a_mul)
    (r_mul : PySem.W.findIn K (.ref C) "__rmul__" = some (some (.ref ar_mul)))
    (t_mul : PySem.W.findIn K (.type "int") "__mul__" = some o_mul)
    (u_mul : PySem.W.findIn K (.type "int") "__rmul__" = some or_mul)
    (p_top : PySem.W.findIn K (.ref C) "top" = some (some (.ref ptop)))
    (pg_top : PySem.W.specialIn K (.ref ptop) "__get__" = some (some (.builtin "property.__get__")))
    (pt_top : PySem.W.takesIn K (.ref ptop) = some true)
    (pr_top : PySem.W.recIn K ptop "property" = some (.ref gtop :: resttop))
    (pd_top : RawM K "top" "Ratio.top" S_Ratio_top gtop)
    (p_sign : PySem.W.findIn K (.ref C) "sign" = some (some (.ref psign)))
    (pg_sign : PySem.W.specialIn K (.ref psign) "__get__" = some (some (.builtin "property.__get__")))
    (pt_sign : PySem.W.takesIn K (.ref psign) = some true)
    (pr_sign : PySem.W.recIn K psign "property" = some (.ref gsign :: restsign))
    (pd_sign : RawM K "sign" "Ratio.sign" S_Ratio_sign gsign)
    (f_eq : PySem.W.findIn K (.ref C) "__eq__" = some (some (.ref a_eq)))
    (i_eq : PySem.W.isFn K (.ref a_eq) = true)
    (d_eq : RawM K "__eq__" "Ratio.__eq__" S_Ratio___eq a_eq)
    (d_is_integer : RawT K "is_integer" (tp 12))
    (d_is_count : RawT K "is_count" (tp 13))
    (d_is_list : RawT K "is_list" (tp 14))
    (d_divisor_of : RawT K "divisor_of" (tp 18))
    (d_told_pair : RawT K "told_pair" (tp 20))
    (d_is_number : RawT K "is_number" (tp 21))
    (d_ratio_of : RawT K "ratio_of" (tp 22))
    (d_wholes : RawT K "wholes" (tp 23))
    (d_ints_of : RawT K "ints_of" (tp 25))
    (d_bare_row : RawT K "bare_row" (tp 26))
    (d_cleared : RawT K "cleared" (tp 27))
    (d_first_at : RawT K "first_at" (tp 28))
    (d_headed_row : RawT K "headed_row" (tp 29))
    (d_int_steps : RawT K "int_steps" (tp 30))
    (d_head_of : RawT K "head_of" (tp 31))
    (d_told_rows : RawT K "told_rows" (tp 32))
    (d_steps_of : RawT K "steps_of" (tp 33))
    (d_solution_of : RawT K "solution_of" (tp 34))
    (d_are_numbers : RawT K "are_numbers" (tp 35))
    (d_table_in : RawT K "table_in" (tp 38))
    (d_want_sized : RawT K "want_sized" (tp 39))
    (d_bare_table : RawT K "bare_table" (tp 40))
    (d_int_product : RawT K "int_product" (tp 41))
    (d_over_bottom : RawT K "over_bottom" (tp 42))
    (d_idle_of : RawT K "idle_of" (tp 43))
    (d_product_of : RawT K "product_of" (tp 44))
    (d_mixed_of : RawT K "mixed_of" (tp 45))
    (d_scaled_of : RawT K "scaled_of" (tp 46))
    (d_long_of : RawT K "long_of" (tp 47))
    (d_letters_in : RawT K "letters_in" (tp 51))
    (d_want_house : RawT K "want_house" (tp 53))
    (d_word_in : RawT K "word_in" (tp 54))
    (d_word_table : RawT K "word_table" (tp 56))
    (d_left_of : RawT K "left_of" (tp 59))
    (d_long_with : RawT K "long_with" (tp 60))
    (d_base_with : RawT K "base_with" (tp 61))
    (d_base_of : RawT K "base_of" (tp 62))
    (d_base_words : RawT K "base_words" (tp 68))
    (d_mixture_by : RawT K "mixture_by" (tp 63))
    (d_part_in : RawT K "part_in" (tp 64))
    (d_told_mixture : RawT K "told_mixture" (tp 65))
    (d_want_mixture : RawT K "want_mixture" (tp 66))
    (d_table_of_mixture : RawT K "table_of_mixture" (tp 67))
    (d_law_pot : RawT K "_law_pot" (tp 73))
    (d_law_draw : RawT K "_law_draw" (tp 74))
    (d_law_pick : RawT K "_law_pick" (tp 75))
    (d_law_times : RawT K "_law_times" (tp 76))
    (d_law_idle : RawT K "_law_idle" (tp 77))
    (d_law_word_table : RawT K "_law_word_table" (tp 78))
    (d_law_told : RawT K "_law_told" (tp 79))
    (d_law_letters : RawT K "_law_letters" (tp 80))
    (d_law_divisor : RawT K "_law_divisor" (tp 81))
    (d_law_left : RawT K "_law_left" (tp 82))
    (d_law_joins : RawT K "_law_joins" (tp 83))
    (d_law_long : RawT K "_law_long" (tp 84))
    (d_law_base : RawT K "_law_base" (tp 85))
    (d_law_mixture : RawT K "_law_mixture" (tp 86))
    (d_law_mixed : RawT K "_law_mixed" (tp 87))
    (d_law_told_right : RawT K "_law_told_right" (tp 88))
    (d_mixture_of : RawT K "mixture_of" (tp 69))
    (d_is_mixture_of : RawT K "is_mixture_of" (tp 70))
    (d_table_by : RawT K "table_by" (tp 71))
    (d_law_right : RawT K "_law_right" (tp 89))
    (aL : PySem.W.nsIn K mainGlobals "law" = some (some (.ref fl)))
    (dL : RawM K "law" "law" S_law fl) :
    ∃ fd : FuncData, (∀ (s : Shared) (v : Value), BindsTo s fd ⟨[v], []⟩ [("_law_script", v)]) ∧ ∀ base : Heap, K.In base → base.Ns mainGlobals mg → FnOk l.prog w K mg base CX0 12 fa fd ["_law_script"] (spLaw K) := by
  have e_is_integer : Df K mg "is_integer" (tp 12) ["value"] := d_is_integer.df X G (fun _ _ _ _ _ _ us hl => match us, hl with | [_], _ => rfl)
  have e_is_count : Df K mg "is_count" (tp 13) ["value"] := d_is_count.df X G (fun _ _ _ _ _ _ us hl => match us, hl with | [_], _ => rfl)
  have e_is_list : Df K mg "is_list" (tp 14) ["value"] := d_is_list.df X G (fun _ _ _ _ _ _ us hl => match us, hl with | [_], _ => rfl)
  have e_divisor_of : Df K mg "divisor_of" (tp 18) ["one", "other"] := d_divisor_of.df X G (fun _ _ _ _ _ _ us hl => match us, hl with | [_, _], _ => rfl)
  have e_told_pair : Df K mg "told_pair" (tp 20) ["value"] := d_told_pair.df X G (fun _ _ _ _ _ _ us hl => match us, hl with | [_], _ => rfl)
  have e_is_number : Df K mg "is_number" (tp 21) ["value"] := d_is_number.df X G (fun _ _ _ _ _ _ us hl => match us, hl with | [_], _ => rfl)
  have e_ratio_of : Df K mg "ratio_of" (tp 22) ["number"] := d_ratio_of.df X G (fun _ _ _ _ _ _ us hl => match us, hl with | [_], _ => rfl)
  have e_wholes : Df K mg "wholes" (tp 23) ["ratios"] := d_wholes.df X G (fun _ _ _ _ _ _ us hl => match us, hl with | [_], _ => rfl)
  have e_ints_of : Df K mg "ints_of" (tp 25) ["rows"] := d_ints_of.df X G (fun _ _ _ _ _ _ us hl => match us, hl with | [_], _ => rfl)
  have e_bare_row : Df K mg "bare_row" (tp 26) ["row"] := d_bare_row.df X G (fun _ _ _ _ _ _ us hl => match us, hl with | [_], _ => rfl)
  have e_cleared : Df K mg "cleared" (tp 27) ["row", "head", "place"] := d_cleared.df X G (fun _ _ _ _ _ _ us hl => match us, hl with | [_, _, _], _ => rfl)
  have e_first_at : Df K mg "first_at" (tp 28) ["rows", "place"] := d_first_at.df X G (fun _ _ _ _ _ _ us hl => match us, hl with | [_, _], _ => rfl)
  have e_headed_row : Df K mg "headed_row" (tp 29) ["row", "place"] := d_headed_row.df X G (fun _ _ _ _ _ _ us hl => match us, hl with | [_, _], _ => rfl)
  have e_int_steps : Df K mg "int_steps" (tp 30) ["rows"] := d_int_steps.df X G (fun _ _ _ _ _ _ us hl => match us, hl with | [_], _ => rfl)
  have e_head_of : Df K mg "head_of" (tp 31) ["row"] := d_head_of.df X G (fun _ _ _ _ _ _ us hl => match us, hl with | [_], _ => rfl)
  have e_told_rows : Df K mg "told_rows" (tp 32) ["steps_now"] := d_told_rows.df X G (fun _ _ _ _ _ _ us hl => match us, hl with | [_], _ => rfl)
  have e_steps_of : Df K mg "steps_of" (tp 33) ["rows"] := d_steps_of.df X G (fun _ _ _ _ _ _ us hl => match us, hl with | [_], _ => rfl)
  have e_solution_of : Df K mg "solution_of" (tp 34) ["rows", "goals"] := d_solution_of.df X G (fun _ _ _ _ _ _ us hl => match us, hl with | [_, _], _ => rfl)
  have e_are_numbers : Df K mg "are_numbers" (tp 35) ["value", "wide"] := d_are_numbers.df X G (fun _ _ _ _ _ _ us hl => match us, hl with | [_, _], _ => rfl)
  have e_table_in : Df K mg "table_in" (tp 38) ["value"] := d_table_in.df X G (fun _ _ _ _ _ _ us hl => match us, hl with | [_], _ => rfl)
  have e_want_sized : Df K mg "want_sized" (tp 39) ["value", "size"] := d_want_sized.df X G (fun _ _ _ _ _ _ us hl => match us, hl with | [_, _], _ => rfl)
  have e_bare_table : Df K mg "bare_table" (tp 40) ["table"] := d_bare_table.df X G (fun _ _ _ _ _ _ us hl => match us, hl with | [_], _ => rfl)
  have e_int_product : Df K mg "int_product" (tp 41) ["rows", "others"] := d_int_product.df X G (fun _ _ _ _ _ _ us hl => match us, hl with | [_, _], _ => rfl)
  have e_over_bottom : Df K mg "over_bottom" (tp 42) ["rows", "bottom"] := d_over_bottom.df X G (fun _ _ _ _ _ _ us hl => match us, hl with | [_, _], _ => rfl)
  have e_idle_of : Df K mg "idle_of" (tp 43) ["size"] := d_idle_of.df X G (fun _ _ _ _ _ _ us hl => match us, hl with | [_], _ => rfl)
  have e_product_of : Df K mg "product_of" (tp 44) ["table", "other"] := d_product_of.df X G (fun _ _ _ _ _ _ us hl => match us, hl with | [_, _], _ => rfl)
  have e_mixed_of : Df K mg "mixed_of" (tp 45) ["table", "other", "number"] := d_mixed_of.df X G (fun _ _ _ _ _ _ us hl => match us, hl with | [_, _, _], _ => rfl)
  have e_scaled_of : Df K mg "scaled_of" (tp 46) ["table", "number"] := d_scaled_of.df X G (fun _ _ _ _ _ _ us hl => match us, hl with | [_, _], _ => rfl)
  have e_long_of : Df K mg "long_of" (tp 47) ["table"] := d_long_of.df X G (fun _ _ _ _ _ _ us hl => match us, hl with | [_], _ => rfl)
  have e_letters_in : Df K mg "letters_in" (tp 51) ["value"] := d_letters_in.df X G (fun _ _ _ _ _ _ us hl => match us, hl with | [_], _ => rfl)
  have e_want_house : Df K mg "want_house" (tp 53) ["value"] := d_want_house.df X G (fun _ _ _ _ _ _ us hl => match us, hl with | [_], _ => rfl)
  have e_word_in : Df K mg "word_in" (tp 54) ["house", "value"] := d_word_in.df X G (fun _ _ _ _ _ _ us hl => match us, hl with | [_, _], _ => rfl)
  have e_word_table : Df K mg "word_table" (tp 56) ["house", "word"] := d_word_table.df X G (fun _ _ _ _ _ _ us hl => match us, hl with | [_, _], _ => rfl)
  have e_left_of : Df K mg "left_of" (tp 59) ["steps", "row"] := d_left_of.df X G (fun _ _ _ _ _ _ us hl => match us, hl with | [_, _], _ => rfl)
  have e_long_with : Df K mg "long_with" (tp 60) ["tables"] := d_long_with.df X G (fun _ _ _ _ _ _ us hl => match us, hl with | [_], _ => rfl)
  have e_base_with : Df K mg "base_with" (tp 61) ["houses"] := d_base_with.df X G (fun _ _ _ _ _ _ us hl => match us, hl with | [_], _ => rfl)
  have e_base_of : Df K mg "base_of" (tp 62) ["house"] := d_base_of.df X G (fun _ _ _ _ _ _ us hl => match us, hl with | [_], _ => rfl)
  have e_base_words : Df K mg "base_words" (tp 68) ["house"] := d_base_words.df X G (fun _ _ _ _ _ _ us hl => match us, hl with | [_], _ => rfl)
  have e_mixture_by : Df K mg "mixture_by" (tp 63) ["house", "table"] := d_mixture_by.df X G (fun _ _ _ _ _ _ us hl => match us, hl with | [_, _], _ => rfl)
  have e_part_in : Df K mg "part_in" (tp 64) ["house", "value"] := d_part_in.df X G (fun _ _ _ _ _ _ us hl => match us, hl with | [_, _], _ => rfl)
  have e_told_mixture : Df K mg "told_mixture" (tp 65) ["house", "value"] := d_told_mixture.df X G (fun _ _ _ _ _ _ us hl => match us, hl with | [_, _], _ => rfl)
  have e_want_mixture : Df K mg "want_mixture" (tp 66) ["house", "value"] := d_want_mixture.df X G (fun _ _ _ _ _ _ us hl => match us, hl with | [_, _], _ => rfl)
  have e_table_of_mixture : Df K mg "table_of_mixture" (tp 67) ["house", "mixture"] := d_table_of_mixture.df X G (fun _ _ _ _ _ _ us hl => match us, hl with | [_, _], _ => rfl)
  have e_law_pot : Df K mg "_law_pot" (tp 73) ["_law_script", "_law_k"] := d_law_pot.df X G (fun _ _ _ _ _ _ us hl => match us, hl with | [_, _], _ => rfl)
  have e_law_draw : Df K mg "_law_draw" (tp 74) ["_law_pot_here", "_law_many"] := d_law_draw.df X G (fun _ _ _ _ _ _ us hl => match us, hl with | [_, _], _ => rfl)
  have e_law_pick : Df K mg "_law_pick" (tp 75) ["_law_pot_here", "_law_some"] := d_law_pick.df X G (fun _ _ _ _ _ _ us hl => match us, hl with | [_, _], _ => rfl)
  have e_law_times : Df K mg "_law_times" (tp 76) ["_law_one", "_law_other"] := d_law_times.df X G (fun _ _ _ _ _ _ us hl => match us, hl with | [_, _], _ => rfl)
  have e_law_idle : Df K mg "_law_idle" (tp 77) ["_law_size"] := d_law_idle.df X G (fun _ _ _ _ _ _ us hl => match us, hl with | [_], _ => rfl)
  have e_law_word_table : Df K mg "_law_word_table" (tp 78) ["_law_letters_here", "_law_word"] := d_law_word_table.df X G (fun _ _ _ _ _ _ us hl => match us, hl with | [_, _], _ => rfl)
  have e_law_told : Df K mg "_law_told" (tp 79) ["_law_table"] := d_law_told.df X G (fun _ _ _ _ _ _ us hl => match us, hl with | [_], _ => rfl)
  have e_law_letters : Df K mg "_law_letters" (tp 80) ["_law_pot_here", "_law_size", "_law_most"] := d_law_letters.df X G (fun _ _ _ _ _ _ us hl => match us, hl with | [_, _, _], _ => rfl)
  have e_law_divisor : Df K mg "_law_divisor" (tp 81) ["_law_one", "_law_other"] := d_law_divisor.df X G (fun _ _ _ _ _ _ us hl => match us, hl with | [_, _], _ => rfl)
  have e_law_left : Df K mg "_law_left" (tp 82) ["_law_rows", "_law_row"] := d_law_left.df X G (fun _ _ _ _ _ _ us hl => match us, hl with | [_, _], _ => rfl)
  have e_law_joins : Df K mg "_law_joins" (tp 83) ["_law_rows", "_law_row"] := d_law_joins.df X G (fun _ _ _ _ _ _ us hl => match us, hl with | [_, _], _ => rfl)
  have e_law_long : Df K mg "_law_long" (tp 84) ["_law_table"] := d_law_long.df X G (fun _ _ _ _ _ _ us hl => match us, hl with | [_], _ => rfl)
  have e_law_base : Df K mg "_law_base" (tp 85) ["_law_letters_here"] := d_law_base.df X G (fun _ _ _ _ _ _ us hl => match us, hl with | [_], _ => rfl)
  have e_law_mixture : Df K mg "_law_mixture" (tp 86) ["_law_pot_here", "_law_many"] := d_law_mixture.df X G (fun _ _ _ _ _ _ us hl => match us, hl with | [_, _], _ => rfl)
  have e_law_mixed : Df K mg "_law_mixed" (tp 87) ["_law_letters_here", "_law_mixture_here"] := d_law_mixed.df X G (fun _ _ _ _ _ _ us hl => match us, hl with | [_, _], _ => rfl)
  have e_law_told_right : Df K mg "_law_told_right" (tp 88) ["_law_letters_here", "_law_house", "_law_base_here", "_law_table"] := d_law_told_right.df X G (fun _ _ _ _ _ _ us hl => match us, hl with | [_, _, _, _], _ => rfl)
  have e_mixture_of : Df K mg "mixture_of" (tp 69) ["house", "table"] := d_mixture_of.df X G (fun _ _ _ _ _ _ us hl => match us, hl with | [_, _], _ => rfl)
  have e_is_mixture_of : Df K mg "is_mixture_of" (tp 70) ["house", "table", "value"] := d_is_mixture_of.df X G (fun _ _ _ _ _ _ us hl => match us, hl with | [_, _, _], _ => rfl)
  have e_table_by : Df K mg "table_by" (tp 71) ["house", "mixture"] := d_table_by.df X G (fun _ _ _ _ _ _ us hl => match us, hl with | [_, _], _ => rfl)
  have e_law_right : Df K mg "_law_right" (tp 89) ["_law_pot_here"] := d_law_right.df X G (fun _ _ _ _ _ _ us hl => match us, hl with | [_], _ => rfl)
  have hfl := hfa.symm.trans (PySem.W.mg_of X G aL)
  cases hfl
  have B : Blt mg := ⟨PySem.W.mg_none_of X G b_isi, PySem.W.mg_none_of X G b_int, PySem.W.mg_none_of X G b_bool, PySem.W.mg_none_of X G b_list, PySem.W.mg_none_of X G b_tuple, PySem.W.mg_none_of X G b_len, PySem.W.mg_none_of X G b_range, PySem.W.mg_none_of X G b_zip, PySem.W.mg_none_of X G b_enum, PySem.W.mg_none_of X G b_sum, PySem.W.mg_none_of X G b_all, PySem.W.mg_none_of X G b_any, PySem.W.mg_none_of X G b_abs, PySem.W.mg_none_of X G b_max, PySem.W.mg_none_of X G b_divmod, PySem.W.mg_of X G b_gcd, PySem.W.mg_of X G b_lcm⟩
  have Cn : Consts mg := ⟨⟨_, PySem.W.mg_of X G c_size⟩, ⟨_, PySem.W.mg_of X G c_letters⟩, ⟨_, PySem.W.mg_of X G c_word⟩, ⟨_, PySem.W.mg_of X G c_mixed⟩⟩
  have RC : RatC K mg C := ⟨oC.own (PySem.W.mg_of X G aC), nT, nB⟩
  have HC : HouC K mg CH := ⟨oH.own (PySem.W.mg_of X G aH), nL, nW⟩
  have mkC : Mk K C fi := ⟨mC, iC, jC, oC.kp⟩
  have mkH : Mk K CH fh := ⟨mH, iH, jH, oH.kp⟩
  obtain ⟨fdL, FL⟩ := dL
  refine ⟨fdL, fun s v => raw_bl FL s v, fun base _ _ => ?_⟩
  have g_is_integer := ok_is_integer (Pg := l.prog) (w := w) (base := base) B RC.O e_is_integer
  have g_is_count := ok_is_count (Pg := l.prog) (w := w) (base := base) g_is_integer e_is_count
  have g_is_list := ok_is_list (Pg := l.prog) (w := w) (base := base) B e_is_list
  have g_divisor_of := ok_divisor_of (Pg := l.prog) (w := w) (base := base) B e_divisor_of
  have RF : RatF l.prog w K mg base C := by
    obtain ⟨fd, FD⟩ := dC
    exact ⟨RC, fi, fd, mkC, ok_init RC FD g_is_integer g_divisor_of, bind_two FD, bind_one FD⟩
  have g_told_pair := ok_told_pair (Pg := l.prog) (w := w) (base := base) B RC g_is_integer e_told_pair
  obtain ⟨fdA, FA⟩ := d_add
  obtain ⟨fdM, FM⟩ := d_mul
  obtain ⟨fdT, FT⟩ := pd_top
  obtain ⟨fdS, FS⟩ := pd_sign
  obtain ⟨fdE, FE⟩ := d_eq
  have RA : RatAll l.prog w K mg base C := by
    refine ⟨RF, ⟨sf, a_add, fdA, ["self", "other"], o_add, or_add, some (.ref ar_add), f_add, i_add, ok_add RF g_told_pair FA, FA.binds (ps := ["self", "other"]) (fun _ _ _ _ _ _ us hl => match us, hl with | [_, _], _ => rfl), r_add, Or.inr ⟨ar_add, rfl⟩, t_add, u_add, sb⟩, ⟨sf, a_mul, fdM, ["self", "other"], o_mul, or_mul, some (.ref ar_mul), f_mul, i_mul, ok_mul RF g_told_pair FM, FM.binds (ps := ["self", "other"]) (fun _ _ _ _ _ _ us hl => match us, hl with | [_, _], _ => rfl), r_mul, Or.inr ⟨ar_mul, rfl⟩, t_mul, u_mul, sb⟩, ?_, ?_, ?_⟩
    · exact ⟨ptop, gtop, fdT, ⟨p_top, pg_top, pt_top, _, pr_top⟩, ok_top RC FT, FT.binds (ps := ["self"]) (fun _ _ _ _ _ _ us hl => match us, hl with | [_], _ => rfl)⟩
    · exact ⟨psign, gsign, fdS, ⟨p_sign, pg_sign, pt_sign, _, pr_sign⟩, ok_sign B RC FS, FS.binds (ps := ["self"]) (fun _ _ _ _ _ _ us hl => match us, hl with | [_], _ => rfl)⟩
    · exact ⟨a_eq, fdE, ok_eq B RC FE, f_eq, i_eq, FE.binds (ps := ["self", "other"]) (fun _ _ _ _ _ _ us hl => match us, hl with | [_, _], _ => rfl)⟩
  have g_is_number := ok_is_number (Pg := l.prog) (w := w) (base := base) B RC g_is_integer e_is_number
  have g_ratio_of := ok_ratio_of (Pg := l.prog) (w := w) (base := base) B RF e_ratio_of
  have g_wholes := ok_wholes (Pg := l.prog) (w := w) (base := base) B RC e_wholes
  have g_ints_of := ok_ints_of (Pg := l.prog) (w := w) (base := base) g_wholes e_ints_of
  have g_bare_row := ok_bare_row (Pg := l.prog) (w := w) (base := base) g_divisor_of e_bare_row
  have g_cleared := ok_cleared (Pg := l.prog) (w := w) (base := base) B g_bare_row e_cleared
  have g_first_at := ok_first_at (Pg := l.prog) (w := w) (base := base) B e_first_at
  have g_headed_row := ok_headed_row (Pg := l.prog) (w := w) (base := base) g_bare_row e_headed_row
  have g_int_steps := ok_int_steps (Pg := l.prog) (w := w) (base := base) B g_first_at g_headed_row g_cleared e_int_steps
  have g_head_of := ok_head_of (Pg := l.prog) (w := w) (base := base)  e_head_of
  have g_told_rows := ok_told_rows (Pg := l.prog) (w := w) (base := base) RF g_head_of e_told_rows
  have g_steps_of := ok_steps_of (Pg := l.prog) (w := w) (base := base) g_ints_of g_int_steps g_told_rows e_steps_of
  have g_solution_of := ok_solution_of (Pg := l.prog) (w := w) (base := base) B RA g_steps_of g_head_of e_solution_of
  have g_are_numbers := ok_are_numbers (Pg := l.prog) (w := w) (base := base) B g_is_list g_is_number e_are_numbers
  have g_table_in := ok_table_in (Pg := l.prog) (w := w) (base := base) B Cn g_is_list g_are_numbers g_ratio_of e_table_in
  have g_want_sized := ok_want_sized (Pg := l.prog) (w := w) (base := base) B g_table_in e_want_sized
  have g_bare_table := ok_bare_table (Pg := l.prog) (w := w) (base := base) B g_wholes e_bare_table
  have g_int_product := ok_int_product (Pg := l.prog) (w := w) (base := base) B e_int_product
  have g_over_bottom := ok_over_bottom (Pg := l.prog) (w := w) (base := base) RF e_over_bottom
  have g_idle_of := ok_idle_of (Pg := l.prog) (w := w) (base := base) B RF e_idle_of
  have g_product_of := ok_product_of (Pg := l.prog) (w := w) (base := base) g_bare_table g_int_product g_over_bottom e_product_of
  have g_mixed_of := ok_mixed_of (Pg := l.prog) (w := w) (base := base) B RA e_mixed_of
  have g_scaled_of := ok_scaled_of (Pg := l.prog) (w := w) (base := base) RA e_scaled_of
  have g_long_of := ok_long_of (Pg := l.prog) (w := w) (base := base) (C := C) e_long_of
  have g_letters_in := ok_letters_in (Pg := l.prog) (w := w) (base := base) B Cn g_is_list g_table_in e_letters_in
  obtain ⟨fdH, FH⟩ := dH
  have HF : HouF l.prog w K mg base C CH := ⟨HC, fh, fdH, mkH, ok_hinit B HC g_letters_in FH, FH.binds (ps := ["self", "letters"]) (fun _ _ _ _ _ _ us hl => match us, hl with | [_, _], _ => rfl)⟩
  have g_want_house := ok_want_house (Pg := l.prog) (w := w) (base := base) (C := C) B HC e_want_house
  have g_word_in := ok_word_in (Pg := l.prog) (w := w) (base := base) (C := C) B Cn HC g_is_list g_is_count e_word_in
  have g_word_table := ok_word_table (Pg := l.prog) (w := w) (base := base) HC g_idle_of g_product_of e_word_table
  have g_left_of := ok_left_of (Pg := l.prog) (w := w) (base := base) g_cleared g_head_of e_left_of
  have g_long_with := ok_long_with (Pg := l.prog) (w := w) (base := base) g_long_of g_wholes e_long_with
  have g_base_with := ok_base_with (Pg := l.prog) (w := w) (base := base) B HC g_idle_of g_product_of g_long_with g_left_of g_bare_row e_base_with
  have g_base_of := ok_base_of (Pg := l.prog) (w := w) (base := base) g_base_with e_base_of
  have g_base_words := ok_base_words (Pg := l.prog) (w := w) (base := base) g_base_of g_want_house e_base_words
  have g_mixture_by := ok_mixture_by (Pg := l.prog) (w := w) (base := base) B RA g_base_of g_long_of g_solution_of e_mixture_by
  have g_part_in := ok_part_in (Pg := l.prog) (w := w) (base := base) B g_is_number g_word_in g_ratio_of e_part_in
  have g_told_mixture := ok_told_mixture (Pg := l.prog) (w := w) (base := base) B Cn g_is_list g_part_in e_told_mixture
  have g_want_mixture := ok_want_mixture (Pg := l.prog) (w := w) (base := base) g_told_mixture e_want_mixture
  have g_table_of_mixture := ok_table_of_mixture (Pg := l.prog) (w := w) (base := base) RA HC g_idle_of g_scaled_of g_mixed_of g_word_table e_table_of_mixture
  have g_mixture_of := Df.fn (Pg := l.prog) (w := w) (base := base) e_mixture_of (fun f fd F => ok_mixture_of HC g_want_house g_want_sized g_mixture_by F)
  have k_mixture_of := Df.fnK (Pg := l.prog) (w := w) (base := base) ["table", "house"] e_mixture_of (fun f fd F => ok_mixture_of HC g_want_house g_want_sized g_mixture_by F) (kb_two kb_mixture_of)
  have g_is_mixture_of := Df.fn (Pg := l.prog) (w := w) (base := base) e_is_mixture_of (fun f fd F => ok_is_mixture_of RA HC g_want_house g_want_sized g_told_mixture g_table_of_mixture F)
  have k_is_mixture_of := Df.fnK (Pg := l.prog) (w := w) (base := base) ["value", "table", "house"] e_is_mixture_of (fun f fd F => ok_is_mixture_of RA HC g_want_house g_want_sized g_told_mixture g_table_of_mixture F) (kb_three kb_is_mixture_of)
  have g_table_by := Df.fn (Pg := l.prog) (w := w) (base := base) e_table_by (fun f fd F => ok_table_by g_want_house g_want_mixture g_table_of_mixture F)
  have k_table_by := Df.fnK (Pg := l.prog) (w := w) (base := base) ["mixture", "house"] e_table_by (fun f fd F => ok_table_by g_want_house g_want_mixture g_table_of_mixture F) (kb_two kb_table_by)
  have g_law_pot := ok_lpot (Pg := l.prog) (w := w) (base := base) B e_law_pot
  have g_law_draw := ok_draw (Pg := l.prog) (w := w) (base := base) B e_law_draw
  have g_law_pick := ok_pick (Pg := l.prog) (w := w) (base := base) (C := C) B g_law_draw e_law_pick
  have g_law_times := ok_times (Pg := l.prog) (w := w) (base := base) B e_law_times
  have g_law_idle := ok_lidle (Pg := l.prog) (w := w) (base := base) B e_law_idle
  have g_law_word_table := ok_lword_table (Pg := l.prog) (w := w) (base := base) B g_law_idle g_law_times e_law_word_table
  have g_law_told := ok_ltold (Pg := l.prog) (w := w) (base := base) RA e_law_told
  have g_law_letters := ok_lletters (Pg := l.prog) (w := w) (base := base) B g_law_draw g_law_pick e_law_letters
  have g_law_divisor := ok_ldivisor (Pg := l.prog) (w := w) (base := base) B e_law_divisor
  have g_law_left := ok_lleft (Pg := l.prog) (w := w) (base := base) B g_law_divisor e_law_left
  have g_law_joins := ok_joins (Pg := l.prog) (w := w) (base := base) B g_law_left e_law_joins
  have g_law_long := ok_llong (Pg := l.prog) (w := w) (base := base)  e_law_long
  have g_law_base := ok_lbase (Pg := l.prog) (w := w) (base := base) B g_law_joins g_law_word_table g_law_long e_law_base
  have g_law_mixture := ok_lmixture (Pg := l.prog) (w := w) (base := base) B RF g_law_draw g_law_pick e_law_mixture
  have g_law_mixed := ok_lmixed (Pg := l.prog) (w := w) (base := base) B RA g_law_word_table g_law_told e_law_mixed
  have g_law_told_right := ok_ltold_right (Pg := l.prog) (w := w) (base := base) B RA g_mixture_of g_is_mixture_of g_law_mixed e_law_told_right
  have DS : Defs l.prog w K mg base C CH := ⟨B, RA, HF, g_law_draw, g_law_pick, g_law_letters, g_law_base, g_law_joins, g_law_long, g_law_mixture, g_law_mixed, g_law_told, g_law_told_right, g_base_words, g_table_by, k_table_by, g_mixture_of, k_mixture_of, g_is_mixture_of, k_is_mixture_of⟩
  exact ok_law g_law_pot (ok_lright DS plain e_law_right) FL
end TW

namespace TW
open PySem PySem.Spec L2 TL
theorem walk {l : PySem.W.OpenLaw} {q : Program} {loose : List Str} {XP : (Str → Option Value) → Heap → Prop} {YP : World → Heap → Prop} {d : DefRec} {K : Params → PySem.W.Frag} (hn : l.most = some 63) (hdf : d.params.defaults = [])
    (hY : ∀ (w : World) (h : Heap), YP w h → (K w.params).In h)
    (F : ∀ (w : World) (mg : Str → Option Value) (fa : Addr) (h : Heap), (K w.params).In h → h.Ns mainGlobals mg → mg d.name = some (.ref fa) →
      ∃ fd : FuncData, (∀ (s : Shared) (u : Value), BindsTo s fd ⟨[u], []⟩ [("_law_script", u)]) ∧ ∀ base : Heap, (K w.params).In base → base.Ns mainGlobals mg → FnOk l.prog w (K w.params) mg base CX0 12 fa fd ["_law_script"] (spLaw (K w.params))) :
    PySem.W.WalkO q loose XP YP l.row.toRowW d [] (fun f vs => PySem.call f vs) :=
  L2.walk_of (n := 63) (k := 12) (x := "_law_script") (CX := fun _ => CX0) (sp := fun w => spLaw (K w.params)) hn (by decide) hdf ⟨rfl, by decide, by decide⟩ hY F (fun _ _ a ns hl _ hS => ⟨ns, [], trivial, (fun _ m => nomatch m), ⟨_, _, rfl, ⟨a, rfl, by rw [hd_nil]; exact hS⟩, rfl⟩, fun y v H' py _ ry => by cases (show _ = _ from py); cases (show _ = _ from ry); rfl⟩) fun _ _ _ _ _ z => z
end TW
open PySem PySem.W PyProof.Rows in
set_option maxRecDepth 100000 in
set_option maxHeartbeats 0 in
theorem PySem.Challenge.cw_tracewords_k25_whole_mixtures_told_holds : PySem.Challenge.rw_tracewords_k25_whole_mixtures_told.Holds := by
  w_on; o_law; k_head; (case hw => w_witness2)
  k_fill
  refine TW.walk (l := PySem.Challenge.rw_tracewords_k25_whole_mixtures_told) rfl rfl (fun w h Y => PySem.W.kIn_of Y) ?F
  case F =>
    intro w mg fa h KX G hmg
    refine' TW.all_mk KX G hmg ?b_isi ?b_int ?b_bool ?b_list ?b_tuple ?b_len ?b_range ?b_zip ?b_enum ?b_sum ?b_all ?b_any ?b_abs ?b_max ?b_divmod ?b_gcd ?b_lcm ?c_size ?c_letters ?c_word ?c_mixed ?aC ?aH ?oC ?oH ?nT ?nB ?nL ?nW ?mC ?mH ?iC ?jC ?dC ?iH ?jH ?dH ?sf ?sb ?f_add ?i_add ?d_add ?r_add ?t_add ?u_add ?f_mul ?i_mul ?d_mul ?r_mul ?t_mul ?u_mul ?p_top ?pg_top ?pt_top ?pr_top ?pd_top ?p_sign ?pg_sign ?pt_sign ?pr_sign ?pd_sign ?f_eq ?i_eq ?d_eq ?d_is_integer ?d_is_count ?d_is_list ?d_divisor_of ?d_told_pair ?d_is_number ?d_ratio_of ?d_wholes ?d_ints_of ?d_bare_row ?d_cleared ?d_first_at ?d_headed_row ?d_int_steps ?d_head_of ?d_told_rows ?d_steps_of ?d_solution_of ?d_are_numbers ?d_table_in ?d_want_sized ?d_bare_table ?d_int_product ?d_over_bottom ?d_idle_of ?d_product_of ?d_mixed_of ?d_scaled_of ?d_long_of ?d_letters_in ?d_want_house ?d_word_in ?d_word_table ?d_left_of ?d_long_with ?d_base_with ?d_base_of ?d_base_words ?d_mixture_by ?d_part_in ?d_told_mixture ?d_want_mixture ?d_table_of_mixture ?d_law_pot ?d_law_draw ?d_law_pick ?d_law_times ?d_law_idle ?d_law_word_table ?d_law_told ?d_law_letters ?d_law_divisor ?d_law_left ?d_law_joins ?d_law_long ?d_law_base ?d_law_mixture ?d_law_mixed ?d_law_told_right ?d_mixture_of ?d_is_mixture_of ?d_table_by ?d_law_right ?aL ?dL
    (case b_isi => k_is)
    (case b_int => k_is)
    (case b_bool => k_is)
    (case b_list => k_is)
    (case b_tuple => k_is)
    (case b_len => k_is)
    (case b_range => k_is)
    (case b_zip => k_is)
    (case b_enum => k_is)
    (case b_sum => k_is)
    (case b_all => k_is)
    (case b_any => k_is)
    (case b_abs => k_is)
    (case b_max => k_is)
    (case b_divmod => k_is)
    (case b_gcd => k_is)
    (case b_lcm => k_is)
    (case c_size => k_is)
    (case c_letters => k_is)
    (case c_word => k_is)
    (case c_mixed => k_is)
    (case aC => k_is)
    (case aH => k_is)
    (case oC => refine' TW.rawO_mk ?pg ?hd ?po ?sa ?ha ?hn ?htk ?hm ?ic ?tc ?sI ?sO ?kp; (case pg => k_is); (case hd => k_is); (case po => k_is); (case sa => k_is); (case ha => k_is); (case hn => k_is); (case htk => k_is); (case hm => k_is); (case ic => k_is); (case tc => k_is); (case sI => k_is); (case sO => k_is); (case kp => k_is))
    (case oH => refine' TW.rawO_mk ?pg ?hd ?po ?sa ?ha ?hn ?htk ?hm ?ic ?tc ?sI ?sO ?kp; (case pg => k_is); (case hd => k_is); (case po => k_is); (case sa => k_is); (case ha => k_is); (case hn => k_is); (case htk => k_is); (case hm => k_is); (case ic => k_is); (case tc => k_is); (case sI => k_is); (case sO => k_is); (case kp => k_is))
    (case nT => k_is)
    (case nB => k_is)
    (case nL => k_is)
    (case nW => k_is)
    (case mC => k_is)
    (case mH => k_is)
    (case iC => k_is)
    (case jC => k_is)
    (case dC => refine' TW.rawD_mk ?l ?c ?k ?lt ?ot; (case l => k_is); (case c => k_is); (case k => k_is); (case lt => k_is); (case ot => exact rfl))
    (case iH => k_is)
    (case jH => k_is)
    (case dH => refine' TW.rawM_mk ?l ?c ?k; (case l => k_is); (case c => k_is); (case k => k_is))
    (case sf => k_is)
    (case sb => k_is)
    (case f_add => k_is)
    (case i_add => k_is)
    (case d_add => refine' TW.rawM_mk ?l ?c ?k; (case l => k_is); (case c => k_is); (case k => k_is))
    (case r_add => k_is)
    (case t_add => k_is)
    (case u_add => k_is)
    (case f_mul => k_is)
    (case i_mul => k_is)
    (case d_mul => refine' TW.rawM_mk ?l ?c ?k; (case l => k_is); (case c => k_is); (case k => k_is))
    (case r_mul => k_is)
    (case t_mul => k_is)
    (case u_mul => k_is)
    (case p_top => k_is)
    (case pg_top => k_is)
    (case pt_top => k_is)
    (case pr_top => k_is)
    (case pd_top => refine' TW.rawM_mk ?l ?c ?k; (case l => k_is); (case c => k_is); (case k => k_is))
    (case p_sign => k_is)
    (case pg_sign => k_is)
    (case pt_sign => k_is)
    (case pr_sign => k_is)
    (case pd_sign => refine' TW.rawM_mk ?l ?c ?k; (case l => k_is); (case c => k_is); (case k => k_is))
    (case f_eq => k_is)
    (case i_eq => k_is)
    (case d_eq => refine' TW.rawM_mk ?l ?c ?k; (case l => k_is); (case c => k_is); (case k => k_is))
    (case d_is_integer => refine' TW.rawT_mk ?a ?l ?c ?k; (case a => k_is); (case l => k_is); (case c => k_is); (case k => k_is))
    (case d_is_count => refine' TW.rawT_mk ?a ?l ?c ?k; (case a => k_is); (case l => k_is); (case c => k_is); (case k => k_is))
    (case d_is_list => refine' TW.rawT_mk ?a ?l ?c ?k; (case a => k_is); (case l => k_is); (case c => k_is); (case k => k_is))
    (case d_divisor_of => refine' TW.rawT_mk ?a ?l ?c ?k; (case a => k_is); (case l => k_is); (case c => k_is); (case k => k_is))
    (case d_told_pair => refine' TW.rawT_mk ?a ?l ?c ?k; (case a => k_is); (case l => k_is); (case c => k_is); (case k => k_is))
    (case d_is_number => refine' TW.rawT_mk ?a ?l ?c ?k; (case a => k_is); (case l => k_is); (case c => k_is); (case k => k_is))
    (case d_ratio_of => refine' TW.rawT_mk ?a ?l ?c ?k; (case a => k_is); (case l => k_is); (case c => k_is); (case k => k_is))
    (case d_wholes => refine' TW.rawT_mk ?a ?l ?c ?k; (case a => k_is); (case l => k_is); (case c => k_is); (case k => k_is))
    (case d_ints_of => refine' TW.rawT_mk ?a ?l ?c ?k; (case a => k_is); (case l => k_is); (case c => k_is); (case k => k_is))
    (case d_bare_row => refine' TW.rawT_mk ?a ?l ?c ?k; (case a => k_is); (case l => k_is); (case c => k_is); (case k => k_is))
    (case d_cleared => refine' TW.rawT_mk ?a ?l ?c ?k; (case a => k_is); (case l => k_is); (case c => k_is); (case k => k_is))
    (case d_first_at => refine' TW.rawT_mk ?a ?l ?c ?k; (case a => k_is); (case l => k_is); (case c => k_is); (case k => k_is))
    (case d_headed_row => refine' TW.rawT_mk ?a ?l ?c ?k; (case a => k_is); (case l => k_is); (case c => k_is); (case k => k_is))
    (case d_int_steps => refine' TW.rawT_mk ?a ?l ?c ?k; (case a => k_is); (case l => k_is); (case c => k_is); (case k => k_is))
    (case d_head_of => refine' TW.rawT_mk ?a ?l ?c ?k; (case a => k_is); (case l => k_is); (case c => k_is); (case k => k_is))
    (case d_told_rows => refine' TW.rawT_mk ?a ?l ?c ?k; (case a => k_is); (case l => k_is); (case c => k_is); (case k => k_is))
    (case d_steps_of => refine' TW.rawT_mk ?a ?l ?c ?k; (case a => k_is); (case l => k_is); (case c => k_is); (case k => k_is))
    (case d_solution_of => refine' TW.rawT_mk ?a ?l ?c ?k; (case a => k_is); (case l => k_is); (case c => k_is); (case k => k_is))
    (case d_are_numbers => refine' TW.rawT_mk ?a ?l ?c ?k; (case a => k_is); (case l => k_is); (case c => k_is); (case k => k_is))
    (case d_table_in => refine' TW.rawT_mk ?a ?l ?c ?k; (case a => k_is); (case l => k_is); (case c => k_is); (case k => k_is))
    (case d_want_sized => refine' TW.rawT_mk ?a ?l ?c ?k; (case a => k_is); (case l => k_is); (case c => k_is); (case k => k_is))
    (case d_bare_table => refine' TW.rawT_mk ?a ?l ?c ?k; (case a => k_is); (case l => k_is); (case c => k_is); (case k => k_is))
    (case d_int_product => refine' TW.rawT_mk ?a ?l ?c ?k; (case a => k_is); (case l => k_is); (case c => k_is); (case k => k_is))
    (case d_over_bottom => refine' TW.rawT_mk ?a ?l ?c ?k; (case a => k_is); (case l => k_is); (case c => k_is); (case k => k_is))
    (case d_idle_of => refine' TW.rawT_mk ?a ?l ?c ?k; (case a => k_is); (case l => k_is); (case c => k_is); (case k => k_is))
    (case d_product_of => refine' TW.rawT_mk ?a ?l ?c ?k; (case a => k_is); (case l => k_is); (case c => k_is); (case k => k_is))
    (case d_mixed_of => refine' TW.rawT_mk ?a ?l ?c ?k; (case a => k_is); (case l => k_is); (case c => k_is); (case k => k_is))
    (case d_scaled_of => refine' TW.rawT_mk ?a ?l ?c ?k; (case a => k_is); (case l => k_is); (case c => k_is); (case k => k_is))
    (case d_long_of => refine' TW.rawT_mk ?a ?l ?c ?k; (case a => k_is); (case l => k_is); (case c => k_is); (case k => k_is))
    (case d_letters_in => refine' TW.rawT_mk ?a ?l ?c ?k; (case a => k_is); (case l => k_is); (case c => k_is); (case k => k_is))
    (case d_want_house => refine' TW.rawT_mk ?a ?l ?c ?k; (case a => k_is); (case l => k_is); (case c => k_is); (case k => k_is))
    (case d_word_in => refine' TW.rawT_mk ?a ?l ?c ?k; (case a => k_is); (case l => k_is); (case c => k_is); (case k => k_is))
    (case d_word_table => refine' TW.rawT_mk ?a ?l ?c ?k; (case a => k_is); (case l => k_is); (case c => k_is); (case k => k_is))
    (case d_left_of => refine' TW.rawT_mk ?a ?l ?c ?k; (case a => k_is); (case l => k_is); (case c => k_is); (case k => k_is))
    (case d_long_with => refine' TW.rawT_mk ?a ?l ?c ?k; (case a => k_is); (case l => k_is); (case c => k_is); (case k => k_is))
    (case d_base_with => refine' TW.rawT_mk ?a ?l ?c ?k; (case a => k_is); (case l => k_is); (case c => k_is); (case k => k_is))
    (case d_base_of => refine' TW.rawT_mk ?a ?l ?c ?k; (case a => k_is); (case l => k_is); (case c => k_is); (case k => k_is))
    (case d_base_words => refine' TW.rawT_mk ?a ?l ?c ?k; (case a => k_is); (case l => k_is); (case c => k_is); (case k => k_is))
    (case d_mixture_by => refine' TW.rawT_mk ?a ?l ?c ?k; (case a => k_is); (case l => k_is); (case c => k_is); (case k => k_is))
    (case d_part_in => refine' TW.rawT_mk ?a ?l ?c ?k; (case a => k_is); (case l => k_is); (case c => k_is); (case k => k_is))
    (case d_told_mixture => refine' TW.rawT_mk ?a ?l ?c ?k; (case a => k_is); (case l => k_is); (case c => k_is); (case k => k_is))
    (case d_want_mixture => refine' TW.rawT_mk ?a ?l ?c ?k; (case a => k_is); (case l => k_is); (case c => k_is); (case k => k_is))
    (case d_table_of_mixture => refine' TW.rawT_mk ?a ?l ?c ?k; (case a => k_is); (case l => k_is); (case c => k_is); (case k => k_is))
    (case d_law_pot => refine' TW.rawT_mk ?a ?l ?c ?k; (case a => k_is); (case l => k_is); (case c => k_is); (case k => k_is))
    (case d_law_draw => refine' TW.rawT_mk ?a ?l ?c ?k; (case a => k_is); (case l => k_is); (case c => k_is); (case k => k_is))
    (case d_law_pick => refine' TW.rawT_mk ?a ?l ?c ?k; (case a => k_is); (case l => k_is); (case c => k_is); (case k => k_is))
    (case d_law_times => refine' TW.rawT_mk ?a ?l ?c ?k; (case a => k_is); (case l => k_is); (case c => k_is); (case k => k_is))
    (case d_law_idle => refine' TW.rawT_mk ?a ?l ?c ?k; (case a => k_is); (case l => k_is); (case c => k_is); (case k => k_is))
    (case d_law_word_table => refine' TW.rawT_mk ?a ?l ?c ?k; (case a => k_is); (case l => k_is); (case c => k_is); (case k => k_is))
    (case d_law_told => refine' TW.rawT_mk ?a ?l ?c ?k; (case a => k_is); (case l => k_is); (case c => k_is); (case k => k_is))
    (case d_law_letters => refine' TW.rawT_mk ?a ?l ?c ?k; (case a => k_is); (case l => k_is); (case c => k_is); (case k => k_is))
    (case d_law_divisor => refine' TW.rawT_mk ?a ?l ?c ?k; (case a => k_is); (case l => k_is); (case c => k_is); (case k => k_is))
    (case d_law_left => refine' TW.rawT_mk ?a ?l ?c ?k; (case a => k_is); (case l => k_is); (case c => k_is); (case k => k_is))
    (case d_law_joins => refine' TW.rawT_mk ?a ?l ?c ?k; (case a => k_is); (case l => k_is); (case c => k_is); (case k => k_is))
    (case d_law_long => refine' TW.rawT_mk ?a ?l ?c ?k; (case a => k_is); (case l => k_is); (case c => k_is); (case k => k_is))
    (case d_law_base => refine' TW.rawT_mk ?a ?l ?c ?k; (case a => k_is); (case l => k_is); (case c => k_is); (case k => k_is))
    (case d_law_mixture => refine' TW.rawT_mk ?a ?l ?c ?k; (case a => k_is); (case l => k_is); (case c => k_is); (case k => k_is))
    (case d_law_mixed => refine' TW.rawT_mk ?a ?l ?c ?k; (case a => k_is); (case l => k_is); (case c => k_is); (case k => k_is))
    (case d_law_told_right => refine' TW.rawT_mk ?a ?l ?c ?k; (case a => k_is); (case l => k_is); (case c => k_is); (case k => k_is))
    (case d_mixture_of => refine' TW.rawT_mk ?a ?l ?c ?k; (case a => k_is); (case l => k_is); (case c => k_is); (case k => k_is))
    (case d_is_mixture_of => refine' TW.rawT_mk ?a ?l ?c ?k; (case a => k_is); (case l => k_is); (case c => k_is); (case k => k_is))
    (case d_table_by => refine' TW.rawT_mk ?a ?l ?c ?k; (case a => k_is); (case l => k_is); (case c => k_is); (case k => k_is))
    (case d_law_right => refine' TW.rawT_mk ?a ?l ?c ?k; (case a => k_is); (case l => k_is); (case c => k_is); (case k => k_is))
    (case aL => k_is)
    (case dL => refine' TW.rawM_mk ?l ?c ?k; (case l => k_is); (case c => k_is); (case k => k_is))

