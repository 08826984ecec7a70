import PyProof.Rows.All
import Wide.All
import OpenK.AllK
import Wide.FinOn
import HandS.ForMost
import HandS.ForExc
import HandS.Star
import HandS.Defaults
import HandS.IsInst
import HandS.Wide
import HandS.Flow
import HandS.CallSlots
import HandS.ExcInit
import HandS.ExcField
import HandS.Evl
import HandS.TupAny
import HandS.TupMul
import HandS.Style
import HandS.WideBits
import HandS.Zip
import KE.GoesEnum
import KE.DatumOrd
import HandS.SortKw
import HandS.Lambda
import HandS.EndTab
import KE.KExcIs
import PySem.Challenge.RW_thincoins_k01_checks_of_any_value
import HandS.Deep
import HandS.Dict
import HandS.Text
import PyProof.ListStr
import HandS.Walk
import HandS.SetKeys
import PyProof.FitsInt
import HandS.EndOwn
set_option Elab.async false
set_option linter.all false
set_option autoImplicit false
set_option maxRecDepth 100000
set_option maxHeartbeats 1000000
namespace TW
open PySem PySem.Spec PyProof.Rows L2

/-! ## data -/
inductive D where
  | non | bl (b : Bool) | int (i : Int) | str (x : Str) | dct
  | tup (ds : List D) | lst (ds : List D) | arg (ds : List D)
  | obj (c : Nat) (ds : List D)
  | exc (a : Nat) (x : Option Nat) (c : Nat) (ds : List D)
inductive Sl where
  | no | v (d : D) | l (ds : List D) | o (c : Nat) (ds : List D)
abbrev S := List Sl
inductive Out (α : Type) where
  | ok (a : α) (s : S) | ex (c : Nat) (ds : List D) (s : S) | bad
abbrev M (α : Type) := S → Out α
@[inline] def mret {α : Type} (a : α) : M α := fun s => .ok a s
def mbind {α β : Type} (f : M α) (k : α → M β) : M β := fun s => match f s with
  | .ok a s' => k a s'
  | .ex c ds s' => .ex c ds s'
  | .bad => .bad
def mbad {α : Type} : M α := fun _ => .bad
def mopt {α : Type} : Option α → M α
  | some a => mret a
  | none => mbad

/-- the text's classes and attributes, by numbers -/
structure G where
  K : PySem.W.Frag
  mg : Str → Option Value
  cn : Nat → Addr
  names : Nat → List Str

mutual
def Den (g : G) (B : Hp) : D → V → Prop
  | .non, v => v = .non
  | .bl b, v => v = .bl b
  | .int i, v => v = .int i
  | .str x, v => v = .str x
  | .dct, v => ∃ a kvs, v = .ref a ∧ B a = some (.dK kvs)
  | .tup ds, v => ∃ a vs, v = .ref a ∧ SqT g.K B a vs ∧ Dens g B ds vs
  | .lst ds, v => ∃ a vs, v = .ref a ∧ B a = some (.lst vs) ∧ Dens g B ds vs
  | .arg ds, v => ∃ a vs, v = .ref a ∧ SqL g.K B a vs ∧ Dens g B ds vs
  | .obj c ds, v => ∃ a dx vs, v = .ref a ∧ B a = some (.ins (g.cn c) dx ((g.names c).zip vs)) ∧ Dens g B ds vs
  | .exc a x c ds, v => v = .ref a ∧ (ds = [] ∨ ∃ dx fs vs, x = some dx ∧ B dx = some (.xd fs) ∧ Dens g B ds vs ∧ ∀ (j : Nat) (f : Str) (v : V), (g.names c)[j]? = some f → vs[j]? = some v → fs.lookup f = some v)
def Dens (g : G) (B : Hp) : List D → List V → Prop
  | [], vs => vs = []
  | d :: ds, vs => ∃ v r, vs = v :: r ∧ Den g B d v ∧ Dens g B ds r
end

abbrev Ex := Evl.Ex
variable {g : G} {B B' H H' : Hp}

theorem Ex.rfl' : Ex B B := Evl.Ex.refl B

mutual
theorem Den.mono (e : Ex B B') : ∀ {d : D} {v : V}, Den g B d v → Den g B' d v
  | .non, _, h => h
  | .bl _, _, h => h
  | .int _, _, h => h
  | .str _, _, h => h
  | .dct, _, ⟨a, kvs, e1, h1⟩ => ⟨a, kvs, e1, e _ _ h1⟩
  | .tup ds, _, ⟨a, vs, e1, h1, h2⟩ => ⟨a, vs, e1, Evl.ex_t e h1, Dens.mono e h2⟩
  | .lst ds, _, ⟨a, vs, e1, h1, h2⟩ => ⟨a, vs, e1, e _ _ h1, Dens.mono e h2⟩
  | .arg ds, _, ⟨a, vs, e1, h1, h2⟩ => ⟨a, vs, e1, Evl.ex_l e h1, Dens.mono e h2⟩
  | .obj c ds, _, ⟨a, dx, vs, e1, h1, h3⟩ => ⟨a, dx, vs, e1, e _ _ h1, Dens.mono e h3⟩
  | .exc a x c ds, _, ⟨e1, .inl h⟩ => ⟨e1, .inl h⟩
  | .exc a x c ds, _, ⟨e1, .inr ⟨dx, fs, vs, h1, h2, h3, h4⟩⟩ => ⟨e1, .inr ⟨dx, fs, vs, h1, e _ _ h2, Dens.mono e h3, h4⟩⟩
theorem Dens.mono (e : Ex B B') : ∀ {ds : List D} {vs : List V}, Dens g B ds vs → Dens g B' ds vs
  | [], _, h => h
  | d :: ds, _, ⟨v, r, e1, h1, h2⟩ => ⟨v, r, e1, Den.mono e h1, Dens.mono e h2⟩
end

theorem Dens.length : ∀ {ds : List D} {vs : List V}, Dens g B ds vs → vs.length = ds.length
  | [], _, h => by cases h; rfl
  | d :: ds, _, ⟨v, r, e1, h1, h2⟩ => by subst e1; simp [Dens.length h2]
theorem Dens.get : ∀ {ds : List D} {vs : List V} {i : Nat} {d : D}, Dens g B ds vs → ds[i]? = some d → ∃ v, vs[i]? = some v ∧ Den g B d v
  | [], _, i, d, h, e => by simp at e
  | d :: ds, _, 0, d', ⟨v, r, e1, h1, h2⟩, e => by
    simp at e; subst e; subst e1; exact ⟨v, rfl, h1⟩
  | d :: ds, _, i + 1, d', ⟨v, r, e1, h1, h2⟩, e => by
    subst e1
    have := Dens.get (i := i) h2 (by simpa using e)
    simpa using this
theorem Dens.cons {d : D} {v : V} {ds : List D} {vs : List V} (h : Den g B d v) (hs : Dens g B ds vs) : Dens g B (d :: ds) (v :: vs) := ⟨v, vs, rfl, h, hs⟩
theorem Dens.nil : Dens g B [] [] := rfl
theorem Dens.append : ∀ {ds es : List D} {vs us : List V}, Dens g B ds vs → Dens g B es us → Dens g B (ds ++ es) (vs ++ us)
  | [], _, _, _, h, h' => by cases h; exact h'
  | d :: ds, _, _, _, ⟨v, r, e1, h1, h2⟩, h' => by subst e1; exact ⟨v, _, rfl, h1, Dens.append h2 h'⟩
theorem Dens.take (n : Nat) : ∀ {ds : List D} {vs : List V}, Dens g B ds vs → Dens g B (ds.take n) (vs.take n) := by
  induction n with
  | zero => intro ds vs h; simp [Dens]
  | succ n ih =>
    intro ds vs h
    cases ds with
    | nil => cases h; simp [Dens]
    | cons d ds => obtain ⟨v, r, e1, h1, h2⟩ := h; subst e1; exact ⟨v, _, rfl, h1, ih h2⟩
theorem Dens.drop (n : Nat) : ∀ {ds : List D} {vs : List V}, Dens g B ds vs → Dens g B (ds.drop n) (vs.drop n) := by
  induction n with
  | zero => intro ds vs h; simpa using h
  | succ n ih =>
    intro ds vs h
    cases ds with
    | nil => cases h; simp [Dens]
    | cons d ds => obtain ⟨v, r, e1, h1, h2⟩ := h; subst e1; simpa using ih h2
theorem Dens.set {d : D} {v : V} (h : Den g B d v) : ∀ (i : Nat) {ds : List D} {vs : List V}, Dens g B ds vs → Dens g B (ds.set i d) (vs.set i v)
  | _, [], _, hs => by cases hs; simp [Dens]
  | 0, d' :: ds, _, ⟨v', r, e1, h1, h2⟩ => by subst e1; exact ⟨v, r, rfl, h, h2⟩
  | i + 1, d' :: ds, _, ⟨v', r, e1, h1, h2⟩ => by subst e1; exact ⟨v', _, rfl, h1, Dens.set h i h2⟩
theorem Dens.reverse : ∀ {ds : List D} {vs : List V}, Dens g B ds vs → Dens g B ds.reverse vs.reverse
  | [], _, h => by cases h; simp [Dens]
  | d :: ds, _, ⟨v, r, e1, h1, h2⟩ => by
    subst e1; rw [List.reverse_cons, List.reverse_cons]; exact Dens.append (Dens.reverse h2) (Dens.cons h1 Dens.nil)

/-- the value now: a list's, an instance's own top stands in H, what is within in B -/
def DenW (g : G) (B H : Hp) : D → V → Prop
  | .lst ds, v => ∃ a vs, v = .ref a ∧ H a = some (.lst vs) ∧ Dens g B ds vs
  | .obj c ds, v => ∃ a dx vs, v = .ref a ∧ H a = some (.ins (g.cn c) dx ((g.names c).zip vs)) ∧ Dens g B ds vs
  | d, v => Den g B d v
theorem Den.w (e : Ex B H) {d : D} {v : V} (h : Den g B d v) : DenW g B H d v := by
  cases d with
  | lst ds => obtain ⟨a, vs, e1, h1, h2⟩ := h; exact ⟨a, vs, e1, e _ _ h1, h2⟩
  | obj c ds => obtain ⟨a, dx, vs, e1, h1, h3⟩ := h; exact ⟨a, dx, vs, e1, e _ _ h1, h3⟩
  | _ => exact h

/-! ## states -/
/-- a def's run: what stood at its entry, where the lists and instances stand that it may change for its caller -/
structure Tx where
  B0 : Hp
  H0 : Hp
  io : Nat → Option Addr
  τ : L2.St
  t : S
abbrev Tx.tmp (T : Tx) (τ : L2.St) (t : S) : Tx := { T with τ := τ, t := t }

def SlOk (g : G) (B H : Hp) : Sl → Option V → Prop
  | .no, _ => True
  | .v d, x => ∃ v, x = some v ∧ Den g B d v
  | .l ds, x => ∃ a vs, x = some (.ref a) ∧ B a = none ∧ H a = some (.lst vs) ∧ Dens g B ds vs
  | .o c ds, x => ∃ a dx vs, x = some (.ref a) ∧ B a = none ∧ H a = some (.ins (g.cn c) dx ((g.names c).zip vs)) ∧ Dens g B ds vs
def Sl.own : Sl → Bool
  | .l _ => true
  | .o _ _ => true
  | _ => false

structure Rel0 (g : G) (T : Tx) (B H : Hp) (σ : L2.St) (s : S) : Prop where
  b0 : Ex T.B0 B
  bh : Ex B H
  nw : ∀ a, T.H0 a ≠ none → B a = T.B0 a
  hh : ∀ a o, T.H0 a = some o → (∀ j, T.io j ≠ some a) → H a = some o
  dom : ∀ a, T.H0 a ≠ none → H a ≠ none
  len : σ.length = s.length
  sl : ∀ (i : Nat) (x : Sl) (y : Option V), s[i]? = some x → σ[i]? = some y → SlOk g B H x y
  nd : ∀ (i j : Nat) (x x' : Sl) (a : Addr), s[i]? = some x → s[j]? = some x' → x.own = true → x'.own = true → σ[i]? = some (some (.ref a)) → σ[j]? = some (some (.ref a)) → i = j
  iok : ∀ (j : Nat) (a : Addr), T.io j = some a → σ[j]? = some (some (.ref a)) ∧ ∃ x, s[j]? = some x ∧ x.own = true
  ow : ∀ (i : Nat) (x : Sl) (a : Addr), s[i]? = some x → x.own = true → σ[i]? = some (some (.ref a)) → T.H0 a = none ∨ ∃ j, T.io j = some a
end TW

set_option Elab.async false
set_option linter.all false
set_option autoImplicit false
set_option maxRecDepth 100000
set_option maxHeartbeats 1000000
namespace TW
open PySem PySem.Spec PyProof.Rows L2
variable {g : G} {T : Tx} {B B' H H' : Hp} {σ : L2.St} {s : S}

/-! ## Rel0 -/
theorem Rel0.get (R : Rel0 g T B H σ s) {i : Nat} {x : Sl} (h : s[i]? = some x) : ∃ y, σ[i]? = some y ∧ SlOk g B H x y := by
  have hi : i < s.length := (List.getElem?_eq_some_iff.mp h).1
  have hs : i < σ.length := by rw [R.len]; exact hi
  exact ⟨σ[i], by simp [hs], R.sl i x _ h (by simp [hs])⟩
theorem Rel0.getv (R : Rel0 g T B H σ s) {i : Nat} {d : D} (h : s[i]? = some (.v d)) : ∃ v, σ[i]? = some (some v) ∧ Den g B d v := by
  obtain ⟨y, e, v, e1, h1⟩ := R.get h
  exact ⟨v, by rw [e, e1], h1⟩
theorem Rel0.getl (R : Rel0 g T B H σ s) {i : Nat} {ds : List D} (h : s[i]? = some (.l ds)) : ∃ a vs, σ[i]? = some (some (.ref a)) ∧ B a = none ∧ H a = some (.lst vs) ∧ Dens g B ds vs := by
  obtain ⟨y, e, a, vs, e1, h1, h2, h3⟩ := R.get h
  exact ⟨a, vs, by rw [e, e1], h1, h2, h3⟩
theorem Rel0.geto (R : Rel0 g T B H σ s) {i c : Nat} {ds : List D} (h : s[i]? = some (.o c ds)) : ∃ a dx vs, σ[i]? = some (some (.ref a)) ∧ B a = none ∧ H a = some (.ins (g.cn c) dx ((g.names c).zip vs)) ∧ Dens g B ds vs := by
  obtain ⟨y, e, a, dx, vs, e1, h1, h2, h3⟩ := R.get h
  exact ⟨a, dx, vs, by rw [e, e1], h1, h2, h3⟩
theorem Rel0.ownH (R : Rel0 g T B H σ s) {i : Nat} {x : Sl} {a : Addr} (h : s[i]? = some x) (ho : x.own = true) (ha : σ[i]? = some (some (.ref a))) : B a = none ∧ ∃ o, H a = some o := by
  cases x with
  | l ds => obtain ⟨b, vs, e, h1, h2, _⟩ := R.getl h; rw [ha] at e; cases e; exact ⟨h1, _, h2⟩
  | o c ds => obtain ⟨b, dx, vs, e, h1, h2, _⟩ := R.geto h; rw [ha] at e; cases e; exact ⟨h1, _, h2⟩
  | no => cases ho
  | v d => cases ho
/-- a slot's content, where B and H grow and its own object is kept -/
theorem SlOk.mono {x : Sl} {y : Option V} (h : SlOk g B H x y) (eB : Ex B B') (hn : ∀ a o, H a = some o → B a = none → B' a = none)
    (hk : ∀ a o, H a = some o → y = some (.ref a) → H' a = some o) : SlOk g B' H' x y := by
  cases x with
  | no => trivial
  | v d => obtain ⟨v, e, h1⟩ := h; exact ⟨v, e, h1.mono eB⟩
  | l ds =>
    obtain ⟨a, vs, e, h1, h2, h3⟩ := h
    exact ⟨a, vs, e, hn a _ h2 h1, hk a _ h2 e, h3.mono eB⟩
  | o c ds =>
    obtain ⟨a, dx, vs, e, h1, h2, h3⟩ := h
    exact ⟨a, dx, vs, e, hn a _ h2 h1, hk a _ h2 e, h3.mono eB⟩
/-- B and H grow by what H does not know -/
theorem Rel0.grow (R : Rel0 g T B H σ s) (eB : Ex B B') (eH : Ex H H') (eBH : Ex B' H') (hn : ∀ a, H a ≠ none → B' a = B a) : Rel0 g T B' H' σ s where
  b0 := R.b0.trans eB
  bh := eBH
  nw := fun a h => by rw [hn a (R.dom a h)]; exact R.nw a h
  hh := fun a o h hj => eH a o (R.hh a o h hj)
  dom := fun a h => by
    cases e : H a with
    | none => exact absurd e (R.dom a h)
    | some o => rw [eH a o e]; simp
  len := R.len
  sl := fun i x y hx hy => (R.sl i x y hx hy).mono eB (fun a o h hb => by rw [hn a (by rw [h]; simp)]; exact hb) fun a o h _ => eH a o h
  nd := R.nd
  iok := R.iok
  ow := R.ow
/-- a new object, laid and kept as data -/
theorem Rel0.new (R : Rel0 g T B H σ s) {p : Addr} {o : HO} (hp : H p = none) : Rel0 g T (upd B p o) (upd H p o) σ s := by
  have bp : B p = none := Evl.fresh_back R.bh hp
  refine R.grow (Evl.Ex.new bp) (Evl.Ex.new hp) (fun a u e => ?_) fun a h => ?_
  · by_cases z : a = p
    · subst z; rw [upd_same] at e ⊢; exact e
    · rw [upd_ne z] at e ⊢; exact R.bh a u e
  · have z : a ≠ p := fun z => h (by rw [z]; exact hp)
    rw [upd_ne z]
/-- a new object, not kept as data -/
theorem Rel0.newH (R : Rel0 g T B H σ s) {p : Addr} {o : HO} (hp : H p = none) : Rel0 g T B (upd H p o) σ s :=
  R.grow (Evl.Ex.refl B) (Evl.Ex.new hp) (R.bh.trans (Evl.Ex.new hp)) fun _ _ => rfl
/-- p is not known: not data, not of the entry, no slot's -/
structure Fsh0 (T : Tx) (B H : Hp) (σ : L2.St) (s : S) (p : Addr) (o : HO) : Prop where
  b : B p = none
  h0 : T.H0 p = none
  sl : ∀ (i : Nat) (x : Sl), s[i]? = some x → x.own = true → σ[i]? ≠ some (some (.ref p))
  at_ : H p = some o
theorem Rel0.h0_of (R : Rel0 g T B H σ s) {p : Addr} (hp : H p = none) : T.H0 p = none := by
  cases e : T.H0 p with
  | none => rfl
  | some o => exact absurd hp (R.dom p (by rw [e]; simp))
theorem Rel0.sl_of (R : Rel0 g T B H σ s) {p : Addr} (hp : H p = none) (i : Nat) (x : Sl) (h : s[i]? = some x) (ho : x.own = true) : σ[i]? ≠ some (some (.ref p)) := fun e => by
  obtain ⟨_, o, q⟩ := R.ownH h ho e
  rw [hp] at q; cases q
theorem Rel0.fsh (R : Rel0 g T B H σ s) {p : Addr} {o : HO} (hp : H p = none) : Fsh0 T B (upd H p o) σ s p o :=
  ⟨Evl.fresh_back R.bh hp, R.h0_of hp, R.sl_of hp, upd_same⟩
/-- what is fresh becomes data -/
theorem Rel0.freeze (R : Rel0 g T B H σ s) {p : Addr} {o : HO} (F : Fsh0 T B H σ s p o) : Rel0 g T (upd B p o) H σ s where
  b0 := R.b0.trans (Evl.Ex.new F.b)
  bh := fun a u e => by
    by_cases z : a = p
    · subst z; rw [upd_same] at e; cases e; exact F.at_
    · rw [upd_ne z] at e; exact R.bh a u e
  nw := fun a h => by
    have z : a ≠ p := fun z => h (by rw [z]; exact F.h0)
    rw [upd_ne z]; exact R.nw a h
  hh := R.hh
  dom := R.dom
  len := R.len
  sl := fun i x y hx hy => by
    have q := R.sl i x y hx hy
    have hσ := F.sl i x hx
    cases x with
    | no => trivial
    | v d => obtain ⟨v, e, h1⟩ := q; exact ⟨v, e, h1.mono (Evl.Ex.new F.b)⟩
    | l ds =>
      obtain ⟨a, vs, e, h1, h2, h3⟩ := q
      have z : a ≠ p := fun z => hσ rfl (by rw [hy, e, z])
      exact ⟨a, vs, e, by rw [upd_ne z]; exact h1, h2, h3.mono (Evl.Ex.new F.b)⟩
    | o c ds =>
      obtain ⟨a, dx, vs, e, h1, h2, h3⟩ := q
      have z : a ≠ p := fun z => hσ rfl (by rw [hy, e, z])
      exact ⟨a, dx, vs, e, by rw [upd_ne z]; exact h1, h2, h3.mono (Evl.Ex.new F.b)⟩
  nd := R.nd
  iok := R.iok
  ow := R.ow
/-- what is in an own slot is written -/
theorem Rel0.write (R : Rel0 g T B H σ s) {i : Nat} {x x' : Sl} {a : Addr} {o : HO} (hs : s[i]? = some x) (hx : x.own = true) (ha : σ[i]? = some (some (.ref a))) (hx' : x'.own = true)
    (new : SlOk g B (upd H a o) x' (some (.ref a))) : Rel0 g T B (upd H a o) σ (s.set i x') := by
  obtain ⟨b0, o0, h0⟩ := R.ownH hs hx ha
  have hi : i < s.length := (List.getElem?_eq_some_iff.mp hs).1
  have neB : ∀ b u, B b = some u → b ≠ a := fun b u e z => by rw [z, b0] at e; cases e
  have sets : ∀ j y, (s.set i x')[j]? = some y → (j = i ∧ y = x') ∨ (j ≠ i ∧ s[j]? = some y) := fun j y e => by
    by_cases z : j = i
    · subst z; rw [List.getElem?_set_self hi] at e; exact .inl ⟨rfl, (Option.some.inj e).symm⟩
    · rw [List.getElem?_set_ne (Ne.symm z)] at e; exact .inr ⟨z, e⟩
  refine ⟨R.b0, fun b u e => by rw [upd_ne (neB b u e)]; exact R.bh b u e, R.nw, fun b u e hj => ?_, fun b e => ?_, by simp [R.len], fun j y v hy hv => ?_, fun j k y y' b hy hy' ho ho' e1 e2 => ?_, fun j b hb => ?_, fun j y b hy ho e => ?_⟩
  · have q := R.hh b u e hj
    have z : b ≠ a := fun z => by
      subst z
      rcases R.ow i x b hs hx ha with z | ⟨j, z⟩
      · rw [z] at e; cases e
      · exact hj j z
    rw [upd_ne z]; exact q
  · by_cases z : b = a
    · rw [z, upd_same]; simp
    · rw [upd_ne z]; exact R.dom b e
  · rcases sets j y hy with ⟨rfl, rfl⟩ | ⟨z, hy⟩
    · rw [ha] at hv; cases hv; exact new
    · have q := R.sl j y v hy hv
      cases y with
      | no => trivial
      | v d => exact q
      | l ds =>
        obtain ⟨a', vs, e, h1, h2, h3⟩ := q
        have ne : a' ≠ a := fun w => z (R.nd j i _ _ a hy hs rfl hx (by rw [hv, e, w]) ha)
        exact ⟨a', vs, e, h1, by rw [upd_ne ne]; exact h2, h3⟩
      | o c ds =>
        obtain ⟨a', dx, vs, e, h1, h2, h3⟩ := q
        have ne : a' ≠ a := fun w => z (R.nd j i _ _ a hy hs rfl hx (by rw [hv, e, w]) ha)
        exact ⟨a', dx, vs, e, h1, by rw [upd_ne ne]; exact h2, h3⟩
  · have back : ∀ (j : Nat) (y : Sl), (s.set i x')[j]? = some y → y.own = true → ∃ y0 : Sl, s[j]? = some y0 ∧ y0.own = true := fun j y hy ho => by
      rcases sets j y hy with ⟨rfl, rfl⟩ | ⟨z, hy⟩
      · exact ⟨x, hs, hx⟩
      · exact ⟨y, hy, ho⟩
    obtain ⟨z1, q1, p1⟩ := back j y hy ho
    obtain ⟨z2, q2, p2⟩ := back k y' hy' ho'
    exact R.nd j k z1 z2 b q1 q2 p1 p2 e1 e2
  · obtain ⟨e, y, hy, ho⟩ := R.iok j b hb
    refine ⟨e, ?_⟩
    by_cases z : j = i
    · subst z; exact ⟨x', by rw [List.getElem?_set_self hi], hx'⟩
    · exact ⟨y, by rw [List.getElem?_set_ne (Ne.symm z)]; exact hy, ho⟩
  · rcases sets j y hy with ⟨rfl, rfl⟩ | ⟨z, hy⟩
    · exact R.ow j x b hs hx e
    · exact R.ow j y b hy ho e
theorem Rel0.wrl (R : Rel0 g T B H σ s) {i : Nat} {ds es : List D} {a : Addr} {us : List V} (hs : s[i]? = some (.l ds)) (ha : σ[i]? = some (some (.ref a))) (hd : Dens g B es us) : Rel0 g T B (upd H a (.lst us)) σ (s.set i (.l es)) :=
  R.write hs rfl ha rfl ⟨a, us, rfl, (R.ownH hs rfl ha).1, upd_same, hd⟩
/-- a slot is stored -/
theorem Rel0.store (R : Rel0 g T B H σ s) {i : Nat} {x : Sl} {v : V} (hio : T.io i = none) (ok : SlOk g B H x (some v))
    (hn : ∀ a, x.own = true → v = .ref a → (∀ (j : Nat) (y : Sl), s[j]? = some y → y.own = true → σ[j]? ≠ some (some (.ref a))) ∧ T.H0 a = none) : Rel0 g T B H (σ.set i (some v)) (s.set i x) := by
  have len := R.len
  have sets : ∀ j y, (s.set i x)[j]? = some y → (j = i ∧ y = x ∧ i < s.length) ∨ (j ≠ i ∧ s[j]? = some y) := fun j y e => by
    by_cases z : j = i
    · subst z
      by_cases hi : j < s.length
      · rw [List.getElem?_set_self hi] at e; exact .inl ⟨rfl, (Option.some.inj e).symm, hi⟩
      · rw [List.getElem?_eq_none (by simp; omega)] at e; cases e
    · rw [List.getElem?_set_ne (Ne.symm z)] at e; exact .inr ⟨z, e⟩
  have at_i : i < s.length → (σ.set i (some v))[i]? = some (some v) := fun hi => List.getElem?_set_self (by omega)
  refine ⟨R.b0, R.bh, R.nw, R.hh, R.dom, by simp [len], fun j y u hy hu => ?_, fun j k y y' b hy hy' ho ho' e1 e2 => ?_, fun j b hb => ?_, fun j y b hy ho e => ?_⟩
  · rcases sets j y hy with ⟨rfl, rfl, hi⟩ | ⟨z, hy⟩
    · rw [at_i hi] at hu; cases hu; exact ok
    · rw [List.getElem?_set_ne (Ne.symm z)] at hu; exact R.sl j y u hy hu
  · rcases sets j y hy with ⟨rfl, rfl, hi⟩ | ⟨z, hyj⟩
    · rw [at_i hi] at e1
      have ev : v = .ref b := Option.some.inj (Option.some.inj e1)
      rcases sets k y' hy' with ⟨rfl, _, _⟩ | ⟨z', hyk⟩
      · rfl
      · rw [List.getElem?_set_ne (Ne.symm z')] at e2; exact absurd e2 ((hn b ho ev).1 k y' hyk ho')
    · rw [List.getElem?_set_ne (Ne.symm z)] at e1
      rcases sets k y' hy' with ⟨rfl, rfl, hi⟩ | ⟨z', hyk⟩
      · rw [at_i hi] at e2
        have ev : v = .ref b := Option.some.inj (Option.some.inj e2)
        exact absurd e1 ((hn b ho' ev).1 j y hyj ho)
      · rw [List.getElem?_set_ne (Ne.symm z')] at e2
        exact R.nd j k y y' b hyj hyk ho ho' e1 e2
  · have z : j ≠ i := fun z => by rw [z, hio] at hb; cases hb
    obtain ⟨e, y, hy, ho⟩ := R.iok j b hb
    exact ⟨by rw [List.getElem?_set_ne (Ne.symm z)]; exact e, y, by rw [List.getElem?_set_ne (Ne.symm z)]; exact hy, ho⟩
  · rcases sets j y hy with ⟨rfl, rfl, hi⟩ | ⟨z, hy⟩
    · rw [at_i hi] at e
      have ev : v = .ref b := Option.some.inj (Option.some.inj e)
      exact .inl (hn b ho ev).2
    · rw [List.getElem?_set_ne (Ne.symm z)] at e; exact R.ow j y b hy ho e
theorem Rel0.storev (R : Rel0 g T B H σ s) {i : Nat} {d : D} {v : V} (hio : T.io i = none) (h : Den g B d v) : Rel0 g T B H (σ.set i (some v)) (s.set i (.v d)) :=
  R.store hio ⟨v, rfl, h⟩ fun _ z => by cases z
theorem Rel0.storel (R : Rel0 g T B H σ s) {i : Nat} {ds : List D} {p : Addr} {vs : List V} (hio : T.io i = none) (F : Fsh0 T B H σ s p (.lst vs)) (h : Dens g B ds vs) : Rel0 g T B H (σ.set i (some (.ref p))) (s.set i (.l ds)) :=
  R.store hio ⟨p, vs, rfl, F.b, F.at_, h⟩ fun a _ e => by cases e; exact ⟨F.sl, F.h0⟩
/-- an own slot (not the caller's) becomes data -/
theorem Rel0.frz (R : Rel0 g T B H σ s) {i : Nat} {ds : List D} (hs : s[i]? = some (.l ds)) (hio : T.io i = none) : ∃ B', Rel0 g T B' H σ (s.set i (.v (.lst ds))) ∧ Ex B B' := by
  obtain ⟨a, vs, ha, b0, h0, hd⟩ := R.getl hs
  have hi : i < s.length := (List.getElem?_eq_some_iff.mp hs).1
  have eB : Ex B (upd B a (.lst vs)) := Evl.Ex.new b0
  have hH0 : T.H0 a = none := by
    rcases R.ow i _ a hs rfl ha with z | ⟨j, z⟩
    · exact z
    · obtain ⟨e, x, hx, ho⟩ := R.iok j a z
      have := R.nd j i x _ a hx hs ho rfl e ha
      subst this; rw [hio] at z; cases z
  have sets : ∀ j y, (s.set i (.v (.lst ds)))[j]? = some y → (j = i ∧ y = .v (.lst ds)) ∨ (j ≠ i ∧ s[j]? = some y) := fun j y e => by
    by_cases z : j = i
    · subst z; rw [List.getElem?_set_self hi] at e; exact .inl ⟨rfl, (Option.some.inj e).symm⟩
    · rw [List.getElem?_set_ne (Ne.symm z)] at e; exact .inr ⟨z, e⟩
  refine ⟨upd B a (.lst vs), ⟨R.b0.trans eB, fun b u e => ?_, fun b e => ?_, R.hh, R.dom, by simp [R.len], fun j y u hy hu => ?_, fun j k y y' b hy hy' ho ho' e1 e2 => ?_, fun j b hb => ?_, fun j y b hy ho e => ?_⟩, eB⟩
  · by_cases z : b = a
    · subst z; rw [upd_same] at e; cases e; exact h0
    · rw [upd_ne z] at e; exact R.bh b u e
  · have z : b ≠ a := fun z => e (by rw [z]; exact hH0)
    rw [upd_ne z]; exact R.nw b e
  · rcases sets j y hy with ⟨rfl, rfl⟩ | ⟨z, hy⟩
    · rw [ha] at hu; cases hu
      exact ⟨.ref a, rfl, a, vs, rfl, upd_same, hd.mono eB⟩
    · have q := R.sl j y u hy hu
      cases y with
      | no => trivial
      | v d => obtain ⟨v, e, h1⟩ := q; exact ⟨v, e, h1.mono eB⟩
      | l es =>
        obtain ⟨a', vs', e, h1, h2, h3⟩ := q
        have ne : a' ≠ a := fun w => z (R.nd j i _ _ a hy hs rfl rfl (by rw [hu, e, w]) ha)
        exact ⟨a', vs', e, by rw [upd_ne ne]; exact h1, h2, h3.mono eB⟩
      | o c es =>
        obtain ⟨a', dx, vs', e, h1, h2, h3⟩ := q
        have ne : a' ≠ a := fun w => z (R.nd j i _ _ a hy hs rfl rfl (by rw [hu, e, w]) ha)
        exact ⟨a', dx, vs', e, by rw [upd_ne ne]; exact h1, h2, h3.mono eB⟩
  · rcases sets j y hy with ⟨rfl, rfl⟩ | ⟨z, hy⟩
    · cases ho
    · rcases sets k y' hy' with ⟨rfl, rfl⟩ | ⟨z', hy'⟩
      · cases ho'
      · exact R.nd j k y y' b hy hy' ho ho' e1 e2
  · have z : j ≠ i := fun z => by rw [z, hio] at hb; cases hb
    obtain ⟨e, y, hy, ho⟩ := R.iok j b hb
    exact ⟨e, y, by rw [List.getElem?_set_ne (Ne.symm z)]; exact hy, ho⟩
  · rcases sets j y hy with ⟨rfl, rfl⟩ | ⟨z, hy⟩
    · cases ho
    · exact R.ow j y b hy ho e
/-- an own instance (not the caller's) becomes data -/
theorem Rel0.frzo (R : Rel0 g T B H σ s) {i c : Nat} {ds : List D} (hs : s[i]? = some (.o c ds)) (hio : T.io i = none) : ∃ B', Rel0 g T B' H σ (s.set i (.v (.obj c ds))) ∧ Ex B B' := by
  obtain ⟨a, dx, vs, ha, b0, h0, hd⟩ := R.geto hs
  have hi : i < s.length := (List.getElem?_eq_some_iff.mp hs).1
  have eB : Ex B (upd B a (.ins (g.cn c) dx ((g.names c).zip vs))) := Evl.Ex.new b0
  have hH0 : T.H0 a = none := by
    rcases R.ow i _ a hs rfl ha with z | ⟨j, z⟩
    · exact z
    · obtain ⟨e, x, hx, ho⟩ := R.iok j a z
      have := R.nd j i x _ a hx hs ho rfl e ha
      subst this; rw [hio] at z; cases z
  have sets : ∀ j y, (s.set i (.v (.obj c ds)))[j]? = some y → (j = i ∧ y = .v (.obj c ds)) ∨ (j ≠ i ∧ s[j]? = some y) := fun j y e => by
    by_cases z : j = i
    · subst z; rw [List.getElem?_set_self hi] at e; exact .inl ⟨rfl, (Option.some.inj e).symm⟩
    · rw [List.getElem?_set_ne (Ne.symm z)] at e; exact .inr ⟨z, e⟩
  refine ⟨upd B a (.ins (g.cn c) dx ((g.names c).zip vs)), ⟨R.b0.trans eB, fun b u e => ?_, fun b e => ?_, R.hh, R.dom, by simp [R.len], fun j y u hy hu => ?_, fun j k y y' b hy hy' ho ho' e1 e2 => ?_, fun j b hb => ?_, fun j y b hy ho e => ?_⟩, eB⟩
  · by_cases z : b = a
    · subst z; rw [upd_same] at e; cases e; exact h0
    · rw [upd_ne z] at e; exact R.bh b u e
  · have z : b ≠ a := fun z => e (by rw [z]; exact hH0)
    rw [upd_ne z]; exact R.nw b e
  · rcases sets j y hy with ⟨rfl, rfl⟩ | ⟨z, hy⟩
    · rw [ha] at hu; cases hu
      exact ⟨.ref a, rfl, a, dx, vs, rfl, upd_same, hd.mono eB⟩
    · have q := R.sl j y u hy hu
      cases y with
      | no => trivial
      | v d => obtain ⟨v, e, h1⟩ := q; exact ⟨v, e, h1.mono eB⟩
      | l es =>
        obtain ⟨a', vs', e, h1, h2, h3⟩ := q
        have ne : a' ≠ a := fun w => z (R.nd j i _ _ a hy hs rfl rfl (by rw [hu, e, w]) ha)
        exact ⟨a', vs', e, by rw [upd_ne ne]; exact h1, h2, h3.mono eB⟩
      | o c es =>
        obtain ⟨a', dx, vs', e, h1, h2, h3⟩ := q
        have ne : a' ≠ a := fun w => z (R.nd j i _ _ a hy hs rfl rfl (by rw [hu, e, w]) ha)
        exact ⟨a', dx, vs', e, by rw [upd_ne ne]; exact h1, h2, h3.mono eB⟩
  · rcases sets j y hy with ⟨rfl, rfl⟩ | ⟨z, hy⟩
    · cases ho
    · rcases sets k y' hy' with ⟨rfl, rfl⟩ | ⟨z', hy'⟩
      · cases ho'
      · exact R.nd j k y y' b hy hy' ho ho' e1 e2
  · have z : j ≠ i := fun z => by rw [z, hio] at hb; cases hb
    obtain ⟨e, y, hy, ho⟩ := R.iok j b hb
    exact ⟨e, y, by rw [List.getElem?_set_ne (Ne.symm z)]; exact hy, ho⟩
  · rcases sets j y hy with ⟨rfl, rfl⟩ | ⟨z, hy⟩
    · cases ho
    · exact R.ow j y b hy ho e
/-- the last slot, own and fresh, is let go -/
theorem Rel0.pop {x : Sl} {p : Addr} (R : Rel0 g T B H (σ ++ [some (.ref p)]) (s ++ [x])) (hx : x.own = true) (hio : ∀ j a, T.io j = some a → j < σ.length) : Rel0 g T B H σ s ∧ T.H0 p = none ∧ (∀ (i : Nat) (y : Sl), s[i]? = some y → y.own = true → σ[i]? ≠ some (some (.ref p))) ∧ SlOk g B H x (some (.ref p)) := by
  have len : σ.length = s.length := by have := R.len; simp at this; exact this
  have ls : (s ++ [x])[s.length]? = some x := by simp
  have lσ : (σ ++ [some (.ref p)])[s.length]? = some (some (.ref p)) := by rw [← len]; simp
  have gs : ∀ (i : Nat) (y : Sl), s[i]? = some y → (s ++ [x])[i]? = some y := fun i y h => by
    rw [List.getElem?_append_left (List.getElem?_eq_some_iff.mp h).1]; exact h
  have gσ : ∀ (i : Nat) (y : Option V), σ[i]? = some y → (σ ++ [some (.ref p)])[i]? = some y := fun i y h => by
    rw [List.getElem?_append_left (List.getElem?_eq_some_iff.mp h).1]; exact h
  refine ⟨⟨R.b0, R.bh, R.nw, R.hh, R.dom, len, fun i y v h1 h2 => R.sl i y v (gs i y h1) (gσ i v h2), fun i j y y' a h1 h2 o1 o2 e1 e2 => R.nd i j y y' a (gs i y h1) (gs j y' h2) o1 o2 (gσ _ _ e1) (gσ _ _ e2), fun j a h => ?_, fun i y a h1 o1 e1 => R.ow i y a (gs i y h1) o1 (gσ _ _ e1)⟩, ?_, fun i y h1 o1 e1 => ?_, R.sl _ x _ ls lσ⟩
  · have hj := hio j a h
    obtain ⟨e, y, hy, ho⟩ := R.iok j a h
    rw [List.getElem?_append_left hj] at e
    rw [List.getElem?_append_left (by omega)] at hy
    exact ⟨e, y, hy, ho⟩
  · rcases R.ow _ x p ls hx lσ with z | ⟨j, z⟩
    · exact z
    · have hj := hio j p z
      obtain ⟨e, y, hy, ho⟩ := R.iok j p z
      have := R.nd j s.length y x p hy ls ho hx e lσ
      omega
  · have hi := (List.getElem?_eq_some_iff.mp h1).1
    have := R.nd i s.length y x p (gs i y h1) ls o1 hx (gσ _ _ e1) lσ
    omega
/-- a fresh one is held at the end -/
theorem Rel0.push {x : Sl} {p : Addr} (R : Rel0 g T B H σ s) (h0 : T.H0 p = none) (hsl : ∀ (i : Nat) (y : Sl), s[i]? = some y → y.own = true → σ[i]? ≠ some (some (.ref p))) (ok : SlOk g B H x (some (.ref p))) : Rel0 g T B H (σ ++ [some (.ref p)]) (s ++ [x]) := by
  have len := R.len
  have sp : ∀ (i : Nat) (y : Sl), (s ++ [x])[i]? = some y → (s[i]? = some y ∧ i < s.length) ∨ (i = s.length ∧ y = x) := fun i y h => by
    by_cases hi : i < s.length
    · rw [List.getElem?_append_left hi] at h; exact .inl ⟨h, hi⟩
    · rw [List.getElem?_append_right (by omega)] at h
      have hz : i - s.length = 0 := by
        cases q : i - s.length with
        | zero => rfl
        | succ n => rw [q] at h; simp at h
      rw [hz] at h
      exact .inr ⟨by omega, (Option.some.inj h).symm⟩
  have aσ : ∀ (i : Nat), i < s.length → (σ ++ [some (.ref p)])[i]? = σ[i]? := fun i hi => List.getElem?_append_left (by omega)
  have lσ : (σ ++ [some (.ref p)])[s.length]? = some (some (.ref p)) := by rw [← len]; simp
  refine ⟨R.b0, R.bh, R.nw, R.hh, R.dom, by simp [len], fun i y v h1 h2 => ?_, fun i j y y' a h1 h2 o1 o2 e1 e2 => ?_, fun j a h => ?_, fun i y a h1 o1 e1 => ?_⟩
  · rcases sp i y h1 with ⟨h1, hi⟩ | ⟨rfl, rfl⟩
    · rw [aσ i hi] at h2; exact R.sl i y v h1 h2
    · rw [lσ] at h2; cases h2; exact ok
  · rcases sp i y h1 with ⟨k1, hi⟩ | ⟨rfl, rfl⟩
    · rw [aσ i hi] at e1
      rcases sp j y' h2 with ⟨k2, hj⟩ | ⟨rfl, rfl⟩
      · rw [aσ j hj] at e2; exact R.nd i j y y' a k1 k2 o1 o2 e1 e2
      · rw [lσ] at e2; cases e2; exact absurd e1 (hsl i y k1 o1)
    · rw [lσ] at e1; cases e1
      rcases sp j y' h2 with ⟨k2, hj⟩ | ⟨rfl, _⟩
      · rw [aσ j hj] at e2; exact absurd e2 (hsl j y' k2 o2)
      · rfl
  · obtain ⟨e, y, hy, ho⟩ := R.iok j a h
    have hj := (List.getElem?_eq_some_iff.mp hy).1
    exact ⟨by rw [aσ j hj]; exact e, y, by rw [List.getElem?_append_left hj]; exact hy, ho⟩
  · rcases sp i y h1 with ⟨h1, hi⟩ | ⟨rfl, rfl⟩
    · rw [aσ i hi] at e1; exact R.ow i y a h1 o1 e1
    · rw [lσ] at e1; cases e1; exact .inl h0

/-! ## .. with what is held beside -/
structure Rel (g : G) (T : Tx) (B H : Hp) (σ : L2.St) (s : S) : Prop where
  r : Rel0 g T B H (σ ++ T.τ) (s ++ T.t)
  ln : σ.length = s.length
  iob : ∀ j a, T.io j = some a → j < σ.length
abbrev Fsh (T : Tx) (B H : Hp) (σ : L2.St) (s : S) (p : Addr) (o : HO) : Prop := Fsh0 T B H (σ ++ T.τ) (s ++ T.t) p o
theorem app_some {α : Type} {s t : List α} {i : Nat} {x : α} (h : s[i]? = some x) : (s ++ t)[i]? = some x := by
  rw [List.getElem?_append_left (List.getElem?_eq_some_iff.mp h).1]; exact h
theorem Rel.app (R : Rel g T B H σ s) {i : Nat} {x : Sl} {y : Option V} (h : s[i]? = some x) (h' : (σ ++ T.τ)[i]? = some y) : σ[i]? = some y := by
  have hi := (List.getElem?_eq_some_iff.mp h).1
  rwa [List.getElem?_append_left (by rw [R.ln]; exact hi)] at h'
theorem Rel.bh (R : Rel g T B H σ s) : Ex B H := R.r.bh
theorem Rel.b0 (R : Rel g T B H σ s) : Ex T.B0 B := R.r.b0
theorem Rel.dom (R : Rel g T B H σ s) : ∀ a, T.H0 a ≠ none → H a ≠ none := R.r.dom
theorem Rel.getv (R : Rel g T B H σ s) {i : Nat} {d : D} (h : s[i]? = some (.v d)) : ∃ v, σ[i]? = some (some v) ∧ Den g B d v := by
  obtain ⟨v, e, q⟩ := R.r.getv (app_some h); exact ⟨v, R.app h e, q⟩
theorem Rel.getl (R : Rel g T B H σ s) {i : Nat} {ds : List D} (h : s[i]? = some (.l ds)) : ∃ a vs, σ[i]? = some (some (.ref a)) ∧ B a = none ∧ H a = some (.lst vs) ∧ Dens g B ds vs := by
  obtain ⟨a, vs, e, q⟩ := R.r.getl (app_some h); exact ⟨a, vs, R.app h e, q⟩
theorem Rel.geto (R : Rel g T B H σ s) {i c : Nat} {ds : List D} (h : s[i]? = some (.o c ds)) : ∃ a dx vs, σ[i]? = some (some (.ref a)) ∧ B a = none ∧ H a = some (.ins (g.cn c) dx ((g.names c).zip vs)) ∧ Dens g B ds vs := by
  obtain ⟨a, dx, vs, e, q⟩ := R.r.geto (app_some h); exact ⟨a, dx, vs, R.app h e, q⟩
theorem Rel.grow (R : Rel g T B H σ s) (eB : Ex B B') (eH : Ex H H') (eBH : Ex B' H') (hn : ∀ a, H a ≠ none → B' a = B a) : Rel g T B' H' σ s := ⟨R.r.grow eB eH eBH hn, R.ln, R.iob⟩
theorem Rel.new (R : Rel g T B H σ s) {p : Addr} {o : HO} (hp : H p = none) : Rel g T (upd B p o) (upd H p o) σ s := ⟨R.r.new hp, R.ln, R.iob⟩
theorem Rel.newH (R : Rel g T B H σ s) {p : Addr} {o : HO} (hp : H p = none) : Rel g T B (upd H p o) σ s := ⟨R.r.newH hp, R.ln, R.iob⟩
theorem Rel.h0_of (R : Rel g T B H σ s) {p : Addr} (hp : H p = none) : T.H0 p = none := R.r.h0_of hp
theorem Rel.fsh (R : Rel g T B H σ s) {p : Addr} {o : HO} (hp : H p = none) : Fsh T B (upd H p o) σ s p o := R.r.fsh hp
theorem Rel.freeze (R : Rel g T B H σ s) {p : Addr} {o : HO} (F : Fsh T B H σ s p o) : Rel g T (upd B p o) H σ s := ⟨R.r.freeze F, R.ln, R.iob⟩
theorem set_app {α : Type} {s t : List α} {i : Nat} {x : α} (h : i < s.length) : (s ++ t).set i x = s.set i x ++ t := by
  rw [List.set_append_left _ _ h]
theorem Rel.write (R : Rel g T B H σ s) {i : Nat} {x x' : Sl} {a : Addr} {o : HO} (hs : s[i]? = some x) (hx : x.own = true) (ha : σ[i]? = some (some (.ref a))) (hx' : x'.own = true)
    (new : SlOk g B (upd H a o) x' (some (.ref a))) : Rel g T B (upd H a o) σ (s.set i x') := by
  have hi := (List.getElem?_eq_some_iff.mp hs).1
  have r := R.r.write (app_some hs) hx (app_some ha) hx' new
  rw [set_app hi] at r
  exact ⟨r, by simp [R.ln], R.iob⟩
theorem Rel.wrl (R : Rel g T B H σ s) {i : Nat} {ds es : List D} {a : Addr} {us : List V} (hs : s[i]? = some (.l ds)) (ha : σ[i]? = some (some (.ref a))) (hd : Dens g B es us) : Rel g T B (upd H a (.lst us)) σ (s.set i (.l es)) := by
  obtain ⟨a', _, e, b0, _⟩ := R.getl hs
  rw [ha] at e; cases e
  exact R.write hs rfl ha rfl ⟨a, us, rfl, b0, upd_same, hd⟩
theorem Rel.store (R : Rel g T B H σ s) {i : Nat} {x : Sl} {v : V} (hi : i < s.length) (hio : T.io i = none) (ok : SlOk g B H x (some v))
    (hn : ∀ a, x.own = true → v = .ref a → (∀ (j : Nat) (y : Sl), (s ++ T.t)[j]? = some y → y.own = true → (σ ++ T.τ)[j]? ≠ some (some (.ref a))) ∧ T.H0 a = none) : Rel g T B H (σ.set i (some v)) (s.set i x) := by
  have r := R.r.store hio ok hn
  rw [set_app hi, set_app (by rw [R.ln]; exact hi)] at r
  exact ⟨r, by simp [R.ln], fun j a h => by simpa using R.iob j a h⟩
theorem Rel.storev (R : Rel g T B H σ s) {i : Nat} {d : D} {v : V} (hi : i < s.length) (hio : T.io i = none) (h : Den g B d v) : Rel g T B H (σ.set i (some v)) (s.set i (.v d)) :=
  R.store hi hio ⟨v, rfl, h⟩ fun _ z => by cases z
theorem Rel.storel (R : Rel g T B H σ s) {i : Nat} {ds : List D} {p : Addr} {vs : List V} (hi : i < s.length) (hio : T.io i = none) (F : Fsh T B H σ s p (.lst vs)) (h : Dens g B ds vs) : Rel g T B H (σ.set i (some (.ref p))) (s.set i (.l ds)) :=
  R.store hi hio ⟨p, vs, rfl, F.b, F.at_, h⟩ fun a _ e => by cases e; exact ⟨F.sl, F.h0⟩
theorem Rel.frz (R : Rel g T B H σ s) {i : Nat} {ds : List D} (hs : s[i]? = some (.l ds)) (hio : T.io i = none) : ∃ B', Rel g T B' H σ (s.set i (.v (.lst ds))) ∧ Ex B B' := by
  obtain ⟨B', r, e⟩ := R.r.frz (app_some hs) hio
  rw [set_app (List.getElem?_eq_some_iff.mp hs).1] at r
  exact ⟨B', ⟨r, by simp [R.ln], R.iob⟩, e⟩
theorem Rel.frzo (R : Rel g T B H σ s) {i c : Nat} {ds : List D} (hs : s[i]? = some (.o c ds)) (hio : T.io i = none) : ∃ B', Rel g T B' H σ (s.set i (.v (.obj c ds))) ∧ Ex B B' := by
  obtain ⟨B', r, e⟩ := R.r.frzo (app_some hs) hio
  rw [set_app (List.getElem?_eq_some_iff.mp hs).1] at r
  exact ⟨B', ⟨r, by simp [R.ln], R.iob⟩, e⟩

/-! ## operands -/
inductive Opd where
  | d (x : D) | s (k : Nat)
def OpdOk (g : G) (B : Hp) (σ : L2.St) : Opd → V → Prop
  | .d x, v => Den g B x v
  | .s k, v => σ[k]? = some (some v)
def Sl.d? : Sl → Option D
  | .v d => some d
  | .l ds => some (.lst ds)
  | .o c ds => some (.obj c ds)
  | .no => none
/-- the operand's value where it is used -/
def res : Opd → M D
  | .d x => mret x
  | .s k => fun s => match s[k]? with
    | some (.v d) => .ok d s
    | some (.l ds) => .ok (.lst ds) s
    | some (.o c ds) => .ok (.obj c ds) s
    | _ => .bad
/-- .. as data -/
def strong : Opd → M D
  | .d x => mret x
  | .s k => fun s => match s[k]? with
    | some (.v d) => .ok d s
    | _ => .bad
theorem OpdOk.mono (e : Ex B B') {o : Opd} {v : V} (h : OpdOk g B σ o v) : OpdOk g B' σ o v := by
  cases o with
  | d x => exact Den.mono e h
  | s k => exact h
theorem res_ok (R : Rel g T B H σ s) {o : Opd} {v : V} {d : D} {s' : S} (h : OpdOk g B σ o v) (e : res o s = .ok d s') : s' = s ∧ DenW g B H d v := by
  cases o with
  | d x => cases e; exact ⟨rfl, Den.w R.bh h⟩
  | s k =>
    have h' : σ[k]? = some (some v) := h
    have e' : (match s[k]? with
      | some (.v d) => Out.ok d s
      | some (.l ds) => .ok (.lst ds) s
      | some (.o c ds) => .ok (.obj c ds) s
      | _ => .bad) = .ok d s' := e
    cases q : s[k]? with
    | none => rw [q] at e'; cases e'
    | some x =>
      rw [q] at e'
      cases x with
      | no => cases e'
      | v d0 =>
        cases e'
        obtain ⟨v', e1, d1⟩ := R.getv q
        rw [h'] at e1; cases e1
        exact ⟨rfl, Den.w R.bh d1⟩
      | l ds =>
        cases e'
        obtain ⟨a, vs, e1, _, h1, d1⟩ := R.getl q
        rw [h'] at e1; cases e1
        exact ⟨rfl, a, vs, rfl, h1, d1⟩
      | o c ds =>
        cases e'
        obtain ⟨a, dx, vs, e1, _, h1, d1⟩ := R.geto q
        rw [h'] at e1; cases e1
        exact ⟨rfl, a, dx, vs, rfl, h1, d1⟩
theorem res_cases {o : Opd} {s : S} : (∃ d, res o s = .ok d s) ∨ res o s = .bad := by
  cases o with
  | d x => exact .inl ⟨x, rfl⟩
  | s k =>
    show (∃ d, (match s[k]? with
      | some (.v d) => Out.ok d s
      | some (.l ds) => .ok (.lst ds) s
      | some (.o c ds) => .ok (.obj c ds) s
      | _ => .bad) = .ok d s) ∨ (match s[k]? with
      | some (.v d) => Out.ok d s
      | some (.l ds) => .ok (.lst ds) s
      | some (.o c ds) => .ok (.obj c ds) s
      | _ => .bad) = .bad
    cases q : s[k]? with
    | none => exact .inr rfl
    | some x => cases x <;> first | exact .inl ⟨_, rfl⟩ | exact .inr rfl
theorem strong_ok (R : Rel g T B H σ s) {o : Opd} {v : V} {d : D} {s' : S} (h : OpdOk g B σ o v) (e : strong o s = .ok d s') : s' = s ∧ Den g B d v := by
  cases o with
  | d x => cases e; exact ⟨rfl, h⟩
  | s k =>
    have h' : σ[k]? = some (some v) := h
    have e' : (match s[k]? with
      | some (.v d) => Out.ok d s
      | _ => .bad) = .ok d s' := e
    cases q : s[k]? with
    | none => rw [q] at e'; cases e'
    | some x =>
      rw [q] at e'
      cases x with
      | v d0 =>
        cases e'
        obtain ⟨v', e1, d1⟩ := R.getv q
        rw [h'] at e1; cases e1
        exact ⟨rfl, d1⟩
      | no => cases e'
      | l ds => cases e'
      | o c ds => cases e'
theorem strong_cases {o : Opd} {s : S} : (∃ d, strong o s = .ok d s) ∨ strong o s = .bad := by
  cases o with
  | d x => exact .inl ⟨x, rfl⟩
  | s k =>
    show (∃ d, (match s[k]? with
      | some (.v d) => Out.ok d s
      | _ => .bad) = .ok d s) ∨ (match s[k]? with
      | some (.v d) => Out.ok d s
      | _ => .bad) = .bad
    cases q : s[k]? with
    | none => exact .inr rfl
    | some x => cases x <;> first | exact .inl ⟨_, rfl⟩ | exact .inr rfl
end TW

set_option Elab.async false
set_option linter.all false
set_option autoImplicit false
set_option maxRecDepth 100000
set_option maxHeartbeats 1000000
namespace TW
open PySem PySem.Spec PyProof.Rows L2
variable {g : G} {T : Tx} {B B' H H' : Hp} {σ : L2.St} {s : S}

/-! ## readings -/
abbrev W0 : WX := fun _ _ _ _ => False
/-- an exception's own dict holds its fields -/
def XcOk (g : G) (B : Hp) (x : Option Addr) (c : Nat) (ds : List D) : Prop :=
  ds = [] ∨ ∃ dx fs vs, x = some dx ∧ B dx = some (.xd fs) ∧ Dens g B ds vs ∧ ∀ (j : Nat) (f : Str) (v : V), (g.names c)[j]? = some f → vs[j]? = some v → fs.lookup f = some v
abbrev PP (α β : Type) := L2.St → S → α → Hp → Hp → β → Prop
def PostM (g : G) (T : Tx) (W : WX) {α β : Type} (P : PP α β) (σ : L2.St) (B : Hp) : Out α → (β → Hp → Prop) → Prop
  | .ok a s', Q => ∀ v B' H', Rel g T B' H' σ s' → Ex B B' → P σ s' a B' H' v → Q v H'
  | .ex c ds s', _ => ∀ x B' H', Rel g T B' H' σ s' → Ex B B' → XcOk g B' x c ds → W (.ref (g.cn c)) x σ H'
  | .bad, _ => False
def RdM (g : G) (T : Tx) (W : WX) {α β : Type} (P : PP α β) (f : M α) : L2.St → Hp → (β → Hp → Prop) → Prop :=
  fun σ H Q => ∃ B s, Rel g T B H σ s ∧ PostM g T W P σ B (f s) Q
variable {W : WX} {α β γ δ : Type} {P : PP α β} {P' : PP γ δ}
theorem PostM.base {o : Out α} {Q : β → Hp → Prop} (e : Ex B B') (h : PostM g T W P σ B o Q) : PostM g T W P σ B' o Q := by
  cases o with
  | ok a s' => exact fun v B1 H1 R1 e1 p => h v B1 H1 R1 (e.trans e1) p
  | ex c ds s' => exact fun x B1 H1 R1 e1 p => h x B1 H1 R1 (e.trans e1) p
  | bad => exact h
theorem RdM.mono {f : M α} {Q Q' : β → Hp → Prop} (h : RdM g T W P f σ H Q) (hq : ∀ v H', Q v H' → Q' v H') : RdM g T W P f σ H Q' := by
  obtain ⟨B, s, R, p⟩ := h
  refine ⟨B, s, R, ?_⟩
  cases e : f s with
  | ok a s' => rw [e] at p; exact fun v B1 H1 R1 e1 q => hq _ _ (p v B1 H1 R1 e1 q)
  | ex c ds s' => rw [e] at p; exact p
  | bad => rw [e] at p; exact p
theorem PostM.bind {fa : M α} {k : α → M γ} {Q : δ → Hp → Prop} (R : Rel g T B H σ s) (h : PostM g T W P' σ B (mbind fa k s) Q) :
    RdM g T W P fa σ H fun v H1 => ∃ a B1 s1, Rel g T B1 H1 σ s1 ∧ Ex B B1 ∧ P σ s1 a B1 H1 v ∧ PostM g T W P' σ B1 (k a s1) Q := by
  refine ⟨B, s, R, ?_⟩
  unfold mbind at h
  cases e : fa s with
  | ok a s' =>
    rw [e] at h
    exact fun v B1 H1 R1 e1 p => ⟨a, B1, s', R1, e1, p, PostM.base e1 h⟩
  | ex c ds s' => rw [e] at h; exact h
  | bad => rw [e] at h; exact h

/-! ## judgements -/
inductive Rv where
  | v (d : D) | l (ds : List D) | o (c : Nat) (ds : List D)
def RvOk (g : G) (T : Tx) : PP Rv V := fun σ s r B H v => match r with
  | .v d => Den g B d v
  | .l ds => ∃ p vs, v = .ref p ∧ Fsh T B H σ s p (.lst vs) ∧ Dens g B ds vs
  | .o c ds => ∃ p dx vs, v = .ref p ∧ Fsh T B H σ s p (.ins (g.cn c) dx ((g.names c).zip vs)) ∧ Dens g B ds vs
abbrev PD (g : G) : PP D V := fun _ _ d B _ v => Den g B d v
abbrev PO' (g : G) : PP Opd V := fun σ _ o B _ v => OpdOk g B σ o v
abbrev PB : PP Bool Bool := fun _ _ b _ _ b' => b' = b
def PAs (g : G) : PP (List Opd) (List V) := fun σ _ os B _ vs => os.length = vs.length ∧ ∀ (i : Nat) (o : Opd) (v : V), os[i]? = some o → vs[i]? = some v → OpdOk g B σ o v
def JE (X : Cx) (g : G) (T : Tx) (W : WX) (e : Expr) (f : M D) : Prop := ∀ τ t, PE X e (RdM g (T.tmp τ t) W (PD g) f)
def JO (X : Cx) (g : G) (T : Tx) (W : WX) (e : Expr) (f : M Opd) : Prop := ∀ τ t, PE X e (RdM g (T.tmp τ t) W (PO' g) f)
def JR (X : Cx) (g : G) (T : Tx) (W : WX) (e : Expr) (f : M Rv) : Prop := ∀ τ t, PE X e (RdM g (T.tmp τ t) W (RvOk g (T.tmp τ t)) f)
def JT (X : Cx) (g : G) (T : Tx) (W : WX) (e : Expr) (f : M Bool) : Prop := ∀ τ t, PT X e (RdM g (T.tmp τ t) W PB f)
def JW (X : Cx) (g : G) (T : Tx) (W : WX) (e : Expr) (f : M Bool) : Prop := ∀ τ t, PW X e (RdM g (T.tmp τ t) W PB f)
def JA (X : Cx) (g : G) (T : Tx) (W : WX) (es : List Expr) (f : M (List Opd)) : Prop := ∀ τ t, PA X es (RdM g (T.tmp τ t) W (PAs g) f)
theorem PE.imp {X : Cx} {e : Expr} {t t' : TE} (h : PE X e t) (hi : ∀ σ H Q, t' σ H Q → t σ H Q) : PE X e t' := ⟨fun pins s σ H Q I q => h.run pins s σ H Q I (hi _ _ _ q)⟩
theorem PT.imp {X : Cx} {e : Expr} {t t' : TT} (h : PT X e t) (hi : ∀ σ H Q, t' σ H Q → t σ H Q) : PT X e t' := ⟨fun pins s σ H Q I q => h.run pins s σ H Q I (hi _ _ _ q)⟩
theorem PW.imp {X : Cx} {e : Expr} {t t' : TT} (h : PW X e t) (hi : ∀ σ H Q, t' σ H Q → t σ H Q) : PW X e t' := ⟨fun wh pins s σ H Q I q => h.run wh pins s σ H Q I (hi _ _ _ q)⟩
theorem PA.imp {X : Cx} {es : List Expr} {t t' : TA} (h : PA X es t) (hi : ∀ σ H Q, t' σ H Q → t σ H Q) : PA X es t' := ⟨fun pos pins s σ H Q I q => h.run pos pins s σ H Q I (hi _ _ _ q)⟩

variable {X : Cx} {e a b c : Expr} {es rest : List Expr} {pos : Pos}
/-! ### from one to another -/
theorem jo_of {f : M D} (h : JE X g T W e f) : JO X g T W e (mbind f fun d => mret (.d d)) := fun τ t => PE.imp (h τ t) fun σ H Q ⟨B, s, R, p⟩ =>
  (PostM.bind (P := PD g) R p).mono fun v H1 ⟨d, B1, s1, R1, e1, q, p1⟩ => p1 v B1 H1 R1 (Evl.Ex.refl _) q
theorem je_of {f : M Opd} (h : JO X g T W e f) : JE X g T W e (mbind f strong) := fun τ t => PE.imp (h τ t) fun σ H Q ⟨B, s, R, p⟩ =>
  (PostM.bind (P := PO' g) R p).mono fun v H1 ⟨o, B1, s1, R1, e1, q, p1⟩ => by
    rcases strong_cases (o := o) (s := s1) with ⟨d, q1⟩ | q1
    · rw [q1] at p1; exact p1 v B1 H1 R1 (Evl.Ex.refl _) (strong_ok R1 q q1).2
    · rw [q1] at p1; exact p1.elim
def Rv.d : Rv → D
  | .v d => d
  | .l ds => .lst ds
  | .o c ds => .obj c ds
theorem rv_frz {r : Rv} {v : V} (R : Rel g T B H σ s) (h : RvOk g T σ s r B H v) : ∃ B', Rel g T B' H σ s ∧ Ex B B' ∧ Den g B' r.d v := by
  cases r with
  | v d => exact ⟨B, R, Evl.Ex.refl B, h⟩
  | l ds =>
    obtain ⟨p, vs, rfl, F, hd⟩ := h
    exact ⟨_, R.freeze F, Evl.Ex.new F.b, p, vs, rfl, upd_same, hd.mono (Evl.Ex.new F.b)⟩
  | o c ds =>
    obtain ⟨p, dx, vs, rfl, F, hd⟩ := h
    exact ⟨_, R.freeze F, Evl.Ex.new F.b, p, dx, vs, rfl, upd_same, hd.mono (Evl.Ex.new F.b)⟩
theorem je_rv {f : M Rv} (h : JR X g T W e f) : JE X g T W e (mbind f fun r => mret r.d) := fun τ t => PE.imp (h τ t) fun σ H Q ⟨B, s, R, p⟩ =>
  (PostM.bind (P := RvOk g (T.tmp τ t)) R p).mono fun v H1 ⟨r, B1, s1, R1, e1, q, p1⟩ => by
    obtain ⟨B2, R2, e2, q2⟩ := rv_frz R1 q
    exact p1 v B2 H1 R2 e2 q2
theorem jr_of {f : M D} (h : JE X g T W e f) : JR X g T W e (mbind f fun d => mret (.v d)) := fun τ t => PE.imp (h τ t) fun σ H Q ⟨B, s, R, p⟩ =>
  (PostM.bind (P := PD g) R p).mono fun v H1 ⟨d, B1, s1, R1, e1, q, p1⟩ => p1 v B1 H1 R1 (Evl.Ex.refl _) q
/-! ### names, constants -/
def mvar (i : Nat) : M Opd := fun s => match s[i]? with
  | some .no => .bad
  | some _ => .ok (.s i) s
  | none => .bad
theorem jo_var {i : Nat} (h : PE X e (tVar i)) : JO X g T W e (mvar i) := fun τ t => PE.imp h fun σ H Q ⟨B, s, R, p⟩ => by
  unfold mvar at p
  cases q : s[i]? with
  | none => rw [q] at p; exact p.elim
  | some x =>
    rw [q] at p
    have key : ∀ v, σ[i]? = some (some v) → PostM g (T.tmp τ t) W (PO' g) σ B (.ok (.s i) s) Q → tVar i σ H Q := fun v hv p => ⟨v, hv, p v B H R (Evl.Ex.refl _) hv⟩
    cases x with
    | no => exact p.elim
    | v d => obtain ⟨v, hv, _⟩ := R.getv q; exact key v hv p
    | l ds => obtain ⟨a, vs, hv, _⟩ := R.getl q; exact key _ hv p
    | o c ds => obtain ⟨a, dx, vs, hv, _⟩ := R.geto q; exact key _ hv p
theorem je_c {v : V} {d : D} (h : PE X e (tC v)) (hd : ∀ B, Den g B d v) : JE X g T W e (mret d) := fun τ t => PE.imp h fun σ H Q ⟨B, s, R, p⟩ => p v B H R (Evl.Ex.refl _) (hd B)
theorem je_int {i : Int} {j} : JE X g T W (.Constant (.int i) j pos) (mret (.int i)) := je_c pe_int fun _ => rfl
theorem je_bl {b : Bool} {j} : JE X g T W (.Constant (.bool b) j pos) (mret (.bl b)) := je_c pe_bl fun _ => rfl
theorem je_non {j} : JE X g T W (.Constant .none j pos) (mret .non) := je_c pe_non fun _ => rfl
theorem je_str {x : Str} {j} : JE X g T W (.Constant (.str x) j pos) (mret (.str x)) := je_c pe_str fun _ => rfl
/-! ### two operands -/
def mbin (f : D → D → Option D) (fa fb : M Opd) : M D := mbind fa fun oa => mbind fb fun ob => mbind (res oa) fun x => mbind (res ob) fun y => mopt (f x y)
def OpD (X : Cx) (g : G) (f : Value → Value → Sem Value) (g2 : D → D → Option D) : Prop :=
  ∃ r : R2, OpR X f r ∧ ∀ (T : Tx) (B H : Hp) (σ : L2.St) (s : S) (x y : V) (dx dy d : D) (Q : VK), Rel g T B H σ s → DenW g B H dx x → DenW g B H dy y → g2 dx dy = some d →
    (∀ v B' H', Rel g T B' H' σ s → Ex B B' → Den g B' d v → Q v H') → r x y H Q
theorem bin_rd {r : R2} {f : D → D → Option D} {fa fb : M Opd} {Q : VK} (hr : ∀ (T : Tx) (B H : Hp) (σ : L2.St) (s : S) (x y : V) (dx dy d : D) (Q : VK), Rel g T B H σ s → DenW g B H dx x → DenW g B H dy y → f dx dy = some d →
    (∀ v B' H', Rel g T B' H' σ s → Ex B B' → Den g B' d v → Q v H') → r x y H Q) (h : RdM g T W (PD g) (mbin f fa fb) σ H Q) : tOp r (RdM g T W (PO' g) fa) (RdM g T W (PO' g) fb) σ H Q := by
  obtain ⟨B, s, R, p⟩ := h
  refine (PostM.bind (P := PO' g) R p).mono fun x H1 ⟨oa, B1, s1, R1, e1, q1, p1⟩ => ?_
  refine (PostM.bind (P := PO' g) R1 p1).mono fun y H2 ⟨ob, B2, s2, R2, e2, q2, p2⟩ => ?_
  rcases res_cases (o := oa) (s := s2) with ⟨dx, w1⟩ | w1
  · rcases res_cases (o := ob) (s := s2) with ⟨dy, w2⟩ | w2
    · have p2' : PostM g T W (PD g) σ B2 (mopt (f dx dy) s2) Q := by
        have z : mbind (res oa) (fun x => mbind (res ob) fun y => mopt (f x y)) s2 = mopt (f dx dy) s2 := by unfold mbind; rw [w1]; dsimp only; rw [w2]
        rw [z] at p2; exact p2
      cases ef : f dx dy with
      | none => rw [ef] at p2'; exact p2'.elim
      | some d =>
        rw [ef] at p2'
        exact hr T B2 H2 σ s2 x y dx dy d Q R2 (res_ok R2 (q1.mono e2) w1).2 (res_ok R2 q2 w2).2 ef fun v B' H' R' e' hd => p2' v B' H' R' e' hd
    · exfalso
      have z : mbind (res oa) (fun x => mbind (res ob) fun y => mopt (f x y)) s2 = .bad := by unfold mbind; rw [w1]; dsimp only; rw [w2]
      rw [z] at p2; exact p2
  · exfalso
    have z : mbind (res oa) (fun x => mbind (res ob) fun y => mopt (f x y)) s2 = .bad := by unfold mbind; rw [w1]
    rw [z] at p2; exact p2
theorem je_bin {op : Operator} {f : D → D → Option D} {fa fb : M Opd} (ho : OpD X g (binaryOp op) f) (ha : JO X g T W a fa) (hb : JO X g T W b fb) : JE X g T W (.BinOp a op b pos) (mbin f fa fb) := by
  obtain ⟨r, h1, h2⟩ := ho
  exact fun τ t => PE.imp (pe_op h1 (ha τ t) (hb τ t)) fun σ H Q h => bin_rd h2 h
theorem je_cmp {op : CmpOp} {f : D → D → Option D} {fa fb : M Opd} (ho : OpD X g (compareOp op) f) (ha : JO X g T W a fa) (hb : JO X g T W b fb) (hm : behindInMarks op b = false) : JE X g T W (.Compare a [op] [b] pos) (mbin f fa fb) := by
  obtain ⟨r, h1, h2⟩ := ho
  exact fun τ t => PE.imp (pe_cmpR h1 (ha τ t) (hb τ t) hm) fun σ H Q h => bin_rd h2 h
/-- a value's truth as a test of a bool -/
def tob : D → M Bool
  | .bl b => mret b
  | _ => mbad
theorem tob_rd {te : TE} {f : M D} {Q : Bool → Hp → Prop} (ht : ∀ Q, RdM g T W (PD g) f σ H Q → te σ H Q) (h : RdM g T W PB (mbind f tob) σ H Q) : tTest te σ H Q := by
  refine ht _ ?_
  obtain ⟨B, s, R, p⟩ := h
  refine (PostM.bind (P := PD g) R p).mono fun v H1 ⟨d, B1, s1, R1, e1, q, p1⟩ => ?_
  cases d with
  | bl b => exact ⟨b, q, p1 b B1 H1 R1 (Evl.Ex.refl _) rfl⟩
  | _ => exact p1.elim
theorem jt_cmp {op : CmpOp} {f : D → D → Option D} {fa fb : M Opd} (ho : OpD X g (compareOp op) f) (ha : JO X g T W a fa) (hb : JO X g T W b fb) (hm : behindInMarks op b = false) : JT X g T W (.Compare a [op] [b] pos) (mbind (mbin f fa fb) tob) := by
  obtain ⟨r, h1, h2⟩ := ho
  exact fun τ t => PT.imp (pt_cmpR h1 (ha τ t) (hb τ t) hm) fun σ H Q h => tob_rd (fun Q h => bin_rd h2 h) h
/-! ### and, or, not, if -/
theorem mbind_ok {fa : M α} {k : α → M γ} {a' : α} {s s' : S} (h : fa s = .ok a' s') : mbind fa k s = k a' s' := by unfold mbind; rw [h]
def mif {α : Type} (t : M Bool) (fa fb : M α) : M α := mbind t fun c => if c = true then fa else fb
theorem jt_not {f : M Bool} (h : JT X g T W a f) : JT X g T W (.UnaryOp .Not a pos) (mbind f fun b => mret (!b)) := fun τ t => PT.imp (pt_not (h τ t)) fun σ H Q ⟨B, s, R, p⟩ =>
  (PostM.bind (P := PB) R p).mono fun v H1 ⟨d, B1, s1, R1, e1, q, p1⟩ => p1 (!v) B1 H1 R1 (Evl.Ex.refl _) (by subst q; rfl)
theorem jw_and1 {f : M Bool} (h : JT X g T W a f) : JW X g T W (.BoolOp .And [a] pos) f := fun τ t => pw_and1 (h τ t)
theorem jw_or1 {f : M Bool} (h : JT X g T W a f) : JW X g T W (.BoolOp .Or [a] pos) f := fun τ t => pw_or1 (h τ t)
theorem jw_and {fa fb : M Bool} (ha : JT X g T W a fa) (hb : JW X g T W (.BoolOp .And (b :: rest) pos) fb) : JW X g T W (.BoolOp .And (a :: b :: rest) pos) (mif fa fb (mret false)) := fun τ t => PW.imp (pw_and (ha τ t) (hb τ t)) fun σ H Q ⟨B, s, R, p⟩ =>
  (PostM.bind (P := PB) R p).mono fun v H1 ⟨d, B1, s1, R1, e1, q, p1⟩ => by
    subst q
    cases v with
    | true => exact ⟨B1, s1, R1, p1⟩
    | false => exact p1 false B1 H1 R1 (Evl.Ex.refl _) rfl
theorem jw_or {fa fb : M Bool} (ha : JT X g T W a fa) (hb : JW X g T W (.BoolOp .Or (b :: rest) pos) fb) : JW X g T W (.BoolOp .Or (a :: b :: rest) pos) (mif fa (mret true) fb) := fun τ t => PW.imp (pw_or (ha τ t) (hb τ t)) fun σ H Q ⟨B, s, R, p⟩ =>
  (PostM.bind (P := PB) R p).mono fun v H1 ⟨d, B1, s1, R1, e1, q, p1⟩ => by
    subst q
    cases v with
    | true => exact p1 true B1 H1 R1 (Evl.Ex.refl _) rfl
    | false => exact ⟨B1, s1, R1, p1⟩
theorem jt_w {f : M Bool} (h : JW X g T W e f) : JT X g T W e f := fun τ t => PW.pt (h τ t)
/-- .. as values -/
def mandV (fa fb : M D) : M D := mbind fa fun x => match x with
  | .bl c => if c = true then fb else mret (.bl false)
  | _ => mbad
def morV (fa fb : M D) : M D := mbind fa fun x => match x with
  | .bl c => if c = true then mret (.bl true) else fb
  | _ => mbad
theorem je_one {op} {f : M D} (h : JE X g T W a f) : JE X g T W (.BoolOp op [a] pos) f := fun τ t => pe_one (h τ t)
theorem je_and {fa fb : M D} (ha : JE X g T W a fa) (hb : JE X g T W (.BoolOp .And (b :: rest) pos) fb) : JE X g T W (.BoolOp .And (a :: b :: rest) pos) (mandV fa fb) := fun τ t => PE.imp (pe_and (ha τ t) (hb τ t)) fun σ H Q ⟨B, s, R, p⟩ =>
  (PostM.bind (P := PD g) R p).mono fun v H1 ⟨d, B1, s1, R1, e1, q, p1⟩ => by
    cases d with
    | bl c =>
      refine ⟨c, q, ?_⟩
      cases c with
      | true => exact ⟨B1, s1, R1, p1⟩
      | false => exact p1 _ B1 H1 R1 (Evl.Ex.refl _) rfl
    | _ => exact p1.elim
theorem je_or {fa fb : M D} (ha : JE X g T W a fa) (hb : JE X g T W (.BoolOp .Or (b :: rest) pos) fb) : JE X g T W (.BoolOp .Or (a :: b :: rest) pos) (morV fa fb) := fun τ t => PE.imp (pe_or (ha τ t) (hb τ t)) fun σ H Q ⟨B, s, R, p⟩ =>
  (PostM.bind (P := PD g) R p).mono fun v H1 ⟨d, B1, s1, R1, e1, q, p1⟩ => by
    cases d with
    | bl c =>
      refine ⟨c, q, ?_⟩
      cases c with
      | true => exact p1 _ B1 H1 R1 (Evl.Ex.refl _) rfl
      | false => exact ⟨B1, s1, R1, p1⟩
    | _ => exact p1.elim
def mnotV (fa : M D) : M D := mbind fa fun x => match x with
  | .bl c => mret (.bl (!c))
  | _ => mbad
theorem je_not {fa : M D} (ha : JE X g T W a fa) : JE X g T W (.UnaryOp .Not a pos) (mnotV fa) := fun τ t => PE.imp (pe_not (ha τ t)) fun σ H Q ⟨B, s, R, p⟩ =>
  (PostM.bind (P := PD g) R p).mono fun v H1 ⟨d, B1, s1, R1, e1, q, p1⟩ => by
    cases d with
    | bl c => exact ⟨c, q, p1 _ B1 H1 R1 (Evl.Ex.refl _) rfl⟩
    | _ => exact p1.elim
theorem je_if {ft : M Bool} {fa fb : M D} (hc : JT X g T W c ft) (ha : JE X g T W a fa) (hb : JE X g T W b fb) : JE X g T W (.IfExp c a b pos) (mif ft fa fb) := fun τ t => PE.imp (pe_ifExp (hc τ t) (ha τ t) (hb τ t)) fun σ H Q ⟨B, s, R, p⟩ =>
  (PostM.bind (P := PB) R p).mono fun v H1 ⟨d, B1, s1, R1, e1, q, p1⟩ => by
    subst q
    cases v with
    | true => exact ⟨B1, s1, R1, p1⟩
    | false => exact ⟨B1, s1, R1, p1⟩
/-- any value's truth -/
def truD : D → Option Bool
  | .non => some false
  | .bl b => some b
  | .int i => some (i != 0)
  | .str y => if y.length ≤ 100000 then some (y.length != 0) else none
  | .tup ds => some (!ds.isEmpty)
  | .lst ds => some (!ds.isEmpty)
  | .arg ds => some (!ds.isEmpty)
  | .obj _ _ => none
  | .exc _ _ _ _ => none
  | .dct => none
theorem isEmpty_dens {ds : List D} {vs : List V} (h : Dens g B ds vs) : vs.isEmpty = ds.isEmpty := by
  have := h.length
  cases ds <;> cases vs <;> simp at this ⊢
theorem tru_den {d : D} {v : V} {k : Bool} (eB : Ex B H) (h : DenW g B H d v) (e : truD d = some k) : TruV g.K v H k := by
  cases d with
  | non => cases h; cases e; rfl
  | bl b => cases h; cases e; rfl
  | int i => cases h; cases e; rfl
  | str y =>
    cases h
    have e' : (if y.length ≤ 100000 then some (y.length != 0) else none) = some k := e
    by_cases hy : y.length ≤ 100000
    · rw [if_pos hy] at e'
      cases e'
      refine ⟨Evl.sz_of hy, ?_⟩
      rw [Bool.eq_iff_iff]; simp
    · rw [if_neg hy] at e'
      cases e'
  | tup ds => obtain ⟨a, vs, rfl, h1, h2⟩ := h; cases e; exact .inr (.inl ⟨vs, Evl.ex_t eB h1, by rw [isEmpty_dens h2]⟩)
  | lst ds => obtain ⟨a, vs, rfl, h1, h2⟩ := h; cases e; exact .inl ⟨vs, .inl (.inl h1), by rw [isEmpty_dens h2]⟩
  | arg ds => obtain ⟨a, vs, rfl, h1, h2⟩ := h; cases e; exact .inl ⟨vs, Evl.ex_l eB h1, by rw [isEmpty_dens h2]⟩
  | obj c ds => cases e
  | exc a x c ds => cases e
  | dct => cases e
theorem jt_tru {f : M Opd} (hK : X.K = g.K) (ha : JO X g T W a f) (he : ∀ whole, isTrue a X.env whole = (do let v ← whole; standAt a.pos; holding [v] (truthy v))) : JT X g T W a (mbind f fun o => mbind (res o) fun d => mopt (truD d)) :=
  fun τ t => PT.imp (pt_truth (ha τ t) he) fun σ H Q ⟨B, s, R, p⟩ =>
  (PostM.bind (P := PO' g) R p).mono fun v H1 ⟨o, B1, s1, R1, e1, q, p1⟩ => by
    rcases res_cases (o := o) (s := s1) with ⟨d, w⟩ | w
    · rw [mbind_ok w] at p1
      cases ek : truD d with
      | none => rw [ek] at p1; exact p1.elim
      | some k =>
        rw [ek] at p1
        refine ⟨k, ?_, p1 k B1 H1 R1 (Evl.Ex.refl _) rfl⟩
        rw [hK]
        exact tru_den R1.bh (res_ok R1 q w).2 ek
    · exfalso
      have z : mbind (res o) (fun d => mopt (truD d)) s1 = .bad := by unfold mbind; rw [w]
      rw [z] at p1; exact p1
end TW

set_option Elab.async false
set_option linter.all false
set_option autoImplicit false
set_option maxRecDepth 100000
set_option maxHeartbeats 1000000
namespace TW
open PySem PySem.Spec PyProof.Rows L2
variable {g : G} {T : Tx} {B B' H H' : Hp} {σ : L2.St} {s : S} {W : WX} {α β γ δ : Type} {P : PP α β}

/-! ## statements -/
inductive OutS where
  | nx (s : S) | rt (r : Rv) (s : S) | bk (s : S) | ct (s : S) | ex (c : Nat) (ds : List D) (s : S) | bad
abbrev MS := S → OutS
def PostS (g : G) (T : Tx) (W : WX) (B : Hp) : OutS → Ends → Prop
  | .nx s', D => ∀ σ' B' H', Rel g T B' H' σ' s' → Ex B B' → D.nx σ' H'
  | .bk s', D => ∀ σ' B' H', Rel g T B' H' σ' s' → Ex B B' → D.bk σ' H'
  | .ct s', D => ∀ σ' B' H', Rel g T B' H' σ' s' → Ex B B' → D.ct σ' H'
  | .rt r s', D => ∀ v σ' B' H', Rel g T B' H' σ' s' → Ex B B' → RvOk g T σ' s' r B' H' v → D.rt v H'
  | .ex c ds s', _ => ∀ x σ' B' H', Rel g T B' H' σ' s' → Ex B B' → XcOk g B' x c ds → W (.ref (g.cn c)) x σ' H'
  | .bad, _ => False
def RdS (g : G) (T : Tx) (W : WX) (f : MS) : TS := fun D σ H => ∃ B s, Rel g T B H σ s ∧ PostS g T W B (f s) D
def JS (X : Cx) (g : G) (T : Tx) (W : WX) (st : Stmt) (f : MS) : Prop := PS X st (RdS g T W f)
def JSs (X : Cx) (g : G) (T : Tx) (W : WX) (st : List Stmt) (f : MS) : Prop := PSs X st (RdS g T W f)
theorem PS.imp {X : Cx} {st : Stmt} {t t' : TS} (h : PS X st t) (hi : ∀ D σ H, t' D σ H → t D σ H) : PS X st t' := ⟨fun pins s σ H D I q => h.run pins s σ H D I (hi _ _ _ q)⟩
theorem PSs.imp {X : Cx} {st : List Stmt} {t t' : TS} (h : PSs X st t) (hi : ∀ D σ H, t' D σ H → t D σ H) : PSs X st t' := ⟨fun pins s σ H D I q => h.run pins s σ H D I (hi _ _ _ q)⟩
theorem PostS.base {o : OutS} {D : Ends} (e : Ex B B') (h : PostS g T W B o D) : PostS g T W B' o D := by
  cases o with
  | nx s' => exact fun σ' B1 H1 R1 e1 => h σ' B1 H1 R1 (e.trans e1)
  | bk s' => exact fun σ' B1 H1 R1 e1 => h σ' B1 H1 R1 (e.trans e1)
  | ct s' => exact fun σ' B1 H1 R1 e1 => h σ' B1 H1 R1 (e.trans e1)
  | rt r s' => exact fun v σ' B1 H1 R1 e1 p => h v σ' B1 H1 R1 (e.trans e1) p
  | ex c ds s' => exact fun x σ' B1 H1 R1 e1 p => h x σ' B1 H1 R1 (e.trans e1) p
  | bad => exact h
def mseq (f k : MS) : MS := fun s => match f s with
  | .nx s' => k s'
  | o => o
def ms {α : Type} (f : M α) (k : α → MS) : MS := fun s => match f s with
  | .ok a s' => k a s'
  | .ex c ds s' => .ex c ds s'
  | .bad => .bad
theorem PostS.bind {fa : M α} {k : α → MS} {D : Ends} (R : Rel g T B H σ s) (h : PostS g T W B (ms fa k s) D) :
    RdM g T W P fa σ H fun v H1 => ∃ a B1 s1, Rel g T B1 H1 σ s1 ∧ Ex B B1 ∧ P σ s1 a B1 H1 v ∧ PostS g T W B1 (k a s1) D := by
  refine ⟨B, s, R, ?_⟩
  unfold ms at h
  cases e : fa s with
  | ok a s' =>
    rw [e] at h
    exact fun v B1 H1 R1 e1 p => ⟨a, B1, s', R1, e1, p, PostS.base e1 h⟩
  | ex c ds s' => rw [e] at h; exact fun x B1 H1 R1 e1 p => h x σ B1 H1 R1 e1 p
  | bad => rw [e] at h; exact h
variable {X : Cx} {e a b c : Expr} {st : Stmt} {sts rest : List Stmt} {pos : Pos}
theorem jss_nil : JSs X g T W [] (fun s => .nx s) := PSs.imp pss_nil fun D σ H ⟨B, s, R, p⟩ => p σ B H R (Evl.Ex.refl _)
theorem jss_one {f : MS} (h : JS X g T W st f) : JSs X g T W [st] f := pss_one h
theorem jss_cons {f k : MS} (h : JS X g T W st f) (hr : JSs X g T W rest k) : JSs X g T W (st :: rest) (mseq f k) := PSs.imp (pss_cons h hr) fun D σ H ⟨B, s, R, p⟩ => by
  refine ⟨B, s, R, ?_⟩
  unfold mseq at p
  cases e : f s with
  | nx s' => rw [e] at p; exact fun σ' B' H' R' e' => ⟨B', s', R', PostS.base e' p⟩
  | bk s' => rw [e] at p; exact p
  | ct s' => rw [e] at p; exact p
  | rt r s' => rw [e] at p; exact p
  | ex c ds s' => rw [e] at p; exact p
  | bad => rw [e] at p; exact p
theorem js_pass : JS X g T W (.Pass pos) (fun s => .nx s) := PS.imp ps_pass fun D σ H ⟨B, s, R, p⟩ => p σ B H R (Evl.Ex.refl _)
theorem js_break : JS X g T W (.Break pos) (fun s => .bk s) := PS.imp ps_break fun D σ H ⟨B, s, R, p⟩ => p σ B H R (Evl.Ex.refl _)
theorem js_continue : JS X g T W (.Continue pos) (fun s => .ct s) := PS.imp ps_continue fun D σ H ⟨B, s, R, p⟩ => p σ B H R (Evl.Ex.refl _)
theorem js_doc {x j pos'} : JS X g T W (.Expr (.Constant (.str x) j pos) pos') (fun s => .nx s) := PS.imp ps_doc fun D σ H ⟨B, s, R, p⟩ => p σ B H R (Evl.Ex.refl _)
def Rv.sl : Rv → Sl
  | .v d => .v d
  | .l ds => .l ds
  | .o c ds => .o c ds
/-- a name that is no parameter; a parameter that is no list of the caller's -/
def stSet (i : Nat) (x : Sl) : MS := fun s => if i < s.length then .nx (s.set i x) else .bad
def stSetP (i : Nat) (x : Sl) : MS := fun s => match s[i]? with
  | some (.v _) => .nx (s.set i x)
  | _ => .bad
theorem Rel.stored (R : Rel g T B H σ s) {i : Nat} {r : Rv} {v : V} (hi : i < s.length) (hio : T.io i = none) (h : RvOk g T σ s r B H v) : Rel g T B H (σ.set i (some v)) (s.set i r.sl) := by
  cases r with
  | v d => exact R.storev hi hio h
  | l ds => obtain ⟨p, vs, rfl, F, hd⟩ := h; exact R.storel hi hio F hd
  | o c ds =>
    obtain ⟨p, dx, vs, rfl, F, hd⟩ := h
    exact R.store hi hio ⟨p, dx, vs, rfl, F.b, F.at_, hd⟩ fun a _ e => by cases e; exact ⟨F.sl, F.h0⟩
theorem js_set {i : Nat} {f : M Rv} (hps : ∀ te, PE X e te → PS X st (tAsg te (gName i))) (hio : T.io i = none) (he : JR X g T W e f) : JS X g T W st (ms f fun r => stSet i r.sl) :=
  PS.imp (hps _ (he T.τ T.t)) fun D σ H ⟨B, s, R, p⟩ => (PostS.bind (P := RvOk g T) R p).mono fun v H1 ⟨r, B1, s1, R1, e1, q, p1⟩ => by
    unfold stSet at p1
    by_cases hi : i < s1.length
    · rw [if_pos hi] at p1; exact p1 _ B1 H1 (R1.stored hi hio q) (Evl.Ex.refl _)
    · rw [if_neg hi] at p1; exact p1.elim
theorem js_setP {i : Nat} {f : M Rv} (hps : ∀ te, PE X e te → PS X st (tAsg te (gName i))) (he : JR X g T W e f) : JS X g T W st (ms f fun r => stSetP i r.sl) :=
  PS.imp (hps _ (he T.τ T.t)) fun D σ H ⟨B, s, R, p⟩ => (PostS.bind (P := RvOk g T) R p).mono fun v H1 ⟨r, B1, s1, R1, e1, q, p1⟩ => by
    unfold stSetP at p1
    cases hs : s1[i]? with
    | none => rw [hs] at p1; exact p1.elim
    | some x =>
      rw [hs] at p1
      cases x with
      | v d =>
        have hi := (List.getElem?_eq_some_iff.mp hs).1
        have hio : T.io i = none := by
          cases ei : T.io i with
          | none => rfl
          | some a =>
            obtain ⟨_, x, hx, ho⟩ := R1.r.iok i a ei
            rw [app_some hs] at hx; cases hx; cases ho
        exact p1 _ B1 H1 (R1.stored hi hio q) (Evl.Ex.refl _)
      | _ => exact p1.elim
theorem js_ret {f : M Rv} (he : JR X g T W e f) : JS X g T W (.Return (some e) pos) (ms f fun r s => .rt r s) :=
  PS.imp (ps_ret (he T.τ T.t)) fun D σ H ⟨B, s, R, p⟩ => (PostS.bind (P := RvOk g T) R p).mono fun v H1 ⟨r, B1, s1, R1, e1, q, p1⟩ => p1 v σ B1 H1 R1 (Evl.Ex.refl _) q
theorem js_retN : JS X g T W (.Return none pos) (fun s => .rt (.v .non) s) := PS.imp ps_retN fun D σ H ⟨B, s, R, p⟩ => p .non σ B H R (Evl.Ex.refl _) rfl
theorem js_expr {f : M D} (he : JE X g T W e f) (hs : swapsWith e none pos.line X.env = pure false) : JS X g T W (.Expr e pos) (ms f fun _ s => .nx s) :=
  PS.imp (ps_expr (he T.τ T.t) hs) fun D σ H ⟨B, s, R, p⟩ => (PostS.bind (P := PD g) R p).mono fun v H1 ⟨r, B1, s1, R1, e1, q, p1⟩ => p1 σ B1 H1 R1 (Evl.Ex.refl _)
def mcond (t : M Bool) (f k : MS) : MS := ms t fun c => if c = true then f else k
theorem js_if {ft : M Bool} {f k : MS} {l1 l2 : List Stmt} (hc : JT X g T W c ft) (h1 : JSs X g T W l1 f) (h2 : JSs X g T W l2 k) : JS X g T W (.If c l1 l2 pos) (mcond ft f k) :=
  PS.imp (ps_if (hc T.τ T.t) h1 h2) fun D σ H ⟨B, s, R, p⟩ => (PostS.bind (P := PB) R p).mono fun v H1 ⟨r, B1, s1, R1, e1, q, p1⟩ => by
    subst q
    cases v with
    | true => exact ⟨B1, s1, R1, p1⟩
    | false => exact ⟨B1, s1, R1, p1⟩

/-! ## defs -/
inductive OutF where
  | ret (r : Rv) (post : List Sl) | ex (c : Nat) (ds : List D) (post : List Sl) | bad
abbrev Fd := List Sl → OutF
structure ArgsOk (g : G) (B H : Hp) (as : List Sl) (vs : List V) : Prop where
  len : as.length = vs.length
  ok : ∀ (i : Nat) (x : Sl) (v : V), as[i]? = some x → vs[i]? = some v → SlOk g B H x (some v)
  nd : ∀ (i j : Nat) (x y : Sl) (a : Addr), as[i]? = some x → as[j]? = some y → x.own = true → y.own = true → vs[i]? = some (.ref a) → vs[j]? = some (.ref a) → i = j
structure After (g : G) (B H B' H' : Hp) (as : List Sl) (vs : List V) (post : List Sl) : Prop where
  eB : Ex B B'
  eBH : Ex B' H'
  nw : ∀ a, H a ≠ none → B' a = B a
  hh : ∀ a o, H a = some o → (∀ (j : Nat) (x : Sl), as[j]? = some x → x.own = true → vs[j]? ≠ some (.ref a)) → H' a = some o
  dom : ∀ a, H a ≠ none → H' a ≠ none
  io : ∀ (j : Nat) (x : Sl) (v : V), as[j]? = some x → x.own = true → vs[j]? = some v → ∃ x', post[j]? = some x' ∧ x'.own = true ∧ SlOk g B' H' x' (some v)
def RetOk (g : G) (H B' H' : Hp) : Rv → V → Prop
  | .v d, v => Den g B' d v
  | .l ds, v => ∃ p us, v = .ref p ∧ H p = none ∧ B' p = none ∧ H' p = some (.lst us) ∧ Dens g B' ds us
  | .o c ds, v => ∃ p dx us, v = .ref p ∧ H p = none ∧ B' p = none ∧ H' p = some (.ins (g.cn c) dx ((g.names c).zip us)) ∧ Dens g B' ds us
def PostF (g : G) (B H : Hp) (as : List Sl) (vs : List V) (Q : VK) (E : XK) : OutF → Prop
  | .ret r post => ∀ v B' H', After g B H B' H' as vs post → RetOk g H B' H' r v → Q v H'
  | .ex c ds post => ∀ x B' H', After g B H B' H' as vs post → XcOk g B' x c ds → E (.ref (g.cn c)) x H'
  | .bad => False
def spD (g : G) (f : Fd) : Sp := fun vs H Q E => ∃ B as, Ex B H ∧ ArgsOk g B H as vs ∧ PostF g B H as vs Q E (f as)
def fnD (n np : Nat) (body : MS) : Fd := fun as => if as.length = np then (match body (as ++ List.replicate (n - np) .no) with
  | .nx s => .ret (.v .non) (s.take np)
  | .rt r s => .ret r (s.take np)
  | .ex c ds s => .ex c ds (s.take np)
  | _ => .bad) else .bad
/-- what a def's run may change for its caller -/
def ioOf (as : List Sl) (vs : List V) : Nat → Option Addr := fun j => match as[j]?, vs[j]? with
  | some x, some (.ref a) => if x.own = true then some a else none
  | _, _ => none
theorem ioOf_some {as : List Sl} {vs : List V} {j : Nat} {a : Addr} (h : ioOf as vs j = some a) : ∃ x, as[j]? = some x ∧ x.own = true ∧ vs[j]? = some (.ref a) := by
  unfold ioOf at h
  cases e1 : as[j]? with
  | none => rw [e1] at h; cases h
  | some x =>
    cases e2 : vs[j]? with
    | none => rw [e1, e2] at h; cases h
    | some v =>
      rw [e1, e2] at h
      cases v with
      | ref b =>
        have h' : (if x.own = true then some b else none) = some a := h
        by_cases ho : x.own = true
        · rw [if_pos ho] at h'; cases h'; exact ⟨x, rfl, ho, rfl⟩
        · rw [if_neg ho] at h'; cases h'
      | _ => cases h
theorem ioOf_of {as : List Sl} {vs : List V} {j : Nat} {a : Addr} {x : Sl} (h1 : as[j]? = some x) (h2 : x.own = true) (h3 : vs[j]? = some (.ref a)) : ioOf as vs j = some a := by
  unfold ioOf; rw [h1, h3]; exact if_pos h2
theorem ioOf_ge {as : List Sl} {vs : List V} {j : Nat} (h : as.length ≤ j) : ioOf as vs j = none := by
  cases e : ioOf as vs j with
  | none => rfl
  | some a => obtain ⟨x, h1, _⟩ := ioOf_some e; have := (List.getElem?_eq_some_iff.mp h1).1; omega
abbrev tx0 (B H : Hp) (as : List Sl) (vs : List V) : Tx := ⟨B, H, ioOf as vs, [], []⟩
theorem Rel.start {as : List Sl} {vs : List V} {N : List Str} (e : Ex B H) (A : ArgsOk g B H as vs) (hN : vs.length ≤ N.length) : Rel g (tx0 B H as vs) B H (L2.start N vs) (as ++ List.replicate (N.length - vs.length) .no) := by
  have gs : ∀ (i : Nat) (x : Sl), (as ++ List.replicate (N.length - vs.length) .no)[i]? = some x → (as[i]? = some x) ∨ x = .no := fun i x h => by
    by_cases hi : i < as.length
    · rw [List.getElem?_append_left hi] at h; exact .inl h
    · rw [List.getElem?_append_right (by omega)] at h; exact .inr (List.eq_of_mem_replicate (List.mem_of_getElem? h))
  have gv : ∀ (i : Nat) (x : Sl), as[i]? = some x → ∃ v, vs[i]? = some v ∧ (L2.start N vs)[i]? = some (some v) := fun i x h => by
    have hi := (List.getElem?_eq_some_iff.mp h).1
    have hv : i < vs.length := by rw [← A.len]; exact hi
    refine ⟨vs[i], by simp [hv], ?_⟩
    unfold L2.start
    rw [List.getElem?_append_left (by simpa using hv)]
    simp [hv]
  have gr : ∀ (i : Nat) (x : Sl) (a : Addr), as[i]? = some x → (L2.start N vs)[i]? = some (some (.ref a)) → vs[i]? = some (.ref a) := fun i x a h h' => by
    obtain ⟨v, h1, h2⟩ := gv i x h; rw [h2] at h'; cases h'; exact h1
  have hl : (L2.start N vs).length = N.length := by unfold L2.start; simp; omega
  have hlen : (L2.start N vs).length = (as ++ List.replicate (N.length - vs.length) Sl.no).length := by rw [hl]; simp [A.len]; omega
  refine ⟨⟨Evl.Ex.refl B, e, fun _ _ => rfl, fun _ _ h _ => h, fun _ h => h, by simpa using hlen, fun i x y hx hy => ?_, fun i j x x' a hx hx' ho ho' e1 e2 => ?_, fun j a hj => ?_, fun i x a hx ho e1 => ?_⟩, hlen, fun j a hj => ?_⟩
  · simp only [List.append_nil] at hx hy
    rcases gs i x hx with h | h
    · obtain ⟨v, h1, h2⟩ := gv i x h
      rw [h2] at hy; cases hy
      exact A.ok i x v h h1
    · subst h; trivial
  · simp only [List.append_nil] at hx hx' e1 e2
    rcases gs i x hx with h | h
    · rcases gs j x' hx' with h' | h'
      · exact A.nd i j x x' a h h' ho ho' (gr i x a h e1) (gr j x' a h' e2)
      · subst h'; cases ho'
    · subst h; cases ho
  · simp only [List.append_nil]
    obtain ⟨x, h1, h2, h3⟩ := ioOf_some hj
    obtain ⟨v, h4, h5⟩ := gv j x h1
    rw [h3] at h4; cases h4
    exact ⟨h5, x, app_some h1, h2⟩
  · simp only [List.append_nil] at hx e1
    rcases gs i x hx with h | h
    · exact .inr ⟨i, ioOf_of h ho (gr i x a h e1)⟩
    · subst h; cases ho
  · obtain ⟨x, h1, _⟩ := ioOf_some hj
    have := (List.getElem?_eq_some_iff.mp h1).1
    rw [hl]; have := A.len; omega
theorem Rel.after {as : List Sl} {vs : List V} {B0 H0 : Hp} {np : Nat} (R : Rel g (tx0 B0 H0 as vs) B H σ s) (hn : as.length = np) (A : ArgsOk g B0 H0 as vs) : After g B0 H0 B H as vs (s.take np) where
  eB := R.b0
  eBH := R.bh
  nw := R.r.nw
  hh := fun a o h hj => R.r.hh a o h fun j z => by
    obtain ⟨x, h1, h2, h3⟩ := ioOf_some z
    exact hj j x h1 h2 h3
  dom := R.dom
  io := fun j x v h1 h2 h3 => by
    have hj := (List.getElem?_eq_some_iff.mp h1).1
    cases v with
    | ref a =>
      obtain ⟨e, y, hy, ho⟩ := R.r.iok j a (ioOf_of h1 h2 h3)
      simp only [List.append_nil] at e hy
      refine ⟨y, by rw [List.getElem?_take]; rw [if_pos (by omega)]; exact hy, ho, R.r.sl j y _ (by simpa using hy) (by simpa using e)⟩
    | _ =>
      exfalso
      have q := A.ok j x _ h1 h3
      cases x with
      | l ds => obtain ⟨_, _, e, _⟩ := q; cases e
      | o c ds => obtain ⟨_, _, _, e, _⟩ := q; cases e
      | _ => cases h2
end TW

set_option Elab.async false
set_option linter.all false
set_option autoImplicit false
set_option maxRecDepth 100000
set_option maxHeartbeats 1000000
namespace TW
open PySem PySem.Spec PyProof.Rows L2
variable {g : G} {T : Tx} {B B' H H' : Hp} {σ : L2.St} {s : S} {W : WX} {α β γ δ : Type} {P : PP α β}

theorem RvOk.ret {as : List Sl} {vs : List V} {B0 H0 : Hp} {r : Rv} {v : V} (R : Rel g (tx0 B0 H0 as vs) B H σ s) (h : RvOk g (tx0 B0 H0 as vs) σ s r B H v) : RetOk g H0 B H r v := by
  cases r with
  | v d => exact h
  | l ds => obtain ⟨p, us, rfl, F, hd⟩ := h; exact ⟨p, us, rfl, F.h0, F.b, F.at_, hd⟩
  | o c ds => obtain ⟨p, dx, us, rfl, F, hd⟩ := h; exact ⟨p, dx, us, rfl, F.h0, F.b, F.at_, hd⟩
/-- a def keeps the promise of what describes its body -/
theorem fnD_ok {P : Program} {w : World} {base : Heap} {x qual : Str} {st : Stmt} {f : Addr} {fd : FuncData} {N ps : List Str} {k : Nat} {body : MS} (F : Fun g.K x qual st f fd) (Sc : FnScope N ps (defScope st)) (hps : ps.length ≤ N.length)
    (hbody : ∀ (cdv : Value) (A : Around) (outer : List Env) (s : Shared) (H : Hp) (E : XK) (T : Tx), Room k (A.deeper (envOfC qual (defScope st) s.heap.objs.size f cdv)) → (∀ i, ps.length ≤ i → T.io i = none) →
      JSs (cxOf (L2.CX P w) P w g.K g.mg base N qual (defScope st) f cdv A outer s H E) g T (fun cls d _ H => E cls d H) (defBody st) body) :
    FnOk P w g.K g.mg base (L2.CX P w) (k + 1) f fd ps (spD g (fnD N.length ps.length body)) := by
  refine F.okX Sc (fun vs H Q E h => ?_) (fun cdv A outer s H vs Q E hr h => ?_)
  · obtain ⟨B, as, e, A, p⟩ := h
    unfold fnD at p
    by_cases hl : as.length = ps.length
    · rw [← A.len]; exact hl
    · rw [if_neg hl] at p; exact p.elim
  · obtain ⟨B, as, e, Ao, p⟩ := h
    unfold fnD at p
    by_cases hl : as.length = ps.length
    · rw [if_pos hl] at p
      refine ⟨_, hbody cdv A outer s H E (tx0 B H as vs) hr (fun i hi => ioOf_ge (by omega)), B, _, Rel.start e Ao (by rw [← Ao.len]; omega), ?_⟩
      have hv : N.length - vs.length = N.length - ps.length := by rw [← Ao.len]; omega
      rw [hv]
      cases q : body (as ++ List.replicate (N.length - ps.length) Sl.no) with
      | nx s' =>
        rw [q] at p
        intro σ' B' H' R' e'
        exact p .non B' H' (R'.after hl Ao) rfl
      | rt r s' =>
        rw [q] at p
        intro v σ' B' H' R' e' hr
        exact p v B' H' (R'.after hl Ao) (RvOk.ret R' hr)
      | ex c ds s' =>
        rw [q] at p
        intro x σ' B' H' R' e' hx
        exact p x B' H' (R'.after hl Ao) hx
      | bk s' => rw [q] at p; exact p.elim
      | ct s' => rw [q] at p; exact p.elim
      | bad => rw [q] at p; exact p.elim
    · rw [if_neg hl] at p; exact p.elim

/-! ## calls -/
def Opd.isS (k : Nat) : Opd → Bool
  | .s j => j == k
  | .d _ => false
def Sl.some? : Sl → Option Sl
  | .no => none
  | x => some x
def argOf (s : S) : Opd → Option Sl
  | .d x => some (.v x)
  | .s k => (s[k]?).bind Sl.some?
def argsOf (s : S) : List Opd → Option (List Sl)
  | [] => some []
  | o :: r => match argOf s o, argsOf s r with
    | some x, some xs => some (x :: xs)
    | _, _ => none
/-- no list goes to two parameters -/
def dupFree (s : S) : List Opd → Bool
  | [] => true
  | .d _ :: r => dupFree s r
  | .s k :: r => (!((s[k]?).getD .no).own || r.all fun o => !o.isS k) && dupFree s r
def putBack (s : S) (os : List Opd) (post : List Sl) : S := s.mapIdx fun i x => if x.own = true then (match os.findIdx? (Opd.isS i) with
  | some j => post.getD j .no
  | none => x) else x
def mcall (f : Fd) (dds : List D) (fa : M (List Opd)) : M Rv := mbind fa fun os s => if dupFree s os = true then (match argsOf s os with
  | none => .bad
  | some as => match f (as ++ dds.map .v) with
    | .ret r post => .ok r (putBack s os post)
    | .ex c ds post => .ex c ds (putBack s os post)
    | .bad => .bad) else .bad
theorem argsOf_get : ∀ {os : List Opd} {s : S} {as : List Sl}, argsOf s os = some as → as.length = os.length ∧ ∀ (i : Nat) (o : Opd), os[i]? = some o → argOf s o = as[i]?
  | [], s, as, h => by cases h; exact ⟨rfl, fun i o h => by simp at h⟩
  | o :: r, s, as, h => by
    unfold argsOf at h
    cases e1 : argOf s o with
    | none => rw [e1] at h; simp at h
    | some x =>
      cases e2 : argsOf s r with
      | none => rw [e1, e2] at h; simp at h
      | some xs =>
        rw [e1, e2] at h
        simp at h
        subst h
        obtain ⟨h1, h2⟩ := argsOf_get e2
        refine ⟨by simp [h1], fun i o' hi => ?_⟩
        cases i with
        | zero => simp at hi; subst hi; simpa using e1
        | succ i => simp at hi ⊢; exact h2 i o' hi
theorem argOf_own {o : Opd} {x : Sl} (h : argOf s o = some x) (ho : x.own = true) : ∃ k, o = .s k ∧ s[k]? = some x := by
  cases o with
  | d y => cases h; cases ho
  | s k =>
    cases e : s[k]? with
    | none => simp [argOf, e] at h
    | some y =>
      have h' : y.some? = some x := by simpa [argOf, e] using h
      cases y with
      | no => cases h'
      | v d => cases h'; cases ho
      | l ds => cases h'; exact ⟨k, rfl, e⟩
      | o c ds => cases h'; exact ⟨k, rfl, e⟩
theorem dup_at : ∀ {os : List Opd} {i j k : Nat} {x : Sl}, dupFree s os = true → s[k]? = some x → x.own = true → os[i]? = some (.s k) → os[j]? = some (.s k) → i = j
  | [], i, _, _, _, _, _, _, h, _ => by simp at h
  | o :: r, i, j, k, x, hd, hk, ho, hi, hj => by
    have key : ∀ (m : Nat), r[m]? = some (.s k) → o = .s k → False := fun m hm e => by
      subst e
      unfold dupFree at hd
      rw [hk] at hd
      simp only [Option.getD_some, ho, Bool.not_true, Bool.false_or, Bool.and_eq_true] at hd
      have := List.all_eq_true.mp hd.1 _ (List.mem_of_getElem? hm)
      simp [Opd.isS] at this
    have hd' : dupFree s r = true := by
      cases o with
      | d y => exact hd
      | s m => unfold dupFree at hd; exact (Bool.and_eq_true_iff.mp hd).2
    cases i with
    | zero =>
      cases j with
      | zero => rfl
      | succ j => simp at hi hj; exact (key j hj hi).elim
    | succ i =>
      cases j with
      | zero => simp at hi hj; exact (key i hi hj).elim
      | succ j => simp at hi hj; rw [dup_at hd' hk ho hi hj]
theorem Rel0.args_ok {os : List Opd} {vs : List V} {as : List Sl} {dds : List D} {dvs : List V} (R : Rel0 g T B H σ s) (hp : PAs g σ s os B H vs) (hd : dupFree s os = true) (ha : argsOf s os = some as) (hdd : Dens g B dds dvs) : ArgsOk g B H (as ++ dds.map .v) (vs ++ dvs) := by
  obtain ⟨hl, hg⟩ := argsOf_get ha
  have hl2 : as.length = vs.length := hl.trans hp.1
  have sp : ∀ (i : Nat) (x : Sl), (as ++ dds.map Sl.v)[i]? = some x → (as[i]? = some x ∧ i < as.length) ∨ (as.length ≤ i ∧ ∃ d, dds[i - as.length]? = some d ∧ x = .v d) := fun i x h => by
    by_cases hi : i < as.length
    · rw [List.getElem?_append_left hi] at h; exact .inl ⟨h, hi⟩
    · rw [List.getElem?_append_right (by omega), List.getElem?_map] at h
      cases e : dds[i - as.length]? with
      | none => rw [e] at h; cases h
      | some d => rw [e] at h; cases h; exact .inr ⟨by omega, d, rfl, rfl⟩
  have vl : ∀ (i : Nat), i < as.length → (vs ++ dvs)[i]? = vs[i]? := fun i hi => List.getElem?_append_left (by omega)
  have one : ∀ (i : Nat) (x : Sl) (v : V), as[i]? = some x → vs[i]? = some v → SlOk g B H x (some v) ∧ (x.own = true → ∃ k, os[i]? = some (.s k) ∧ s[k]? = some x ∧ σ[k]? = some (some v)) := fun i x v h1 h2 => by
    have hi := (List.getElem?_eq_some_iff.mp h1).1
    have ho : i < os.length := by omega
    have e1 := hg i os[i] (by simp [ho])
    rw [h1] at e1
    have q := hp.2 i os[i] v (by simp [ho]) h2
    cases eo : os[i] with
    | d y =>
      rw [eo] at e1 q
      cases e1
      exact ⟨⟨v, rfl, q⟩, fun z => by cases z⟩
    | s k =>
      rw [eo] at e1 q
      have q' : σ[k]? = some (some v) := q
      cases es : s[k]? with
      | none => simp [argOf, es] at e1
      | some y =>
        have e2 : y.some? = some x := by simpa [argOf, es] using e1
        have fin : y = x → SlOk g B H x (some v) ∧ (x.own = true → ∃ k, os[i]? = some (.s k) ∧ s[k]? = some x ∧ σ[k]? = some (some v)) := fun e => by
          subst e
          exact ⟨R.sl k y _ es q', fun _ => ⟨k, by simp [ho, eo], es, q'⟩⟩
        cases y with
        | no => cases e2
        | v d => cases e2; exact fin rfl
        | l ds => cases e2; exact fin rfl
        | o c ds => cases e2; exact fin rfl
  refine ⟨by simp [hl2, hdd.length], fun i x v h1 h2 => ?_, fun i j x y a h1 h2 o1 o2 e1 e2 => ?_⟩
  · rcases sp i x h1 with ⟨h, hi⟩ | ⟨hi, d, hd, rfl⟩
    · rw [vl i hi] at h2; exact (one i x v h h2).1
    · rw [List.getElem?_append_right (by omega), ← hl2] at h2
      obtain ⟨v', hv, q⟩ := hdd.get hd
      have ev : v' = v := by rw [hv] at h2; exact Option.some.inj h2
      subst ev
      exact ⟨_, rfl, q⟩
  · rcases sp i x h1 with ⟨h, hi⟩ | ⟨hi, d, _, rfl⟩
    · rcases sp j y h2 with ⟨h', hj⟩ | ⟨hj, d, _, rfl⟩
      · rw [vl i hi] at e1
        rw [vl j hj] at e2
        obtain ⟨k, k1, k2, k3⟩ := (one i x _ h e1).2 o1
        obtain ⟨m, m1, m2, m3⟩ := (one j y _ h' e2).2 o2
        have : k = m := R.nd k m x y a k2 m2 o1 o2 k3 m3
        subst this
        exact dup_at hd k2 o1 k1 m1
      · cases o2
    · cases o1
theorem putBack_get (s : S) (os : List Opd) (post : List Sl) (i : Nat) : (putBack s os post)[i]? = (s[i]?).map fun x => if x.own = true then (match os.findIdx? (Opd.isS i) with
    | some j => post.getD j .no
    | none => x) else x := by
  unfold putBack; rw [List.getElem?_mapIdx]
theorem putBack_own {s t : S} {os : List Opd} {post : List Sl} {i : Nat} {y : Sl} (h : (putBack s os post ++ t)[i]? = some y) (ho : y.own = true) : ∃ x, (s ++ t)[i]? = some x ∧ x.own = true := by
  have plen : (putBack s os post).length = s.length := by unfold putBack; simp
  by_cases hi : i < s.length
  · rw [List.getElem?_append_left (by omega), putBack_get] at h
    refine ⟨s[i], by rw [List.getElem?_append_left hi]; simp [hi], ?_⟩
    simp [hi] at h
    cases q : s[i].own with
    | true => rfl
    | false =>
      rw [if_neg (by simp [q])] at h
      rw [← h, q] at ho; cases ho
  · rw [List.getElem?_append_right (by omega), plen] at h
    exact ⟨y, by rw [List.getElem?_append_right (by omega)]; exact h, ho⟩
/-- behind a call -/
theorem Rel0.called {os : List Opd} {vs : List V} {as : List Sl} {dds : List D} {dvs : List V} {post : List Sl} (R : Rel0 g T B H σ s) (hp : PAs g σ s os B H vs) (hd : dupFree s os = true) (ha : argsOf s os = some as) (hdd : Dens g B dds dvs)
    (A : After g B H B' H' (as ++ dds.map .v) (vs ++ dvs) post) : Rel0 g T B' H' σ (putBack s os post) := by
  obtain ⟨hl, hg⟩ := argsOf_get ha
  have hl2 : as.length = vs.length := hl.trans hp.1
  -- an argument that is own is a slot
  have own_of : ∀ (j : Nat) (x : Sl) (a : Addr), (as ++ dds.map Sl.v)[j]? = some x → x.own = true → (vs ++ dvs)[j]? = some (.ref a) → ∃ k, os[j]? = some (.s k) ∧ s[k]? = some x ∧ σ[k]? = some (some (.ref a)) := fun j x a h1 h2 h3 => by
    by_cases hj : j < as.length
    · rw [List.getElem?_append_left hj] at h1
      rw [List.getElem?_append_left (by omega)] at h3
      have ho : j < os.length := by omega
      have e1 := hg j os[j] (by simp [ho])
      rw [h1] at e1
      obtain ⟨k, k1, k2⟩ := argOf_own e1 h2
      have q := hp.2 j os[j] _ (by simp [ho]) h3
      rw [k1] at q
      exact ⟨k, by rw [← k1]; simp [ho], k2, q⟩
    · rw [List.getElem?_append_right (by omega), List.getElem?_map] at h1
      cases e : dds[j - as.length]? with
      | none => rw [e] at h1; cases h1
      | some d => rw [e] at h1; cases h1; cases h2
  have pb : ∀ (i : Nat) (y : Sl), (putBack s os post)[i]? = some y → ∃ x, s[i]? = some x ∧ (x.own = false → y = x) ∧ (x.own = true → (y = x ∧ os.findIdx? (Opd.isS i) = none) ∨ ∃ j, os.findIdx? (Opd.isS i) = some j ∧ y = post.getD j .no) := fun i y h => by
    have plen : (putBack s os post).length = s.length := by unfold putBack; simp
    have hi : i < s.length := by rw [← plen]; exact (List.getElem?_eq_some_iff.mp h).1
    rw [putBack_get] at h
    refine ⟨s[i], by simp [hi], ?_⟩
    simp [hi] at h
    by_cases ho : s[i].own = true
    · rw [if_pos ho] at h
      refine ⟨fun z => (by rw [ho] at z; cases z), fun _ => ?_⟩
      cases q : os.findIdx? (Opd.isS i) with
      | none => rw [q] at h; exact .inl ⟨h.symm, rfl⟩
      | some j => rw [q] at h; exact .inr ⟨j, rfl, h.symm⟩
    · rw [if_neg ho] at h
      exact ⟨fun _ => h.symm, fun z => absurd z ho⟩
  -- the slot that goes to a parameter
  have slot_of : ∀ (i j : Nat) (x : Sl) (a : Addr), s[i]? = some x → x.own = true → σ[i]? = some (some (.ref a)) → os.findIdx? (Opd.isS i) = some j → (as ++ dds.map Sl.v)[j]? = some x ∧ (vs ++ dvs)[j]? = some (.ref a) := fun i j x a h1 h2 h3 hf => by
    obtain ⟨hj, hj2, _⟩ := List.findIdx?_eq_some_iff_getElem.mp hf
    have eo : os[j] = .s i := by
      cases q : os[j] with
      | d y => rw [q] at hj2; cases hj2
      | s k =>
        rw [q] at hj2
        have e : k = i := by simpa [Opd.isS] using hj2
        rw [e]
    have e1 := hg j os[j] (by simp [hj])
    rw [eo] at e1
    have e2 : argOf s (.s i) = some x := by
      show (s[i]?).bind Sl.some? = some x
      rw [h1]
      cases x <;> first | rfl | cases h2
    rw [e2] at e1
    have hv : j < vs.length := by rw [← hp.1]; exact hj
    have q := hp.2 j os[j] vs[j] (by simp [hj]) (by simp [hv])
    rw [eo] at q
    have q' : σ[i]? = some (some vs[j]) := q
    rw [h3] at q'
    have ev : vs[j] = .ref a := (Option.some.inj (Option.some.inj q')).symm
    refine ⟨by rw [List.getElem?_append_left (by omega)]; exact e1.symm, by rw [List.getElem?_append_left hv]; simp [hv, ev]⟩
  have keepA : ∀ (i : Nat) (x : Sl) (a : Addr), s[i]? = some x → x.own = true → σ[i]? = some (some (.ref a)) → os.findIdx? (Opd.isS i) = none → ∀ (j : Nat) (z : Sl), (as ++ dds.map Sl.v)[j]? = some z → z.own = true → (vs ++ dvs)[j]? ≠ some (.ref a) := fun i x a h1 h2 h3 hf j z hz1 hz2 hz3 => by
    obtain ⟨k, k1, k2, k3⟩ := own_of j z a hz1 hz2 hz3
    have : i = k := R.nd i k x z a h1 k2 h2 hz2 h3 k3
    subst this
    have := hf
    rw [List.findIdx?_eq_none_iff] at this
    have := this _ (List.mem_of_getElem? k1)
    simp [Opd.isS] at this
  have plen : (putBack s os post).length = s.length := by unfold putBack; simp
  refine ⟨R.b0.trans A.eB, A.eBH, fun a h => by rw [A.nw a (R.dom a h)]; exact R.nw a h, fun a o h hj => A.hh a o (R.hh a o h hj) fun j x h1 h2 h3 => ?_, fun a h => A.dom a (R.dom a h), by rw [plen]; exact R.len, fun i y v hy hv => ?_, fun i j y y' a h1 h2 o1 o2 e1 e2 => ?_, fun j a h => ?_, fun i y a h1 o1 e1 => ?_⟩
  · obtain ⟨k, k1, k2, k3⟩ := own_of j x a h1 h2 h3
    rcases R.ow k x a k2 h2 k3 with z | ⟨m, z⟩
    · rw [z] at h; cases h
    · exact hj m z
  · obtain ⟨x, hx, c1, c2⟩ := pb i y hy
    have q := R.sl i x v hx hv
    by_cases ho : x.own = true
    · rcases c2 ho with ⟨rfl, hf⟩ | ⟨j, hf, rfl⟩
      · cases y with
        | no => cases ho
        | v d => cases ho
        | l ds =>
          obtain ⟨a, us, rfl, b0, h0, hds⟩ := q
          exact ⟨a, us, rfl, by rw [A.nw a (by rw [h0]; simp)]; exact b0, A.hh a _ h0 (keepA i _ a hx ho hv hf), hds.mono A.eB⟩
        | o c ds =>
          obtain ⟨a, dx, us, rfl, b0, h0, hds⟩ := q
          exact ⟨a, dx, us, rfl, by rw [A.nw a (by rw [h0]; simp)]; exact b0, A.hh a _ h0 (keepA i _ a hx ho hv hf), hds.mono A.eB⟩
      · have hr : ∃ a, v = some (.ref a) := by
          cases x with
          | no => cases ho
          | v d => cases ho
          | l ds => obtain ⟨a, _, e, _⟩ := q; exact ⟨a, e⟩
          | o c ds => obtain ⟨a, _, _, e, _⟩ := q; exact ⟨a, e⟩
        obtain ⟨a, rfl⟩ := hr
        obtain ⟨e1, e2⟩ := slot_of i j x a hx ho hv hf
        obtain ⟨x', p1, p2, p3⟩ := A.io j x _ e1 ho e2
        rw [List.getD_eq_getElem?_getD, p1]
        exact p3
    · have : y = x := c1 (by simpa using ho)
      subst this
      cases y with
      | no => trivial
      | v d => obtain ⟨u, e, h1⟩ := q; exact ⟨u, e, h1.mono A.eB⟩
      | l ds => exact absurd rfl ho
      | o c ds => exact absurd rfl ho
  · obtain ⟨x, hx, c1, c2⟩ := pb i y h1
    obtain ⟨x', hx', c1', c2'⟩ := pb j y' h2
    have back : ∀ (m : Nat) (z z' : Sl), (z.own = false → z' = z) → z'.own = true → z.own = true := fun m z z' hh ho => by
      cases q : z.own with
      | true => rfl
      | false => rw [hh q, q] at ho; cases ho
    exact R.nd i j x x' a hx hx' (back i x y c1 o1) (back j x' y' c1' o2) e1 e2
  · obtain ⟨e, x, hx, ho⟩ := R.iok j a h
    refine ⟨e, ?_⟩
    have ea := e
    rw [putBack_get, hx]
    simp only [Option.map_some, ho, if_true]
    cases q : os.findIdx? (Opd.isS j) with
    | none => exact ⟨x, rfl, ho⟩
    | some m =>
      obtain ⟨f1, f2⟩ := slot_of j m x a hx ho ea q
      obtain ⟨x', p1, p2, p3⟩ := A.io m x _ f1 ho f2
      exact ⟨x', by simp [List.getD_eq_getElem?_getD, p1], p2⟩
  · obtain ⟨x, hx, c1, c2⟩ := pb i y h1
    have ho : x.own = true := by
      cases q : x.own with
      | true => rfl
      | false => rw [c1 q, q] at o1; cases o1
    exact R.ow i x a hx ho e1
theorem argsOf_app {s t : S} : ∀ {os : List Opd} {as : List Sl}, argsOf s os = some as → argsOf (s ++ t) os = some as ∧ ∀ k, Opd.s k ∈ os → k < s.length
  | [], as, h => by cases h; exact ⟨rfl, fun k h => by simp at h⟩
  | o :: r, as, h => by
    unfold argsOf at h
    cases e1 : argOf s o with
    | none => rw [e1] at h; simp at h
    | some x =>
      cases e2 : argsOf s r with
      | none => rw [e1, e2] at h; simp at h
      | some xs =>
        rw [e1, e2] at h
        simp at h
        subst h
        obtain ⟨h1, h2⟩ := argsOf_app (t := t) e2
        have one : argOf (s ++ t) o = some x ∧ ∀ k, o = .s k → k < s.length := by
          cases o with
          | d y => exact ⟨e1, fun k z => by cases z⟩
          | s k =>
            cases es : s[k]? with
            | none => simp [argOf, es] at e1
            | some y =>
              refine ⟨?_, fun m z => by cases z; exact (List.getElem?_eq_some_iff.mp es).1⟩
              have e3 : y.some? = some x := by simpa [argOf, es] using e1
              show ((s ++ t)[k]?).bind Sl.some? = some x
              rw [app_some es]; exact e3
        refine ⟨?_, fun k hk => ?_⟩
        · unfold argsOf; rw [one.1, h1]
        · rcases List.mem_cons.mp hk with z | z
          · exact one.2 k z.symm
          · exact h2 k z
theorem dupFree_app {s t : S} : ∀ {os : List Opd}, (∀ k, Opd.s k ∈ os → k < s.length) → dupFree s os = true → dupFree (s ++ t) os = true
  | [], _, _ => rfl
  | .d y :: r, hk, h => dupFree_app (os := r) (fun k z => hk k (List.mem_cons_of_mem _ z)) h
  | .s k :: r, hk, h => by
    unfold dupFree at h ⊢
    obtain ⟨h1, h2⟩ := Bool.and_eq_true_iff.mp h
    have hl := hk k List.mem_cons_self
    rw [List.getElem?_append_left hl, h1, dupFree_app (os := r) (fun k z => hk k (List.mem_cons_of_mem _ z)) h2]; rfl
theorem putBack_app {s t : S} {os : List Opd} {post : List Sl} (hk : ∀ k, Opd.s k ∈ os → k < s.length) : putBack (s ++ t) os post = putBack s os post ++ t := by
  have plen : (putBack s os post).length = s.length := by unfold putBack; simp
  apply List.ext_getElem?
  intro i
  rw [putBack_get]
  by_cases hi : i < s.length
  · rw [List.getElem?_append_left hi, List.getElem?_append_left (by omega), putBack_get]
  · rw [List.getElem?_append_right (by omega), List.getElem?_append_right (by omega), plen]
    have hn : os.findIdx? (Opd.isS i) = none := by
      rw [List.findIdx?_eq_none_iff]
      intro o ho
      cases o with
      | d y => rfl
      | s k =>
        have := hk k ho
        simp [Opd.isS]; omega
    rw [hn]
    cases t[i - s.length]? <;> simp
theorem PAs.app {os : List Opd} {vs : List V} {τ : L2.St} (h : PAs g σ s os B H vs) : PAs g (σ ++ τ) s os B H vs := ⟨h.1, fun i o v h1 h2 => by
  have q := h.2 i o v h1 h2
  cases o with
  | d y => exact q
  | s k => exact app_some q⟩
theorem args_ok {os : List Opd} {vs : List V} {as : List Sl} {dds : List D} {dvs : List V} (R : Rel g T B H σ s) (hp : PAs g σ s os B H vs) (hd : dupFree s os = true) (ha : argsOf s os = some as) (hdd : Dens g B dds dvs) : ArgsOk g B H (as ++ dds.map .v) (vs ++ dvs) := by
  obtain ⟨h1, h2⟩ := argsOf_app (t := T.t) ha
  exact R.r.args_ok (PAs.app hp) (dupFree_app h2 hd) h1 hdd
theorem Rel.called {os : List Opd} {vs : List V} {as : List Sl} {dds : List D} {dvs : List V} {post : List Sl} (R : Rel g T B H σ s) (hp : PAs g σ s os B H vs) (hd : dupFree s os = true) (ha : argsOf s os = some as) (hdd : Dens g B dds dvs)
    (A : After g B H B' H' (as ++ dds.map .v) (vs ++ dvs) post) : Rel g T B' H' σ (putBack s os post) := by
  obtain ⟨h1, h2⟩ := argsOf_app (t := T.t) ha
  have r := R.r.called (PAs.app hp) (dupFree_app h2 hd) h1 hdd A
  rw [putBack_app h2] at r
  exact ⟨r, by unfold putBack; simp [R.ln], R.iob⟩
theorem RetOk.rv {os : List Opd} {vs : List V} {as : List Sl} {post : List Sl} {r : Rv} {v : V} (R : Rel g T B H σ s) (R' : Rel g T B' H' σ (putBack s os post)) (h : RetOk g H B' H' r v)
    (sl : ∀ (i : Nat) (x : Sl) (p : Addr), (putBack s os post ++ T.t)[i]? = some x → x.own = true → (σ ++ T.τ)[i]? = some (some (.ref p)) → H p ≠ none) : RvOk g T σ (putBack s os post) r B' H' v := by
  cases r with
  | v d => exact h
  | l ds => obtain ⟨p, us, rfl, n, b, e, hd⟩ := h; exact ⟨p, us, rfl, ⟨b, R.h0_of n, fun i x h1 h2 h3 => sl i x p h1 h2 h3 n, e⟩, hd⟩
  | o c ds => obtain ⟨p, dx, us, rfl, n, b, e, hd⟩ := h; exact ⟨p, dx, us, rfl, ⟨b, R.h0_of n, fun i x h1 h2 h3 => sl i x p h1 h2 h3 n, e⟩, hd⟩
variable {X : Cx} {e : Expr} {es : List Expr}
/-- a call by values: what a rule of HandS leaves to show -/
theorem jr_call {f : Fd} {dds : List D} {dvs : List V} {fa : M (List Opd)} (hpe : ∀ ta, PA X es ta → PE X e (tCallSD (spD g f) dvs (WE W) ta)) (hdd : ∀ B, Dens g B dds dvs) (ha : JA X g T W es fa) : JR X g T W e (mcall f dds fa) :=
  fun τ t => PE.imp (hpe _ (ha τ t)) fun σ H Q ⟨B, s, R, p⟩ => (PostM.bind (P := PAs g) R p).mono fun vs H1 ⟨os, B1, s1, R1, e1, q, p1⟩ => by
    by_cases hd : dupFree s1 os = true
    · rw [if_pos hd] at p1
      cases ea : argsOf s1 os with
      | none => rw [ea] at p1; exact p1.elim
      | some as =>
        rw [ea] at p1
        dsimp only at p1
        refine ⟨B1, as ++ dds.map .v, R1.bh, args_ok R1 q hd ea (hdd B1), ?_⟩
        cases ef : f (as ++ dds.map .v) with
        | bad => rw [ef] at p1; exact p1.elim
        | ret r post =>
          rw [ef] at p1
          intro v B' H' A hr
          have R' := R1.called q hd ea (hdd B1) A
          refine p1 v B' H' R' A.eB (RetOk.rv (vs := vs) (as := as) R1 R' hr fun i x p h1 h2 h3 hn => ?_)
          obtain ⟨x0, k1, k2⟩ := putBack_own h1 h2
          obtain ⟨_, o, ho⟩ := R1.r.ownH k1 k2 h3
          rw [ho] at hn; cases hn
        | ex c ds post =>
          rw [ef] at p1
          intro x B' H' A hx
          exact p1 x B' H' (R1.called q hd ea (hdd B1) A) A.eB hx
    · rw [if_neg hd] at p1; exact p1.elim
end TW

set_option Elab.async false
set_option linter.all false
set_option autoImplicit false
set_option maxRecDepth 100000
set_option maxHeartbeats 1000000
namespace TW
open PySem PySem.Spec PyProof.Rows L2
variable {g : G} {T : Tx} {B B' H H' : Hp} {σ : L2.St} {s : S} {W : WX} {α β γ δ : Type} {P : PP α β}
variable {X : Cx} {e a b c : Expr} {es : List Expr} {pos : Pos}

/-! ## operations on ints -/
def dInt2 (c : Int → Int → Bool) (h : Int → Int → Int) : D → D → Option D
  | .int i, .int j => if c i j = true then some (.int (h i j)) else none
  | _, _ => none
def dCmp2 (h : Int → Int → Bool) : D → D → Option D
  | .int i, .int j => some (.bl (h i j))
  | _, _ => none
theorem opd_int {f : Value → Value → Sem Value} {C : Int → Int → Prop} {h : Int → Int → Int} {c : Int → Int → Bool} (hr : OpR X f (rI C fun i j => .int (h i j))) (hc : ∀ i j, c i j = true → C i j) : OpD X g f (dInt2 c h) :=
  ⟨_, hr, fun T B H σ s x y dx dy d Q R h1 h2 e q => by
    cases dx with
    | int i =>
      cases dy with
      | int j =>
        cases h1; cases h2
        have e' : (if c i j = true then some (D.int (h i j)) else none) = some d := e
        by_cases hij : c i j = true
        · rw [if_pos hij] at e'; cases e'
          exact ⟨i, j, rfl, rfl, hc i j hij, q _ B H R (Evl.Ex.refl _) rfl⟩
        · rw [if_neg hij] at e'; cases e'
      | _ => cases e
    | _ => cases e⟩
theorem opd_cmp {f : Value → Value → Sem Value} {h : Int → Int → Bool} (hr : OpR X f (rI0 fun i j => .bl (h i j))) : OpD X g f (dCmp2 h) :=
  ⟨_, hr, fun T B H σ s x y dx dy d Q R h1 h2 e q => by
    cases dx with
    | int i =>
      cases dy with
      | int j =>
        cases h1; cases h2
        cases e
        exact ⟨i, j, rfl, rfl, q _ B H R (Evl.Ex.refl _) rfl⟩
      | _ => cases e
    | _ => cases e⟩
theorem rI0_rI {f : Value → Value → Sem Value} {h : Int → Int → Int} (hr : OpR X f (rI0 fun i j => .int (h i j))) : OpR X f (rI (fun _ _ => True) fun i j => .int (h i j)) :=
  fun pins s σ H x y v u Q I rx ry ⟨i, j, e1, e2, _, q⟩ => hr pins s σ H x y v u Q I rx ry ⟨i, j, e1, e2, q⟩
abbrev ctt : Int → Int → Bool := fun _ _ => true
abbrev dAdd := dInt2 ctt (fun i j => i + j)
abbrev dSub := dInt2 ctt (fun i j => i - j)
abbrev cMul : Int → Int → Bool := fun i j => decide (i.natAbs.log2 + j.natAbs.log2 < 134217000)
theorem op_mulX : OpR X (binaryOp .Mult) (rI IntMulOk fun i j => .int (i * j)) := opI fun _ _ _ _ _ _ _ hc q => mul_int q hc
theorem mul_okX {i j : Int} (h3 : i.natAbs.log2 + j.natAbs.log2 < 134217000) : IntMulOk i j := by
  have b : ∀ x : Int, Builtin.Int.intBits x ≤ x.natAbs.log2 + 1 := fun x => by
    unfold Builtin.Int.intBits
    split <;> omega
  have h1 := b i
  have h2 := b j
  have e : bitsLine = 134217728 := by decide
  unfold IntMulOk
  intro z
  rw [Bool.and_eq_true] at z
  have z2 := z.2
  unfold Builtin.Int.intTooBig at z2
  have z3 := of_decide_eq_true z2
  rw [e] at z3
  omega
abbrev cDiv : Int → Int → Bool := fun i j => decide (0 < j) && decide (j.natAbs.log2 < 9000)
abbrev cMod : Int → Int → Bool := fun _ j => decide (0 < j)
abbrev cPow : Int → Int → Bool := fun i j => decide (0 ≤ j) && (decide (j ≤ 1000000) && decide (i.natAbs < 2 ^ 64))
abbrev dMul := dInt2 cMul (fun i j => i * j)
abbrev dDiv := dInt2 cDiv (fun i j => i / j)
abbrev dMod := dInt2 cMod (fun i j => i % j)
abbrev dPow := dInt2 cPow (fun i j => i ^ j.toNat)
theorem o_add : OpD X g (binaryOp .Add) dAdd := opd_int (rI0_rI op_add) fun _ _ _ => trivial
theorem o_sub : OpD X g (binaryOp .Sub) dSub := opd_int (rI0_rI op_sub) fun _ _ _ => trivial
theorem o_mul : OpD X g (binaryOp .Mult) dMul := opd_int op_mulX fun i j h => mul_okX (of_decide_eq_true h)
theorem o_div : OpD X g (binaryOp .FloorDiv) dDiv := opd_int op_fdivW fun _ _ h => by
  obtain ⟨h1, h2⟩ := Bool.and_eq_true_iff.mp h
  exact ⟨of_decide_eq_true h1, of_decide_eq_true h2⟩
theorem o_mod : OpD X g (binaryOp .Mod) dMod := opd_int op_mod fun _ _ h => of_decide_eq_true h
theorem o_pow : OpD X g (binaryOp .Pow) dPow := opd_int op_pow fun _ _ h => by
  obtain ⟨h1, h2⟩ := Bool.and_eq_true_iff.mp h
  obtain ⟨h3, h4⟩ := Bool.and_eq_true_iff.mp h2
  exact ⟨of_decide_eq_true h1, of_decide_eq_true h3, of_decide_eq_true h4⟩
abbrev dLt := dCmp2 (fun i j => decide (i < j))
abbrev dLe := dCmp2 (fun i j => decide (i ≤ j))
abbrev dGt := dCmp2 (fun i j => decide (j < i))
abbrev dGe := dCmp2 (fun i j => decide (j ≤ i))
theorem o_lt : OpD X g (compareOp .Lt) dLt := opd_cmp op_lt
theorem o_le : OpD X g (compareOp .LtE) dLe := opd_cmp op_le
theorem o_gt : OpD X g (compareOp .Gt) dGt := opd_cmp op_gt
theorem o_ge : OpD X g (compareOp .GtE) dGe := opd_cmp op_ge

/-! ## == of data -/
mutual
def toPy : D → Option PyData
  | .non => some .none
  | .bl b => some (.bool b)
  | .int i => some (.int i)
  | .str x => some (.str x)
  | .tup ds => (toPys ds).map .tuple
  | .lst ds => (toPys ds).map .list
  | .arg ds => (toPys ds).map .list
  | .obj _ _ => none
  | .exc _ _ _ _ => none
  | .dct => none
def toPys : List D → Option (List PyData)
  | [] => some []
  | d :: ds => match toPy d, toPys ds with
    | some x, some xs => some (x :: xs)
    | _, _ => none
end
mutual
theorem dp_of {K : PySem.W.Frag} (hK : K = g.K) (eB : Ex B H) : ∀ {d : D} {p : PyData} {v : V}, toPy d = some p → Den g B d v → Dp K H v p
  | .non, p, v, e, h => by cases e; cases h; exact .non
  | .bl b, p, v, e, h => by cases e; cases h; exact .bl b
  | .int i, p, v, e, h => by cases e; cases h; exact .int i
  | .str x, p, v, e, h => by cases e; cases h; exact .str x
  | .tup ds, p, v, e, h => by
    subst hK
    obtain ⟨a, vs, rfl, h1, h2⟩ := h
    have e' : (toPys ds).map PyData.tuple = some p := e
    cases q : toPys ds with
    | none => rw [q] at e'; cases e'
    | some ps => rw [q] at e'; cases e'; exact .tup (Evl.ex_t eB h1) (dps_of rfl eB q h2)
  | .lst ds, p, v, e, h => by
    subst hK
    obtain ⟨a, vs, rfl, h1, h2⟩ := h
    have e' : (toPys ds).map PyData.list = some p := e
    cases q : toPys ds with
    | none => rw [q] at e'; cases e'
    | some ps => rw [q] at e'; cases e'; exact .lst (.inl (.inl (eB _ _ h1))) (dps_of rfl eB q h2)
  | .arg ds, p, v, e, h => by
    subst hK
    obtain ⟨a, vs, rfl, h1, h2⟩ := h
    have e' : (toPys ds).map PyData.list = some p := e
    cases q : toPys ds with
    | none => rw [q] at e'; cases e'
    | some ps => rw [q] at e'; cases e'; exact .lst (Evl.ex_l eB h1) (dps_of rfl eB q h2)
  | .obj _ _, p, v, e, h => by cases e
  | .exc _ _ _ _, p, v, e, h => by cases e
  | .dct, p, v, e, h => by cases e
theorem dps_of {K : PySem.W.Frag} (hK : K = g.K) (eB : Ex B H) : ∀ {ds : List D} {ps : List PyData} {vs : List V}, toPys ds = some ps → Dens g B ds vs → DpAll K H vs ps
  | [], ps, vs, e, h => by cases e; cases h; exact .nil
  | d :: ds, ps, vs, e, h => by
    obtain ⟨v, r, rfl, h1, h2⟩ := h
    have e' : (match toPy d, toPys ds with
      | some x, some xs => some (x :: xs)
      | _, _ => none) = some ps := e
    cases q1 : toPy d with
    | none => rw [q1] at e'; cases e'
    | some x =>
      cases q2 : toPys ds with
      | none => rw [q1, q2] at e'; cases e'
      | some xs => rw [q1, q2] at e'; cases e'; exact .cons (dp_of hK eB q1 h1) (dps_of hK eB q2 h2)
end
theorem dpw_of {K : PySem.W.Frag} (hK : K = g.K) (eB : Ex B H) {d : D} {p : PyData} {v : V} (e : toPy d = some p) (h : DenW g B H d v) : Dp K H v p := by
  subst hK
  cases d with
  | lst ds =>
    obtain ⟨a, vs, rfl, h1, h2⟩ := h
    have e' : (toPys ds).map PyData.list = some p := e
    cases q : toPys ds with
    | none => rw [q] at e'; cases e'
    | some ps => rw [q] at e'; cases e'; exact .lst (.inl (.inl h1)) (dps_of rfl eB q h2)
  | obj c ds => cases e
  | _ => exact dp_of rfl eB e h
def eqP (x y : D) : Option Bool := match toPy x, toPy y with
  | some p, some q => if (SeqAt.shaped p && SeqAt.shaped q) = true then some (PyData.eqv p q) else none
  | _, _ => none
def dEq (x y : D) : Option D := (eqP x y).map .bl
def dNe (x y : D) : Option D := (eqP x y).map fun b => .bl (!b)
theorem eqP_some {x y : D} {b : Bool} (h : eqP x y = some b) : ∃ p q, toPy x = some p ∧ toPy y = some q ∧ SeqAt.shaped p = true ∧ SeqAt.shaped q = true ∧ b = PyData.eqv p q := by
  unfold eqP at h
  cases e1 : toPy x with
  | none => rw [e1] at h; cases h
  | some p =>
    cases e2 : toPy y with
    | none => rw [e1, e2] at h; cases h
    | some q =>
      rw [e1, e2] at h
      have h' : (if (SeqAt.shaped p && SeqAt.shaped q) = true then some (PyData.eqv p q) else none) = some b := h
      by_cases c : (SeqAt.shaped p && SeqAt.shaped q) = true
      · rw [if_pos c] at h'; cases h'
        obtain ⟨c1, c2⟩ := Bool.and_eq_true_iff.mp c
        exact ⟨p, q, rfl, rfl, c1, c2, rfl⟩
      · rw [if_neg c] at h'; cases h'
theorem o_eq (hK : X.K = g.K) (hu : X.A.units + 64 < cLine) : OpD X g (compareOp .Eq) dEq := ⟨_, op_eqD hu, fun T B H σ s x y dx dy d Q R h1 h2 e q => by
  unfold dEq at e
  cases eb : eqP dx dy with
  | none => rw [eb] at e; cases e
  | some b =>
    rw [eb] at e; cases e
    obtain ⟨p, p', e1, e2, s1, s2, rfl⟩ := eqP_some eb
    exact ⟨p, p', dpw_of hK R.bh e1 h1, dpw_of hK R.bh e2 h2, s1, s2, q _ B H R (Evl.Ex.refl _) rfl⟩⟩
theorem o_ne (hK : X.K = g.K) (hu : X.A.units + 64 < cLine) : OpD X g (compareOp .NotEq) dNe := ⟨_, op_neD hu, fun T B H σ s x y dx dy d Q R h1 h2 e q => by
  unfold dNe at e
  cases eb : eqP dx dy with
  | none => rw [eb] at e; cases e
  | some b =>
    rw [eb] at e; cases e
    obtain ⟨p, p', e1, e2, s1, s2, rfl⟩ := eqP_some eb
    exact ⟨p, p', dpw_of hK R.bh e1 h1, dpw_of hK R.bh e2 h2, s1, s2, q _ B H R (Evl.Ex.refl _) rfl⟩⟩
/-- is None -/
def D.isNon : D → Bool
  | .non => true
  | _ => false
theorem isNon_den {d : D} {v : V} (h : DenW g B H d v) : decide (v = .non) = d.isNon := by
  cases d with
  | non => cases h; rfl
  | bl b => cases h; rfl
  | int i => cases h; rfl
  | str x => cases h; rfl
  | tup ds => obtain ⟨a, vs, rfl, _⟩ := h; rfl
  | lst ds => obtain ⟨a, vs, rfl, _⟩ := h; rfl
  | arg ds => obtain ⟨a, vs, rfl, _⟩ := h; rfl
  | obj c ds => obtain ⟨a, dx, vs, rfl, _⟩ := h; rfl
  | exc a x c ds => obtain ⟨rfl, _⟩ := h; rfl
  | dct => obtain ⟨a, kvs, rfl, _⟩ := h; rfl
def dIsN (x y : D) : Option D := if y.isNon = true then some (.bl x.isNon) else none
def dNotN (x y : D) : Option D := if y.isNon = true then some (.bl (!x.isNon)) else none
theorem o_isN : OpD X g (compareOp .Is) dIsN := ⟨_, op_isN, fun T B H σ s x y dx dy d Q R h1 h2 e q => by
  unfold dIsN at e
  by_cases c : dy.isNon = true
  · rw [if_pos c] at e; cases e
    refine ⟨of_decide_eq_true ((isNon_den h2).trans c), q _ B H R (Evl.Ex.refl _) ?_⟩
    show V.bl (decide (x = .non)) = .bl dx.isNon
    rw [isNon_den h1]
  · rw [if_neg c] at e; cases e⟩
theorem o_notN : OpD X g (compareOp .IsNot) dNotN := ⟨_, op_notN, fun T B H σ s x y dx dy d Q R h1 h2 e q => by
  unfold dNotN at e
  by_cases c : dy.isNon = true
  · rw [if_pos c] at e; cases e
    refine ⟨of_decide_eq_true ((isNon_den h2).trans c), q _ B H R (Evl.Ex.refl _) ?_⟩
    show V.bl (!decide (x = .non)) = .bl (!dx.isNon)
    rw [isNon_den h1]
  · rw [if_neg c] at e; cases e⟩
/-- one of two -/
def dOr (f f' : D → D → Option D) : D → D → Option D := fun x y => match f x y with
  | some d => some d
  | none => f' x y
theorem OpD.or {f : Value → Value → Sem Value} {h h' : D → D → Option D} (o : OpD X g f h) (o' : OpD X g f h') : OpD X g f (dOr h h') := by
  obtain ⟨r, h1, h2⟩ := o
  obtain ⟨r', h1', h2'⟩ := o'
  refine ⟨_, h1.or h1', fun T B H σ s x y dx dy d Q R a1 a2 e q => ?_⟩
  unfold dOr at e
  cases e1 : h dx dy with
  | some d' => rw [e1] at e; cases e; exact .inl (h2 T B H σ s x y dx dy _ Q R a1 a2 e1 q)
  | none => rw [e1] at e; exact .inr (h2' T B H σ s x y dx dy d Q R a1 a2 e q)

/-! ## operations that give a new list, a new tuple -/
def OpRv (X : Cx) (g : G) (f : Value → Value → Sem Value) (g2 : D → D → Option Rv) : Prop :=
  ∃ r : R2, OpR X f r ∧ ∀ (T : Tx) (B H : Hp) (σ : L2.St) (s : S) (x y : V) (dx dy : D) (d : Rv) (Q : VK), Rel g T B H σ s → DenW g B H dx x → DenW g B H dy y → g2 dx dy = some d →
    (∀ v B' H', Rel g T B' H' σ s → Ex B B' → RvOk g T σ s d B' H' v → Q v H') → r x y H Q
def mbinR (f : D → D → Option Rv) (fa fb : M Opd) : M Rv := mbind fa fun oa => mbind fb fun ob => mbind (res oa) fun x => mbind (res ob) fun y => mopt (f x y)
theorem jr_bin {op : Operator} {f : D → D → Option Rv} {fa fb : M Opd} (ho : OpRv X g (binaryOp op) f) (ha : JO X g T W a fa) (hb : JO X g T W b fb) : JR X g T W (.BinOp a op b pos) (mbinR f fa fb) := by
  obtain ⟨r, h1, hr⟩ := ho
  refine fun τ t => PE.imp (pe_op h1 (ha τ t) (hb τ t)) fun σ H Q ⟨B, s, R, p⟩ => ?_
  refine (PostM.bind (P := PO' g) R p).mono fun x H1 ⟨oa, B1, s1, R1, e1, q1, p1⟩ => ?_
  refine (PostM.bind (P := PO' g) R1 p1).mono fun y H2 ⟨ob, B2, s2, R2, e2, q2, p2⟩ => ?_
  rcases res_cases (o := oa) (s := s2) with ⟨dx, w1⟩ | w1
  · rw [mbind_ok w1] at p2
    rcases res_cases (o := ob) (s := s2) with ⟨dy, w2⟩ | w2
    · rw [mbind_ok w2] at p2
      cases ef : f dx dy with
      | none => rw [ef] at p2; exact p2.elim
      | some d =>
        rw [ef] at p2
        exact hr _ B2 H2 σ s2 x y dx dy d Q R2 (res_ok R2 (q1.mono e2) w1).2 (res_ok R2 q2 w2).2 ef fun v B' H' R' e' hd => p2 v B' H' R' e' hd
    · exfalso
      have z : mbind (res ob) (fun y => mopt (f dx y)) s2 = .bad := by unfold mbind; rw [w2]
      rw [z] at p2; exact p2
  · exfalso
    have z : mbind (res oa) (fun x => mbind (res ob) fun y => mopt (f x y)) s2 = .bad := by unfold mbind; rw [w1]
    rw [z] at p2; exact p2
theorem sz16 {n : Nat} (h : n ≤ 16000000) : n ≤ sizeLine := Nat.le_trans h (by decide)
theorem Rel.newl (R : Rel g T B H σ s) {p : Addr} {ds : List D} {vs : List V} (hp : H p = none) (hd : Dens g B ds vs) : Rel g T B (upd H p (.lst vs)) σ s ∧ RvOk g T σ s (.l ds) B (upd H p (.lst vs)) (.ref p) :=
  ⟨R.newH hp, p, vs, rfl, R.fsh hp, hd⟩
theorem Rel.newt (R : Rel g T B H σ s) {p : Addr} {ds : List D} {vs : List V} (hp : H p = none) (hd : Dens g B ds vs) : ∃ B', Rel g T B' (upd H p (.tup vs)) σ s ∧ Ex B B' ∧ Den g B' (.tup ds) (.ref p) :=
  ⟨_, R.new hp, Evl.Ex.new (Evl.fresh_back R.bh hp), p, vs, rfl, .inl (.inl upd_same), hd.mono (Evl.Ex.new (Evl.fresh_back R.bh hp))⟩
/-- list + list -/
def dCat : D → D → Option Rv
  | .lst xs, .lst ys => if xs.length + ys.length ≤ 16000000 then some (.l (xs ++ ys)) else none
  | _, _ => none
theorem o_cat : OpRv X g (binaryOp .Add) dCat := ⟨_, op_cat, fun T B H σ s x y dx dy d Q R h1 h2 e q => by
  cases dx with
  | lst xs =>
    cases dy with
    | lst ys =>
      have e' : (if xs.length + ys.length ≤ 16000000 then some (Rv.l (xs ++ ys)) else none) = some d := e
      by_cases c : xs.length + ys.length ≤ 16000000
      · rw [if_pos c] at e'; cases e'
        obtain ⟨a, vs, rfl, k1, k2⟩ := h1
        obtain ⟨b, us, rfl, k3, k4⟩ := h2
        refine ⟨a, b, vs, us, rfl, rfl, k1, k3, by rw [k2.length, k4.length]; exact sz16 c, fun p hp => ?_⟩
        obtain ⟨R', r⟩ := R.newl hp (k2.append k4)
        exact q _ B _ R' (Evl.Ex.refl _) r
      · rw [if_neg c] at e'; cases e'
    | _ => cases e
  | _ => cases e⟩
/-- list * int -/
def dRep : D → D → Option Rv
  | .lst xs, .int k => if k < 16000000 ∧ -16000000 < k ∧ xs.length * k.toNat ≤ 16000000 then some (.l (List.replicate k.toNat xs).flatten) else none
  | _, _ => none
theorem Dens.rep {ds : List D} {vs : List V} (h : Dens g B ds vs) : ∀ n : Nat, Dens g B (List.replicate n ds).flatten (List.replicate n vs).flatten
  | 0 => by simp [Dens]
  | n + 1 => by rw [List.replicate_succ, List.replicate_succ, List.flatten_cons, List.flatten_cons]; exact h.append (Dens.rep h n)
theorem o_rep : OpRv X g (binaryOp .Mult) dRep := ⟨_, op_rep, fun T B H σ s x y dx dy d Q R h1 h2 e q => by
  cases dx with
  | lst xs =>
    cases dy with
    | int k =>
      have e' : (if k < 16000000 ∧ -16000000 < k ∧ xs.length * k.toNat ≤ 16000000 then some (Rv.l (List.replicate k.toNat xs).flatten) else none) = some d := e
      by_cases c : k < 16000000 ∧ -16000000 < k ∧ xs.length * k.toNat ≤ 16000000
      · rw [if_pos c] at e'; cases e'
        obtain ⟨a, vs, rfl, k1, k2⟩ := h1
        cases h2
        refine ⟨a, k, vs, rfl, rfl, k1, by omega, by omega, by rw [k2.length]; exact sz16 c.2.2, fun p hp => ?_⟩
        obtain ⟨R', r⟩ := R.newl hp (k2.rep k.toNat)
        exact q _ B _ R' (Evl.Ex.refl _) r
      · rw [if_neg c] at e'; cases e'
    | _ => cases e
  | _ => cases e⟩
/-- tuple + tuple -/
def dCatT : D → D → Option Rv
  | .tup xs, .tup ys => if xs.length + ys.length ≤ 16000000 then some (.v (.tup (xs ++ ys))) else none
  | _, _ => none
theorem dens_nil {ds : List D} (h : Dens g B ds []) : ds = [] := by have := h.length; cases ds; rfl; simp at this
theorem o_catT (hK : X.K = g.K) : OpRv X g (binaryOp .Add) dCatT := ⟨_, op_catA, fun T B H σ s x y dx dy d Q R h1 h2 e q => by
  cases dx with
  | tup xs =>
    cases dy with
    | tup ys =>
      have e' : (if xs.length + ys.length ≤ 16000000 then some (Rv.v (.tup (xs ++ ys))) else none) = some d := e
      by_cases c : xs.length + ys.length ≤ 16000000
      · rw [if_pos c] at e'; cases e'
        obtain ⟨a, vs, rfl, k1, k2⟩ := h1
        obtain ⟨b, us, rfl, k3, k4⟩ := h2
        have j1 := Evl.ex_t R.bh k1
        have j3 := Evl.ex_t R.bh k3
        rw [← hK] at j1 j3
        refine ⟨a, b, vs, us, rfl, rfl, j1, j3, by rw [k2.length, k4.length]; exact sz16 c, fun z => ?_, fun z z' => ?_, fun z z' p hp => ?_⟩
        · subst z
          have := dens_nil k2
          subst this
          exact q _ B H R (Evl.Ex.refl _) ⟨b, us, rfl, k3, k4⟩
        · subst z'
          have := dens_nil k4
          subst this
          rw [List.append_nil] at q
          exact q _ B H R (Evl.Ex.refl _) ⟨a, vs, rfl, k1, k2⟩
        · obtain ⟨B', R', e', r⟩ := R.newt hp (k2.append k4)
          exact q _ B' _ R' e' r
      · rw [if_neg c] at e'; cases e'
    | _ => cases e
  | _ => cases e⟩
/-- - i -/
def UnD (X : Cx) (g : G) (f : Value → Sem Value) (g2 : D → Option D) : Prop :=
  ∃ r : V → Hp → VK → Prop, UnR X f r ∧ ∀ (T : Tx) (B H : Hp) (σ : L2.St) (s : S) (x : V) (dx d : D) (Q : VK), Rel g T B H σ s → DenW g B H dx x → g2 dx = some d →
    (∀ v B' H', Rel g T B' H' σ s → Ex B B' → Den g B' d v → Q v H') → r x H Q
def mun (f : D → Option D) (fa : M Opd) : M D := mbind fa fun oa => mbind (res oa) fun x => mopt (f x)
theorem un_post {f : D → Option D} {o : Opd} {x : V} {r : V → Hp → VK → Prop} {Q : VK} (hr : ∀ (T : Tx) (B H : Hp) (σ : L2.St) (s : S) (x : V) (dx d : D) (Q : VK), Rel g T B H σ s → DenW g B H dx x → f dx = some d →
    (∀ v B' H', Rel g T B' H' σ s → Ex B B' → Den g B' d v → Q v H') → r x H Q) (R : Rel g T B H σ s) (q : OpdOk g B σ o x) (p : PostM g T W (PD g) σ B (mbind (res o) (fun x => mopt (f x)) s) Q) : r x H Q := by
  rcases res_cases (o := o) (s := s) with ⟨dx, w⟩ | w
  · rw [mbind_ok w] at p
    cases ef : f dx with
    | none => rw [ef] at p; exact p.elim
    | some d => rw [ef] at p; exact hr T B H σ s x dx d Q R (res_ok R q w).2 ef fun v B' H' R' e' hd => p v B' H' R' e' hd
  · exfalso
    have z : mbind (res o) (fun x => mopt (f x)) s = .bad := by unfold mbind; rw [w]
    rw [z] at p; exact p
theorem je_un {op : UnaryOp} {f : D → Option D} {fa : M Opd} (ho : UnD X g (unaryOp op) f) (ha : JO X g T W a fa) : JE X g T W (.UnaryOp op a pos) (mun f fa) := by
  obtain ⟨r, h1, hr⟩ := ho
  exact fun τ t => PE.imp (pe_un h1 (ha τ t)) fun σ H Q ⟨B, s, R, p⟩ => (PostM.bind (P := PO' g) R p).mono fun x H1 ⟨o, B1, s1, R1, e1, q1, p1⟩ => un_post hr R1 q1 p1
def dNeg : D → Option D
  | .int i => some (.int (-i))
  | _ => none
theorem o_neg : UnD X g (unaryOp .USub) dNeg := ⟨_, un_neg, fun T B H σ s x dx d Q R h e q => by
  cases dx with
  | int i => cases h; cases e; exact ⟨i, rfl, q _ B H R (Evl.Ex.refl _) rfl⟩
  | _ => cases e⟩
end TW

set_option Elab.async false
set_option linter.all false
set_option autoImplicit false
set_option maxRecDepth 100000
set_option maxHeartbeats 1000000
namespace TW
open PySem PySem.Spec PyProof.Rows L2
variable {g : G} {T : Tx} {B B' H H' : Hp} {σ : L2.St} {s : S} {W : WX} {α β γ δ : Type} {P : PP α β}
variable {X : Cx} {e a b c : Expr} {es : List Expr} {pos : Pos}

/-! ## argument lists -/
theorem PAs.nil : PAs g σ s [] B H [] := ⟨rfl, fun i o v h => by simp at h⟩
theorem PAs.cons {o : Opd} {v : V} {os : List Opd} {vs : List V} (h : OpdOk g B σ o v) (hs : PAs g σ s os B H vs) : PAs g σ s (o :: os) B H (v :: vs) := ⟨by simp [hs.1], fun i o' v' h1 h2 => by
  cases i with
  | zero => simp at h1 h2; subst h1; subst h2; exact h
  | succ i => simp at h1 h2; exact hs.2 i o' v' h1 h2⟩
theorem PAs.mono {os : List Opd} {vs : List V} {s' : S} {H' : Hp} (e : Ex B B') (h : PAs g σ s os B H vs) : PAs g σ s' os B' H' vs := ⟨h.1, fun i o v h1 h2 => (h.2 i o v h1 h2).mono e⟩
theorem PAs.append {os os' : List Opd} {vs vs' : List V} (h : PAs g σ s os B H vs) (h' : PAs g σ s os' B H vs') : PAs g σ s (os ++ os') B H (vs ++ vs') := ⟨by simp [h.1, h'.1], fun i o v h1 h2 => by
  by_cases hi : i < os.length
  · rw [List.getElem?_append_left hi] at h1
    rw [List.getElem?_append_left (by rw [← h.1]; exact hi)] at h2
    exact h.2 i o v h1 h2
  · rw [List.getElem?_append_right (by omega)] at h1
    rw [List.getElem?_append_right (by rw [← h.1]; omega), ← h.1] at h2
    exact h'.2 _ o v h1 h2⟩
theorem PAs.of_dens {ds : List D} {vs : List V} (h : Dens g B ds vs) : PAs g σ s (ds.map .d) B H vs := ⟨by simp [h.length], fun i o v h1 h2 => by
  rw [List.getElem?_map] at h1
  cases e : ds[i]? with
  | none => rw [e] at h1; cases h1
  | some d =>
    rw [e] at h1; cases h1
    obtain ⟨v', e', q⟩ := h.get e
    rw [h2] at e'; cases e'; exact q⟩
theorem ja_nil : JA X g T W [] (mret []) := fun τ t => PA.imp pa_nil fun σ H Q ⟨B, s, R, p⟩ => p [] B H R (Evl.Ex.refl _) .nil
def mcons (fa : M Opd) (fr : M (List Opd)) : M (List Opd) := mbind fa fun o => mbind fr fun os => mret (o :: os)
theorem ja_cons {fa : M Opd} {fr : M (List Opd)} (ha : JO X g T W e fa) (hr : JA X g T W es fr) (hs : starEach (e :: es) X.env = (false, eval e X.env) :: starEach es X.env := by rfl) : JA X g T W (e :: es) (mcons fa fr) :=
  fun τ t => PA.imp (pa_cons (ha τ t) (hr τ t) hs) fun σ H Q ⟨B, s, R, p⟩ => (PostM.bind (P := PO' g) R p).mono fun v H1 ⟨o, B1, s1, R1, e1, q1, p1⟩ =>
    (PostM.bind (P := PAs g) R1 p1).mono fun vs H2 ⟨os, B2, s2, R2, e2, q2, p2⟩ => p2 (v :: vs) B2 H2 R2 (Evl.Ex.refl _) ((q2.cons (q1.mono e2)))
def itemsD : D → Option (List D)
  | .tup ds => some ds
  | .lst ds => some ds
  | .arg ds => some ds
  | _ => none
def mstar (fa : M Opd) (fr : M (List Opd)) : M (List Opd) := mbind fa fun o => mbind (res o) fun d => mbind (mopt (itemsD d)) fun ds => mbind fr fun os => mret (ds.map .d ++ os)
theorem items_den {d : D} {v : V} {ds : List D} (eB : Ex B H) (h : DenW g B H d v) (e : itemsD d = some ds) : ∃ a vs, v = .ref a ∧ (SqT g.K H a vs ∨ SqL g.K H a vs) ∧ Dens g B ds vs := by
  cases d with
  | tup ds' => cases e; obtain ⟨a, vs, rfl, h1, h2⟩ := h; exact ⟨a, vs, rfl, .inl (Evl.ex_t eB h1), h2⟩
  | lst ds' => cases e; obtain ⟨a, vs, rfl, h1, h2⟩ := h; exact ⟨a, vs, rfl, .inr (.inl (.inl h1)), h2⟩
  | arg ds' => cases e; obtain ⟨a, vs, rfl, h1, h2⟩ := h; exact ⟨a, vs, rfl, .inr (Evl.ex_l eB h1), h2⟩
  | _ => cases e
theorem ja_star {fa : M Opd} {fr : M (List Opd)} {p' : Pos} (hK : X.K = g.K) (ha : JO X g T W e fa) (hr : JA X g T W es fr) (hs : starEach (.Starred e p' :: es) X.env = (true, eval e X.env) :: starEach es X.env := by rfl) : JA X g T W (.Starred e p' :: es) (mstar fa fr) :=
  fun τ t => PA.imp (StX.pa_star (ha τ t) (hr τ t) hs) fun σ H Q ⟨B, s, R, p⟩ => (PostM.bind (P := PO' g) R p).mono fun v H1 ⟨o, B1, s1, R1, e1, q1, p1⟩ => by
    rcases res_cases (o := o) (s := s1) with ⟨d, w⟩ | w
    · rw [mbind_ok w] at p1
      cases ei : itemsD d with
      | none => rw [ei] at p1; exact p1.elim
      | some ds =>
        rw [ei] at p1
        obtain ⟨a, vs, rfl, hv, hd⟩ := items_den R1.bh (res_ok R1 q1 w).2 ei
        rw [← hK] at hv
        refine ⟨a, vs, rfl, hv, ?_⟩
        exact (PostM.bind (P := PAs g) R1 p1).mono fun us H2 ⟨os, B2, s2, R2, e2, q2, p2⟩ => p2 _ B2 H2 R2 (Evl.Ex.refl _) ((PAs.of_dens (hd.mono e2)).append q2)
    · exfalso
      have z : mbind (res o) (fun d => mbind (mopt (itemsD d)) fun ds => mbind fr fun os => mret (ds.map Opd.d ++ os)) s1 = .bad := by unfold mbind; rw [w]
      rw [z] at p1; exact p1
/-! ### displays -/
def strongs : List Opd → M (List D)
  | [] => mret []
  | o :: r => mbind (strong o) fun d => mbind (strongs r) fun ds => mret (d :: ds)
theorem strongs_ok : ∀ {os : List Opd} {vs : List V} {ds : List D} {s' : S}, Rel g T B H σ s → PAs g σ s os B H vs → strongs os s = .ok ds s' → s' = s ∧ Dens g B ds vs
  | [], vs, ds, s', R, h, e => by
    cases e
    have : vs = [] := by have := h.1; cases vs; rfl; simp at this
    subst this
    exact ⟨rfl, Dens.nil⟩
  | o :: r, vs, ds, s', R, h, e => by
    cases vs with
    | nil => have := h.1; simp at this
    | cons v vs =>
      have h1 := h.2 0 o v rfl rfl
      have h2 : PAs g σ s r B H vs := ⟨by have := h.1; simpa using this, fun i o' v' a1 a2 => h.2 (i + 1) o' v' (by simpa using a1) (by simpa using a2)⟩
      unfold strongs at e
      rcases strong_cases (o := o) (s := s) with ⟨d, w⟩ | w
      · rw [mbind_ok w] at e
        cases er : strongs r s with
        | ok ds' s2 =>
          rw [mbind_ok er] at e
          cases e
          obtain ⟨rfl, q⟩ := strongs_ok R h2 er
          exact ⟨rfl, Dens.cons (strong_ok R h1 w).2 q⟩
        | ex c cs s2 => unfold mbind at e; rw [er] at e; cases e
        | bad => unfold mbind at e; rw [er] at e; cases e
      · unfold mbind at e; rw [w] at e; cases e
theorem strongs_ex : ∀ {os : List Opd}, (∃ ds, strongs os s = .ok ds s) ∨ strongs os s = .bad
  | [] => .inl ⟨[], rfl⟩
  | o :: r => by
    unfold strongs
    rcases strong_cases (o := o) (s := s) with ⟨d, w⟩ | w
    · rw [mbind_ok w]
      rcases strongs_ex (os := r) with ⟨ds, w2⟩ | w2
      · exact .inl ⟨_, by rw [mbind_ok w2]; rfl⟩
      · exact .inr (by unfold mbind; rw [w2])
    · exact .inr (by unfold mbind; rw [w])
def mlst (fa : M (List Opd)) : M Rv := mbind fa fun os => mbind (strongs os) fun ds => if ds.length ≤ 16000000 then mret (.l ds) else mbad
def mtup (fa : M (List Opd)) : M D := mbind fa fun os => mbind (strongs os) fun ds => if ds.length ≤ 16000000 then mret (.tup ds) else mbad
theorem jr_lst {fa : M (List Opd)} (ha : JA X g T W es fa) : JR X g T W (.List es pos) (mlst fa) :=
  fun τ t => PE.imp (pe_lst (ha τ t)) fun σ H Q ⟨B, s, R, p⟩ => (PostM.bind (P := PAs g) R p).mono fun vs H1 ⟨os, B1, s1, R1, e1, q1, p1⟩ => by
    rcases strongs_ex (s := s1) (os := os) with ⟨ds, w⟩ | w
    · rw [mbind_ok w] at p1
      have hd := (strongs_ok R1 q1 w).2
      by_cases c : ds.length ≤ 16000000
      · rw [if_pos c] at p1
        refine ⟨by rw [hd.length]; exact sz16 c, fun p hp => ?_⟩
        obtain ⟨R', r⟩ := R1.newl hp hd
        exact p1 _ B1 _ R' (Evl.Ex.refl _) r
      · rw [if_neg c] at p1; exact p1.elim
    · exfalso
      have z : mbind (strongs os) (fun ds => if ds.length ≤ 16000000 then mret (Rv.l ds) else mbad) s1 = .bad := by unfold mbind; rw [w]
      rw [z] at p1; exact p1
theorem je_tup {x1} {fa : M (List Opd)} (ha : JA X g T W es fa) : JE X g T W (.Tuple es x1 pos) (mtup fa) :=
  fun τ t => PE.imp (pe_tup (ha τ t)) fun σ H Q ⟨B, s, R, p⟩ => (PostM.bind (P := PAs g) R p).mono fun vs H1 ⟨os, B1, s1, R1, e1, q1, p1⟩ => by
    rcases strongs_ex (s := s1) (os := os) with ⟨ds, w⟩ | w
    · rw [mbind_ok w] at p1
      have hd := (strongs_ok R1 q1 w).2
      by_cases c : ds.length ≤ 16000000
      · rw [if_pos c] at p1
        refine ⟨by rw [hd.length]; exact sz16 c, fun p hp => ?_⟩
        obtain ⟨B', R', e', r⟩ := R1.newt hp hd
        exact p1 _ B' _ R' e' r
      · rw [if_neg c] at p1; exact p1.elim
    · exfalso
      have z : mbind (strongs os) (fun ds => if ds.length ≤ 16000000 then mret (D.tup ds) else mbad) s1 = .bad := by unfold mbind; rw [w]
      rw [z] at p1; exact p1
/-! ### subscripts -/
def dIx : D → D → Option D
  | .tup ds, .int i => atI ds i
  | .lst ds, .int i => atI ds i
  | .arg ds, .int i => atI ds i
  | .str x, .int i => if x.length ≤ 100000 then (atI x.cps.toList i).map fun c => .str ⟨#[c]⟩ else none
  | _, _ => none
theorem atI_dens {ds : List D} {vs : List V} {i : Int} {d : D} (h : Dens g B ds vs) (e : atI ds i = some d) : ∃ v, atI vs i = some v ∧ Den g B d v := by
  unfold atI at e ⊢
  rw [h.length]
  cases q : ixN ds.length i with
  | none => rw [q] at e; cases e
  | some j => rw [q] at e; exact h.get e
theorem ix_rd (hK : X.K = g.K) (T : Tx) (B H : Hp) (σ : L2.St) (s : S) (x y : V) (dx dy d : D) (Q : VK) (R : Rel g T B H σ s) (h1 : DenW g B H dx x) (h2 : DenW g B H dy y) (e : dIx dx dy = some d)
    (q : ∀ v B' H', Rel g T B' H' σ s → Ex B B' → Den g B' d v → Q v H') : rIx X.K x y H Q := by
  rw [hK]
  cases dx with
  | tup ds =>
    cases dy with
    | int i =>
      cases h2
      obtain ⟨a, vs, rfl, k1, k2⟩ := h1
      obtain ⟨v, e1, hv⟩ := atI_dens k2 e
      exact .inr (.inl ⟨a, vs, i, v, rfl, rfl, Evl.ex_t R.bh k1, e1, q v B H R (Evl.Ex.refl _) hv⟩)
    | _ => cases e
  | lst ds =>
    cases dy with
    | int i =>
      cases h2
      obtain ⟨a, vs, rfl, k1, k2⟩ := h1
      obtain ⟨v, e1, hv⟩ := atI_dens k2 e
      exact .inl ⟨a, vs, i, v, rfl, rfl, .inl (.inl k1), e1, q v B H R (Evl.Ex.refl _) hv⟩
    | _ => cases e
  | arg ds =>
    cases dy with
    | int i =>
      cases h2
      obtain ⟨a, vs, rfl, k1, k2⟩ := h1
      obtain ⟨v, e1, hv⟩ := atI_dens k2 e
      exact .inl ⟨a, vs, i, v, rfl, rfl, Evl.ex_l R.bh k1, e1, q v B H R (Evl.Ex.refl _) hv⟩
    | _ => cases e
  | str x =>
    cases dy with
    | int i =>
      cases h1; cases h2
      have e' : (if x.length ≤ 100000 then (atI x.cps.toList i).map fun c => D.str ⟨#[c]⟩ else none) = some d := e
      by_cases c : x.length ≤ 100000
      · rw [if_pos c] at e'
        cases q1 : atI x.cps.toList i with
        | none => rw [q1] at e'; cases e'
        | some ch =>
          rw [q1] at e'; cases e'
          exact .inr (.inr ⟨x, i, ch, rfl, rfl, Evl.sz_of c, q1, q _ B H R (Evl.Ex.refl _) rfl⟩)
      · rw [if_neg c] at e'; cases e'
    | _ => cases e
  | _ => cases dy <;> cases e
theorem je_ix {fa fb : M Opd} (hK : X.K = g.K) (ha : JO X g T W a fa) (hb : JO X g T W b fb) (hs : PlainIx b) : JE X g T W (.Subscript a b pos) (mbin dIx fa fb) :=
  fun τ t => PE.imp (pe_ix ix_seq (ha τ t) (hb τ t) hs) fun σ H Q h => bin_rd (ix_rd hK) h
/-- the parts of a slice -/
def POpt : PP (Option Int) (Option Int) := fun _ _ o _ _ o' => o' = o
def JP (X : Cx) (g : G) (T : Tx) (W : WX) (e : Option Expr) (f : M (Option Int)) : Prop := ∀ τ t, L2.PO X e (RdM g (T.tmp τ t) W POpt f)
theorem PO.imp {X : Cx} {e : Option Expr} {t t' : TO} (h : L2.PO X e t) (hi : ∀ σ H Q, t' σ H Q → t σ H Q) : L2.PO X e t' := ⟨fun pins s σ H Q I q => h.run pins s σ H Q I (hi _ _ _ q)⟩
theorem jp_none : JP X g T W none (mret none) := fun τ t => PO.imp po_none fun σ H Q ⟨B, s, R, p⟩ => p none B H R (Evl.Ex.refl _) rfl
def intD : D → Option Int
  | .int i => some i
  | _ => none
def mpart (f : M D) : M (Option Int) := mbind f fun d => mbind (mopt (intD d)) fun i => mret (some i)
theorem jp_some {f : M D} (h : JE X g T W e f) : JP X g T W (some e) (mpart f) := fun τ t => PO.imp (po_some (h τ t)) fun σ H Q ⟨B, s, R, p⟩ => (PostM.bind (P := PD g) R p).mono fun v H1 ⟨d, B1, s1, R1, e1, q1, p1⟩ => by
  cases d with
  | int i => exact ⟨i, q1, p1 (some i) B1 H1 R1 (Evl.Ex.refl _) rfl⟩
  | _ => exact p1.elim
def cutD {α : Type} (xs : List α) (lo hi : Option Int) : List α := (xs.drop (HT.sIx xs.length 0 lo)).take (HT.sIx xs.length xs.length hi - HT.sIx xs.length 0 lo)
theorem cut_dens {ds : List D} {vs : List V} (h : Dens g B ds vs) (lo hi : Option Int) : Dens g B (cutD ds lo hi) (cutV vs lo hi) := by
  unfold cutD cutV
  rw [h.length]
  exact (h.drop _).take _
def dSl : D → Option Int → Option Int → Option Rv
  | .tup ds, lo, hi => some (.v (.tup (cutD ds lo hi)))
  | .lst ds, lo, hi => some (.l (cutD ds lo hi))
  | .arg ds, lo, hi => some (.l (cutD ds lo hi))
  | _, _, _ => none
def mslice (fa : M Opd) (fl fh : M (Option Int)) : M Rv := mbind fa fun o => mbind fl fun lo => mbind fh fun hi => mbind (res o) fun d => mopt (dSl d lo hi)
theorem cutV_whole {xs : List V} {lo hi : Option Int} (h : HT.sIx xs.length 0 lo = 0 ∧ HT.sIx xs.length xs.length hi = xs.length) : cutV xs lo hi = xs := by
  unfold cutV; rw [h.1, h.2]; simp
theorem jr_slice {fa : M Opd} {fl fh : M (Option Int)} {lo hi : Option Expr} {p2 : Pos} (hK : X.K = g.K) (ha : JO X g T W a fa) (hl : JP X g T W lo fl) (hh : JP X g T W hi fh) : JR X g T W (.Subscript a (.Slice lo hi none p2) pos) (mslice fa fl fh) :=
  fun τ t => PE.imp (pe_slice (SlR.or sl_list sl_tupA) (ha τ t) (hl τ t) (hh τ t)) fun σ H Q ⟨B, s, R, p⟩ => (PostM.bind (P := PO' g) R p).mono fun v H1 ⟨o, B1, s1, R1, e1, q1, p1⟩ =>
    (PostM.bind (P := POpt) R1 p1).mono fun l H2 ⟨lo', B2, s2, R2, e2, q2, p2⟩ => (PostM.bind (P := POpt) R2 p2).mono fun u H3 ⟨hi', B3, s3, R3, e3, q3, p3⟩ => by
      subst q2; subst q3
      rcases res_cases (o := o) (s := s3) with ⟨d, w⟩ | w
      · rw [mbind_ok w] at p3
        have hd := (res_ok R3 ((q1.mono e2).mono e3) w).2
        cases d with
        | tup ds =>
          obtain ⟨b, vs, rfl, k1, k2⟩ := hd
          have j1 := Evl.ex_t R3.bh k1
          rw [← hK] at j1
          refine .inr ⟨b, vs, rfl, j1, fun c => ?_, fun c p hp => ?_⟩
          · have hc := cut_dens k2 l u
            rw [cutV_whole c] at hc
            exact p3 _ B3 H3 R3 (Evl.Ex.refl _) ⟨b, vs, rfl, k1, hc⟩
          · obtain ⟨B', R', e', r⟩ := R3.newt hp (cut_dens k2 l u)
            exact p3 _ B' _ R' e' r
        | lst ds =>
          obtain ⟨b, vs, rfl, k1, k2⟩ := hd
          refine .inl ⟨b, vs, rfl, .inl (.inl k1), fun p hp => ?_⟩
          obtain ⟨R', r⟩ := R3.newl hp (cut_dens k2 l u)
          exact p3 _ B3 _ R' (Evl.Ex.refl _) r
        | arg ds =>
          obtain ⟨b, vs, rfl, k1, k2⟩ := hd
          have j1 := Evl.ex_l R3.bh k1
          rw [← hK] at j1
          refine .inl ⟨b, vs, rfl, j1, fun p hp => ?_⟩
          obtain ⟨R', r⟩ := R3.newl hp (cut_dens k2 l u)
          exact p3 _ B3 _ R' (Evl.Ex.refl _) r
        | _ => exact p3.elim
      · exfalso
        have z : mbind (res o) (fun d => mopt (dSl d l u)) s3 = .bad := by unfold mbind; rw [w]
        rw [z] at p3; exact p3
/-! ### built-ins by values -/
def ress : List Opd → M (List D)
  | [] => mret []
  | o :: r => mbind (res o) fun d => mbind (ress r) fun ds => mret (d :: ds)
def DensW (g : G) (B H : Hp) : List D → List V → Prop
  | [], vs => vs = []
  | d :: ds, vs => ∃ v r, vs = v :: r ∧ DenW g B H d v ∧ DensW g B H ds r
theorem ress_ok : ∀ {os : List Opd} {vs : List V} {ds : List D} {s' : S}, Rel g T B H σ s → PAs g σ s os B H vs → ress os s = .ok ds s' → s' = s ∧ DensW g B H ds vs
  | [], vs, ds, s', R, h, e => by
    cases e
    have : vs = [] := by have := h.1; cases vs; rfl; simp at this
    exact ⟨rfl, this⟩
  | o :: r, vs, ds, s', R, h, e => by
    cases vs with
    | nil => have := h.1; simp at this
    | cons v vs =>
      have h1 := h.2 0 o v rfl rfl
      have h2 : PAs g σ s r B H vs := ⟨by have := h.1; simpa using this, fun i o' v' a1 a2 => h.2 (i + 1) o' v' (by simpa using a1) (by simpa using a2)⟩
      unfold ress at e
      rcases res_cases (o := o) (s := s) with ⟨d, w⟩ | w
      · rw [mbind_ok w] at e
        cases er : ress r s with
        | ok ds' s2 =>
          rw [mbind_ok er] at e
          cases e
          obtain ⟨rfl, q⟩ := ress_ok R h2 er
          exact ⟨rfl, v, vs, rfl, (res_ok R h1 w).2, q⟩
        | ex c cs s2 => unfold mbind at e; rw [er] at e; cases e
        | bad => unfold mbind at e; rw [er] at e; cases e
      · unfold mbind at e; rw [w] at e; cases e
theorem ress_ex : ∀ {os : List Opd}, (∃ ds, ress os s = .ok ds s) ∨ ress os s = .bad
  | [] => .inl ⟨[], rfl⟩
  | o :: r => by
    unfold ress
    rcases res_cases (o := o) (s := s) with ⟨d, w⟩ | w
    · rw [mbind_ok w]
      rcases ress_ex (os := r) with ⟨ds, w2⟩ | w2
      · exact .inl ⟨_, by rw [mbind_ok w2]; rfl⟩
      · exact .inr (by unfold mbind; rw [w2])
    · exact .inr (by unfold mbind; rw [w])
def CbD (X : Cx) (g : G) (f : Value) (h : List D → Option Rv) : Prop :=
  ∃ r, CallR X f r ∧ ∀ (T : Tx) (B H : Hp) (σ : L2.St) (s : S) (vs : List V) (ds : List D) (d : Rv) (Q : VK), Rel g T B H σ s → DensW g B H ds vs → h ds = some d →
    (∀ v B' H', Rel g T B' H' σ s → Ex B B' → RvOk g T σ s d B' H' v → Q v H') → r vs H Q
def mcb (h : List D → Option Rv) (fa : M (List Opd)) : M Rv := mbind fa fun os => mbind (ress os) fun ds => mopt (h ds)
theorem jr_cb {f : Value} {h : List D → Option Rv} {fa : M (List Opd)} (ho : CbD X g f h) (hpe : ∀ r ta, CallR X f r → PA X es ta → PE X e (tCB r ta)) (ha : JA X g T W es fa) : JR X g T W e (mcb h fa) := by
  obtain ⟨r, h1, hr⟩ := ho
  exact fun τ t => PE.imp (hpe r _ h1 (ha τ t)) fun σ H Q ⟨B, s, R, p⟩ => (PostM.bind (P := PAs g) R p).mono fun vs H1 ⟨os, B1, s1, R1, e1, q1, p1⟩ => by
    rcases ress_ex (s := s1) (os := os) with ⟨ds, w⟩ | w
    · rw [mbind_ok w] at p1
      cases ef : h ds with
      | none => rw [ef] at p1; exact p1.elim
      | some d => rw [ef] at p1; exact hr _ B1 H1 σ s1 vs ds d Q R1 (ress_ok R1 q1 w).2 ef fun v B' H' R' e' hd => p1 v B' H' R' e' hd
    · exfalso
      have z : mbind (ress os) (fun ds => mopt (h ds)) s1 = .bad := by unfold mbind; rw [w]
      rw [z] at p1; exact p1
theorem cb1 {f : Value} {h : D → Option Rv} {r : List V → Hp → VK → Prop} (hr : CallR X f r) (hq : ∀ (T : Tx) (B H : Hp) (σ : L2.St) (s : S) (v : V) (d : D) (o : Rv) (Q : VK), Rel g T B H σ s → DenW g B H d v → h d = some o →
    (∀ v B' H', Rel g T B' H' σ s → Ex B B' → RvOk g T σ s o B' H' v → Q v H') → r [v] H Q) : CbD X g f (fun ds => match ds with | [d] => h d | _ => none) :=
  ⟨r, hr, fun T B H σ s vs ds o Q R hd e q => by
    cases ds with
    | nil => cases e
    | cons d ds =>
      cases ds with
      | nil => obtain ⟨v, w, rfl, h1, h2⟩ := hd; cases h2; exact hq T B H σ s v d o Q R h1 e q
      | cons d' ds => cases e⟩
def lenD : D → Option Rv
  | .tup ds => some (.v (.int ds.length))
  | .lst ds => some (.v (.int ds.length))
  | .arg ds => some (.v (.int ds.length))
  | .str x => if x.length ≤ 100000 then some (.v (.int x.length)) else none
  | _ => none
abbrev on1 (h : D → Option Rv) : List D → Option Rv := fun ds => match ds with
  | [d] => h d
  | _ => none
theorem o_len (hK : X.K = g.K) : CbD X g (.builtin "len") (on1 lenD) := cb1 call_len fun T B H σ s v d o Q R h e q => by
  cases d with
  | tup ds => obtain ⟨a, vs, rfl, k1, k2⟩ := h; cases e; exact ⟨_, vs.length, rfl, .inr ⟨vs, by rw [hK]; exact Evl.ex_t R.bh k1, rfl⟩, q _ B H R (Evl.Ex.refl _) (by rw [k2.length]; rfl)⟩
  | lst ds => obtain ⟨a, vs, rfl, k1, k2⟩ := h; cases e; exact ⟨_, vs.length, rfl, .inl ⟨vs, .inl (.inl k1), rfl⟩, q _ B H R (Evl.Ex.refl _) (by rw [k2.length]; rfl)⟩
  | arg ds => obtain ⟨a, vs, rfl, k1, k2⟩ := h; cases e; exact ⟨_, vs.length, rfl, .inl ⟨vs, by rw [hK]; exact Evl.ex_l R.bh k1, rfl⟩, q _ B H R (Evl.Ex.refl _) (by rw [k2.length]; rfl)⟩
  | str x =>
    cases h
    have e' : (if x.length ≤ 100000 then some (Rv.v (.int x.length)) else none) = some o := e
    by_cases c : x.length ≤ 100000
    · rw [if_pos c] at e'; cases e'
      exact ⟨_, x.length, rfl, ⟨Evl.sz_of c, rfl⟩, q _ B H R (Evl.Ex.refl _) rfl⟩
    · rw [if_neg c] at e'; cases e'
  | _ => cases e
def absD : D → Option Rv
  | .int i => some (.v (.int (if i < 0 then -i else i)))
  | _ => none
theorem o_abs : CbD X g (.builtin "abs") (on1 absD) := cb1 call_abs fun T B H σ s v d o Q R h e q => by
  cases d with
  | int i => cases h; cases e; exact ⟨i, rfl, q _ B H R (Evl.Ex.refl _) rfl⟩
  | _ => cases e
def intOf : D → Option Rv
  | .int i => some (.v (.int i))
  | .bl b => some (.v (.int (if b then 1 else 0)))
  | _ => none
theorem o_int : CbD X g (.type "int") (on1 intOf) := cb1 call_int1 fun T B H σ s v d o Q R h e q => by
  cases d with
  | int i => cases h; cases e; exact .inl ⟨i, rfl, q _ B H R (Evl.Ex.refl _) rfl⟩
  | bl b => cases h; cases e; exact .inr ⟨b, rfl, q _ B H R (Evl.Ex.refl _) rfl⟩
  | _ => cases e
def listOf : D → Option Rv
  | .tup ds => some (.l ds)
  | .lst ds => some (.l ds)
  | .arg ds => some (.l ds)
  | _ => none
theorem o_list (hK : X.K = g.K) : CbD X g (.type "list") (on1 listOf) := cb1 call_list_of fun T B H σ s v d o Q R h e q => by
  cases d with
  | tup ds => obtain ⟨a, vs, rfl, k1, k2⟩ := h; cases e; exact ⟨a, vs, rfl, .inr (by rw [hK]; exact Evl.ex_t R.bh k1), fun p hp => q _ B _ (R.newl hp k2).1 (Evl.Ex.refl _) (R.newl hp k2).2⟩
  | lst ds => obtain ⟨a, vs, rfl, k1, k2⟩ := h; cases e; exact ⟨a, vs, rfl, .inl (.inl (.inl k1)), fun p hp => q _ B _ (R.newl hp k2).1 (Evl.Ex.refl _) (R.newl hp k2).2⟩
  | arg ds => obtain ⟨a, vs, rfl, k1, k2⟩ := h; cases e; exact ⟨a, vs, rfl, .inl (by rw [hK]; exact Evl.ex_l R.bh k1), fun p hp => q _ B _ (R.newl hp k2).1 (Evl.Ex.refl _) (R.newl hp k2).2⟩
  | _ => cases e
def tupOf : D → Option Rv
  | .tup ds => some (.v (.tup ds))
  | .lst ds => some (.v (.tup ds))
  | .arg ds => some (.v (.tup ds))
  | _ => none
theorem o_tuple (hK : X.K = g.K) : CbD X g (.type "tuple") (on1 tupOf) := cb1 call_tuple_of fun T B H σ s v d o Q R h e q => by
  cases d with
  | tup ds => obtain ⟨a, vs, rfl, k1, k2⟩ := h; cases e; exact ⟨a, vs, rfl, .inr ⟨by rw [hK]; exact Evl.ex_t R.bh k1, q _ B H R (Evl.Ex.refl _) ⟨a, vs, rfl, k1, k2⟩⟩⟩
  | lst ds => obtain ⟨a, vs, rfl, k1, k2⟩ := h; cases e; exact ⟨a, vs, rfl, .inl ⟨.inl (.inl k1), fun p hp => by obtain ⟨B', R', e', r⟩ := R.newt hp k2; exact q _ B' _ R' e' r⟩⟩
  | arg ds => obtain ⟨a, vs, rfl, k1, k2⟩ := h; cases e; exact ⟨a, vs, rfl, .inl ⟨by rw [hK]; exact Evl.ex_l R.bh k1, fun p hp => by obtain ⟨B', R', e', r⟩ := R.newt hp k2; exact q _ B' _ R' e' r⟩⟩
  | _ => cases e
/-- lists of ints, of bools -/
def intsD : List D → Option (List Int)
  | [] => some []
  | .int i :: r => (intsD r).map (i :: ·)
  | _ => none
def blsD : List D → Option (List Bool)
  | [] => some []
  | .bl b :: r => (blsD r).map (b :: ·)
  | _ => none
theorem ints_den : ∀ {ds : List D} {vs : List V} {ns : List Int}, Dens g B ds vs → intsD ds = some ns → vs = ns.map V.int
  | [], vs, ns, h, e => by cases h; cases e; rfl
  | .int i :: r, vs, ns, ⟨v, w, e1, h1, h2⟩, e => by
    subst e1; cases h1
    have e' : (intsD r).map (i :: ·) = some ns := e
    cases q : intsD r with
    | none => rw [q] at e'; cases e'
    | some ms => rw [q] at e'; cases e'; rw [ints_den h2 q]; rfl
  | .non :: _, _, _, _, e => by cases e
  | .bl _ :: _, _, _, _, e => by cases e
  | .str _ :: _, _, _, _, e => by cases e
  | .tup _ :: _, _, _, _, e => by cases e
  | .lst _ :: _, _, _, _, e => by cases e
  | .arg _ :: _, _, _, _, e => by cases e
  | .obj _ _ :: _, _, _, _, e => by cases e
  | .exc _ _ _ _ :: _, _, _, _, e => by cases e
  | .dct :: _, _, _, _, e => by cases e
theorem bls_den : ∀ {ds : List D} {vs : List V} {ns : List Bool}, Dens g B ds vs → blsD ds = some ns → vs = ns.map V.bl
  | [], vs, ns, h, e => by cases h; cases e; rfl
  | .bl i :: r, vs, ns, ⟨v, w, e1, h1, h2⟩, e => by
    subst e1; cases h1
    have e' : (blsD r).map (i :: ·) = some ns := e
    cases q : blsD r with
    | none => rw [q] at e'; cases e'
    | some ms => rw [q] at e'; cases e'; rw [bls_den h2 q]; rfl
  | .non :: _, _, _, _, e => by cases e
  | .int _ :: _, _, _, _, e => by cases e
  | .str _ :: _, _, _, _, e => by cases e
  | .tup _ :: _, _, _, _, e => by cases e
  | .lst _ :: _, _, _, _, e => by cases e
  | .arg _ :: _, _, _, _, e => by cases e
  | .obj _ _ :: _, _, _, _, e => by cases e
  | .exc _ _ _ _ :: _, _, _, _, e => by cases e
  | .dct :: _, _, _, _, e => by cases e
def onInts (h : List Int → Option Int) : D → Option Rv
  | .lst ds => (intsD ds).bind fun ns => (h ns).map fun i => .v (.int i)
  | _ => none
def onBls (h : List Bool → Bool) : D → Option Rv
  | .lst ds => (blsD ds).map fun ns => .v (.bl (h ns))
  | _ => none
theorem onInts_some {h : List Int → Option Int} {d : D} {o : Rv} (e : onInts h d = some o) : ∃ ds ns i, d = .lst ds ∧ intsD ds = some ns ∧ h ns = some i ∧ o = .v (.int i) := by
  cases d with
  | lst ds =>
    have e' : ((intsD ds).bind fun ns => (h ns).map fun i => Rv.v (.int i)) = some o := e
    cases q : intsD ds with
    | none => rw [q] at e'; cases e'
    | some ns =>
      rw [q] at e'
      cases q2 : h ns with
      | none => simp [q2] at e'
      | some i => simp [q2] at e'; exact ⟨ds, ns, i, rfl, q, q2, e'.symm⟩
  | _ => cases e
abbrev sumD := onInts fun ns => some ns.sum
def maxL (ns : List Int) : Option Int := ns.max?
def minL (ns : List Int) : Option Int := ns.min?
theorem o_sum (hc : X.calm = true) : CbD X g (.builtin "sum") (on1 sumD) := cb1 (cr_sum hc) fun T B H σ s v d o Q R h e q => by
  obtain ⟨ds, ns, i, rfl, e1, e2, rfl⟩ := onInts_some e
  obtain ⟨a, vs, rfl, k1, k2⟩ := h
  cases e2
  have := ints_den k2 e1
  subst this
  exact ⟨a, ns, rfl, .inl (.inl k1), q _ B H R (Evl.Ex.refl _) rfl⟩
theorem max_is {ns : List Int} {i m : Int} (h : ns.max? = some i) (h1 : m ∈ ns) (h2 : ∀ y, y ∈ ns → y ≤ m) : m = i := by
  obtain ⟨a1, a2⟩ := List.max?_eq_some_iff.mp h
  have := a2 m h1
  have := h2 i a1
  omega
theorem min_is {ns : List Int} {i m : Int} (h : ns.min? = some i) (h1 : m ∈ ns) (h2 : ∀ y, y ∈ ns → m ≤ y) : m = i := by
  obtain ⟨a1, a2⟩ := List.min?_eq_some_iff.mp h
  have := a2 m h1
  have := h2 i a1
  omega
theorem o_max1 (hc : X.calm = true) : CbD X g (.builtin "max") (on1 (onInts maxL)) := cb1 (cr_max hc) fun T B H σ s v d o Q R h e q => by
  obtain ⟨ds, ns, i, rfl, e1, e2, rfl⟩ := onInts_some e
  obtain ⟨a, vs, rfl, k1, k2⟩ := h
  have := ints_den k2 e1
  subst this
  refine ⟨a, ns, rfl, .inl (.inl k1), ?_, fun m h1 h2 => ?_⟩
  · cases ns with
    | nil => cases e2
    | cons x r => simp
  · have := max_is e2 h1 h2
    subst this
    exact q _ B H R (Evl.Ex.refl _) rfl
theorem o_min1 (hc : X.calm = true) : CbD X g (.builtin "min") (on1 (onInts minL)) := cb1 (cr_min hc) fun T B H σ s v d o Q R h e q => by
  obtain ⟨ds, ns, i, rfl, e1, e2, rfl⟩ := onInts_some e
  obtain ⟨a, vs, rfl, k1, k2⟩ := h
  have := ints_den k2 e1
  subst this
  refine ⟨a, ns, rfl, .inl (.inl k1), ?_, fun m h1 h2 => ?_⟩
  · cases ns with
    | nil => cases e2
    | cons x r => simp
  · have := min_is e2 h1 h2
    subst this
    exact q _ B H R (Evl.Ex.refl _) rfl
theorem o_all (hc : X.calm = true) : CbD X g (.builtin "all") (on1 (onBls fun bs => bs.all id)) := cb1 (cr_all hc) fun T B H σ s v d o Q R h e q => by
  cases d with
  | lst ds =>
    have e' : ((blsD ds).map fun ns => Rv.v (.bl (ns.all id))) = some o := e
    cases q1 : blsD ds with
    | none => rw [q1] at e'; cases e'
    | some bs =>
      rw [q1] at e'; cases e'
      obtain ⟨a, vs, rfl, k1, k2⟩ := h
      have := bls_den k2 q1
      subst this
      exact ⟨a, bs, rfl, .inl (.inl k1), q _ B H R (Evl.Ex.refl _) rfl⟩
  | _ => cases e
theorem o_any (hc : X.calm = true) : CbD X g (.builtin "any") (on1 (onBls fun bs => bs.any id)) := cb1 (cr_any hc) fun T B H σ s v d o Q R h e q => by
  cases d with
  | lst ds =>
    have e' : ((blsD ds).map fun ns => Rv.v (.bl (ns.any id))) = some o := e
    cases q1 : blsD ds with
    | none => rw [q1] at e'; cases e'
    | some bs =>
      rw [q1] at e'; cases e'
      obtain ⟨a, vs, rfl, k1, k2⟩ := h
      have := bls_den k2 q1
      subst this
      exact ⟨a, bs, rfl, .inl (.inl k1), q _ B H R (Evl.Ex.refl _) rfl⟩
  | _ => cases e
/-- two ints -/
def on2 (h : Int → Int → Int) : List D → Option Rv
  | [.int i, .int j] => some (.v (.int (h i j)))
  | _ => none
theorem on2_some {h : Int → Int → Int} {ds : List D} {vs : List V} {o : Rv} (e : on2 h ds = some o) (hd : DensW g B H ds vs) : ∃ i j, vs = [.int i, .int j] ∧ o = .v (.int (h i j)) := by
  unfold on2 at e
  split at e
  · cases e
    rename_i i j
    obtain ⟨v, r, rfl, h1, v', r', rfl, h2, h3⟩ := hd
    cases h1; cases h2; cases h3
    exact ⟨i, j, rfl, rfl⟩
  · cases e
theorem o_max2 (hc : X.calm = true) : CbD X g (.builtin "max") (on2 fun i j => if j > i then j else i) := ⟨_, call_max2 hc, fun T B H σ s vs ds o Q R hd e q => by
  obtain ⟨i, j, rfl, rfl⟩ := on2_some e hd
  exact ⟨i, j, rfl, q _ B H R (Evl.Ex.refl _) rfl⟩⟩
theorem o_min2 (hc : X.calm = true) : CbD X g (.builtin "min") (on2 fun i j => if j < i then j else i) := ⟨_, call_min2 hc, fun T B H σ s vs ds o Q R hd e q => by
  obtain ⟨i, j, rfl, rfl⟩ := on2_some e hd
  exact ⟨i, j, rfl, q _ B H R (Evl.Ex.refl _) rfl⟩⟩
end TW

set_option Elab.async false
set_option linter.all false
set_option autoImplicit false
set_option maxRecDepth 100000
set_option maxHeartbeats 1000000
namespace TW
open PySem PySem.Spec PyProof.Rows L2
variable {g : G} {T : Tx} {B B' H H' : Hp} {σ : L2.St} {s : S} {W : WX} {α β γ δ : Type} {P : PP α β}
variable {X : Cx} {e a b c tg iter : Expr} {es : List Expr} {pos : Pos}

/-! ## targets -/
/-- what a target leaves: all (none), or all slots but these -/
def Lvs : Option (List Nat) → L2.St → L2.St → Prop
  | none, _, _ => True
  | some vs, σ, σ' => wipe σ' vs = wipe σ vs
theorem Lvs.refl {o : Option (List Nat)} : Lvs o σ σ := by cases o; trivial; rfl
theorem Lvs.trans {o : Option (List Nat)} {σ1 σ2 : L2.St} (h : Lvs o σ σ1) (h' : Lvs o σ1 σ2) : Lvs o σ σ2 := by
  cases o with
  | none => trivial
  | some vs => exact Eq.trans (show wipe σ2 vs = wipe σ1 vs from h') h
theorem wipe_get {σ : L2.St} : ∀ {vs : List Nat} {i : Nat}, (wipe σ vs)[i]? = if i ∈ vs then (σ[i]?).map fun _ => none else σ[i]?
  | [], i => by simp [wipe]
  | v :: vs, i => by
    unfold wipe
    rw [List.getElem?_set, wipe_length, wipe_get]
    by_cases h : v = i
    · subst h
      by_cases hv : v < σ.length <;> simp [hv]
    · by_cases h2 : i ∈ vs
      · simp [h, h2]
      · simp [h, h2, Ne.symm h]
theorem Lvs.set {o : Option (List Nat)} {i : Nat} {x : Option V} (h : ∀ vs, o = some vs → i ∈ vs) : Lvs o σ (σ.set i x) := by
  cases o with
  | none => trivial
  | some vs =>
    have hi := h vs rfl
    show wipe (σ.set i x) vs = wipe σ vs
    apply List.ext_getElem?
    intro j
    rw [wipe_get, wipe_get]
    by_cases hj : j ∈ vs
    · rw [if_pos hj, if_pos hj, List.getElem?_set]
      by_cases e : i = j
      · subst e
        by_cases hl : i < σ.length <;> simp [hl]
      · simp [e]
    · rw [if_neg hj, if_neg hj, List.getElem?_set_ne (fun (e : i = j) => hj (by rw [← e]; exact hi))]
def PostG (g : G) (T : Tx) (o : Option (List Nat)) (σ : L2.St) (B : Hp) : Option S → (L2.St → Hp → Prop) → Prop
  | some s', Q => ∀ σ' B' H', Rel g T B' H' σ' s' → Ex B B' → Lvs o σ σ' → Q σ' H'
  | none, _ => False
def RdG (g : G) (T : Tx) (o : Option (List Nat)) (tm : D → S → Option S) : TG := fun v σ H Q => ∃ B s d, Rel g T B H σ s ∧ Den g B d v ∧ PostG g T o σ B (tm d s) Q
def RdGs (g : G) (T : Tx) (o : Option (List Nat)) (tm : List D → S → Option S) : TGs := fun vs σ H Q => ∃ B s ds, Rel g T B H σ s ∧ Dens g B ds vs ∧ PostG g T o σ B (tm ds s) Q
def JG (X : Cx) (g : G) (T : Tx) (o : Option (List Nat)) (tg : Expr) (tm : D → S → Option S) : Prop := ∀ τ t, PG X tg (RdG g (T.tmp τ t) o tm)
def JGs (X : Cx) (g : G) (T : Tx) (o : Option (List Nat)) (tgs : List Expr) (tm : List D → S → Option S) : Prop := ∀ τ t, PGs X tgs (RdGs g (T.tmp τ t) o tm)
variable {o : Option (List Nat)}
theorem PG.imp {tg : Expr} {t t' : TG} (h : PG X tg t) (hi : ∀ v σ H Q, t' v σ H Q → t v σ H Q) : PG X tg t' := ⟨fun pins s σ H v u Q I r q => h.run pins s σ H v u Q I r (hi _ _ _ _ q)⟩
theorem PGs.imp {tg : List Expr} {t t' : TGs} (h : PGs X tg t) (hi : ∀ v σ H Q, t' v σ H Q → t v σ H Q) : PGs X tg t' := ⟨fun pins s σ H v u Q I r q => h.run pins s σ H v u Q I r (hi _ _ _ _ q)⟩
theorem PG.or {tg : Expr} {t t' : TG} (h : PG X tg t) (h' : PG X tg t') : PG X tg (fun v σ H Q => t v σ H Q ∨ t' v σ H Q) := ⟨fun pins s σ H v u Q I r q => by
  rcases q with q | q
  · exact h.run pins s σ H v u Q I r q
  · exact h'.run pins s σ H v u Q I r q⟩
theorem PostG.base {r : Option S} {Q : L2.St → Hp → Prop} {σ1 : L2.St} (e : Ex B B') (l : Lvs o σ σ1) (h : PostG g T o σ B r Q) : PostG g T o σ1 B' r Q := by
  cases r with
  | none => exact h
  | some s' => exact fun σ' B1 H1 R1 e1 l1 => h σ' B1 H1 R1 (e.trans e1) (l.trans l1)
def tgName (i : Nat) : D → S → Option S := fun d s => if i < s.length then some (s.set i (.v d)) else none
theorem jg_name {i : Nat} (hpg : PG X tg (gName i)) (hio : T.io i = none) (ho : ∀ vs, o = some vs → i ∈ vs) : JG X g T o tg (tgName i) := fun τ t => PG.imp hpg fun v σ H Q ⟨B, s, d, R, hd, p⟩ => by
  unfold tgName at p
  by_cases hi : i < s.length
  · rw [if_pos hi] at p; exact p _ B H (R.storev hi hio hd) (Evl.Ex.refl _) (Lvs.set ho)
  · rw [if_neg hi] at p; exact p.elim
def tgNil : List D → S → Option S := fun ds s => match ds with
  | [] => some s
  | _ => none
def tgCons (f : D → S → Option S) (r : List D → S → Option S) : List D → S → Option S := fun ds s => match ds with
  | d :: ds => (f d s).bind fun s' => r ds s'
  | [] => none
theorem jgs_nil : JGs X g T o [] tgNil := fun τ t => PGs.imp pgs_nil fun vs σ H Q ⟨B, s, ds, R, hd, p⟩ => by
  cases ds with
  | nil => cases hd; exact ⟨rfl, p σ B H R (Evl.Ex.refl _) Lvs.refl⟩
  | cons d ds => exact p.elim
theorem jgs_cons {f : D → S → Option S} {r : List D → S → Option S} (h1 : JG X g T o e f) (h2 : JGs X g T o es r) (hs : (assignEach (e :: es) X.env).map (·.2) = assign e X.env :: (assignEach es X.env).map (·.2) := by rfl) : JGs X g T o (e :: es) (tgCons f r) :=
  fun τ t => PGs.imp (pgs_cons (h1 τ t) (h2 τ t) hs) fun vs σ H Q ⟨B, s, ds, R, hd, p⟩ => by
    cases ds with
    | nil => exact p.elim
    | cons d ds =>
      obtain ⟨v, w, rfl, q1, q2⟩ := hd
      refine ⟨v, w, rfl, B, s, d, R, q1, ?_⟩
      have p' : PostG g (T.tmp τ t) o σ B ((f d s).bind fun s' => r ds s') Q := p
      cases ef : f d s with
      | none => rw [ef] at p'; exact p'.elim
      | some s' =>
        rw [ef] at p'
        exact fun σ' B' H' R' e' l' => ⟨B', s', ds, R', q2.mono e', PostG.base e' l' p'⟩
def tgTup (n : Nat) (r : List D → S → Option S) : D → S → Option S := fun d s => match itemsD d with
  | some ds => if ds.length = n then r ds s else none
  | none => none
theorem jg_tup {n k : Nat} {r : List D → S → Option S} (hK : X.K = g.K) (hc : X.calm = true) (h : JGs X g T o es r) (hn : (assignEach es X.env).length = n := by rfl) (hst : (assignEach es X.env).findIdx? (·.1) = none := by rfl) : JG X g T o (.Tuple es k pos) (tgTup n r) :=
  fun τ t => PG.imp (PG.or (pg_tup (n := n) hc (h τ t) hn hst) (pg_lst (n := n) hc (h τ t) hn hst)) fun v σ H Q ⟨B, s, d, R, hd, p⟩ => by
    unfold tgTup at p
    cases ei : itemsD d with
    | none => rw [ei] at p; exact p.elim
    | some ds =>
      rw [ei] at p
      dsimp only at p
      by_cases hl : ds.length = n
      · rw [if_pos hl] at p
        cases d with
        | tup ds' => cases ei; obtain ⟨a, vs, rfl, k1, k2⟩ := hd; exact .inl ⟨a, vs, rfl, by rw [hK]; exact Evl.ex_t R.bh k1, by rw [k2.length, hl], B, s, ds, R, k2, p⟩
        | lst ds' => cases ei; obtain ⟨a, vs, rfl, k1, k2⟩ := hd; exact .inr ⟨a, vs, rfl, .inl (.inl (R.bh _ _ k1)), by rw [k2.length, hl], B, s, ds, R, k2, p⟩
        | arg ds' => cases ei; obtain ⟨a, vs, rfl, k1, k2⟩ := hd; exact .inr ⟨a, vs, rfl, by rw [hK]; exact Evl.ex_l R.bh k1, by rw [k2.length, hl], B, s, ds, R, k2, p⟩
        | _ => cases ei
      · rw [if_neg hl] at p; exact p.elim
/-- target = value, the value data -/
def masg (f : M D) (tm : D → S → Option S) : MS := ms f fun d s => match tm d s with
  | some s' => .nx s'
  | none => .bad
theorem js_asg {st : Stmt} {f : M D} {tm : D → S → Option S} (hps : ∀ te gt, PE X e te → PG X tg gt → PS X st (tAsg te gt)) (he : JE X g T W e f) (hg : JG X g T none tg tm) : JS X g T W st (masg f tm) :=
  PS.imp (hps _ _ (he T.τ T.t) (hg T.τ T.t)) fun D σ H ⟨B, s, R, p⟩ => (PostS.bind (P := PD g) R p).mono fun v H1 ⟨d, B1, s1, R1, e1, q, p1⟩ => by
    refine ⟨B1, s1, d, R1, q, ?_⟩
    cases et : tm d s1 with
    | none => rw [et] at p1; exact p1.elim
    | some s' => rw [et] at p1; exact fun σ' B' H' R' e' _ => p1 σ' B' H' R' e'

/-! ## what is walked -/
structure Wk (g : G) (B : Hp) (J : It) (ds : List D) : Prop where
  go : ∀ (B' H' : Hp) (i : Nat), Ex B B' → Ex B' H' → i < ds.length → J.go i H'
  stop : ∀ (B' H' : Hp), Ex B B' → Ex B' H' → J.stop ds.length H'
  yld : ∀ (B' H' : Hp) (i : Nat) (d : D) (x : V) (H2 : Hp), Ex B B' → Ex B' H' → ds[i]? = some d → J.yld i H' x H2 →
    (H2 = H' ∧ Den g B' d x) ∨ ∃ p o, H' p = none ∧ H2 = upd H' p o ∧ Den g (upd B' p o) d x
abbrev PI' (g : G) : PP (List D) It := fun _ _ ds B _ J => Wk g B J ds
def JI (X : Cx) (g : G) (T : Tx) (W : WX) (tg iter : Expr) (f : M (List D)) : Prop := ∀ τ t, PI X tg iter (RdM g (T.tmp τ t) W (PI' g) f)
theorem PI.imp {t t' : TI} (h : PI X tg iter t) (hi : ∀ σ H R, t' σ H R → t σ H R) : PI X tg iter t' := ⟨fun pins s σ H R I q => h.run pins s σ H R I (hi _ _ _ q)⟩
theorem Wk.list {K : PySem.W.Frag} (hK : K = g.K) {a : Addr} {vs : List V} {ds : List D} (h : SqL K B a vs) (hd : Dens g B ds vs) : Wk g B (Itl K a) ds where
  go := fun B' H' i e e' hi => ⟨vs, vs[i]'(by rw [hd.length]; exact hi), Evl.ex_l (e.trans e') h, by simp [hd.length, hi]⟩
  stop := fun B' H' e e' => ⟨vs, Evl.ex_l (e.trans e') h, by rw [hd.length]; exact Nat.le_refl _⟩
  yld := fun B' H' i d x H2 e e' hi hy => by
    obtain ⟨rfl, hy⟩ := hy
    obtain ⟨v, hv, q⟩ := hd.get hi
    have := hy vs (Evl.ex_l (e.trans e') h)
    rw [hv] at this; cases this
    exact .inl ⟨rfl, q.mono e⟩
theorem Wk.tup {K : PySem.W.Frag} (hK : K = g.K) {a : Addr} {vs : List V} {ds : List D} (h : SqT K B a vs) (hd : Dens g B ds vs) : Wk g B (Itt K a) ds where
  go := fun B' H' i e e' hi => ⟨vs, vs[i]'(by rw [hd.length]; exact hi), Evl.ex_t (e.trans e') h, by simp [hd.length, hi]⟩
  stop := fun B' H' e e' => ⟨vs, Evl.ex_t (e.trans e') h, by rw [hd.length]; exact Nat.le_refl _⟩
  yld := fun B' H' i d x H2 e e' hi hy => by
    obtain ⟨rfl, hy⟩ := hy
    obtain ⟨v, hv, q⟩ := hd.get hi
    have := hy vs (Evl.ex_t (e.trans e') h)
    rw [hv] at this; cases this
    exact .inl ⟨rfl, q.mono e⟩
theorem PI.or {t t' : TI} (h : PI X tg iter t) (h' : PI X tg iter t') : PI X tg iter (fun σ H R => t σ H R ∨ t' σ H R) := ⟨fun pins s σ H R I q => by
  rcases q with q | q
  · exact h.run pins s σ H R I q
  · exact h'.run pins s σ H R I q⟩
def strItems (x : Str) : List D := x.cps.toList.map fun c => .str ⟨#[c]⟩
def walkD : D → Option (List D)
  | .str x => some (strItems x)
  | d => itemsD d
def mwalk (f : M D) : M (List D) := mbind f fun d => mopt (walkD d)
theorem ji_seq {f : M D} (hK : X.K = g.K) (he : JE X g T W iter f) : JI X g T W tg iter (mwalk f) := fun τ t =>
  PI.imp (PI.or (pi_list (he τ t)) (PI.or (pi_tup (he τ t)) (pi_str (he τ t)))) fun σ H R ⟨B, s, Rl, p⟩ => by
    unfold mwalk at p
    cases ef : f s with
    | bad => unfold mbind at p; rw [ef] at p; exact p.elim
    | ex c ds s' => unfold mbind at p; rw [ef] at p; exact .inl ⟨B, s, Rl, by rw [ef]; exact p⟩
    | ok d s' =>
      rw [mbind_ok ef] at p
      cases d with
      | str x =>
        refine .inr (.inr ⟨B, s, Rl, ?_⟩)
        rw [ef]
        intro v B' H' R' e' hd
        cases hd
        refine ⟨x, rfl, p _ B' H' R' e' ⟨fun B2 H2 i _ _ hi => by show i < x.cps.size; simpa [strItems] using hi, fun B2 H2 _ _ => by show x.cps.size ≤ _; simp [strItems], fun B2 H2 i d v H3 _ _ hi hy => ?_⟩⟩
        obtain ⟨rfl, c, hc, rfl⟩ := hy
        refine .inl ⟨rfl, ?_⟩
        have : d = .str ⟨#[c]⟩ := by
          unfold strItems at hi
          rw [List.getElem?_map] at hi
          have h2 : x.cps.toList[i]? = some c := by simpa using hc
          rw [h2] at hi
          exact (Option.some.inj hi).symm
        subst this; rfl
      | tup ds =>
        refine .inr (.inl ⟨B, s, Rl, ?_⟩)
        rw [ef]
        intro v B' H' R' e' hd
        obtain ⟨a, vs, rfl, k1, k2⟩ := hd
        rw [← hK] at k1
        exact ⟨a, rfl, ⟨vs, Evl.ex_t R'.bh k1⟩, p _ B' H' R' e' (Wk.tup hK k1 k2)⟩
      | lst ds =>
        refine .inl ⟨B, s, Rl, ?_⟩
        rw [ef]
        intro v B' H' R' e' hd
        obtain ⟨a, vs, rfl, k1, k2⟩ := hd
        exact ⟨a, rfl, ⟨vs, .inl (.inl (R'.bh _ _ k1))⟩, p _ B' H' R' e' (Wk.list hK (.inl (.inl k1)) k2)⟩
      | arg ds =>
        refine .inl ⟨B, s, Rl, ?_⟩
        rw [ef]
        intro v B' H' R' e' hd
        obtain ⟨a, vs, rfl, k1, k2⟩ := hd
        rw [← hK] at k1
        exact ⟨a, rfl, ⟨vs, Evl.ex_l R'.bh k1⟩, p _ B' H' R' e' (Wk.list hK k1 k2)⟩
      | _ => exact p.elim
/-- range -/
def rangeD (lo : Int) (n : Nat) : List D := (List.range n).map fun i => .int (lo + (i : Nat))
theorem Wk.range {lo : Int} {n : Nat} : Wk g B (Itr lo n) (rangeD lo n) where
  go := fun B' H' i _ _ hi => by show i < n; simpa [rangeD] using hi
  stop := fun B' H' _ _ => by show n ≤ _; simp [rangeD]
  yld := fun B' H' i d x H2 _ _ hi hy => by
    obtain ⟨rfl, rfl⟩ := hy
    refine .inl ⟨rfl, ?_⟩
    unfold rangeD at hi
    rw [List.getElem?_map] at hi
    cases q : (List.range n)[i]? with
    | none => rw [q] at hi; cases hi
    | some j =>
      rw [q] at hi; cases hi
      have : j = i := by
        obtain ⟨h1, h2⟩ := List.getElem?_eq_some_iff.mp q
        simp at h2; exact h2.symm
      subst this; rfl
def rangeC (lo c : Int) (n : Nat) : List D := (List.range n).map fun i => .int (lo + (i : Nat) * c)
theorem Wk.rangeC {lo c : Int} {n : Nat} : Wk g B (Itc lo c n) (rangeC lo c n) where
  go := fun B' H' i _ _ hi => by show i < n; simpa [TW.rangeC] using hi
  stop := fun B' H' _ _ => by show n ≤ _; simp [TW.rangeC]
  yld := fun B' H' i d x H2 _ _ hi hy => by
    obtain ⟨rfl, rfl⟩ := hy
    refine .inl ⟨rfl, ?_⟩
    unfold TW.rangeC at hi
    rw [List.getElem?_map] at hi
    cases q : (List.range n)[i]? with
    | none => rw [q] at hi; cases hi
    | some j =>
      rw [q] at hi; cases hi
      have : j = i := by
        obtain ⟨h1, h2⟩ := List.getElem?_eq_some_iff.mp q
        simp at h2; exact h2.symm
      subst this; rfl
/-- by natAbs: the kernel must not unfold a great literal -/
def okR (i : Int) : Bool := Nat.ble i.natAbs 900000000000
theorem okR_ok {i : Int} (h : okR i = true) : -(2 ^ 62) ≤ i ∧ i < 2 ^ 62 := by
  have := Nat.le_of_ble_eq_true h
  omega
def rng1 : List D → Option (List D)
  | [.int j] => if okR j = true then some (rangeD 0 j.toNat) else none
  | _ => none
def rng2 : List D → Option (List D)
  | [.int i, .int j] => if (okR i && okR j) = true then some (rangeD i (j - i).toNat) else none
  | _ => none
def rng3 : List D → Option (List D)
  | [.int i, .int j, .int c] => if (okR i && okR j && decide (c = -1)) = true then some (rangeC i (-1) (i - j).toNat) else none
  | _ => none
def mrng (h : List D → Option (List D)) (f : M (List Opd)) : M (List D) := mbind f fun os => mbind (ress os) fun ds => mopt (h ds)
theorem ji_range1 {f : M (List Opd)} {p : Pos} (hg : Gl X "range") (hm : X.mg "range" = none) (ha : JA X g T W [a] f) (hs : starEach [a] X.env = [(false, eval a X.env)] := by rfl) : JI X g T W tg (.Call (.Name "range" p) [a] [] pos) (mrng rng1 f) := fun τ t =>
  PI.imp (pi_range1 hg hm (ha τ t) hs) fun σ H R ⟨B, s, Rl, p⟩ => (PostM.bind (P := PAs g) Rl p).mono fun vs H1 ⟨os, B1, s1, R1, e1, q1, p1⟩ => by
    rcases ress_ex (s := s1) (os := os) with ⟨ds, w⟩ | w
    · rw [mbind_ok w] at p1
      cases ef : rng1 ds with
      | none => rw [ef] at p1; exact p1.elim
      | some ws =>
        rw [ef] at p1
        have hd := (ress_ok R1 q1 w).2
        unfold rng1 at ef
        split at ef
        · rename_i j
          by_cases hj : okR j = true
          · rw [if_pos hj] at ef; cases ef
            obtain ⟨v, r, rfl, h1, h2⟩ := hd
            cases h1; cases h2
            obtain ⟨j1, j2⟩ := okR_ok hj
            exact ⟨j, rfl, j1, j2, p1 _ B1 H1 R1 (Evl.Ex.refl _) Wk.range⟩
          · rw [if_neg hj] at ef; cases ef
        · cases ef
    · exfalso
      have z : mbind (ress os) (fun ds => mopt (rng1 ds)) s1 = .bad := by unfold mbind; rw [w]
      rw [z] at p1; exact p1
theorem ji_range2 {f : M (List Opd)} {p : Pos} (hg : Gl X "range") (hm : X.mg "range" = none) (ha : JA X g T W [a, b] f) (hs : starEach [a, b] X.env = [(false, eval a X.env), (false, eval b X.env)] := by rfl) (hs2 : starEach [b] X.env = [(false, eval b X.env)] := by rfl) : JI X g T W tg (.Call (.Name "range" p) [a, b] [] pos) (mrng rng2 f) := fun τ t =>
  PI.imp (pi_range2 hg hm (ha τ t) hs hs2) fun σ H R ⟨B, s, Rl, p⟩ => (PostM.bind (P := PAs g) Rl p).mono fun vs H1 ⟨os, B1, s1, R1, e1, q1, p1⟩ => by
    rcases ress_ex (s := s1) (os := os) with ⟨ds, w⟩ | w
    · rw [mbind_ok w] at p1
      cases ef : rng2 ds with
      | none => rw [ef] at p1; exact p1.elim
      | some ws =>
        rw [ef] at p1
        have hd := (ress_ok R1 q1 w).2
        unfold rng2 at ef
        split at ef
        · rename_i i j
          by_cases hj : (okR i && okR j) = true
          · rw [if_pos hj] at ef; cases ef
            obtain ⟨v, r, rfl, h1, v', r', rfl, h2, h3⟩ := hd
            cases h1; cases h2; cases h3
            obtain ⟨c1, c2⟩ := Bool.and_eq_true_iff.mp hj
            obtain ⟨i1, i2⟩ := okR_ok c1
            obtain ⟨j1, j2⟩ := okR_ok c2
            exact ⟨i, j, rfl, ⟨i1, i2, j1, j2⟩, p1 _ B1 H1 R1 (Evl.Ex.refl _) Wk.range⟩
          · rw [if_neg hj] at ef; cases ef
        · cases ef
    · exfalso
      have z : mbind (ress os) (fun ds => mopt (rng2 ds)) s1 = .bad := by unfold mbind; rw [w]
      rw [z] at p1; exact p1
theorem ji_range3 {f : M (List Opd)} {p : Pos} (hg : Gl X "range") (hm : X.mg "range" = none) (ha : JA X g T W [a, b, c] f)
    (hs : starEach [a, b, c] X.env = (false, eval a X.env) :: starEach [b, c] X.env := by rfl) (hpl : (backTo pos (starEach [b, c] X.env)).any (·.1) = false := by rfl) : JI X g T W tg (.Call (.Name "range" p) [a, b, c] [] pos) (mrng rng3 f) := fun τ t =>
  PI.imp (pi_range3 hg hm (ha τ t) hs hpl) fun σ H R ⟨B, s, Rl, p⟩ => (PostM.bind (P := PAs g) Rl p).mono fun vs H1 ⟨os, B1, s1, R1, e1, q1, p1⟩ => by
    rcases ress_ex (s := s1) (os := os) with ⟨ds, w⟩ | w
    · rw [mbind_ok w] at p1
      cases ef : rng3 ds with
      | none => rw [ef] at p1; exact p1.elim
      | some ws =>
        rw [ef] at p1
        have hd := (ress_ok R1 q1 w).2
        unfold rng3 at ef
        split at ef
        · rename_i i j c
          by_cases hj : (okR i && okR j && decide (c = -1)) = true
          · rw [if_pos hj] at ef; cases ef
            obtain ⟨v, r, rfl, h1, v', r', rfl, h2, v2, r2, rfl, h3, h4⟩ := hd
            cases h1; cases h2; cases h3; cases h4
            obtain ⟨c1, c3⟩ := Bool.and_eq_true_iff.mp hj
            obtain ⟨c1, c2⟩ := Bool.and_eq_true_iff.mp c1
            have c3 := of_decide_eq_true c3
            subst c3
            obtain ⟨i1, i2⟩ := okR_ok c1
            obtain ⟨j1, j2⟩ := okR_ok c2
            exact ⟨i, j, -1, _, rfl, RgC.neg i1 i2 j1 j2, p1 _ B1 H1 R1 (Evl.Ex.refl _) Wk.rangeC⟩
          · rw [if_neg hj] at ef; cases ef
        · cases ef
    · exfalso
      have z : mbind (ress os) (fun ds => mopt (rng3 ds)) s1 = .bad := by unfold mbind; rw [w]
      rw [z] at p1; exact p1
/-! ## loops -/
def forD (tm : D → S → Option S) (bd : MS) : List D → MS
  | [] => fun s => .nx s
  | d :: r => fun s => match tm d s with
    | none => .bad
    | some s0 => match bd s0 with
      | .nx s' => forD tm bd r s'
      | .ct s' => forD tm bd r s'
      | .bk s' => .nx s'
      | o => o
def mfor (fi : M (List D)) (tm : D → S → Option S) (bd : MS) : MS := ms fi fun ds => forD tm bd ds
theorem js_for {fi : M (List D)} {tm : D → S → Option S} {bd : MS} {body : List Stmt} (hp : PassesOwn (model X.prog X.w) X.A X.env X.xe) (hc : X.calm = true) (hi : JI X g T W tg iter fi) (hg : JG X g T none tg tm) (hb : JSs X g T W body bd)
    (hs : ∀ x, foldedSetIterable iter X.env x = pure x := by intro _; rfl) : JS X g T W (.For tg iter body [] pos) (mfor fi tm bd) :=
  PS.imp (ps_for hp hc (hi T.τ T.t) (hg T.τ T.t) hb hs) fun D σ H ⟨B, s, R, p⟩ => (PostS.bind (P := PI' g) R p).mono fun J H1 ⟨ds, B1, s1, R1, e1, q, p1⟩ => by
    refine ⟨fun i m σ' H' => i ≤ ds.length ∧ m = ds.length - i ∧ ∃ B' s', Rel g T B' H' σ' s' ∧ Ex B1 B' ∧ PostS g T W B' (forD tm bd (ds.drop i) s') D, ⟨_, Nat.zero_le _, rfl, B1, s1, R1, Evl.Ex.refl _, p1⟩, ?_⟩
    rintro i m σ' H' ⟨hi, rfl, B', s', R', e', p'⟩
    by_cases hlt : i < ds.length
    · refine .inr ⟨q.go B' H' i e' R'.bh hlt, fun σ2 H2 => ∃ B2 s2, Rel g T B2 H2 σ2 s2 ∧ Ex B1 B2 ∧ PostS g T W B2 (forD tm bd (ds.drop (i + 1)) s2) D, fun σ2 H2 ⟨B2, s2, R2, e2, p2⟩ => ⟨_, by omega, hlt, rfl, B2, s2, R2, e2, p2⟩, fun x H2 hy => ?_⟩
      have hd : ds[i]? = some ds[i] := by simp [hlt]
      have hdrop : ds.drop i = ds[i] :: ds.drop (i + 1) := List.drop_eq_getElem_cons hlt
      rw [hdrop] at p'
      have step : ∀ B2 H2, Rel g T B2 H2 σ' s' → Ex B' B2 → Den g B2 ds[i] x → RdG g (T.tmp T.τ T.t) none tm x σ' H2 fun σ3 H3 => RdS g T W bd { D with nx := fun σ2 H2 => ∃ B2 s2, Rel g T B2 H2 σ2 s2 ∧ Ex B1 B2 ∧ PostS g T W B2 (forD tm bd (ds.drop (i + 1)) s2) D, ct := fun σ2 H2 => ∃ B2 s2, Rel g T B2 H2 σ2 s2 ∧ Ex B1 B2 ∧ PostS g T W B2 (forD tm bd (ds.drop (i + 1)) s2) D, bk := D.nx } σ3 H3 := fun B2 H2 R2 e2 hx => by
        refine ⟨B2, s', ds[i], R2, hx, ?_⟩
        have p2 := PostS.base e2 p'
        unfold forD at p2
        cases et : tm ds[i] s' with
        | none => rw [et] at p2; exact p2.elim
        | some s0 =>
          rw [et] at p2
          intro σ3 B3 H3 R3 e3 _
          refine ⟨B3, s0, R3, ?_⟩
          have p3 := PostS.base e3 p2
          dsimp only at p3
          cases eb : bd s0 with
          | nx s2 => rw [eb] at p3; exact fun σ4 B4 H4 R4 e4 => ⟨B4, s2, R4, ((e'.trans e2).trans e3).trans e4, PostS.base e4 p3⟩
          | ct s2 => rw [eb] at p3; exact fun σ4 B4 H4 R4 e4 => ⟨B4, s2, R4, ((e'.trans e2).trans e3).trans e4, PostS.base e4 p3⟩
          | bk s2 => rw [eb] at p3; exact p3
          | rt r s2 => rw [eb] at p3; exact p3
          | ex c cs s2 => rw [eb] at p3; exact p3
          | bad => rw [eb] at p3; exact p3
      rcases q.yld B' H' i ds[i] x H2 e' R'.bh hd hy with ⟨rfl, hx⟩ | ⟨p, o, hp, rfl, hx⟩
      · exact step B' _ R' (Evl.Ex.refl _) hx
      · exact step _ _ (R'.new hp) (Evl.Ex.new (Evl.fresh_back R'.bh hp)) hx
    · have : i = ds.length := by omega
      subst this
      refine .inl ⟨q.stop B' H' e' R'.bh, ?_⟩
      rw [List.drop_length] at p'
      exact p' σ' B' H' R' (Evl.Ex.refl _)
def whileD (ft : M Bool) (bd : MS) : Nat → MS
  | 0 => fun _ => .bad
  | n + 1 => fun s => match ft s with
    | .ok true s0 => (match bd s0 with
      | .nx s' => whileD ft bd n s'
      | .ct s' => whileD ft bd n s'
      | .bk s' => .nx s'
      | o => o)
    | .ok false s0 => .nx s0
    | .ex c ds s0 => .ex c ds s0
    | .bad => .bad
theorem js_while {ft : M Bool} {bd : MS} {body : List Stmt} (n : Nat) (hp : PassesOwn (model X.prog X.w) X.A X.env X.xe) (hc : JT X g T W c ft) (hb : JSs X g T W body bd) : JS X g T W (.While c body [] pos) (whileD ft bd n) :=
  PS.imp (ps_while hp (hc T.τ T.t) hb) fun D σ H ⟨B, s, R, p⟩ => by
    refine ⟨fun m σ' H' => ∃ B' s', Rel g T B' H' σ' s' ∧ PostS g T W B' (whileD ft bd m s') D, ⟨n, B, s, R, p⟩, ?_⟩
    rintro m σ' H' ⟨B', s', R', p'⟩
    cases m with
    | zero => exact p'.elim
    | succ m =>
      refine ⟨B', s', R', ?_⟩
      unfold whileD at p'
      cases et : ft s' with
      | bad => rw [et] at p'; exact p'.elim
      | ex c ds s0 => rw [et] at p'; exact fun x B2 H2 R2 e2 hx => p' x σ' B2 H2 R2 e2 hx
      | ok k s0 =>
        rw [et] at p'
        cases k with
        | false =>
          intro b B2 H2 R2 e2 hb
          subst hb
          exact p' σ' B2 H2 R2 e2
        | true =>
          intro b B2 H2 R2 e2 hb
          subst hb
          refine ⟨fun σ3 H3 => ∃ B3 s3, Rel g T B3 H3 σ3 s3 ∧ PostS g T W B3 (whileD ft bd m s3) D, fun σ3 H3 h => ⟨m, Nat.lt_succ_self _, h⟩, B2, s0, R2, ?_⟩
          have p3 := PostS.base e2 p'
          dsimp only at p3
          cases eb : bd s0 with
          | nx s2 => rw [eb] at p3; exact fun σ4 B4 H4 R4 e4 => ⟨B4, s2, R4, PostS.base e4 p3⟩
          | ct s2 => rw [eb] at p3; exact fun σ4 B4 H4 R4 e4 => ⟨B4, s2, R4, PostS.base e4 p3⟩
          | bk s2 => rw [eb] at p3; exact p3
          | rt r s2 => rw [eb] at p3; exact p3
          | ex c cs s2 => rw [eb] at p3; exact p3
          | bad => rw [eb] at p3; exact p3
end TW

set_option Elab.async false
set_option linter.all false
set_option autoImplicit false
set_option maxRecDepth 100000
set_option maxHeartbeats 1000000
namespace TW
open PySem PySem.Spec PyProof.Rows L2
variable {g : G} {T : Tx} {B B' H H' : Hp} {σ : L2.St} {s : S} {W : WX} {α β γ δ : Type} {P : PP α β}
variable {X : Cx} {e a b c tg iter elt : Expr} {es : List Expr} {pos : Pos}

/-! ## comprehensions -/
def wipeS (s : S) (vs : List Nat) : S := s.mapIdx fun i x => if i ∈ vs then .no else x
def restoreS (s0 s : S) (vs : List Nat) : S := s.mapIdx fun i x => if i ∈ vs then s0.getD i .no else x
/-- none of these slots is own -/
def plainS (s : S) (vs : List Nat) : Bool := vs.all fun i => !((s[i]?).getD .no).own
def compD (vs : List Nat) (tm : D → S → Option S) (tt : M Bool) (te : M D) : List D → List D → S → Out (List D)
  | [], acc, s => .ok acc s
  | d :: r, acc, s => match tm d s with
    | none => .bad
    | some s1 => match tt s1 with
      | .ok true s2 => (match te s2 with
        | .ok y s3 => if (decide (acc.length < 16000000) && plainS s3 vs) = true then compD vs tm tt te r (acc ++ [y]) (wipeS s3 vs) else .bad
        | _ => .bad)
      | .ok false s2 => if plainS s2 vs = true then compD vs tm tt te r acc (wipeS s2 vs) else .bad
      | _ => .bad
def mlc (vs : List Nat) (fi : M (List D)) (tm : D → S → Option S) (tt : M Bool) (te : M D) : M Rv := mbind fi fun ds s => if plainS s vs = true then (match compD vs tm tt te ds [] (wipeS s vs) with
  | .ok acc s' => .ok (.l acc) (restoreS s s' vs)
  | _ => .bad) else .bad
theorem wipeS_get {vs : List Nat} {i : Nat} : (wipeS s vs)[i]? = if i ∈ vs then (s[i]?).map fun _ => .no else s[i]? := by
  unfold wipeS; rw [List.getElem?_mapIdx]
  by_cases h : i ∈ vs
  · simp [h]
  · simp [h]
theorem restoreS_get {s0 : S} {vs : List Nat} {i : Nat} : (restoreS s0 s vs)[i]? = if i ∈ vs then (s[i]?).map fun _ => s0.getD i .no else s[i]? := by
  unfold restoreS; rw [List.getElem?_mapIdx]
  by_cases h : i ∈ vs
  · simp [h]
  · simp [h]
theorem plain_at {vs : List Nat} {i : Nat} {x : Sl} (h : plainS s vs = true) (hi : i ∈ vs) (hx : s[i]? = some x) : x.own = false := by
  have := List.all_eq_true.mp h i hi
  rw [hx] at this
  simpa using this
/-- the slots of a block forgotten -/
theorem Rel.wipe (R : Rel g T B H σ s) {vs : List Nat} (hp : ∀ (i : Nat) (x : Sl), i ∈ vs → s[i]? = some x → x.own = false) : Rel g T B H (L2.wipe σ vs) (wipeS s vs) := by
  have l1 : (L2.wipe σ vs).length = σ.length := wipe_length σ vs
  have l2 : (wipeS s vs).length = s.length := by unfold wipeS; simp
  have gs : ∀ (i : Nat) (x : Sl), (wipeS s vs ++ T.t)[i]? = some x → ((s ++ T.t)[i]? = some x ∧ (i < s.length → i ∉ vs)) ∨ (x = .no ∧ i < s.length ∧ i ∈ vs) := fun i x h => by
    by_cases hi : i < s.length
    · rw [List.getElem?_append_left (by omega), wipeS_get] at h
      by_cases hv : i ∈ vs
      · rw [if_pos hv] at h
        simp [hi] at h
        exact .inr ⟨h.symm, hi, hv⟩
      · rw [if_neg hv] at h
        exact .inl ⟨app_some h, fun _ => hv⟩
    · rw [List.getElem?_append_right (by omega), l2] at h
      exact .inl ⟨by rw [List.getElem?_append_right (by omega)]; exact h, fun z => absurd z hi⟩
  have gσ : ∀ (i : Nat), (i < s.length → i ∉ vs) → (L2.wipe σ vs ++ T.τ)[i]? = (σ ++ T.τ)[i]? := fun i hv => by
    by_cases hi : i < s.length
    · rw [List.getElem?_append_left (by rw [l1, R.ln]; exact hi), List.getElem?_append_left (by rw [R.ln]; exact hi), wipe_get, if_neg (hv hi)]
    · rw [List.getElem?_append_right (by rw [l1, R.ln]; omega), List.getElem?_append_right (by rw [R.ln]; omega), l1]
  refine ⟨⟨R.r.b0, R.r.bh, R.r.nw, R.r.hh, R.r.dom, by have := R.r.len; simp at this ⊢; omega, fun i x y hx hy => ?_, fun i j x x' a hx hx' ho ho' e1 e2 => ?_, fun j a h => ?_, fun i x a hx ho e1 => ?_⟩, by rw [l1, l2]; exact R.ln, fun j a h => by rw [l1]; exact R.iob j a h⟩
  · rcases gs i x hx with ⟨h, hv⟩ | ⟨rfl, _⟩
    · rw [gσ i hv] at hy; exact R.r.sl i x y h hy
    · trivial
  · rcases gs i x hx with ⟨h, hv⟩ | ⟨rfl, _⟩
    · rcases gs j x' hx' with ⟨h', hv'⟩ | ⟨rfl, _⟩
      · rw [gσ i hv] at e1; rw [gσ j hv'] at e2
        exact R.r.nd i j x x' a h h' ho ho' e1 e2
      · cases ho'
    · cases ho
  · obtain ⟨e, x, hx, ho⟩ := R.r.iok j a h
    have hj : j < s.length := by rw [← R.ln]; exact R.iob j a h
    rw [List.getElem?_append_left hj] at hx
    have hv : j ∉ vs := fun z => by rw [hp j x z hx] at ho; cases ho
    refine ⟨by rw [gσ j fun _ => hv]; exact e, x, ?_, ho⟩
    rw [List.getElem?_append_left (by omega), wipeS_get, if_neg hv]; exact hx
  · rcases gs i x hx with ⟨h, hv⟩ | ⟨rfl, _⟩
    · rw [gσ i hv] at e1; exact R.r.ow i x a h ho e1
    · cases ho
/-- .. and told again -/
theorem Rel.unwipe {B0 H0 : Hp} {s0 : S} {vs : List Nat} (R0 : Rel g T B0 H0 σ s0) (hp : plainS s0 vs = true) (e : Ex B0 B) (R : Rel g T B H (L2.wipe σ vs) s) : Rel g T B H σ (restoreS s0 s vs) := by
  have l1 : (L2.wipe σ vs).length = σ.length := wipe_length σ vs
  have l2 : (restoreS s0 s vs).length = s.length := by unfold restoreS; simp
  have l3 : s.length = σ.length := by rw [← R.ln, l1]
  have l4 : s0.length = σ.length := R0.ln.symm
  have gs : ∀ (i : Nat) (x : Sl), (restoreS s0 s vs ++ T.t)[i]? = some x → ((s ++ T.t)[i]? = some x ∧ (i < s.length → i ∉ vs)) ∨ (i ∈ vs ∧ s0[i]? = some x ∧ i < s.length) := fun i x h => by
    by_cases hi : i < s.length
    · rw [List.getElem?_append_left (by omega), restoreS_get] at h
      by_cases hv : i ∈ vs
      · rw [if_pos hv] at h
        simp [hi] at h
        have h0 : i < s0.length := by omega
        refine .inr ⟨hv, ?_, hi⟩
        rw [List.getElem?_eq_getElem h0] at h ⊢
        simpa using h
      · rw [if_neg hv] at h
        exact .inl ⟨app_some h, fun _ => hv⟩
    · rw [List.getElem?_append_right (by omega), l2] at h
      exact .inl ⟨by rw [List.getElem?_append_right (by omega)]; exact h, fun z => absurd z hi⟩
  have gσ : ∀ (i : Nat), (i < s.length → i ∉ vs) → (L2.wipe σ vs ++ T.τ)[i]? = (σ ++ T.τ)[i]? := fun i hv => by
    by_cases hi : i < s.length
    · rw [List.getElem?_append_left (by omega), List.getElem?_append_left (by omega), wipe_get, if_neg (hv hi)]
    · rw [List.getElem?_append_right (by omega), List.getElem?_append_right (by omega), l1]
  refine ⟨⟨R.r.b0, R.r.bh, R.r.nw, R.r.hh, R.r.dom, by have := R.r.len; simp at this ⊢; omega, fun i x y hx hy => ?_, fun i j x x' a hx hx' ho ho' e1 e2 => ?_, fun j a h => ?_, fun i x a hx ho e1 => ?_⟩, by omega, fun j a h => by have := R.iob j a h; omega⟩
  · rcases gs i x hx with ⟨h, hv⟩ | ⟨hv, h, hi⟩
    · rw [← gσ i hv] at hy; exact R.r.sl i x y h hy
    · have hy' : σ[i]? = some y := by rw [List.getElem?_append_left (by omega)] at hy; exact hy
      have q := R0.r.sl i x y (app_some h) (app_some hy')
      have ho := plain_at hp hv h
      cases x with
      | no => trivial
      | v d => obtain ⟨v, e', q'⟩ := q; exact ⟨v, e', q'.mono e⟩
      | l ds => cases ho
      | o c ds => cases ho
  · rcases gs i x hx with ⟨h, hv⟩ | ⟨hv, h, _⟩
    · rcases gs j x' hx' with ⟨h', hv'⟩ | ⟨hv', h', _⟩
      · rw [← gσ i hv] at e1; rw [← gσ j hv'] at e2
        exact R.r.nd i j x x' a h h' ho ho' e1 e2
      · rw [plain_at hp hv' h'] at ho'; cases ho'
    · rw [plain_at hp hv h] at ho; cases ho
  · obtain ⟨e1, x, hx, ho⟩ := R.r.iok j a h
    have hj : j < s.length := by rw [← R.ln]; exact R.iob j a h
    rw [List.getElem?_append_left hj] at hx
    have hv : j ∉ vs := fun z => by
      rw [List.getElem?_append_left (by omega), wipe_get, if_pos z] at e1
      simp at e1
    refine ⟨by rw [← gσ j fun _ => hv]; exact e1, x, ?_, ho⟩
    rw [List.getElem?_append_left (by omega), restoreS_get, if_neg hv]; exact hx
  · rcases gs i x hx with ⟨h, hv⟩ | ⟨hv, h, _⟩
    · rw [← gσ i hv] at e1; exact R.r.ow i x a h ho e1
    · rw [plain_at hp hv h] at ho; cases ho
/-- what is held last is let go, is written -/
theorem Rel.pop {τ : L2.St} {t : S} {x : Sl} {p : Addr} (R : Rel g (T.tmp (τ ++ [some (.ref p)]) (t ++ [x])) B H σ s) (hx : x.own = true) : Rel g (T.tmp τ t) B H σ s ∧ T.H0 p = none ∧
    (∀ (i : Nat) (y : Sl), (s ++ t)[i]? = some y → y.own = true → (σ ++ τ)[i]? ≠ some (some (.ref p))) ∧ SlOk g B H x (some (.ref p)) := by
  have r := R.r
  simp only [Tx.tmp, ← List.append_assoc] at r
  have r' : Rel0 g (T.tmp τ t) B H (σ ++ τ ++ [some (.ref p)]) (s ++ t ++ [x]) := ⟨r.b0, r.bh, r.nw, r.hh, r.dom, r.len, r.sl, r.nd, r.iok, r.ow⟩
  obtain ⟨h1, h2, h3, h4⟩ := r'.pop hx (fun j a h => by have := R.iob j a h; simp; omega)
  exact ⟨⟨h1, R.ln, R.iob⟩, h2, h3, h4⟩
theorem Rel.push {τ : L2.St} {t : S} {x : Sl} {p : Addr} (R : Rel g (T.tmp τ t) B H σ s) (h0 : T.H0 p = none) (hsl : ∀ (i : Nat) (y : Sl), (s ++ t)[i]? = some y → y.own = true → (σ ++ τ)[i]? ≠ some (some (.ref p))) (ok : SlOk g B H x (some (.ref p))) : Rel g (T.tmp (τ ++ [some (.ref p)]) (t ++ [x])) B H σ s := by
  have r := Rel0.push R.r h0 hsl ok
  have r' : Rel0 g (T.tmp (τ ++ [some (.ref p)]) (t ++ [x])) B H (σ ++ τ ++ [some (.ref p)]) (s ++ t ++ [x]) := ⟨r.b0, r.bh, r.nw, r.hh, r.dom, r.len, r.sl, r.nd, r.iok, r.ow⟩
  rw [List.append_assoc, List.append_assoc] at r'
  exact ⟨r', R.ln, R.iob⟩
theorem Rel.held {τ : L2.St} {t : S} {ds es : List D} {p : Addr} {us : List V} (R : Rel g (T.tmp (τ ++ [some (.ref p)]) (t ++ [.l ds])) B H σ s) (hd : Dens g B es us) : Rel g (T.tmp (τ ++ [some (.ref p)]) (t ++ [.l es])) B (upd H p (.lst us)) σ s := by
  have l := R.r.len
  simp at l
  have e1 : (s ++ (t ++ [Sl.l ds]))[s.length + t.length]? = some (.l ds) := by rw [← List.append_assoc]; simp
  have e2 : (σ ++ (τ ++ [some (V.ref p)]))[s.length + t.length]? = some (some (.ref p)) := by
    have : s.length + t.length = (σ ++ τ).length := by simp; have := R.ln; omega
    rw [← List.append_assoc, this]; simp
  have r := R.r.write e1 rfl e2 (x' := .l es) rfl ⟨p, us, rfl, (R.r.ownH e1 rfl e2).1, upd_same, hd⟩
  have e3 : (s ++ (t ++ [Sl.l ds])).set (s.length + t.length) (.l es) = s ++ (t ++ [.l es]) := by
    rw [← List.append_assoc, ← List.append_assoc]
    rw [List.set_append_right _ _ (by simp)]
    simp
  rw [e3] at r
  exact ⟨⟨r.b0, r.bh, r.nw, r.hh, r.dom, r.len, r.sl, r.nd, r.iok, r.ow⟩, R.ln, R.iob⟩
theorem pts_yes : PTs X [] (RdM g T W PB (mret true)) := ⟨fun pins s σ H Q I ⟨B, s', R, p⟩ => wpAny_tests_nil ⟨H, I, p true B H R (Evl.Ex.refl _) rfl⟩⟩
theorem wipe_wipe {vs : List Nat} : L2.wipe (L2.wipe σ vs) vs = L2.wipe σ vs := by
  apply List.ext_getElem?
  intro i
  rw [wipe_get, wipe_get]
  by_cases h : i ∈ vs
  · simp only [h, if_true]; cases σ[i]? <;> rfl
  · simp [h]
/-- [elt for tg in iter if ..] -/
theorem lc_rd {vs : List Nat} {fi : M (List D)} {tm : D → S → Option S} {tt : M Bool} {te : M D} {τ : L2.St} {t : S} {Q : VK} (h : RdM g (T.tmp τ t) W (RvOk g (T.tmp τ t)) (mlc vs fi tm tt te) σ H Q) :
    (RdM g (T.tmp τ t) W (PI' g) fi) σ H fun J H1 => ∀ D, H1 D = none → ∃ W' : Nat → Nat → Hp → Prop, (∃ m, W' 0 m (upd H1 D (.lst []))) ∧ ∀ i m H, W' i m H →
      (J.stop i H ∧ Q (.ref D) H) ∨ (J.go i H ∧ ∃ Nx : Hp → Prop, (∀ H', Nx H' → ∃ m', m' < m ∧ W' (i + 1) m' H') ∧ ∀ x H', J.yld i H x H' → ∃ q : L2.St × S, RdG g (T.tmp q.1 q.2) (some vs) tm x (L2.wipe σ vs) H' fun σ2 H2 => L2.wipe σ2 vs = L2.wipe σ vs ∧ ∃ q : L2.St × S, RdM g (T.tmp q.1 q.2) W0 PB tt σ2 H2 fun b H3 =>
        if b = true then ∃ q : L2.St × S, RdM g (T.tmp q.1 q.2) W0 (PD g) te σ2 H3 fun y H4 => ∃ acc, H4 D = some (.lst acc) ∧ acc.length < sizeLine ∧ Nx (upd H4 D (.lst (acc ++ [y]))) else Nx H3) := by
  obtain ⟨B, s, R, p⟩ := h
  refine (PostM.bind (P := PI' g) R p).mono fun J H1 ⟨ds, B1, s1, R1, e1, q, p1⟩ => ?_
  intro p0 hp0
  by_cases hpl : plainS s1 vs = true
  · rw [if_pos hpl] at p1
    -- the invariant
    refine ⟨fun i m H' => i ≤ ds.length ∧ m = ds.length - i ∧ ∃ B' s' acc, Rel g (T.tmp (τ ++ [some (.ref p0)]) (t ++ [.l acc])) B' H' (L2.wipe σ vs) s' ∧ Ex B1 B' ∧
      PostM g (T.tmp τ t) W (RvOk g (T.tmp τ t)) σ B1 (match compD vs tm tt te (ds.drop i) acc s' with | .ok acc s' => .ok (.l acc) (restoreS s1 s' vs) | _ => .bad) Q, ⟨_, Nat.zero_le _, rfl, B1, wipeS s1 vs, [], ?_, Evl.Ex.refl _, p1⟩, ?_⟩
    · have Rw := (R1.newH (o := .lst []) hp0).wipe (vs := vs) (fun i x hi hx => plain_at hpl hi hx)
      refine Rw.push (R1.h0_of hp0) (fun i y h1 h2 h3 => ?_) ⟨p0, [], rfl, Evl.fresh_back R1.bh hp0, upd_same, rfl⟩
      have Rw2 := R1.wipe (vs := vs) (fun i x hi hx => plain_at hpl hi hx)
      obtain ⟨_, o, z⟩ := Rw2.r.ownH h1 h2 h3
      rw [hp0] at z; cases z
    · rintro i m H' ⟨hi, rfl, B', s', acc, R', e', p'⟩
      by_cases hlt : i < ds.length
      · refine .inr ⟨q.go B' H' i e' R'.bh hlt, fun H2 => ∃ B2 s2 acc2, Rel g (T.tmp (τ ++ [some (.ref p0)]) (t ++ [.l acc2])) B2 H2 (L2.wipe σ vs) s2 ∧ Ex B1 B2 ∧
          PostM g (T.tmp τ t) W (RvOk g (T.tmp τ t)) σ B1 (match compD vs tm tt te (ds.drop (i + 1)) acc2 s2 with | .ok acc s' => .ok (.l acc) (restoreS s1 s' vs) | _ => .bad) Q,
          fun H2 ⟨B2, s2, acc2, R2, e2, p2⟩ => ⟨_, by omega, hlt, rfl, B2, s2, acc2, R2, e2, p2⟩, fun x H2 hy => ⟨(τ ++ [some (.ref p0)], t ++ [.l acc]), ?_⟩⟩
        have hd : ds[i]? = some ds[i] := by simp [hlt]
        have hdrop : ds.drop i = ds[i] :: ds.drop (i + 1) := List.drop_eq_getElem_cons hlt
        rw [hdrop] at p'
        have step : ∀ B2 H2, Rel g (T.tmp (τ ++ [some (.ref p0)]) (t ++ [.l acc])) B2 H2 (L2.wipe σ vs) s' → Ex B1 B2 → Den g B2 ds[i] x →
            RdG g (T.tmp (τ ++ [some (.ref p0)]) (t ++ [.l acc])) (some vs) tm x (L2.wipe σ vs) H2 fun σ2 H2 => L2.wipe σ2 vs = L2.wipe σ vs ∧ ∃ q : L2.St × S, RdM g (T.tmp q.1 q.2) W0 PB tt σ2 H2 fun b H3 =>
              if b = true then ∃ q : L2.St × S, RdM g (T.tmp q.1 q.2) W0 (PD g) te σ2 H3 fun y H4 => ∃ acc, H4 p0 = some (.lst acc) ∧ acc.length < sizeLine ∧ (∃ B2 s2 acc2, Rel g (T.tmp (τ ++ [some (.ref p0)]) (t ++ [.l acc2])) B2 (upd H4 p0 (.lst (acc ++ [y]))) (L2.wipe σ vs) s2 ∧ Ex B1 B2 ∧
                PostM g (T.tmp τ t) W (RvOk g (T.tmp τ t)) σ B1 (match compD vs tm tt te (ds.drop (i + 1)) acc2 s2 with | .ok acc s' => .ok (.l acc) (restoreS s1 s' vs) | _ => .bad) Q)
              else ∃ B2 s2 acc2, Rel g (T.tmp (τ ++ [some (.ref p0)]) (t ++ [.l acc2])) B2 H3 (L2.wipe σ vs) s2 ∧ Ex B1 B2 ∧
                PostM g (T.tmp τ t) W (RvOk g (T.tmp τ t)) σ B1 (match compD vs tm tt te (ds.drop (i + 1)) acc2 s2 with | .ok acc s' => .ok (.l acc) (restoreS s1 s' vs) | _ => .bad) Q := fun B2 H2 R2 e2 hx => by
          refine ⟨B2, s', ds[i], R2, hx, ?_⟩
          unfold compD at p'
          cases et : tm ds[i] s' with
          | none => rw [et] at p'; exact p'.elim
          | some s0 =>
            rw [et] at p'
            dsimp only at p'
            intro σ2 B3 H3 R3 e3 l3
            have hw : L2.wipe σ2 vs = L2.wipe σ vs := Eq.trans (show L2.wipe σ2 vs = L2.wipe (L2.wipe σ vs) vs from l3) wipe_wipe
            refine ⟨hw, (τ ++ [some (.ref p0)], t ++ [.l acc]), B3, s0, R3, ?_⟩
            cases ett : tt s0 with
            | bad => rw [ett] at p'; exact p'.elim
            | ex c cs s2 => rw [ett] at p'; exact p'.elim
            | ok k s2 =>
              rw [ett] at p'
              intro b B4 H4 R4 e4 hb
              subst hb
              cases b with
              | false =>
                dsimp only at p'
                by_cases hq : plainS s2 vs = true
                · rw [if_pos hq] at p'
                  rw [if_neg Bool.false_ne_true]
                  have Rw := R4.wipe (vs := vs) (fun i x hi hx => plain_at hq hi hx)
                  rw [hw] at Rw
                  exact ⟨B4, wipeS s2 vs, acc, Rw, (e2.trans e3).trans e4, p'⟩
                · rw [if_neg hq] at p'; exact p'.elim
              | true =>
                dsimp only at p'
                rw [if_pos rfl]
                refine ⟨(τ ++ [some (.ref p0)], t ++ [.l acc]), B4, s2, R4, ?_⟩
                cases ete : te s2 with
                | bad => rw [ete] at p'; exact p'.elim
                | ex c cs s3 => rw [ete] at p'; exact p'.elim
                | ok y s3 =>
                  rw [ete] at p'
                  dsimp only at p'
                  by_cases hq : (decide (acc.length < 16000000) && plainS s3 vs) = true
                  · rw [if_pos hq] at p'
                    obtain ⟨hq1, hq2⟩ := Bool.and_eq_true_iff.mp hq
                    have hq1 := of_decide_eq_true hq1
                    intro v B5 H5 R5 e5 hv
                    obtain ⟨_, _, _, a', us, ea, f1, f2, f3⟩ := R5.pop rfl
                    cases ea
                    refine ⟨us, f2, by rw [f3.length]; exact Nat.lt_of_lt_of_le hq1 (by decide), B5, wipeS s3 vs, acc ++ [y], ?_, ((e2.trans e3).trans e4).trans e5, p'⟩
                    have Rw := R5.wipe (vs := vs) (fun i x hi hx => plain_at hq2 hi hx)
                    rw [hw] at Rw
                    exact Rw.held (f3.append (Dens.cons hv Dens.nil))
                  · rw [if_neg hq] at p'; exact p'.elim
        rcases q.yld B' H' i ds[i] x H2 e' R'.bh hd hy with ⟨rfl, hx⟩ | ⟨p, o, hp, rfl, hx⟩
        · exact step B' _ R' e' hx
        · exact step _ _ (R'.new hp) (e'.trans (Evl.Ex.new (Evl.fresh_back R'.bh hp))) hx
      · have : i = ds.length := by omega
        subst this
        refine .inl ⟨q.stop B' H' e' R'.bh, ?_⟩
        rw [List.drop_length] at p'
        obtain ⟨k1, k2, k3, k4⟩ := R'.pop rfl
        obtain ⟨a', us, ea, f1, f2, f3⟩ := k4
        cases ea
        have Rf := Rel.unwipe R1 hpl e' k1
        refine p' (.ref p0) B' H' Rf e' ⟨p0, us, rfl, ⟨f1, k2, fun i y h1 h2 h3 => ?_, f2⟩, f3⟩
        have l2 : (restoreS s1 s' vs).length = s'.length := by unfold restoreS; simp
        have l3 : s'.length = σ.length := by rw [← k1.ln, wipe_length]
        by_cases hi : i < s'.length
        · rw [List.getElem?_append_left (by omega), restoreS_get] at h1
          by_cases hv : i ∈ vs
          · rw [if_pos hv] at h1
            simp [hi] at h1
            have h0 : i < s1.length := by have := R1.ln; omega
            rw [List.getElem?_eq_getElem h0] at h1
            have := plain_at hpl hv (x := y) (by rw [List.getElem?_eq_getElem h0]; simpa using h1)
            rw [h2] at this; cases this
          · rw [if_neg hv] at h1
            refine k3 i y (app_some h1) h2 ?_
            rw [List.getElem?_append_left (by rw [wipe_length]; omega), wipe_get, if_neg hv]
            rw [List.getElem?_append_left (by omega)] at h3
            exact h3
        · rw [List.getElem?_append_right (by omega), l2] at h1
          refine k3 i y (by rw [List.getElem?_append_right (by omega)]; exact h1) h2 ?_
          rw [List.getElem?_append_right (by rw [wipe_length]; omega), wipe_length]
          rw [List.getElem?_append_right (by omega)] at h3
          exact h3
  · rw [if_neg hpl] at p1; exact p1.elim
theorem PE.ex {ι : Type} {t : ι → TE} (h : ∀ i, PE X e (t i)) : PE X e (fun σ H Q => ∃ i, t i σ H Q) := ⟨fun pins s σ H Q I ⟨i, q⟩ => (h i).run pins s σ H Q I q⟩
theorem PTs.ex {ι : Type} {es : List Expr} {t : ι → TT} (h : ∀ i, PTs X es (t i)) : PTs X es (fun σ H Q => ∃ i, t i σ H Q) := ⟨fun pins s σ H Q I ⟨i, q⟩ => (h i).run pins s σ H Q I q⟩
theorem PG.ex {ι : Type} {t : ι → TG} (h : ∀ i, PG X tg (t i)) : PG X tg (fun v σ H Q => ∃ i, t i v σ H Q) := ⟨fun pins s σ H v u Q I r ⟨i, q⟩ => (h i).run pins s σ H v u Q I r q⟩
/-- a clause's tests -/
def JTs (X : Cx) (g : G) (T : Tx) (W : WX) (es : List Expr) (f : M Bool) : Prop := ∀ τ t, PTs X es (RdM g (T.tmp τ t) W PB f)
theorem jts_nil : JTs X g T W [] (mret true) := fun τ t => ⟨fun pins s σ H Q I ⟨B, s', R, p⟩ => wpAny_tests_nil ⟨H, I, p true B H R (Evl.Ex.refl _) rfl⟩⟩
theorem jts_one {f : M Bool} (h : JT X g T W e f) : JTs X g T W [e] f := fun τ t => pts_one (h τ t)
theorem jr_lc {vs : List Nat} {own : List (Str × Nat)} {ifs : List Expr} {scope : Scope} {fi : M (List D)} {tm : D → S → Option S} {tt : M Bool} {te : M D} (hc : X.calm = true) (hN : X.N.Nodup) (hi : JI X g T W tg iter fi) (ok : BlkOk X.N X.env.scope scope own) (hv : own.map (·.2) = vs)
    (hg : ∀ (s : Shared) (H : Hp) (C : Addr) (cl : List (Str × Addr)) (fp : List Addr), JG (X.blk s H scope (compEnvC scope cl C X.env) fp) g T (some vs) tg tm)
    (ht : ∀ (s : Shared) (H : Hp) (C : Addr) (cl : List (Str × Addr)) (fp : List Addr), JTs (X.blk s H scope (compEnvC scope cl C X.env) fp) g T W0 ifs tt)
    (he : ∀ (s : Shared) (H : Hp) (C : Addr) (cl : List (Str × Addr)) (fp : List Addr), JE (X.blk s H scope (compEnvC scope cl C X.env) fp) g T W0 elt te)
    (hs : ∀ x, foldedSetIterable iter X.env x = pure x := by intro _; rfl) : JR X g T W (.ListComp elt [⟨tg, iter, ifs, 0⟩] scope pos) (mlc vs fi tm tt te) := fun τ t => by
  subst hv
  exact PE.imp (pe_lc hc hN (hi τ t) ok (fun s H C cl fp => PG.ex fun q : L2.St × S => hg s H C cl fp q.1 q.2) (fun s H C cl fp => PTs.ex fun q : L2.St × S => ht s H C cl fp q.1 q.2) (fun s H C cl fp => PE.ex fun q : L2.St × S => he s H C cl fp q.1 q.2) hs) fun σ H Q h => lc_rd h
/-- name = [..] on one line -/
theorem js_setLc {i : Nat} {y : Str} {py : Pos} {vs : List Nat} {own : List (Str × Nat)} {ifs : List Expr} {scope : Scope} {spos : Pos} {fi : M (List D)} {tm : D → S → Option S} {tt : M Bool} {te : M D} (hc : X.calm = true) (hN : X.N.Nodup) (hy : X.N[i]? = some y) (hyl : X.env.scope.names.lookup y = some .local)
    (hsw : swapsWith (.ListComp elt [⟨tg, iter, ifs, 0⟩] scope pos) (some (.Name y py)) spos.line X.env = pure true) (hi : JI X g T W tg iter fi) (ok : BlkOk X.N X.env.scope scope own) (hv : own.map (·.2) = vs)
    (hg : ∀ (s : Shared) (H : Hp) (C : Addr) (cl : List (Str × Addr)) (fp : List Addr), JG (X.blk s H scope (compEnvC scope cl C X.env) fp) g T (some vs) tg tm)
    (ht : ∀ (s : Shared) (H : Hp) (C : Addr) (cl : List (Str × Addr)) (fp : List Addr), JTs (X.blk s H scope (compEnvC scope cl C X.env) fp) g T W0 ifs tt)
    (he : ∀ (s : Shared) (H : Hp) (C : Addr) (cl : List (Str × Addr)) (fp : List Addr), JE (X.blk s H scope (compEnvC scope cl C X.env) fp) g T W0 elt te) (hio : T.io i = none)
    (hs : ∀ x, foldedSetIterable iter X.env x = pure x := by intro _; rfl) : JS X g T W (.Assign [.Name y py] (.ListComp elt [⟨tg, iter, ifs, 0⟩] scope pos) spos) (ms (mlc vs fi tm tt te) fun r => stSet i r.sl) := by
  subst hv
  refine PS.imp (ps_setLc hc hN hy hyl hsw (hi T.τ T.t) ok (fun s H C cl fp => PG.ex fun q : L2.St × S => hg s H C cl fp q.1 q.2) (fun s H C cl fp => PTs.ex fun q : L2.St × S => ht s H C cl fp q.1 q.2) (fun s H C cl fp => PE.ex fun q : L2.St × S => he s H C cl fp q.1 q.2) hs) fun D σ H ⟨B, s, R, p⟩ => ?_
  have key : ∀ Q : VK, RdM g (T.tmp T.τ T.t) W (RvOk g (T.tmp T.τ T.t)) (mlc (own.map (·.2)) fi tm tt te) σ H Q → tLc (RdM g (T.tmp T.τ T.t) W (PI' g) fi) (fun v σ H Q => ∃ q : L2.St × S, RdG g (T.tmp q.1 q.2) (some (own.map (·.2))) tm v σ H Q) (fun σ H Q => ∃ q : L2.St × S, RdM g (T.tmp q.1 q.2) W0 PB tt σ H Q) (fun σ H Q => ∃ q : L2.St × S, RdM g (T.tmp q.1 q.2) W0 (PD g) te σ H Q) (own.map (·.2)) σ H Q := fun Q h => lc_rd h
  refine key (fun x H1 => gName i x σ H1 D.nx) ((PostS.bind (P := RvOk g T) R p).mono fun v H1 ⟨r, B1, s1, R1, e1, q, p1⟩ => ?_)
  unfold stSet at p1
  by_cases hi : i < s1.length
  · rw [if_pos hi] at p1; exact p1 _ B1 H1 (R1.stored hi hio q) (Evl.Ex.refl _)
  · rw [if_neg hi] at p1; exact p1.elim
end TW

set_option Elab.async false
set_option linter.all false
set_option autoImplicit false
set_option maxRecDepth 100000
set_option maxHeartbeats 1000000
namespace TW
open PySem PySem.Spec PyProof.Rows L2
variable {g : G} {T : Tx} {B B' H H' : Hp} {σ : L2.St} {s : S} {W : WX} {α β γ δ : Type} {P : PP α β}
variable {X : Cx} {e a b c tg iter elt : Expr} {es : List Expr} {pos : Pos}

/-! ## attributes -/
def fldD (ns : Nat → List Str) (f : Str) : D → Option D
  | .obj c ds => ((ns c).zip ds).lookup f
  | _ => none
theorem lookup_dens {f : Str} {d : D} : ∀ {ns : List Str} {ds : List D} {vs : List V}, Dens g B ds vs → (ns.zip ds).lookup f = some d → f ∈ ns ∧ ∃ v, (ns.zip vs).lookup f = some v ∧ Den g B d v
  | [], ds, vs, h, e => by simp at e
  | n :: ns, [], vs, h, e => by simp at e
  | n :: ns, x :: ds, vs, ⟨v, w, e1, h1, h2⟩, e => by
    subst e1
    rw [List.zip_cons_cons] at e ⊢
    simp only [List.lookup] at e ⊢
    cases q : (f == n) with
    | true =>
      rw [q] at e
      cases e
      have : f = n := by simpa using q
      exact ⟨by rw [this]; exact List.mem_cons_self, v, rfl, h1⟩
    | false =>
      rw [q] at e
      obtain ⟨k1, k2⟩ := lookup_dens h2 e
      exact ⟨List.mem_cons_of_mem _ k1, k2⟩
/-- what of the text the classes with this attribute must have -/
def FldF (g : G) (f : Str) : Prop := ∀ c, f ∈ g.names c → Cls g.K (g.cn c) ∧ NoAttr g.K (g.cn c) f
def mfld (ns : Nat → List Str) (f : Str) (fo : M Opd) : M D := mun (fldD ns f) fo
theorem je_fld {f : Str} {fo : M Opd} (hK : X.K = g.K) (hF : FldF g f) (he : JO X g T W e fo) (hb : attributeBase e f X.env (eval e X.env) = eval e X.env) : JE X g T W (.Attribute e f pos) (mfld g.names f fo) :=
  fun τ t => PE.imp (pe_fld (he τ t) hb) fun σ H Q ⟨B, s, R, p⟩ => (PostM.bind (P := PO' g) R p).mono fun x H1 ⟨o, B1, s1, R1, e1, q1, p1⟩ => by
    rw [hK]
    refine un_post (f := fldD g.names f) (r := fun x H1 Q => ∃ a C dx fs v, x = .ref a ∧ H1 a = some (.ins C dx fs) ∧ Cls g.K C ∧ NoAttr g.K C f ∧ fs.lookup f = some v ∧ Q v H1) (fun T B H σ s x dx d Q R h e q => ?_) R1 q1 p1
    cases dx with
    | obj c ds =>
      obtain ⟨a, dx, vs, rfl, k1, k3⟩ := h
      obtain ⟨m, v, l, hv⟩ := lookup_dens k3 e
      exact ⟨a, g.cn c, dx, _, v, rfl, k1, (hF c m).1, (hF c m).2, l, q v B H R (Evl.Ex.refl _) hv⟩
    | _ => cases e
def putO : List Str → Str → List D → D → Option (List D)
  | n :: _, f, [], d => if n = f then some [d] else none
  | n :: ns, f, x :: xs, d => if n = f then some (d :: xs) else (putO ns f xs d).map (x :: ·)
  | [], _, _, _ => none
theorem putO_dens {f : Str} {d : D} {v : V} (hv : Den g B d v) : ∀ {ns : List Str} {ds ds' : List D} {vs : List V}, Dens g B ds vs → putO ns f ds d = some ds' → f ∈ ns ∧ ∃ vs', putF f v (ns.zip vs) = ns.zip vs' ∧ Dens g B ds' vs'
  | [], ds, ds', vs, h, e => by unfold putO at e; cases e
  | n :: ns, [], ds', vs, h, e => by
    cases h
    unfold putO at e
    by_cases c : n = f
    · rw [if_pos c] at e; cases e
      subst c
      exact ⟨List.mem_cons_self, [v], by simp [putF], Dens.cons hv Dens.nil⟩
    · rw [if_neg c] at e; cases e
  | n :: ns, x :: ds, ds', vs, ⟨u, w, e1, h1, h2⟩, e => by
    subst e1
    unfold putO at e
    rw [List.zip_cons_cons]
    by_cases c : n = f
    · rw [if_pos c] at e; cases e
      refine ⟨by rw [c]; exact List.mem_cons_self, v :: w, ?_, Dens.cons hv h2⟩
      rw [List.zip_cons_cons]; unfold putF; rw [if_pos c]
    · rw [if_neg c] at e
      cases q : putO ns f ds d with
      | none => rw [q] at e; cases e
      | some es =>
        rw [q] at e; cases e
        obtain ⟨m, vs', k1, k2⟩ := putO_dens hv h2 q
        refine ⟨List.mem_cons_of_mem _ m, u :: vs', ?_, Dens.cons h1 k2⟩
        rw [List.zip_cons_cons]; unfold putF; rw [if_neg c, k1]
def mputf (ns : Nat → List Str) (k : Nat) (f : Str) (fv : M D) : MS := ms fv fun d s => match s[k]? with
  | some (.o c ds) => (match putO (ns c) f ds d with
    | some ds' => .nx (s.set k (.o c ds'))
    | none => .bad)
  | _ => .bad
theorem js_putf {k : Nat} {f : Str} {st : Stmt} {fv : M D} (hK : X.K = g.K) (hF : FldF g f) (hlen : ∀ c, (g.names c).length < 1000) (ho : PE X b (tVar k)) (hps : ∀ ta tv, PE X b ta → PE X e tv → PS X st (sFld X.K ta tv f)) (hv : JE X g T W e fv) : JS X g T W st (mputf g.names k f fv) :=
  PS.imp (hps _ _ ho (hv T.τ T.t)) fun D σ H ⟨B, s, R, p⟩ => (PostS.bind (P := PD g) R p).mono fun y H1 ⟨d, B1, s1, R1, e1, q1, p1⟩ => by
    rw [hK]
    cases hs : s1[k]? with
    | none => rw [hs] at p1; exact p1.elim
    | some x =>
      rw [hs] at p1
      cases x with
      | o c ds =>
        dsimp only at p1
        cases ep : putO (g.names c) f ds d with
        | none => rw [ep] at p1; exact p1.elim
        | some ds' =>
          rw [ep] at p1
          obtain ⟨a, dx, vs, ha, b0, h0, hd⟩ := R1.geto hs
          obtain ⟨m, vs', k1, k2⟩ := putO_dens q1 hd ep
          refine ⟨.ref a, ha, a, g.cn c, dx, _, rfl, h0, (hF c m).1, (hF c m).2, ?_, ?_⟩
          · rw [List.length_zip]; exact Nat.lt_of_le_of_lt (Nat.min_le_left _ _) (hlen c)
          · rw [k1]
            exact p1 σ B1 _ (R1.write hs rfl ha rfl ⟨a, dx, vs', rfl, b0, upd_same, k2⟩) (Evl.Ex.refl _)
      | _ => exact p1.elim
/-! ## instances made -/
theorem run_makeS {CX : CXT} {k : Nat} {f C : Addr} {fd : FuncData} {ps : List Str} {sp : Sp} {dvs : List V} {ds : List Value} {E : XK} {pins : List (Addr × Obj)} {σ : L2.St} {H : Hp} {s : Shared} {Q : VK} {us : List Value} {vs : List V} (M : Mk X.K C f) (F : FnOk X.prog X.w X.K X.mg X.base CX k f fd ps sp) (hr : Room (k + 1) X.A) (hb : Binds X.K fd ps ds) (hd : Vals dvs ds)
    (hx : PassesAt CX X σ E) (I : Inv X pins σ H s) (r : Vals vs us)
    (h : ∀ x dx, H x = none → H dx = none → dx ≠ x → sp (.ref x :: (vs ++ dvs)) (upd (upd H dx (.own x)) x (.ins C dx [])) (fun v H2 => v = .non ∧ Q (.ref x) H2) E) :
    wpAny (model X.prog X.w) X.A (call (.ref C) us) (EP X pins σ Q) X.xe s := by
  have hq := h (s.heap.objs.size + 1) s.heap.objs.size (I.hok.fresh (Nat.le_succ _)) (I.hok.fresh (Nat.le_refl _)) (Nat.ne_of_lt (Nat.lt_succ_self _))
  have I2 := Inv.made (C := C) I
  have r2 : Vals (V.ref (s.heap.objs.size + 1) :: (vs ++ dvs)) (Value.ref (s.heap.objs.size + 1) :: (us ++ ds)) := .cons rfl (r.append hd)
  have hl : (Value.ref (s.heap.objs.size + 1) :: us ++ ds).length = ps.length := by
    have e := r2.length
    rw [F.len _ _ _ _ hq] at e
    exact e.symm
  refine wpAny_call (make_map (f := f) I.kIn M.makes M.init (beq_iff_eq.mp M.fn) (codeAny_mono (F.run _ X.stack _ _ ⟨Value.ref (s.heap.objs.size + 1) :: us, []⟩ (Value.ref (s.heap.objs.size + 1) :: (us ++ ds)) _ _ E (hr.make C us [])
    (I2.env0.make C us []) (hb _ (Value.ref (s.heap.objs.size + 1) :: us) I2.kIn hl) r2 hq) fun r s' hq' => ?_))
  cases r with
  | error e => exact hx pins _ _ e s' I2 hq'
  | ok fl =>
    cases fl with
    | ret u =>
      obtain ⟨v, H', I3, rv, ev, q3⟩ := I2.after hq'
      subst ev
      exact ⟨rv, ⟨V.ref (s.heap.objs.size + 1), H', I3, rfl, q3⟩⟩
    | next => exact False.elim hq'
    | brk => exact False.elim hq'
    | cont => exact False.elim hq'
def tMakeS (C : Addr) (sp : Sp) (dvs : List V) (E : L2.St → XK) (t : TA) : TE := fun σ H Q => t σ H fun vs H1 => ∀ x dx, H1 x = none → H1 dx = none → dx ≠ x →
  sp (.ref x :: (vs ++ dvs)) (upd (upd H1 dx (.own x)) x (.ins C dx [])) (fun v H2 => v = .non ∧ Q (.ref x) H2) (E σ)
theorem pe_makeS {CX : CXT} {k : Nat} {f C : Addr} {fd : FuncData} {ps : List Str} {sp : Sp} {dvs : List V} {ds : List Value} {E : L2.St → XK} {x : Str} {p : Pos} {t : TA} (M : Mk X.K C f) (F : FnOk X.prog X.w X.K X.mg X.base CX k f fd ps sp) (hr : Room (k + 1) X.A) (hg : Gl X x) (hm : X.mg x = some (.ref C)) (hb : Binds X.K fd ps ds) (hd : Vals dvs ds) (hx : ∀ σ, PassesAt CX X σ (E σ))
    (ha : PA X (e :: es) t) (hdb : (x == ("__debug__" : Str)) = false := by decide) (he : starEach (e :: es) X.env = (false, eval e X.env) :: starEach es X.env := by rfl) (hpl : (backTo pos (starEach es X.env)).any (·.1) = false := by rfl) :
    PE X (.Call (.Name x p) (e :: es) [] pos) (tMakeS C sp dvs E t) := by
  refine ⟨fun pins s σ H Q I h => ?_⟩
  refine wpAny_Call_Name_kw (ld_glob I hg hm ?_ hdb)
  refine PySem.W.callWith_K (h₀ := X.base) I.ok.mod.kin M.kp (thn (ha.run pos pins s σ H _ I h) fun us s1 ⟨vs, H1, I1, r, q⟩ => ⟨I1.kIn, ?_⟩) he hpl
  exact run_makeS M F hr hb hd (hx σ) I1 r q
def mmake (c : Nat) (f : Fd) (dds : List D) (fa : M (List Opd)) : M Rv := mbind fa fun os s => if dupFree s os = true then (match argsOf s os with
  | none => .bad
  | some as => match f (.o c [] :: (as ++ dds.map .v)) with
    | .ret (.v .non) (.o c' ds :: post) => if c' = c then .ok (.o c ds) (putBack s os post) else .bad
    | .ex c' ds post => .ex c' ds (putBack s os (post.drop 1))
    | _ => .bad) else .bad
theorem dupFree_new {s : S} {os : List Opd} {x : Sl} (hk : ∀ k, Opd.s k ∈ os → k < s.length) (h : dupFree s os = true) : dupFree (s ++ [x]) (.s s.length :: os) = true := by
  have h1 := dupFree_app (t := [x]) hk h
  unfold dupFree
  rw [h1, Bool.and_true, Bool.or_eq_true]
  right
  rw [List.all_eq_true]
  intro o ho
  cases o with
  | d y => rfl
  | s k => have := hk k ho; simp [Opd.isS]; omega
/-- a new instance is handed to __init__: what stands behind -/
theorem Rel.made {os : List Opd} {vs : List V} {as : List Sl} {dds : List D} {dvs : List V} {post : List Sl} {x dx : Addr} {cc : Nat} (R : Rel g T B H σ s) (hp : PAs g σ s os B H vs) (hd : dupFree s os = true) (ha : argsOf s os = some as) (hdd : Dens g B dds dvs)
    (nx : H x = none) (ndx : H dx = none) (ne : dx ≠ x) :
    ArgsOk g B (upd (upd H dx (.own x)) x (.ins (g.cn cc) dx [])) (.o cc [] :: (as ++ dds.map .v)) (.ref x :: (vs ++ dvs)) ∧
    (After g B (upd (upd H dx (.own x)) x (.ins (g.cn cc) dx [])) B' H' (.o cc [] :: (as ++ dds.map .v)) (.ref x :: (vs ++ dvs)) post → Rel g T B' H' σ (putBack s os (post.drop 1)) ∧ ∀ ds, post[0]? = some (.o cc ds) → RvOk g T σ (putBack s os (post.drop 1)) (.o cc ds) B' H' (.ref x)) := by
  obtain ⟨h1, h2⟩ := argsOf_app (t := T.t) ha
  have R2 : Rel g T B (upd (upd H dx (.own x)) x (.ins (g.cn cc) dx [])) σ s := (R.newH ndx).newH (by rw [upd_ne ne.symm]; exact nx)
  have hx0 : T.H0 x = none := R.h0_of nx
  have hdx0 : T.H0 dx = none := R.h0_of ndx
  have ok0 : SlOk g B (upd (upd H dx (.own x)) x (.ins (g.cn cc) dx [])) (.o cc []) (some (.ref x)) := ⟨x, dx, [], rfl, Evl.fresh_back R.bh nx, by rw [upd_same]; simp, Dens.nil⟩
  have hsl : ∀ (i : Nat) (y : Sl), (s ++ T.t)[i]? = some y → y.own = true → (σ ++ T.τ)[i]? ≠ some (some (.ref x)) := fun i y a1 a2 a3 => by
    obtain ⟨_, o, z⟩ := R.r.ownH a1 a2 a3
    rw [nx] at z; cases z
  have Rp : Rel0 g T B (upd (upd H dx (.own x)) x (.ins (g.cn cc) dx [])) (σ ++ T.τ ++ [some (.ref x)]) (s ++ T.t ++ [.o cc []]) := Rel0.push R2.r hx0 hsl ok0
  -- the arguments with the new one ahead
  have hl : (s ++ T.t).length = (σ ++ T.τ).length := by have := R.ln; have := R.r.len; omega
  have ps' : PAs g (σ ++ T.τ ++ [some (.ref x)]) (s ++ T.t ++ [.o cc []]) (.s (s ++ T.t).length :: os) B (upd (upd H dx (.own x)) x (.ins (g.cn cc) dx [])) (.ref x :: vs) := by
    refine PAs.cons (show (σ ++ T.τ ++ [some (V.ref x)])[(s ++ T.t).length]? = some (some (.ref x)) by rw [hl]; simp) ?_
    exact (PAs.app (PAs.app hp)).mono (Evl.Ex.refl B)
  have hos : ∀ k, Opd.s k ∈ os → k < (s ++ T.t).length := fun k hk => by have := h2 k hk; simp; omega
  have hd' : dupFree (s ++ T.t ++ [.o cc []]) (.s (s ++ T.t).length :: os) = true := dupFree_new hos (dupFree_app h2 hd)
  have ha' : argsOf (s ++ T.t ++ [.o cc []]) (.s (s ++ T.t).length :: os) = some (.o cc [] :: as) := by
    unfold argsOf
    have e1 : argOf (s ++ T.t ++ [.o cc []]) (.s (s ++ T.t).length) = some (.o cc []) := by
      show ((s ++ T.t ++ [Sl.o cc []])[(s ++ T.t).length]?).bind Sl.some? = _
      simp [Sl.some?]
    rw [e1, (argsOf_app (t := [.o cc []]) h1).1]
  have A0 := Rp.args_ok ps' hd' ha' hdd
  refine ⟨A0, fun A => ?_⟩
  have r := Rp.called ps' hd' ha' hdd A
  have hk' : ∀ k, Opd.s k ∈ os → k < s.length := h2
  have plen : (putBack s os (post.drop 1)).length = s.length := by unfold putBack; simp
  -- the state behind
  have est : putBack (s ++ T.t ++ [.o cc []]) (.s (s ++ T.t).length :: os) post = putBack s os (post.drop 1) ++ T.t ++ [post.getD 0 .no] := by
    apply List.ext_getElem?
    intro i
    rw [putBack_get]
    by_cases hi : i < (s ++ T.t).length
    · rw [List.getElem?_append_left hi, List.getElem?_append_left (l₁ := putBack s os (post.drop 1) ++ T.t) (by rw [List.length_append, plen]; rw [List.length_append] at hi; exact hi)]
      have hne : Opd.isS i (.s (s ++ T.t).length) = false := by simp [Opd.isS]; simp at hi; omega
      rw [← putBack_app hk', putBack_get]
      congr 1
      funext y
      by_cases hy : y.own = true
      · rw [if_pos hy, if_pos hy, List.findIdx?_cons, hne]
        simp only [Bool.false_eq_true, if_false]
        cases os.findIdx? (Opd.isS i) with
        | none => rfl
        | some j =>
          simp [List.getD_eq_getElem?_getD, List.getElem?_drop, Nat.add_comm]
      · rw [if_neg hy, if_neg hy]
    · rw [List.getElem?_append_right (by omega), List.getElem?_append_right (l₁ := putBack s os (post.drop 1) ++ T.t) (by rw [List.length_append, plen]; rw [List.length_append] at hi; omega)]
      have e2 : (putBack s os (post.drop 1) ++ T.t).length = (s ++ T.t).length := by rw [List.length_append, plen, List.length_append]
      rw [e2]
      cases q : i - (s ++ T.t).length with
      | zero =>
        have : i = (s ++ T.t).length := by omega
        subst this
        simp [Sl.own, List.findIdx?_cons, Opd.isS, List.getD_eq_getElem?_getD]
      | succ n => simp
  rw [est] at r
  obtain ⟨x', p1, p2, p3⟩ := A.io 0 (.o cc []) (.ref x) rfl rfl rfl
  have ex : post.getD 0 .no = x' := by rw [List.getD_eq_getElem?_getD, p1]; rfl
  rw [ex] at r
  obtain ⟨r1, r2, r3, r4⟩ := r.pop p2 (fun j a h => by have := R.iob j a h; simp; omega)
  refine ⟨⟨r1, by rw [plen]; exact R.ln, R.iob⟩, fun ds e0 => ?_⟩
  rw [p1] at e0; cases e0
  obtain ⟨a', dx', us, ea, f1, f3, f5⟩ := r4
  cases ea
  exact ⟨x, dx', us, rfl, ⟨f1, r2, r3, f3⟩, f5⟩
end TW

set_option Elab.async false
set_option linter.all false
set_option autoImplicit false
set_option maxRecDepth 100000
set_option maxHeartbeats 1000000
namespace TW
open PySem PySem.Spec PyProof.Rows L2
open Sem (wp)
variable {g : G} {T : Tx} {B B' H H' : Hp} {σ : L2.St} {s : S} {W : WX} {α β γ δ : Type} {P : PP α β}
variable {X : Cx} {e a b c tg iter elt : Expr} {es : List Expr} {pos : Pos}

/-! ## enumerate of a tuple -/
theorem meets_enumT {v : Value} {o : Obj} {H : Heap → Prop} (B : Begins v o H) :
    Meets (Builtin.«enumerate.__new__» ⟨[.type "enumerate", v], []⟩) (fun _ R s => H s.heap ∧
      R (.ok (.ret (.ref (s.heap.push o).objs.size))) { s with heap := (s.heap.push o).push { cls := .type "enumerate", data := .fields #[.none, .bool false, .ref s.heap.objs.size, rawInt 0, .none, .none] } }) :=
  .of_wp fun prog w A R s h => by
    obtain ⟨hp, g, d, tk, os⟩ := s; obtain ⟨h1, h⟩ := h
    have hsub := sub_enumerate
    have q1 : ∀ {A' : Around} {E : Value → Shared → Prop} {Q : Value → Shared → Prop}, Q (.ref hp.objs.size) ⟨hp.push o, g, d, tk, os⟩ → wpAny (model prog w) A' (pyIter v) Q E ⟨hp, g, d, tk, os⟩ :=
      fun q => B.iter prog w _ _ ⟨hp, g, d, tk, os⟩ _ h1 q
    wp_walk using q1
    refine wpAny_stack_any fun st => wpAny_pure ?_
    split
    · rename_i c _ _ _ _ _
      cases (c == Value.type "enumerate")
      · wp_walk using q1
        exact ⟨_, rfl, h⟩
      · wp_walk using q1
        exact ⟨_, rfl, h⟩
    · wp_walk using q1
      exact ⟨_, rfl, h⟩
theorem call_enumT {prog : Program} {w : World} {A : Around} {E : Value → Shared → Prop} {s : Shared} {v : Value} {o : Obj} {H : Heap → Prop} {Q : Value → Shared → Prop} (B : Begins v o H) (h1 : H s.heap)
    (h : ∀ h', IsEnum h' (s.heap.objs.size + 1) s.heap.objs.size 0 .none → h'.get? s.heap.objs.size = some o → h'.objs.size = s.heap.objs.size + 2 →
      (∀ b o, s.heap.get? b = some o → h'.get? b = some o) → Q (.ref (s.heap.objs.size + 1)) { s with heap := h' }) :
    wpAny (model prog w) A (call (.type "enumerate") [v]) Q E s := by
  refine callType_new F.called_enumerate (by decide) (F.typeCall_enumerate_1 _) (F.newCall_enumerate_1 _) (fun obj => F.args_object_init_2 obj _) F.entry_enumerate_new
    (meets_enumT B) ⟨h1, ?_⟩
  have hz : (s.heap.push o).objs.size = s.heap.objs.size + 1 := Heap.size_push ..
  show _ ∧ _
  rw [hz]
  have he : IsEnum ((s.heap.push o).push { cls := .type "enumerate", data := .fields #[.none, .bool false, .ref s.heap.objs.size, rawInt 0, .none, .none] }) (s.heap.objs.size + 1) s.heap.objs.size 0 .none := by
    have := Heap.get?_push_size (s.heap.push o) (o := { cls := .type "enumerate", data := .fields #[.none, .bool false, .ref s.heap.objs.size, rawInt 0, .none, .none] }) rfl
    rw [hz] at this; exact this
  refine ⟨⟨_, he, rfl⟩, h _ he (Heap.get?_push_of_some _ (Heap.get?_push_size _ B.free)) (by rw [Heap.size_push, hz]) fun b o x => Heap.get?_push_of_some _ (Heap.get?_push_of_some _ x)⟩
def IteT (K : PySem.W.Frag) (a : Addr) : It :=
  ⟨fun i H => ∃ (xs : List V) (x : V), SqT K H a xs ∧ xs[i]? = some x, fun i H v H' => ∃ T x, v = .ref T ∧ H T = none ∧ H' = upd H T (.tup [.int (i : Nat), x]) ∧ ∀ xs, SqT K H a xs → xs[i]? = some x, fun i H => ∃ xs : List V, SqT K H a xs ∧ xs.length ≤ i⟩
theorem turn_enumT {P : Program} {w : World} {K : PySem.W.Frag} {elts : List Expr} {kk : Nat} {tpos : Pos} (a e it : Addr) :
    Turn P w K (.Tuple elts kk tpos) (IteT K a) [e, it] e (fun i h => (∃ old, IsEnum h e it ((i : Nat) : Int) old) ∧ h.IsTupleIter it a i ∧ e ≠ it) where
  mem := by simp
  obj := fun i h st b hb => by
    obtain ⟨⟨old, he⟩, ⟨o, ho, hc, hd⟩, _⟩ := st
    have e' : b = e ∨ b = it := by simpa using hb
    rcases e' with z | z
    · rw [z]; exact ⟨_, he, fun v q => nomatch q⟩
    · rw [z]; exact ⟨o, ho, fun v q => by rw [hd] at q; cases q⟩
  keep := fun i h h' st k => let ⟨⟨old, he⟩, hi, hne⟩ := st; ⟨⟨old, k e (by simp) _ he⟩, hi.at fun o q => k it (by simp) o q, hne⟩
  item := by
    intro X hP hw hK hc i pins s σ H E I hf st hg
    subst hP hw hK
    obtain ⟨⟨old, he⟩, hit, hne⟩ := st
    obtain ⟨xs, x, hq, hx⟩ := hg
    obtain ⟨its, rv, p, hz⟩ := I.tuple hq
    obtain ⟨u, hu, ru⟩ := rv.get hx
    have hel : e < s.heap.objs.size := Heap.lt_size he
    have hil : it < s.heap.objs.size := by obtain ⟨_, q, _⟩ := hit; exact Heap.lt_size q
    have pT : s.heap.IsTuple a its.toArray := p
    have hai : a ≠ it := fun z => by
      obtain ⟨o, h1, h2, _⟩ := pT
      obtain ⟨o', h3, h4, _⟩ := hit
      rw [z, h3] at h1; cases h1
      rw [h4] at h2; exact absurd (Value.type.inj h2) (by decide)
    have hae : a ≠ e := fun z => by
      obtain ⟨o, h1, h2, _⟩ := pT
      rw [z] at h1
      have he2 : s.heap.get? e = some _ := he
      rw [he2] at h1; cases h1
      exact absurd (Value.type.inj h2) (by decide)
    have hlt : i < its.toArray.size := by
      have := (List.getElem?_eq_some_iff.mp hu).1
      simpa using this
    refine wpAny_pyNext_enum_itemC (Draws.tuple (A := X.A.in1) (I.ok.hd hc) it a hai its.toArray) he ⟨hit, pT⟩ hlt hne (by simp; exact ⟨hne, Ne.symm hae⟩) fun y h' tk hP ho hit' hT hsz hk => ?_
    have ey : y = u := by
      have : its.toArray[i]? = some u := by simpa using hu
      rw [this] at hP; cases hP; rfl
    subst ey
    refine ⟨_, rfl, wpAny_letOwnedTupleGo_enum (s := { s with heap := h', toks := tk + 1 }) ho fun h'' he' sb => ?_⟩
    have hT2 : h''.get? s.heap.objs.size = some { cls := .type "tuple", data := .seq #[.int i tk, y] } := (sb.2 _ (Nat.ne_of_gt hel)).trans hT
    have new : ObjOk X.prog X.w (upd H s.heap.objs.size (.tup [.int (i : Nat), x])) h'' s.heap.objs.size (.tup [.int (i : Nat), x]) :=
      ⟨by show 2 ≤ sizeLine; decide, [.int i tk, y], .cons ⟨_, rfl⟩ (.cons ru .nil), ⟨_, hT2, rfl, _, rfl⟩⟩
    have I1 : Inv X pins σ (upd H s.heap.objs.size (.tup [.int (i : Nat), x])) { s with heap := h'', toks := tk + 1 } :=
      I.turnedNew (ch := [e, it]) (fun b ob hb q => (sb.2 b (fun z => hb (by simp [z]))).trans (hk b ob (fun z => hb (by simp [z])) (fun z => hb (by simp [z])) q)) hf (Nat.le_refl _) new
    refine ⟨.ref s.heap.objs.size, _, I1, rfl, ⟨_, x, rfl, I.hok.fresh (Nat.le_refl _), rfl, fun ys hy => by rw [I.tuple_inj hy hq]; exact hx⟩, ⟨⟨y, ?_⟩, hit'.1.at fun o q => (sb.2 it (Ne.symm hne)).trans q, hne⟩, fun b hb => ?_⟩
    · have e1 : ((i + 1 : Nat) : Int) = (i : Int) + 1 := by omega
      rw [e1]; exact he'
    · have hb' : b < s.heap.objs.size := by
        have e' : b = e ∨ b = it := by simpa using hb
        rcases e' with z | z
        · rw [z]; exact hel
        · rw [z]; exact hil
      rw [upd_ne (Nat.ne_of_lt hb')]
      exact (hf b hb).1
  done := by
    intro X hP hw hK hc i pins s σ H E I hf st hg
    subst hP hw hK
    obtain ⟨⟨old, he⟩, hit, hne⟩ := st
    obtain ⟨xs, hq, hx⟩ := hg
    obtain ⟨its, rv, p, hz⟩ := I.tuple hq
    obtain ⟨f0, f1, f2, f3, f4, f5⟩ := hf it (by simp)
    have hl := rv.length
    have pT : s.heap.IsTuple a its.toArray := p
    have hai : a ≠ it := fun z => by
      obtain ⟨o, h1, h2, _⟩ := pT
      obtain ⟨o', h3, h4, _⟩ := hit
      rw [z, h3] at h1; cases h1
      rw [h4] at h2; exact absurd (Value.type.inj h2) (by decide)
    -- the iterator stands at its own count; done wants it at the size: by the tuple's end
    have hT : s.TypeIs (.ref e) "enumerate" := ⟨_, he, rfl⟩
    unfold pyNext
    refine wpAny_bind (wpAny_attempt (wpAny_callSpecial?_slot (name := Str.ofString "__next__") hT F.slot_enumerate_next
      (wpAny_call_entry F.slot_enumerate_next hT F.entry_enumerate_next ?_ (F.args_enumerate_next_1 _))))
    show wpAny _ _ (field (.ref e) 2 >>= _) _ _ _
    refine wpAny_bind (wpAny_field he rfl (x := .ref it) rfl ?_)
    refine wpAny_bind (wpAny_nextOf_tuple_end (A := X.A.in1) (I.ok.hd hc) hit pT (by simp; omega) fun h' x he' hx' => ?_)
    obtain ⟨o, ho, hc'⟩ := hx'
    refine wpAny_bind (wpAny_isInstance (T := "StopIteration") (b := true) ⟨o, ho, hc'⟩ isSubtype_stop ?_)
    exact wpAny_pure ⟨rfl, I.turned (t' := s.toks) (fun b o hb q => he' b o hb q) f0 f1 f3 f4 f5⟩
  self := fun A i s Q E st h => let ⟨⟨_, he⟩, _⟩ := st; wpAny_pyIter_enum he h
def iEnumT (K : PySem.W.Frag) (ta : TA) : TI := fun σ H R => ta σ H fun vs H1 => ∃ a xs, vs = [.ref a] ∧ SqT K H1 a xs ∧ R (IteT K a) H1
theorem pi_enumT {X : Cx} {e : Expr} {ta : TA} {p pos tpos : Pos} {elts : List Expr} {kk : Nat} (hg : Gl X "enumerate") (hm : X.mg "enumerate" = none) (ha : PA X [e] ta) (hs : starEach [e] X.env = [(false, eval e X.env)] := by rfl) :
    PI X (.Tuple elts kk tpos) (.Call (.Name "enumerate" p) [e] [] pos) (iEnumT X.K ta) := by
  refine ⟨fun pins s σ H R I h => ?_⟩
  refine Call_ (ld_blt I hg hm boot_enumerate (PyProof.Rows.callWith_type1 (thn (ha.run pos pins s σ H _ I h) fun us s1 ⟨vs, H1, I1, r1, q1⟩ => ?_) hs rfl))
  obtain ⟨a, xs, ex, hq, q⟩ := q1
  subst ex
  cases r1 with
  | cons r rr =>
    cases rr
    cases r
    obtain ⟨its, rv, p', hz⟩ := I1.tuple hq
    refine call_enumT (begins_tuple a its.toArray) (show s1.heap.IsTuple a its.toArray from p') fun h' he hit hsz hk => wpAny_pyIter_enum he ?_
    have I2 : Inv X pins σ H1 { s1 with heap := h' } := I1.kept (t' := s1.toks) hk
    refine ⟨s1.heap.objs.size + 1, [s1.heap.objs.size + 1, s1.heap.objs.size], _, _, H1, rfl, I2, turn_enumT a (s1.heap.objs.size + 1) s1.heap.objs.size, ⟨⟨.none, he⟩, ⟨_, hit, rfl, rfl⟩, Nat.succ_ne_self _⟩, fun b hb => ?_, q⟩
    have e' : b = s1.heap.objs.size + 1 ∨ b = s1.heap.objs.size := by simpa using hb
    have hle : s1.heap.objs.size ≤ b := by
      rcases e' with z | z
      · rw [z]; exact Nat.le_add_right _ _
      · rw [z]; exact Nat.le_refl _
    exact I1.fpOk hle (I1.hok.fresh hle)
/-! ## enumerate, by data -/
def enumD (ds : List D) : List D := ds.mapIdx fun i d => .tup [.int (i : Nat), d]
theorem enumD_get {ds : List D} {i : Nat} {d : D} (h : (enumD ds)[i]? = some d) : ∃ d', ds[i]? = some d' ∧ d = .tup [.int (i : Nat), d'] := by
  unfold enumD at h
  rw [List.getElem?_mapIdx] at h
  cases q : ds[i]? with
  | none => rw [q] at h; cases h
  | some d' => rw [q] at h; cases h; exact ⟨d', rfl, rfl⟩
theorem Wk.enumL {K : PySem.W.Frag} (hK : K = g.K) {a : Addr} {vs : List V} {ds : List D} (h : SqL K B a vs) (hd : Dens g B ds vs) : Wk g B (Ite K a) (enumD ds) where
  go := fun B' H' i e e' hi => ⟨vs, vs[i]'(by rw [hd.length]; simpa [enumD] using hi), Evl.ex_l (e.trans e') h, List.getElem?_eq_getElem _⟩
  stop := fun B' H' e e' => ⟨vs, Evl.ex_l (e.trans e') h, by rw [hd.length]; simp [enumD]⟩
  yld := fun B' H' i d x H2 e e' hi hy => by
    obtain ⟨d', hd', rfl⟩ := enumD_get hi
    obtain ⟨p, y, rfl, hn, rfl, hy⟩ := hy
    obtain ⟨v, hv, q⟩ := hd.get hd'
    have := hy vs (Evl.ex_l (e.trans e') h)
    rw [hv] at this; cases this
    have nb : B' p = none := Evl.fresh_back e' hn
    exact .inr ⟨p, _, hn, rfl, p, _, rfl, .inl (.inl upd_same), Dens.cons rfl (Dens.cons ((q.mono e).mono (Evl.Ex.new nb)) Dens.nil)⟩
theorem Wk.enumT {K : PySem.W.Frag} (hK : K = g.K) {a : Addr} {vs : List V} {ds : List D} (h : SqT K B a vs) (hd : Dens g B ds vs) : Wk g B (IteT K a) (enumD ds) where
  go := fun B' H' i e e' hi => ⟨vs, vs[i]'(by rw [hd.length]; simpa [enumD] using hi), Evl.ex_t (e.trans e') h, List.getElem?_eq_getElem _⟩
  stop := fun B' H' e e' => ⟨vs, Evl.ex_t (e.trans e') h, by rw [hd.length]; simp [enumD]⟩
  yld := fun B' H' i d x H2 e e' hi hy => by
    obtain ⟨d', hd', rfl⟩ := enumD_get hi
    obtain ⟨p, y, rfl, hn, rfl, hy⟩ := hy
    obtain ⟨v, hv, q⟩ := hd.get hd'
    have := hy vs (Evl.ex_t (e.trans e') h)
    rw [hv] at this; cases this
    have nb : B' p = none := Evl.fresh_back e' hn
    exact .inr ⟨p, _, hn, rfl, p, _, rfl, .inl (.inl upd_same), Dens.cons rfl (Dens.cons ((q.mono e).mono (Evl.Ex.new nb)) Dens.nil)⟩
def menum (fa : M Opd) : M (List D) := mbind (mbind fa strong) fun d => mopt ((itemsD d).map enumD)
theorem ji_enum {elts : List Expr} {kk : Nat} {p tpos : Pos} {fa : M Opd} (hK : X.K = g.K) (hg : Gl X "enumerate") (hm : X.mg "enumerate" = none) (ha : JO X g T W e fa) (hs : starEach [e] X.env = [(false, eval e X.env)] := by rfl) :
    JI X g T W (.Tuple elts kk tpos) (.Call (.Name "enumerate" p) [e] [] pos) (menum fa) := fun τ t =>
  PI.imp (PI.or (pi_enum hg hm (pa_cons (je_of ha τ t) pa_nil hs) hs) (pi_enumT hg hm (pa_cons (je_of ha τ t) pa_nil hs) hs)) fun σ H R ⟨B, s, Rl, p⟩ => by
    unfold menum at p
    cases ef : mbind fa strong s with
    | bad => unfold mbind at p ef; rw [ef] at p; exact p.elim
    | ex c ds s' => have p' := p; unfold mbind at p ef; rw [ef] at p; exact .inl ⟨B, s, Rl, by unfold mbind; rw [ef]; exact p⟩
    | ok d s' =>
      rw [mbind_ok ef] at p
      cases d with
      | tup ds =>
        refine .inr ⟨B, s, Rl, ?_⟩
        rw [ef]
        intro v B' H' R' e' hd
        obtain ⟨a, vs, rfl, k1, k2⟩ := hd
        rw [← hK] at k1
        exact ⟨a, vs, rfl, Evl.ex_t R'.bh k1, p _ B' H' R' e' (Wk.enumT hK k1 k2)⟩
      | lst ds =>
        refine .inl ⟨B, s, Rl, ?_⟩
        rw [ef]
        intro v B' H' R' e' hd
        obtain ⟨a, vs, rfl, k1, k2⟩ := hd
        exact ⟨a, vs, rfl, .inl (.inl (R'.bh _ _ k1)), p _ B' H' R' e' (Wk.enumL hK (.inl (.inl k1)) k2)⟩
      | arg ds =>
        refine .inl ⟨B, s, Rl, ?_⟩
        rw [ef]
        intro v B' H' R' e' hd
        obtain ⟨a, vs, rfl, k1, k2⟩ := hd
        rw [← hK] at k1
        exact ⟨a, vs, rfl, Evl.ex_l R'.bh k1, p _ B' H' R' e' (Wk.enumL hK k1 k2)⟩
      | _ => exact p.elim
end TW

set_option Elab.async false
set_option linter.all false
set_option autoImplicit false
set_option maxRecDepth 100000
set_option maxHeartbeats 1000000
namespace TW
open PySem PySem.Spec PyProof.Rows L2
variable {g : G} {T : Tx} {B B' H H' : Hp} {σ : L2.St} {s : S} {W : WX} {α β γ δ : Type} {P : PP α β}
variable {X : Cx} {e a b c tg iter elt : Expr} {es : List Expr} {pos : Pos}

/-! ## an instance made -/
theorem jr_make {c : Nat} {f : Fd} {dds : List D} {dvs : List V} {fa : M (List Opd)} (hpe : ∀ ta, PA X es ta → PE X e (tMakeS (g.cn c) (spD g f) dvs (WE W) ta)) (hdd : ∀ B, Dens g B dds dvs) (ha : JA X g T W es fa) : JR X g T W e (mmake c f dds fa) :=
  fun τ t => PE.imp (hpe _ (ha τ t)) fun σ H Q ⟨B, s, R, p⟩ => (PostM.bind (P := PAs g) R p).mono fun vs H1 ⟨os, B1, s1, R1, e1, q, p1⟩ => by
    by_cases hd : dupFree s1 os = true
    · rw [if_pos hd] at p1
      cases ea : argsOf s1 os with
      | none => rw [ea] at p1; exact p1.elim
      | some as =>
        rw [ea] at p1
        dsimp only at p1
        intro x dx nx ndx ne
        have eH : Ex H1 (upd (upd H1 dx (.own x)) x (.ins (g.cn c) dx [])) := (Evl.Ex.new ndx).trans (Evl.Ex.new (by rw [upd_ne ne.symm]; exact nx))
        refine ⟨B1, .o c [] :: (as ++ dds.map .v), R1.bh.trans eH, ?_, ?_⟩
        · exact (Rel.made (B' := B1) (H' := H1) (post := []) (cc := c) R1 q hd ea (hdd B1) nx ndx ne).1
        cases ef : f (.o c [] :: (as ++ dds.map .v)) with
        | bad => rw [ef] at p1; exact p1.elim
        | ex cc ds post =>
          rw [ef] at p1
          intro y B' H' A hx
          exact p1 y B' H' ((Rel.made (cc := c) R1 q hd ea (hdd B1) nx ndx ne).2 A).1 A.eB hx
        | ret r post =>
          rw [ef] at p1
          intro v B' H' A hr
          cases r with
          | v d =>
            cases d with
            | non =>
              refine ⟨hr, ?_⟩
              cases post with
              | nil => exact p1.elim
              | cons y post =>
                cases y with
                | o c' ds =>
                  dsimp only at p1
                  by_cases ec : c' = c
                  · rw [if_pos ec] at p1
                    subst ec
                    have k := (Rel.made (cc := c') R1 q hd ea (hdd B1) nx ndx ne).2 A
                    exact p1 (.ref x) B' H' k.1 A.eB (k.2 ds rfl)
                  · rw [if_neg ec] at p1; exact p1.elim
                | _ => exact p1.elim
            | _ => exact p1.elim
          | _ => exact p1.elim
    · rw [if_neg hd] at p1; exact p1.elim
/-! ## own lists: append, pop, x[i] = v -/
def mappend (k : Nat) (fv : M D) : MS := fun s => match s[k]? with
  | some (.l _) => ms fv (fun d s1 => match s1[k]? with
    | some (.l ds) => if ds.length < 16000000 then .nx (s1.set k (.l (ds ++ [d]))) else .bad
    | _ => .bad) s
  | _ => .bad
theorem szlt {n : Nat} (h : n < 16000000) : n < sizeLine := Nat.lt_of_lt_of_le h (by decide)
theorem js_append {k : Nat} {o : Expr} {apos cpos pos' : Pos} {fv : M D} (hK : X.K = g.K) (ho : PE X o (tVar k)) (hv : JE X g T W e fv)
    (hbase : attributeBase o "append" X.env (eval o X.env) = eval o X.env := by rfl)
    (hfew : ((backTo cpos (starEach [e] X.env)).all (fun x => !x.1) && (backToKw cpos (keywordEach [] X.env)).all (fun x => x.1.isSome)
      && decide ([e].length + ([] : List Keyword).length + (if ([] : List Keyword).isEmpty then 0 else 1) < 30)) = true := by rfl)
    (hline : (apos.endLine == cpos.line) = true := by rfl) (hs : starEach [e] X.env = (false, eval e X.env) :: starEach [] X.env := by rfl)
    (hsw : swapsWith (.Call (.Attribute o "append" apos) [e] [] cpos) none pos'.line X.env = pure false := by rfl) : JS X g T W (.Expr (.Call (.Attribute o "append" apos) [e] [] cpos) pos') (mappend k fv) := by
  refine PS.imp (ps_expr (pe_bm PySem.F.plainAttrs_list PySem.F.slot_list_append PySem.F.type_list_append mt_append ho (pa_cons (hv T.τ T.t) pa_nil hs) hbase hfew hline hs rfl) hsw) fun D σ H ⟨B, s, R, p⟩ => ?_
  unfold mappend at p
  cases hk : s[k]? with
  | none => rw [hk] at p; exact p.elim
  | some y =>
    rw [hk] at p
    cases y with
    | l ds0 =>
      obtain ⟨l, us0, ha, _, hl, _⟩ := R.getl hk
      refine ⟨.ref l, ha, .inl ⟨rfl, us0, .inl (.inl hl)⟩, (PostS.bind (P := PD g) R p).mono fun v H1 ⟨d, B1, s1, R1, e1, q, p1⟩ => ?_⟩
      cases hk1 : s1[k]? with
      | none => rw [hk1] at p1; exact p1.elim
      | some y1 =>
        rw [hk1] at p1
        cases y1 with
        | l ds =>
          dsimp only at p1
          obtain ⟨l', us, ha', _, hl', hd⟩ := R1.getl hk1
          rw [ha] at ha'; cases ha'
          by_cases hz : ds.length < 16000000
          · rw [if_pos hz] at p1
            refine ⟨l, us, v, rfl, rfl, hl', szlt (by rw [hd.length]; exact hz), ?_⟩
            exact p1 σ B1 _ (R1.wrl hk1 ha (hd.append (Dens.cons q Dens.nil))) (Evl.Ex.refl _)
          · rw [if_neg hz] at p1; exact p1.elim
        | _ => exact p1.elim
    | _ => exact p.elim
def mpop (k : Nat) : M D := fun s => match s[k]? with
  | some (.l ds) => (match ds[ds.length - 1]? with
    | some d => .ok d (s.set k (.l ds.dropLast))
    | none => .bad)
  | _ => .bad
theorem Dens.dropLast {ds : List D} {vs : List V} (h : Dens g B ds vs) : Dens g B ds.dropLast vs.dropLast := by
  rw [List.dropLast_eq_take, List.dropLast_eq_take, h.length]; exact h.take _
theorem je_pop {k : Nat} {o : Expr} {apos cpos : Pos} (ho : PE X o (tVar k))
    (hbase : attributeBase o "pop" X.env (eval o X.env) = eval o X.env := by rfl) (hline : (apos.endLine == cpos.line) = true := by rfl) : JE X g T W (.Call (.Attribute o "pop" apos) [] [] cpos) (mpop k) :=
  fun τ t => PE.imp (pe_bm0 PySem.F.plainAttrs_list PySem.F.slot_list_pop PySem.F.type_list_pop mt_pop ho hbase hline) fun σ H Q ⟨B, s, R, p⟩ => by
    unfold mpop at p
    cases hk : s[k]? with
    | none => rw [hk] at p; exact p.elim
    | some y =>
      rw [hk] at p
      cases y with
      | l ds =>
        dsimp only at p
        obtain ⟨l, us, ha, _, hl, hd⟩ := R.getl hk
        cases hy : ds[ds.length - 1]? with
        | none => rw [hy] at p; exact p.elim
        | some d =>
          rw [hy] at p
          obtain ⟨v, hv, q⟩ := hd.get hy
          refine ⟨.ref l, ha, .inl ⟨rfl, us, .inl (.inl hl)⟩, l, us, v, rfl, rfl, hl, by rw [hd.length]; exact hv, ?_⟩
          exact p v B _ (R.wrl hk ha hd.dropLast) (Evl.Ex.refl _) q
      | _ => exact p.elim
def mseti (k : Nat) (fv fi : M D) : MS := ms fv fun d s1 => match s1[k]? with
  | some (.l _) => ms fi (fun i s => match i with
    | .int i => (match s[k]? with
      | some (.l ds) => (match ixN ds.length i with
        | some j => .nx (s.set k (.l (ds.set j d)))
        | none => .bad)
      | _ => .bad)
    | _ => .bad) s1
  | _ => .bad
theorem js_seti {k : Nat} {i : Expr} {st : Stmt} {fv fi : M D} (hps : ∀ te ti, PE X e te → PE X i ti → PS X st (tAsg te (gSub (tVar k) ti rSetL))) (hi : JE X g T W i fi) (hv : JE X g T W e fv) : JS X g T W st (mseti k fv fi) :=
  PS.imp (hps _ _ (hv T.τ T.t) (hi T.τ T.t)) fun D σ H ⟨B, s, R, p⟩ => (PostS.bind (P := PD g) R p).mono fun v H1 ⟨d, B1, s1, R1, e1, q1, p1⟩ => by
    cases hk0 : s1[k]? with
    | none => rw [hk0] at p1; exact p1.elim
    | some y0 =>
      rw [hk0] at p1
      cases y0 with
      | l ds0 =>
        dsimp only at p1
        obtain ⟨l, us0, hl, _⟩ := R1.getl hk0
        refine ⟨.ref l, hl, (PostS.bind (P := PD g) R1 p1).mono fun iv H2 ⟨di, B2, s2, R2, e2, q2, p2⟩ => ?_⟩
        cases di with
        | int i =>
          dsimp only at p2
          cases hk : s2[k]? with
          | none => rw [hk] at p2; exact p2.elim
          | some y =>
            rw [hk] at p2
            cases y with
            | l ds =>
              dsimp only at p2
              cases hj : ixN ds.length i with
              | none => rw [hj] at p2; exact p2.elim
              | some j =>
                rw [hj] at p2
                obtain ⟨l', us, ha', _, hl', hd⟩ := R2.getl hk
                rw [hl] at ha'; cases ha'
                refine ⟨l, us, i, j, rfl, q2, hl', by rw [hd.length]; exact hj, ?_⟩
                exact p2 σ B2 _ (R2.wrl hk hl (Dens.set (q1.mono e2) j hd)) (Evl.Ex.refl _)
            | _ => exact p2.elim
        | _ => exact p2.elim
      | _ => exact p1.elim
/-! ## a list that is changed no more -/
def mfrz (k : Nat) : M Opd := fun s => match s[k]? with
  | some (.l ds) => .ok (.d (.lst ds)) (s.set k (.v (.lst ds)))
  | _ => .bad
theorem jo_frz {k : Nat} (h : PE X e (tVar k)) (hio : T.io k = none) : JO X g T W e (mfrz k) := fun τ t => PE.imp h fun σ H Q ⟨B, s, R, p⟩ => by
  unfold mfrz at p
  cases hk : s[k]? with
  | none => rw [hk] at p; exact p.elim
  | some y =>
    rw [hk] at p
    cases y with
    | l ds =>
      obtain ⟨B', R', e'⟩ := R.frz hk hio
      have hk' : (s.set k (.v (.lst ds)))[k]? = some (.v (.lst ds)) := by
        have := (List.getElem?_eq_some_iff.mp hk).1
        simp [this]
      obtain ⟨v, hv, q⟩ := R'.getv hk'
      exact ⟨v, hv, p v B' H R' e' q⟩
    | _ => exact p.elim
/-! ## a, b = x, y -/
def stPar2 (i j : Nat) : List D → MS
  | [d1, d2] => fun s => if i < s.length ∧ j < s.length then .nx ((s.set i (.v d1)).set j (.v d2)) else .bad
  | _ => fun _ => .bad
theorem ms_ok {α : Type} {fa : M α} {k : α → MS} {a : α} {s s' : S} (h : fa s = .ok a s') : ms fa k s = k a s' := by unfold ms; rw [h]
theorem ms_bad {α : Type} {fa : M α} {k : α → MS} {s : S} (h : fa s = .bad) : ms fa k s = .bad := by unfold ms; rw [h]
def mpar2 (i j : Nat) (fa : M (List Opd)) : MS := ms fa fun os => ms (strongs os) (stPar2 i j)
theorem js_par2 {i j : Nat} {st : Stmt} {fa : M (List Opd)} (hps : ∀ ta, PA X es ta → PS X st (tPar i j ta)) (hi : T.io i = none) (hj : T.io j = none) (ha : JA X g T W es fa) : JS X g T W st (mpar2 i j fa) :=
  PS.imp (hps _ (ha T.τ T.t)) fun D σ H ⟨B, s, R, p⟩ => (PostS.bind (P := PAs g) R p).mono fun vs H1 ⟨os, B1, s1, R1, e1, q1, p1⟩ => by
    rcases strongs_ex (os := os) (s := s1) with ⟨ds, w⟩ | w
    · rw [ms_ok w] at p1
      obtain ⟨_, hd⟩ := strongs_ok R1 q1 w
      match ds, hd, p1 with
      | [d1, d2], hd, p1 =>
        obtain ⟨v1, r1, rfl, h1, v2, r2, rfl, h2, h3⟩ := hd
        cases h3
        replace p1 : PostS g T W B1 (if i < s1.length ∧ j < s1.length then .nx ((s1.set i (.v d1)).set j (.v d2)) else .bad) D := p1
        by_cases hl : i < s1.length ∧ j < s1.length
        · rw [if_pos hl] at p1
          refine ⟨v1, v2, rfl, p1 _ B1 H1 ?_ (Evl.Ex.refl _)⟩
          exact (R1.storev hl.1 hi h1).storev (by rw [List.length_set]; exact hl.2) hj h2
        · rw [if_neg hl] at p1; exact p1.elim
      | [], hd, p1 => exact p1.elim
      | [_], hd, p1 => exact p1.elim
      | _ :: _ :: _ :: _, hd, p1 => exact p1.elim
    · rw [ms_bad w] at p1; exact p1.elim
end TW

set_option Elab.async false
set_option linter.all false
set_option autoImplicit false
set_option maxRecDepth 100000
set_option maxHeartbeats 1000000
namespace TW
open PySem PySem.Spec PyProof.Rows L2
variable {g : G} {T : Tx} {B B' H H' : Hp} {σ : L2.St} {s : S} {W : WX} {α β γ δ : Type} {P : PP α β}
variable {X : Cx} {e a b c tg iter elt : Expr} {es : List Expr} {pos : Pos}

/-! ## isinstance -/
/-- what of the text a class of instances must have -/
structure InsC (K : PySem.W.Frag) (C : Addr) : Prop where
  cl : Cls K C
  ha : PySem.W.findIn K (.ref C) "__class__" = some (some (.builtin "object.__class__"))
  hn : PySem.W.specialIn K (.builtin "object.__class__") "__get__" = some (some (.builtin "getset_descriptor.__get__"))
  htk : PySem.W.takesIn K (.builtin "object.__class__") = some true
  hm : PySem.W.mroIn K C (.type "object") = some true
def tyD (cn : Nat → Addr) : D → Option Value
  | .non => some (.type "NoneType")
  | .bl _ => some (.type "bool")
  | .int _ => some (.type "int")
  | .str _ => some (.type "str")
  | .tup _ => some (.type "tuple")
  | .lst _ => some (.type "list")
  | .arg _ => some (.type "list")
  | .obj c _ => if c < 100 then some (.ref (cn c)) else none
  | .exc _ _ _ _ => none
  | .dct => some (.type "dict")
theorem tyx_seqT {K : PySem.W.Frag} {a : Addr} {xs : List V} (h : SqT K H a xs) : TyX K H (.ref a) (.type "tuple") := by
  rcases h with h | ⟨o, its, n, hk, hc, _⟩
  · rcases h with h | ⟨o, h⟩
    · exact .base (.tup h)
    · exact .fTuple h
  · exact .kTuple hk hc
theorem tyx_seqL {K : PySem.W.Frag} {a : Addr} {xs : List V} (h : SqL K H a xs) : TyX K H (.ref a) (.type "list") := by
  rcases h with h | ⟨o, its, n, hk, hc, _⟩
  · rcases h with h | ⟨o, h⟩
    · exact .base (.lst h)
    · exact .base (.frz h)
  · exact .kList hk hc
theorem tyx_den (hI : ∀ c, c < 100 → InsC g.K (g.cn c)) {d : D} {v : V} {t : Value} (eB : Ex B H) (h : DenW g B H d v) (e : tyD g.cn d = some t) : TyX g.K H v t := by
  cases d with
  | non => cases e; cases h; exact .base .non
  | bl b => cases e; cases h; exact .base (.bl b)
  | int i => cases e; cases h; exact .base (.int i)
  | str x => cases e; cases h; exact .base (.str x)
  | tup ds => cases e; obtain ⟨a, vs, rfl, k1, _⟩ := h; exact tyx_seqT (Evl.ex_t eB k1)
  | lst ds => cases e; obtain ⟨a, vs, rfl, k1, _⟩ := h; exact .base (.lst k1)
  | arg ds => cases e; obtain ⟨a, vs, rfl, k1, _⟩ := h; exact tyx_seqL (Evl.ex_l eB k1)
  | obj c ds =>
    by_cases hc : c < 100
    · rw [show tyD g.cn (.obj c ds) = some (.ref (g.cn c)) from if_pos hc] at e
      cases e; obtain ⟨a, dx, vs, rfl, k1, _⟩ := h; exact .base (.ins k1 (hI c hc).cl (hI c hc).ha (hI c hc).hn (hI c hc).htk (hI c hc).hm)
    · rw [show tyD g.cn (.obj c ds) = none from if_neg hc] at e; cases e
  | exc _ _ _ _ => cases e
  | dct => cases e; obtain ⟨a, kvs, rfl, k1⟩ := h; exact .base (.dK (eB _ _ k1))
/-- the types of data, by numbers -/
inductive Ty where
  | non | bl | int | str | tup | lst | obj (c : Nat) | dct
def dTy : D → Option Ty
  | .non => some .non
  | .bl _ => some .bl
  | .int _ => some .int
  | .str _ => some .str
  | .tup _ => some .tup
  | .lst _ => some .lst
  | .arg _ => some .lst
  | .obj c _ => if c < 100 then some (.obj c) else none
  | .exc _ _ _ _ => none
  | .dct => some .dct
def Ty.val (cn : Nat → Addr) : Ty → Value
  | .non => .type "NoneType"
  | .bl => .type "bool"
  | .int => .type "int"
  | .str => .type "str"
  | .tup => .type "tuple"
  | .lst => .type "list"
  | .obj c => .ref (cn c)
  | .dct => .type "dict"
theorem tyD_dTy {cn : Nat → Addr} {d : D} {t : Ty} (h : dTy d = some t) : tyD cn d = some (t.val cn) := by
  cases d with
  | obj c ds =>
    by_cases hc : c < 100
    · rw [show dTy (.obj c ds) = some (.obj c) from if_pos hc] at h; cases h
      exact if_pos hc
    · rw [show dTy (.obj c ds) = none from if_neg hc] at h; cases h
  | _ => cases h <;> rfl
/-- isinstance of a class: which types are below it -/
def Isi (g : G) (u : Value) (f : Ty → Option Bool) : Prop := ∀ t b, f t = some b → PySem.W.kitOne g.K (t.val g.cn) u = some b
def isiD (f : Ty → Option Bool) (d : D) : Option D := ((dTy d).bind f).map .bl
theorem tup2 {P1 : Hp} (h : P1 = P1) : True := trivial
theorem je_isi {f : Ty → Option Bool} {u : Value} {v : V} {fo : M Opd} {c : Expr} {p : Pos} (hK : X.K = g.K) (hI : ∀ c, c < 100 → InsC g.K (g.cn c)) (hf : Isi g u f) (hv : ClsV v u) (hg : Gl X "isinstance") (hm : X.mg "isinstance" = none) (hc : PE X c (tC v)) (ho : JO X g T W e fo)
    (hs : starEach (e :: [c]) X.env = (false, eval e X.env) :: starEach [c] X.env := by rfl) (hs2 : starEach [c] X.env = (false, eval c X.env) :: starEach [] X.env := by rfl) (hpl : (backTo pos (starEach [c] X.env)).any (·.1) = false := by rfl) :
    JE X g T W (.Call (.Name "isinstance" p) [e, c] [] pos) (mun (isiD f) fo) :=
  fun τ t => PE.imp (pe_callB call_isi hg hm rfl (pa_cons (ho τ t) (pa_cons hc pa_nil hs2) hs) (by decide) (by decide) hs hpl) fun σ H Q ⟨B, s, R, p⟩ => (PostM.bind (P := PO' g) R p).mono fun x H1 ⟨o, B1, s1, R1, e1, q1, p1⟩ => by
    rcases res_cases (o := o) (s := s1) with ⟨d, w⟩ | w
    · rw [mbind_ok w] at p1
      unfold isiD at p1
      cases et : dTy d with
      | none => rw [et] at p1; exact p1.elim
      | some t =>
        rw [et] at p1
        cases eb : f t with
        | none => have p1' := p1; rw [show (some t).bind f = none from eb] at p1'; exact p1'.elim
        | some b =>
          rw [show (some t).bind f = some b from eb] at p1
          refine ⟨x, v, t.val g.cn, u, b, rfl, hv, ?_, ?_, p1 (.bl b) B1 H1 R1 (Evl.Ex.refl _) rfl⟩
          · rw [hK]; exact tyx_den hI R1.bh (res_ok R1 q1 w).2 (tyD_dTy et)
          · rw [hK]; exact hf t b eb
    · exfalso
      have z : mbind (res o) (fun x => mopt (isiD f x)) s1 = .bad := by unfold mbind; rw [w]
      rw [z] at p1; exact p1
/-- isinstance(x, (c1, c2)) -/
def or2 (f1 f2 : Ty → Option Bool) : Ty → Option Bool := fun t => match f1 t with
  | some true => some true
  | some false => f2 t
  | none => none
theorem je_isi2 {f1 f2 : Ty → Option Bool} {u1 u2 : Value} {v1 v2 : V} {fo : M Opd} {c1 c2 : Expr} {kk : Nat} {p tpos : Pos} (hK : X.K = g.K) (hI : ∀ c, c < 100 → InsC g.K (g.cn c)) (hf1 : Isi g u1 f1) (hf2 : Isi g u2 f2) (hv1 : ClsV v1 u1) (hv2 : ClsV v2 u2) (hg : Gl X "isinstance") (hm : X.mg "isinstance" = none)
    (hc1 : PE X c1 (tC v1)) (hc2 : PE X c2 (tC v2)) (ho : JO X g T W e fo)
    (hs : starEach (e :: [.Tuple [c1, c2] kk tpos]) X.env = (false, eval e X.env) :: starEach [.Tuple [c1, c2] kk tpos] X.env := by rfl) (hs2 : starEach [.Tuple [c1, c2] kk tpos] X.env = (false, eval (.Tuple [c1, c2] kk tpos) X.env) :: starEach [] X.env := by rfl)
    (hs3 : starEach [c1, c2] X.env = (false, eval c1 X.env) :: starEach [c2] X.env := by rfl) (hs4 : starEach [c2] X.env = (false, eval c2 X.env) :: starEach [] X.env := by rfl) (hpl : (backTo pos (starEach [.Tuple [c1, c2] kk tpos] X.env)).any (·.1) = false := by rfl) :
    JE X g T W (.Call (.Name "isinstance" p) [e, .Tuple [c1, c2] kk tpos] [] pos) (mun (isiD (or2 f1 f2)) fo) :=
  fun τ t => PE.imp (pe_callB call_isiT hg hm rfl (pa_cons (ho τ t) (pa_cons (pe_tup (pa_cons hc1 (pa_cons hc2 pa_nil hs4) hs3)) pa_nil hs2) hs) (by decide) (by decide) hs hpl) fun σ H Q ⟨B, s, R, p⟩ => (PostM.bind (P := PO' g) R p).mono fun x H1 ⟨o, B1, s1, R1, e1, q1, p1⟩ => by
    rcases res_cases (o := o) (s := s1) with ⟨d, w⟩ | w
    · rw [mbind_ok w] at p1
      unfold isiD at p1
      cases et : dTy d with
      | none => rw [et] at p1; exact p1.elim
      | some t =>
        rw [et] at p1
        cases eb : or2 f1 f2 t with
        | none => have p1' := p1; rw [show (some t).bind (or2 f1 f2) = none from eb] at p1'; exact p1'.elim
        | some b =>
          rw [show (some t).bind (or2 f1 f2) = some b from eb] at p1
          refine ⟨by show 2 ≤ sizeLine; decide, fun q hq => ?_⟩
          have R2 := R1.new (o := .tup [v1, v2]) hq
          refine ⟨x, q, [v1, v2], t.val g.cn, [u1, u2], b, rfl, upd_same, .cons hv1 (.cons hv2 .nil), ?_, ?_, p1 (.bl b) _ _ R2 (Evl.Ex.new (Evl.fresh_back R1.bh hq)) rfl⟩
          · rw [hK]
            have hd := (res_ok R1 q1 w).2
            have e2 : Ex H1 (upd H1 q (.tup [v1, v2])) := Evl.Ex.new hq
            refine tyx_den (B := upd B1 q (.tup [v1, v2])) hI R2.bh ?_ (tyD_dTy et)
            cases d with
            | lst ds => obtain ⟨a, vs, rfl, k1, k2⟩ := hd; exact ⟨a, vs, rfl, e2 _ _ k1, k2.mono (Evl.Ex.new (Evl.fresh_back R1.bh hq))⟩
            | obj c ds => obtain ⟨a, dx, vs, rfl, k1, k2⟩ := hd; exact ⟨a, dx, vs, rfl, e2 _ _ k1, k2.mono (Evl.Ex.new (Evl.fresh_back R1.bh hq))⟩
            | _ => exact Den.mono (Evl.Ex.new (Evl.fresh_back R1.bh hq)) hd
          · rw [hK]
            unfold or2 at eb
            cases e1 : f1 t with
            | none => rw [e1] at eb; cases eb
            | some b1 =>
              rw [e1] at eb
              refine kitAny_cons (hf1 t b1 e1) (fun hb => ?_) (fun hb => ?_)
              · subst hb
                refine kitAny_cons (hf2 t b eb) (fun hb => ?_) (fun hb => hb)
                rw [hb]; exact kitAny_nil
              · subst hb; exact (Option.some.inj eb).symm
    · exfalso
      have z : mbind (res o) (fun x => mopt (isiD (or2 f1 f2) x)) s1 = .bad := by unfold mbind; rw [w]
      rw [z] at p1; exact p1
theorem pe_bty {n : Str} {T : String} {p : Pos} (hg : Gl X n) (hm : X.mg n = none) (hv : bootBuiltins n = some (.type T)) (hn : n ≠ "__name__" := by decide) (hdb : (n == ("__debug__" : Str)) = false := by decide) : PE X (.Name n p) (tC (.ty T)) :=
  ⟨fun pins s σ H Q I h => ld_blt I hg hm hv ⟨V.ty T, H, I, rfl, h⟩ hn hdb⟩
/-- types below built-in ones -/
def isiInt : Ty → Option Bool
  | .int => some true
  | .bl => some true
  | .obj _ => none
  | _ => some false
def isiBl : Ty → Option Bool
  | .bl => some true
  | .obj _ => none
  | _ => some false
def isiLst : Ty → Option Bool
  | .lst => some true
  | .obj _ => none
  | _ => some false
def isiTup : Ty → Option Bool
  | .tup => some true
  | .obj _ => none
  | _ => some false
def isiStr : Ty → Option Bool
  | .str => some true
  | .obj _ => none
  | _ => some false
theorem isi_int : Isi g (.type "int") isiInt := fun t b h => by
  cases t <;> cases h <;> exact kit_ty (by decide +kernel)
theorem isi_bl : Isi g (.type "bool") isiBl := fun t b h => by
  cases t <;> cases h <;> exact kit_ty (by decide +kernel)
theorem isi_lst : Isi g (.type "list") isiLst := fun t b h => by
  cases t <;> cases h <;> exact kit_ty (by decide +kernel)
theorem isi_tup : Isi g (.type "tuple") isiTup := fun t b h => by
  cases t <;> cases h <;> exact kit_ty (by decide +kernel)
theorem isi_str : Isi g (.type "str") isiStr := fun t b h => by
  cases t <;> cases h <;> exact kit_ty (by decide +kernel)
/-- an own class without classes below it, by its number -/
def isiObj (c : Nat) : Ty → Option Bool
  | .obj c' => if c' = c then some true else none
  | _ => some false
theorem isi_obj {c : Nat} (h : ∀ n ∈ ["NoneType", "bool", "int", "str", "tuple", "list", "dict"], PySem.W.kitOne g.K (.type n) (.ref (g.cn c)) = some false) : Isi g (.ref (g.cn c)) (isiObj c) := fun t b e => by
  cases t with
  | obj c' =>
    by_cases z : c' = c
    · subst z
      have : isiObj c' (.obj c') = some true := if_pos rfl
      rw [this] at e; cases e
      unfold PySem.W.kitOne
      exact if_pos (beq_iff_eq.mpr rfl)
    · have : isiObj c (.obj c') = none := if_neg z
      rw [this] at e; cases e
  | non => cases e; exact h "NoneType" (by simp)
  | bl => cases e; exact h "bool" (by simp)
  | int => cases e; exact h "int" (by simp)
  | str => cases e; exact h "str" (by simp)
  | tup => cases e; exact h "tuple" (by simp)
  | lst => cases e; exact h "list" (by simp)
  | dct => cases e; exact h "dict" (by simp)
end TW

set_option Elab.async false
set_option linter.all false
set_option autoImplicit false
set_option maxRecDepth 100000
set_option maxHeartbeats 1000000
namespace TW
open PySem PySem.Spec PyProof.Rows L2
variable {g : G} {T : Tx} {B B' H H' : Hp} {σ : L2.St} {s : S} {W : WX} {α β γ δ : Type} {P : PP α β}
variable {X : Cx} {e a b c tg iter elt : Expr} {es : List Expr} {pos : Pos}

/-! ## what is never reached -/
theorem js_never {st : Stmt} : JS X g T W st (fun _ => .bad) := ⟨fun pins s σ H D I ⟨B, s', R, p⟩ => p.elim⟩
theorem jss_never {st : List Stmt} : JSs X g T W st (fun _ => .bad) := ⟨fun pins s σ H D I ⟨B, s', R, p⟩ => p.elim⟩
theorem je_never : JE X g T W e (fun _ => .bad) := fun τ t => ⟨fun pins s σ H Q I ⟨B, s', R, p⟩ => p.elim⟩

/-! ## errors of own classes whose __init__ stores its parameters -/
/-- __init__ of an error: one field -/
def spI1 (C : Addr) (f : Str) : Sp := fun vs H Q _ => ∃ (a : Addr) (u : V), vs = [.ref a, u] ∧ H a = some (exo a C none) ∧ ∀ dx, H dx = none → dx ≠ a → Q .non (upd (upd H dx (exd dx [(f, u)])) a (exo a C (some dx)))
theorem upd_del {H : Hp} {a d : Addr} {x y z : HO} (ha : H a = none) (h : d ≠ a) : upd (del (upd (upd H d x) a y) a) d z = upd H d z := by
  funext b
  by_cases hb : b = d
  · subst hb; rw [upd_same, upd_same]
  · rw [upd_ne hb, upd_ne hb]
    by_cases hc : b = a
    · subst hc; rw [del_same, ha]
    · rw [del_ne hc, upd_ne hc, upd_ne hb]
theorem upd_upd {H : Hp} {a : Addr} {x y : HO} : upd (upd H a x) a y = upd H a y := by
  funext b
  by_cases hb : b = a
  · subst hb; rw [upd_same, upd_same]
  · rw [upd_ne hb, upd_ne hb, upd_ne hb]
def mraise (c n : Nat) (fa : M (List Opd)) : MS := ms fa fun os => ms (strongs os) fun ds s => if ds.length = n then .ex c ds s else .bad
theorem js_raise1 {x f : Str} {ci fI : Nat → Addr} {C fi : Addr} {k cc : Nat} {fd : FuncData} {ps : List Str} {p p2 : Pos} {fa : M (List Opd)} (hc : X.calm = true) (tk : Takes X W) (T' : OexC X.K C) (hC : C = g.cn cc) (hn : g.names cc = [f]) (iC : PySem.W.findIn X.K (.ref C) "__init__" = some (some (.ref fi)))
    (tI : PySem.W.typeIn X.K (.ref fi) = some (.type "function")) (F1 : FnOk X.prog X.w X.K X.mg X.base CX0 k fi fd ps (spI1 C f)) (hb : Binds X.K fd ps []) (hr : Room (k + 1) X.A) (hg : Gl X x) (hm : X.mg x = some (.ref C)) (ha : JA X g T W (e :: es) fa)
    (hdb : (x == ("__debug__" : Str)) = false := by decide) (he : starEach (e :: es) X.env = (false, eval e X.env) :: starEach es X.env := by rfl) (hpl : (backTo pos (starEach es X.env)).any (·.1) = false := by rfl) :
    JS X g T W (.Raise (some (.Call (.Name x p) (e :: es) [] pos)) none p2) (mraise cc 1 fa) :=
  PS.imp (ps_raise hc tk (pmk_oex T' iC tI F1 hr hb .nil pass0 hg hm (ha T.τ T.t) hdb he hpl)) fun D σ H ⟨B, s, R, p⟩ => (PostS.bind (P := PAs g) R p).mono fun vs H1 ⟨os, B1, s1, R1, e1, q1, p1⟩ => by
    subst hC
    rcases strongs_ex (os := os) (s := s1) with ⟨ds, w⟩ | w
    · rw [ms_ok w] at p1
      obtain ⟨_, hd⟩ := strongs_ok R1 q1 w
      by_cases hl : ds.length = 1
      · rw [if_pos hl] at p1
        match ds, hd, hl, p1 with
        | [d], ⟨u, r, hr1, h1, h2⟩, _, p1 =>
          subst hr1
          cases h2
          refine ⟨by show 1 ≤ 1000; decide, fun a na => ⟨a, u, rfl, upd_same, fun dx ndx ne => ⟨rfl, dx, [(f, u)], upd_same, ?_, ?_, ?_⟩⟩⟩
          · rw [upd_ne ne, upd_same]
          · rw [upd_ne ne] at ndx; exact ndx
          · rw [upd_ne ne] at ndx
            have eh : upd (del (upd (upd (upd H1 a (exo a (g.cn cc) none)) dx (exd dx [(f, u)])) a (exo a (g.cn cc) (some dx))) a) dx (.xd [(f, u)]) = upd H1 dx (.xd [(f, u)]) := by
              funext b
              by_cases hb : b = dx
              · subst hb; rw [upd_same, upd_same]
              · rw [upd_ne hb, upd_ne hb]
                by_cases hc : b = a
                · subst hc; rw [del_same, na]
                · rw [del_ne hc, upd_ne hc, upd_ne hb, upd_ne hc]
            rw [eh]
            have nb : B1 dx = none := Evl.fresh_back R1.bh ndx
            refine p1 (some dx) σ _ _ (R1.new ndx) (Evl.Ex.new nb) (.inr ⟨dx, [(f, u)], [u], rfl, upd_same, Dens.cons (h1.mono (Evl.Ex.new nb)) Dens.nil, fun j f' v hf hv => ?_⟩)
            rw [hn] at hf
            match j, hf, hv with
            | 0, hf, hv => cases hf; cases hv; simp [List.lookup]
            | j + 1, hf, hv => simp at hf
      · rw [if_neg hl] at p1; exact p1.elim
    · rw [ms_bad w] at p1; exact p1.elim
/-! ## try -/
theorem PSs.ex {ι : Type} {st : List Stmt} {t : ι → TS} (h : ∀ i, PSs X st (t i)) : PSs X st (fun D σ H => ∃ i, t i D σ H) := ⟨fun pins s σ H D I ⟨i, q⟩ => (h i).run pins s σ H D I q⟩
def clrS (k : Nat) (s : S) : Option S := match s[k]? with
  | some x => if x.own = true then none else some (s.set k .no)
  | none => none
def clr (k : Nat) : OutS → OutS
  | .nx s => (match clrS k s with | some s' => .nx s' | none => .bad)
  | .bk s => (match clrS k s with | some s' => .bk s' | none => .bad)
  | .ct s => (match clrS k s with | some s' => .ct s' | none => .bad)
  | o => o
def mtry (catches : Nat → Option Bool) (k : Nat) (fb : MS) (fs : Addr → Option Addr → Nat → List D → MS) : MS := fun s => match fb s with
  | .ex c ds s1 => (match catches c with
    | some true => if k < s1.length then clr k (fs 0 none c ds (s1.set k (.v (.exc 0 none c ds)))) else .bad
    | some false => .ex c ds s1
    | none => .bad)
  | o => o
theorem Rel.clear {k : Nat} {s' : S} (R : Rel g T B H σ s) (h : clrS k s = some s') : Rel g T B H (σ.set k none) s' := by
  unfold clrS at h
  cases hk : s[k]? with
  | none => rw [hk] at h; cases h
  | some x =>
    rw [hk] at h
    dsimp only at h
    by_cases ho : x.own = true
    · rw [if_pos ho] at h; cases h
    · rw [if_neg ho] at h; cases h
      have w := R.wipe (vs := [k]) fun i y hi hy => by
        have : i = k := by simpa using hi
        subst this
        rw [hk] at hy; cases hy
        simpa using ho
      have e1 : L2.wipe σ [k] = σ.set k none := by
        apply List.ext_getElem?
        intro i
        rw [wipe_get, List.getElem?_set]
        by_cases hi : i = k
        · subst hi
          rw [if_pos (by simp), if_pos rfl]
          by_cases hl : i < σ.length
          · rw [if_pos hl, List.getElem?_eq_getElem hl]; rfl
          · rw [if_neg hl, List.getElem?_eq_none (by omega)]; rfl
        · rw [if_neg (by simpa using hi), if_neg (fun z => hi z.symm)]
      have e2 : wipeS s [k] = s.set k .no := by
        apply List.ext_getElem?
        intro i
        rw [wipeS_get, List.getElem?_set]
        by_cases hi : i = k
        · subst hi
          rw [if_pos (by simp), if_pos rfl]
          by_cases hl : i < s.length
          · rw [if_pos hl, List.getElem?_eq_getElem hl]; rfl
          · rw [if_neg hl, List.getElem?_eq_none (by omega)]; rfl
        · rw [if_neg (by simpa using hi), if_neg (fun z => hi z.symm)]
      rw [e1, e2] at w
      exact w
theorem post_clr {k : Nat} {o : OutS} {D : Ends} (h : PostS g T W B (clr k o) D) : PostS g T W B o { nx := fun σ' H' => D.nx (σ'.set k none) H', rt := D.rt, bk := fun σ' H' => D.bk (σ'.set k none) H', ct := fun σ' H' => D.ct (σ'.set k none) H' } := by
  cases o with
  | nx s' =>
    replace h : PostS g T W B (match clrS k s' with | some s' => OutS.nx s' | none => .bad) D := h
    cases e : clrS k s' with
    | none => rw [e] at h; exact h.elim
    | some s2 => rw [e] at h; exact fun σ' B' H' R' e' => h _ B' H' (R'.clear e) e'
  | bk s' =>
    replace h : PostS g T W B (match clrS k s' with | some s' => OutS.bk s' | none => .bad) D := h
    cases e : clrS k s' with
    | none => rw [e] at h; exact h.elim
    | some s2 => rw [e] at h; exact fun σ' B' H' R' e' => h _ B' H' (R'.clear e) e'
  | ct s' =>
    replace h : PostS g T W B (match clrS k s' with | some s' => OutS.ct s' | none => .bad) D := h
    cases e : clrS k s' with
    | none => rw [e] at h; exact h.elim
    | some s2 => rw [e] at h; exact fun σ' B' H' R' e' => h _ B' H' (R'.clear e) e'
  | rt r s' => exact h
  | ex c ds s' => exact h
  | bad => exact h
theorem js_tryAs {x n : Str} {cv : Value} {k : Nat} {body suite : List Stmt} {b₀ : Stmt} {np pos' : Pos} {catches : Nat → Option Bool} {fb : MS} {fs : Addr → Option Addr → Nat → List D → MS} (hs : X.stack = X.env :: X.outer) (hf : X.env.frame = some X.env.locals) (hN : X.N.Nodup) (hi : X.N[k]? = some n) (hln : X.env.kindOf n = some .local)
    (hc : Names X x cv) (tk : Takes X W) (hio : T.io k = none) (hcat : ∀ c b, catches c = some b → PySem.W.exmOne X.K (.ref (g.cn c)) cv = some b) (hsame : ∀ (a : Addr) (x : Option Addr) (c : Nat) (ds : List D) (s1 : S), clr k (fs a x c ds (s1.set k (.v (.exc a x c ds)))) = clr k (fs 0 none c ds (s1.set k (.v (.exc 0 none c ds)))))
    (hb : ∀ (W : WX) (pn : List (Addr × Obj)) (xe : Value → Shared → Prop), Takes (X.tr pn xe) W → PassesOwn (model X.prog X.w) X.A X.env xe → JSs (X.tr pn xe) g T W body fb)
    (hsu : ∀ (a : Addr) (oe : Obj) (c : Nat) (ds : List D) (d : Option Addr) (pn : List (Addr × Obj)), Zc (.ref (g.cn c)) d oe → (∃ vs, oe.data = .fields vs) → JSs (X.suite a ((a, oe) :: pn)) g T W (b₀ :: suite) (fs a d c ds)) :
    JS X g T W (.Try body [.ExceptHandler (some (.Name x np)) (some n) (b₀ :: suite) pos'] [] [] pos) (mtry catches k fb fs) := by
  refine PS.imp (ps_try_as (i := k) (tb := fun W => RdS g T W fb) (ts := fun a cls d => fun D σ H => ∃ q : {q : Nat × List TW.D // cls = .ref (g.cn q.1)}, RdS g T W (fs a d q.1.1 q.1.2) D σ H) (Wout := W) hs hf hN hi hln hc tk (fun W pn xe tk po => hb W pn xe tk po) (fun a oe cls d pn hz hfl => PSs.ex fun q => ?_)) fun D σ H ⟨B, s, R, p⟩ => ⟨B, s, R, ?_⟩
  · have hq := q.2
    exact hsu a oe q.1.1 q.1.2 d pn (hq ▸ hz) hfl
  · unfold mtry at p
    cases ef : fb s with
    | nx s' => rw [ef] at p; exact p
    | bk s' => rw [ef] at p; exact p
    | ct s' => rw [ef] at p; exact p
    | rt r s' => rw [ef] at p; exact p
    | bad => rw [ef] at p; exact p
    | ex c ds s1 =>
      rw [ef] at p
      intro x σ' B' H' R' e' hx
      cases ec : catches c with
      | none => have p' := p; dsimp only at p'; rw [ec] at p'; exact p'.elim
      | some b =>
        refine ⟨b, hcat c b ec, fun hb' a na => ?_, fun hb' => ?_⟩
        · subst hb'
          have p' := p; dsimp only at p'; rw [ec] at p'
          dsimp only at p'
          by_cases hk : k < s1.length
          · rw [if_pos hk] at p'
            rw [← hsame a x c ds s1] at p'
            refine ⟨⟨(c, ds), rfl⟩, B', _, R'.storev hk hio (show Den g B' (.exc a x c ds) (.ref a) from ⟨rfl, hx⟩), ?_⟩
            exact post_clr (PostS.base e' p')
          · rw [if_neg hk] at p'; exact p'.elim
        · subst hb'
          have p' := p; dsimp only at p'; rw [ec] at p'
          exact p' x σ' B' H' R' e' hx
/-- err.f in the suite -/
def mxf (k cc j : Nat) (a : Addr) (x : Option Addr) : M D := fun s => match s[k]? with
  | some (.v (.exc a' x' c' ds)) => if a' = a ∧ x' = x ∧ c' = cc then (match ds[j]? with | some d => .ok d s | none => .bad) else .bad
  | _ => .bad
theorem je_xf {k cc j : Nat} {a : Addr} {c : Nat} {oe : Obj} {d : Option Addr} {pn : List (Addr × Obj)} {f : Str} (hXf : XfC X.K (g.cn cc)) (hno : PySem.W.findIn X.K (.ref (g.cn cc)) f = some none) (hj : (g.names cc)[j]? = some f) (hz : Zc (.ref (g.cn c)) d oe) (hf : ∃ vs, oe.data = .fields vs)
    (hcc : c = cc) (he : PE (X.suite a ((a, oe) :: pn)) e (tVar k)) (hb : attributeBase e f X.env (eval e X.env) = eval e X.env := by rfl) :
    JE (X.suite a ((a, oe) :: pn)) g T W (.Attribute e f pos) (mxf k cc j a d) := fun τ t => by
  subst hcc
  refine PE.imp (pe_xf hXf hno hz hf he hb) fun σ H Q ⟨B, s, R, p⟩ => ?_
  unfold mxf at p
  cases hk : s[k]? with
  | none => rw [hk] at p; exact p.elim
  | some y =>
    rw [hk] at p
    cases y with
    | v dd =>
      cases dd with
      | exc a' x' c' ds =>
        dsimp only at p
        by_cases hq : a' = a ∧ x' = d ∧ c' = c
        · rw [if_pos hq] at p
          obtain ⟨rfl, rfl, rfl⟩ := hq
          obtain ⟨v, hv, q⟩ := R.getv hk
          obtain ⟨rfl, q⟩ := q
          cases hd : ds[j]? with
          | none => rw [hd] at p; exact p.elim
          | some d0 =>
            rw [hd] at p
            rcases q with q | ⟨dx, fs, vs, h1, h2, h3, h4⟩
            · subst q; cases hd
            · obtain ⟨w, hw, hdw⟩ := h3.get hd
              exact ⟨.ref a', hv, rfl, rfl, dx, fs, w, h1, R.bh _ _ h2, h4 j f w hj hw, p w B H R (Evl.Ex.refl _) hdw⟩
        · rw [if_neg hq] at p; exact p.elim
      | _ => exact p.elim
    | _ => exact p.elim
end TW

set_option Elab.async false
set_option linter.all false
set_option autoImplicit false
set_option maxRecDepth 100000
set_option maxHeartbeats 1000000
namespace TW
open PySem PySem.Spec PyProof.Rows L2
variable {g : G} {T : Tx} {B B' H H' : Hp} {σ : L2.St} {s : S} {W : WX} {α β γ δ : Type} {P : PP α β}
variable {X : Cx} {e a b c tg iter elt : Expr} {es : List Expr} {pos : Pos}

/-! ## what may be called -/
/-- the def named x keeps f -/
structure Cl (P : Program) (w : World) (g : G) (base : Heap) (k : Nat) (x : Str) (ps : List Str) (f : Fd) : Prop where
  ex : ∃ (a : Addr) (fd : FuncData), FnOk P w g.K g.mg base (L2.CX P w) k a fd ps (spD g f) ∧ g.mg x = some (.ref a) ∧ PySem.W.keepIn g.K (.ref a) = true ∧ Binds g.K fd ps [] ∧ ∀ (us : List Value), us.length = ps.length → ∀ s : Shared, BindsTo s fd ⟨[], ps.zip us⟩ (ps.zip us)
theorem jr_callC {k j : Nat} {x : Str} {ps : List Str} {f : Fd} {fa : M (List Opd)} {p : Pos} (c : Cl X.prog X.w g X.base k x ps f) (hr : Room j X.A) (hk : k ≤ j) (hK : X.K = g.K) (hmg : X.mg = g.mg) (hg : Gl X x) (tk : Takes X W) (ha : JA X g T W (e :: es) fa)
    (hdb : (x == ("__debug__" : Str)) = false := by decide) (he : starEach (e :: es) X.env = (false, eval e X.env) :: starEach es X.env := by rfl) (hpl : (backTo pos (starEach es X.env)).any (·.1) = false := by rfl) :
    JR X g T W (.Call (.Name x p) (e :: es) [] pos) (mcall f [] fa) := by
  obtain ⟨a, fd, F, hm, kp, b, _⟩ := c
  rw [← hK, ← hmg] at F
  rw [← hmg] at hm
  rw [← hK] at kp b
  exact jr_call (fun ta h => pe_callSD F (hr.mono hk) hg hm kp b .nil (fun σ => passAt tk σ) h hdb he hpl) (fun _ => rfl) ha
/-! ### by keywords, all of them, in the parameters' order -/
def JK (X : Cx) (g : G) (T : Tx) (W : WX) (kws : List Keyword) (f : M (List Opd)) : Prop := ∀ τ t, PK X kws (RdM g (T.tmp τ t) W (PAs g) f)
theorem PK.imp {kws : List Keyword} {t t' : TA} (h : PK X kws t) (hi : ∀ σ H Q, t' σ H Q → t σ H Q) : PK X kws t' := ⟨fun pos pins s σ H Q I q => h.run pos pins s σ H Q I (hi _ _ _ q)⟩
theorem jk_nil : JK X g T W [] (mret []) := fun τ t => PK.imp pk_nil fun σ H Q ⟨B, s, R, p⟩ => p [] B H R (Evl.Ex.refl _) .nil
theorem jk_cons {nm : Option Str} {kpos : Pos} {kws : List Keyword} {fa : M Opd} {fr : M (List Opd)} (ha : JO X g T W e fa) (hr : JK X g T W kws fr) : JK X g T W (⟨nm, e, kpos⟩ :: kws) (mcons fa fr) :=
  fun τ t => PK.imp (pk_cons (ha τ t) (hr τ t)) fun σ H Q ⟨B, s, R, p⟩ => (PostM.bind (P := PO' g) R p).mono fun x H1 ⟨o, B1, s1, R1, e1, q1, p1⟩ =>
    (PostM.bind (P := PAs g) R1 p1).mono fun xs H2 ⟨os, B2, s2, R2, e2, q2, p2⟩ => p2 (x :: xs) B2 H2 R2 (Evl.Ex.refl _) (.cons (q1.mono e2) q2)
theorem pe_callK0 {CX : CXT} {k : Nat} {f : Addr} {fd : FuncData} {ps : List Str} {sp : Sp} {E : L2.St → XK} {x : Str} {p : Pos} {kws : List Keyword} {t : TA} (F : FnOk X.prog X.w X.K X.mg X.base CX k f fd ps sp) (hr : Room k X.A) (hg : Gl X x) (hm : X.mg x = some (.ref f)) (hk : PySem.W.keepIn X.K (.ref f) = true)
    (hb : ∀ (us : List Value), us.length = ps.length → ∀ s : Shared, BindsTo s fd ⟨[], ps.zip us⟩ (ps.zip us)) (hx : ∀ σ, PassesAt CX X σ (E σ)) (hkw : PK X kws t) (hall : (backToKw pos (keywordEach kws X.env)).all (·.1.isSome) = true := by rfl) (hks : (backToKw pos (keywordEach kws X.env)).filterMap (·.1) = ps := by rfl)
    (hdb : (x == ("__debug__" : Str)) = false := by decide) (hpl : ((backTo pos (starEach [] X.env)).any (·.1) || (backToKw pos (keywordEach kws X.env)).any (·.1.isNone)) = false := by rfl) :
    PE X (.Call (.Name x p) [] kws pos) (tCallSD sp [] E t) := by
  refine ⟨fun pins s σ H Q I h => ?_⟩
  refine wpAny_Call_Name_kw (ld_glob I hg hm ?_ hdb)
  refine PySem.W.callWith_KW0 (h₀ := X.base) I.ok.mod.kin hk hall ?_ hpl
  refine thn (hkw.run pos pins s σ H _ I h) fun ws s2 ⟨zs, H2, I2, rz, q2⟩ => ⟨I2.kIn, ?_⟩
  rw [hks]
  have q2 : sp zs H2 Q (E σ) := by have z : sp (zs ++ []) H2 Q (E σ) := q2; rwa [List.append_nil] at z
  have hl : ws.length = ps.length := by rw [← rz.length]; exact F.len _ _ _ _ q2
  refine wpAny_call (codeAny_mono (F.run X.A X.stack s2 H2 ⟨[], ps.zip ws⟩ ws zs Q (E σ) hr I2.env0 (hb ws hl s2) rz q2) fun r s' hq => ?_)
  cases r with
  | error e => exact hx σ pins H2 s2 e s' I2 hq
  | ok fl =>
    cases fl with
    | ret u => exact I2.after hq
    | next => exact False.elim hq
    | brk => exact False.elim hq
    | cont => exact False.elim hq
theorem jr_callK {k j : Nat} {x : Str} {ps : List Str} {f : Fd} {fa : M (List Opd)} {p : Pos} {kws : List Keyword} (c : Cl X.prog X.w g X.base k x ps f) (hr : Room j X.A) (hk : k ≤ j) (hK : X.K = g.K) (hmg : X.mg = g.mg) (hg : Gl X x) (tk : Takes X W) (ha : JK X g T W kws fa)
    (hall : (backToKw pos (keywordEach kws X.env)).all (·.1.isSome) = true := by rfl) (hks : (backToKw pos (keywordEach kws X.env)).filterMap (·.1) = ps := by rfl)
    (hdb : (x == ("__debug__" : Str)) = false := by decide) (hpl : ((backTo pos (starEach [] X.env)).any (·.1) || (backToKw pos (keywordEach kws X.env)).any (·.1.isNone)) = false := by rfl) :
    JR X g T W (.Call (.Name x p) [] kws pos) (mcall f [] fa) := by
  obtain ⟨a, fd, F, hm, kp, _, b⟩ := c
  rw [← hK, ← hmg] at F
  rw [← hmg] at hm
  rw [← hK] at kp
  have key : ∀ ta, PK X kws ta → PE X (.Call (.Name x p) [] kws pos) (tCallSD (spD g f) [] (WE W) ta) := fun ta h => pe_callK0 F (hr.mono hk) hg hm kp b (fun σ => passAt tk σ) h hall hks hdb hpl
  -- jr_call's reading, the arguments by keywords
  exact fun τ t => PE.imp (key _ (ha τ t)) fun σ H Q ⟨B, s, R, p⟩ => (PostM.bind (P := PAs g) R p).mono fun vs H1 ⟨os, B1, s1, R1, e1, q, p1⟩ => by
    by_cases hd : dupFree s1 os = true
    · rw [if_pos hd] at p1
      cases ea : argsOf s1 os with
      | none => rw [ea] at p1; exact p1.elim
      | some as =>
        rw [ea] at p1
        dsimp only at p1
        refine ⟨B1, as ++ ([] : List D).map .v, R1.bh, args_ok (dds := []) R1 q hd ea (rfl : Dens g B1 [] []), ?_⟩
        cases ef : f (as ++ ([] : List D).map .v) with
        | bad => rw [ef] at p1; exact p1.elim
        | ret r post =>
          rw [ef] at p1
          intro v B' H' A hr
          have R' := R1.called q hd ea (dds := []) (rfl : Dens g B1 [] []) A
          refine p1 v B' H' R' A.eB (RetOk.rv (vs := vs) (as := as) R1 R' hr fun i x p h1 h2 h3 hn => ?_)
          obtain ⟨x0, k1, k2⟩ := putBack_own h1 h2
          obtain ⟨_, o, ho⟩ := R1.r.ownH k1 k2 h3
          rw [ho] at hn; cases hn
        | ex c ds post =>
          rw [ef] at p1
          intro x B' H' A hx
          exact p1 x B' H' (R1.called q hd ea (dds := []) (rfl : Dens g B1 [] []) A) A.eB hx
    · rw [if_neg hd] at p1; exact p1.elim
/-! ### classes -/
structure Cm (P : Program) (w : World) (g : G) (base : Heap) (k : Nat) (x : Str) (c : Nat) (ps : List Str) (f : Fd) : Prop where
  ex : ∃ (a : Addr) (fd : FuncData), Mk g.K (g.cn c) a ∧ FnOk P w g.K g.mg base (L2.CX P w) k a fd ps (spD g f) ∧ g.mg x = some (.ref (g.cn c)) ∧ Binds g.K fd ps []
theorem jr_makeC {k j c : Nat} {x : Str} {ps : List Str} {f : Fd} {fa : M (List Opd)} {p : Pos} (cm : Cm X.prog X.w g X.base k x c ps f) (hr : Room j X.A) (hk : k + 1 ≤ j) (hK : X.K = g.K) (hmg : X.mg = g.mg) (hg : Gl X x) (tk : Takes X W) (ha : JA X g T W (e :: es) fa)
    (hdb : (x == ("__debug__" : Str)) = false := by decide) (he : starEach (e :: es) X.env = (false, eval e X.env) :: starEach es X.env := by rfl) (hpl : (backTo pos (starEach es X.env)).any (·.1) = false := by rfl) :
    JR X g T W (.Call (.Name x p) (e :: es) [] pos) (mmake c f [] fa) := by
  obtain ⟨a, fd, M, F, hm, b⟩ := cm
  rw [← hK, ← hmg] at F
  rw [← hmg] at hm
  rw [← hK] at b M
  exact jr_make (fun ta h => pe_makeS M F (hr.mono hk) hg hm b .nil (fun σ => passAt tk σ) h hdb he hpl) (fun _ => rfl) ha
/-! ### max(xs, default=d) -/
def rMaxDef (K : PySem.W.Frag) : List V → List V → Hp → VK → Prop := fun xs zs H Q => ∃ (a : Addr) (ns : List Int) (d : V), xs = [.ref a] ∧ zs = [d] ∧ SqL K H a (ns.map V.int) ∧ (ns = [] → Q d H) ∧ ∀ n ns', ns = n :: ns' → Q (.int (PySem.W.maxOf n ns')) H
theorem hold_ints {h : Heap} : ∀ {ns : List Int} {us : List Value}, Vals (ns.map V.int) us → PySem.W.HoldAll h us ns
  | [], us, r => by cases r; exact PySem.W.HoldAll.nil
  | n :: ns, us, r => by
    rw [List.map_cons] at r
    cases r with
    | cons r t =>
      obtain ⟨tk, rfl⟩ := r
      exact PySem.W.HoldAll.cons (PySem.W.holds_int n tk) (hold_ints t)
theorem cr_maxDef (hc : X.calm = true) (hu : X.A.units + 64 < cLine) : CallRK X (.builtin "max") [Str.ofString "default"] (rMaxDef X.K) := by
  intro pins s σ H xs zs us ws Q I r rz h
  obtain ⟨a, ns, d, rfl, rfl, hs, h0, h1⟩ := h
  obtain ⟨u2, rfl, ru⟩ := rz.one
  obtain ⟨its, rv, hl, _⟩ := I.list hs
  rw [Vals.ref1 r]
  refine PySem.W.max_list_datum_default (α := Int) (I.ok.hd hc) hl.isList (by simpa using hold_ints rv) (by show X.A.units + 1 + 0 < cLine; omega) (fun e h' tk k => ?_) (fun y ys i v h' tk e hi hv k => ?_)
  · exact ⟨d, H, I.kept k, ru, h0 e⟩
  · obtain ⟨t, rfl⟩ := PySem.W.int_of_holds hv
    exact ⟨.int _, H, I.kept k, ⟨_, rfl⟩, h1 y ys e⟩
def maxDef (x : D) (d : D) : Option D := match x with
  | .lst ds => (intsD ds).map fun ns => match ns with
    | [] => d
    | n :: ns' => .int (PySem.W.maxOf n ns')
  | _ => none
def mmaxd (fa : M Opd) (fd : M D) : M D := mbind fa fun o => mbind fd fun d => mbind (res o) fun x => mopt (maxDef x d)
theorem je_maxd {fa : M Opd} {fd : M D} {dv : Expr} {p kpos : Pos} (hc : X.calm = true) (hu : X.A.units + 64 < cLine) (hg : Gl X "max") (hm : X.mg "max" = none) (ha : JO X g T W e fa) (hd : JE X g T W dv fd)
    (hs : starEach [e] X.env = (false, eval e X.env) :: starEach [] X.env := by rfl) (he : backTo pos (starEach [e] X.env) = (false, eval e X.env) :: backTo pos (starEach [] X.env) := by rfl) (hpl : (backTo pos (starEach [e] X.env)).any (·.1) = false := by rfl)
    (hall : (backToKw pos (keywordEach [⟨some (Str.ofString "default"), dv, kpos⟩] X.env)).all (·.1.isSome) = true := by rfl) (hnone : (backToKw pos (keywordEach [⟨some (Str.ofString "default"), dv, kpos⟩] X.env)).any (·.1.isNone) = false := by rfl) (hks : (backToKw pos (keywordEach [⟨some (Str.ofString "default"), dv, kpos⟩] X.env)).filterMap (·.1) = [Str.ofString "default"] := by rfl) :
    JE X g T W (.Call (.Name "max" p) [e] [⟨some (Str.ofString "default"), dv, kpos⟩] pos) (mmaxd fa fd) :=
  fun τ t => PE.imp (pe_callBK (cr_maxDef hc hu) hg hm rfl (pa_cons (ha τ t) pa_nil hs) (pk_cons (hd τ t) pk_nil) (by decide) (by decide) he hpl hall hnone hks) fun σ H Q ⟨B, s, R, p⟩ => (PostM.bind (P := PO' g) R p).mono fun x H1 ⟨o, B1, s1, R1, e1, q1, p1⟩ =>
    (PostM.bind (P := PD g) R1 p1).mono fun y H2 ⟨d, B2, s2, R2, e2, q2, p2⟩ => by
      rcases res_cases (o := o) (s := s2) with ⟨dx, w⟩ | w
      · rw [mbind_ok w] at p2
        have hx := (res_ok R2 (q1.mono e2) w).2
        cases dx with
        | lst ds =>
          obtain ⟨a, vs, rfl, k1, k2⟩ := hx
          unfold maxDef at p2
          cases ei : intsD ds with
          | none => dsimp only at p2; rw [ei] at p2; exact p2.elim
          | some ns =>
            dsimp only at p2
            rw [ei] at p2
            have ev := ints_den k2 ei
            subst ev
            refine ⟨a, ns, y, rfl, rfl, .inl (.inl k1), fun e0 => ?_, fun n ns' e0 => ?_⟩
            · subst e0; exact p2 y B2 H2 R2 (Evl.Ex.refl _) q2
            · subst e0; exact p2 _ B2 H2 R2 (Evl.Ex.refl _) rfl
        | _ => exact p2.elim
      · exfalso
        have z : mbind (res o) (fun x => mopt (maxDef x d)) s2 = .bad := by unfold mbind; rw [w]
        rw [z] at p2; exact p2
theorem hu64 {k : Nat} {A : Around} (h : Room k A) : A.units + 64 < cLine := by have := h.un; omega
end TW

set_option Elab.async false
set_option linter.all false
set_option autoImplicit false
set_option maxRecDepth 100000
set_option maxHeartbeats 2000000
namespace TX
open PySem PySem.Spec PyProof.Rows L2

/-! ## a caught error that is kept beyond its suite -/
/-- at a: an error of the class cls, its dict at d -/
def xcv (a : Addr) (cls : Value) (d : Option Addr) : HO := .ext fun hp => ∃ (ob : Obj) (fv : Array Value), hp.get? a = some ob ∧ Zc cls d ob ∧ ob.data = .fields fv
section
variable {X : Cx} {pins : List (Addr × Obj)} {σ : L2.St} {H : Hp} {s : Shared}
theorem xcv_ok {P : Program} {w : World} {hp : Heap} {a : Addr} {cls : Value} {d : Option Addr} {ob : Obj} {fv : Array Value} (h1 : hp.get? a = some ob) (h2 : Zc cls d ob) (h3 : ob.data = .fields fv) : ObjOk P w H hp a (xcv a cls d) :=
  ⟨⟨ob, fv, h1, h2, h3⟩, ⟨ob, h1⟩, fun _ _ z k => by
    obtain ⟨o2, v2, q1, q2, q3⟩ := z
    exact ⟨o2, v2, k _ q1, q2, q3⟩⟩
/-- an object that is there, of ours, gets tracked -/
theorem inv_track {a : Addr} {o : HO} (I : Inv X pins σ H s) (hn : H a = none) (h0 : X.s_0.heap.get? a = none) (nL : X.env.locals ≠ a) (nC : ∀ y c, X.env.cells.lookup y = some c → c ≠ a) (nP : ∀ p ∈ X.pn ++ pins, p.1 ≠ a)
    (new : ObjOk X.prog X.w (upd H a o) s.heap a o) : Inv X pins σ (upd H a o) s := by
  have ne : ∀ {b : Addr} {u : HO}, H b = some u → b ≠ a := fun {b u} e z => by rw [z, hn] at e; cases e
  have b0 : ∀ {b : Addr} {ob : Obj}, X.s_0.heap.get? b = some ob → b ≠ a := fun {b ob} e z => by rw [z, h0] at e; cases e
  refine ⟨I.ok, I.os, I.bare, ⟨I.base.keep, I.base.slot, fun b ob e n hx => ?_, I.base.there, fun b xs e => ?_, fun b ob u e => ?_, fun b ps e => ?_⟩, I.loc, I.cell, ?_, fun y c e => ?_, fun p hp => ?_, fun b u e => ?_, I.len⟩
  · rw [upd_ne (b0 e)]; exact I.base.free b ob e n hx
  · have q := I.base.tups b xs e
    rw [upd_ne (ne q)]; exact q
  · have q := I.base.frzs b ob u e
    rw [upd_ne (ne q)]; exact q
  · obtain ⟨m, q⟩ := I.base.tbls b ps e
    exact ⟨m, by rw [upd_ne (ne q)]; exact q⟩
  · rw [upd_ne nL]; exact I.free
  · rw [upd_ne (nC y c e)]; exact I.freeC y c e
  · obtain ⟨q1, q2, q3⟩ := I.pin p hp
    exact ⟨q1, by rw [upd_ne (nP p hp)]; exact q2, q3⟩
  · by_cases hb : b = a
    · subst hb
      rw [upd_same] at e
      cases e
      exact new
    · rw [upd_ne hb] at e
      exact (I.hok b u e).stay (fun c v _ q => q) (fun c q => by rw [upd_ne (ne q)]; exact q) fun c xs q => by rw [upd_ne (ne q)]; exact q
end
/-- what a clause that takes all that comes wishes: behind its suite the error stands at its address -/
def wAsV (K : PySem.W.Frag) (cv : Value) (k : Nat) (ts : Addr → Value → Option Addr → TS) (D : Ends) : WX := fun cls d σ H =>
  PySem.W.exmOne K cls cv = some true ∧ ∀ a, H a = none → ts a cls d { nx := fun σ1 H1 => H1 a = none → D.nx (σ1.set k none) (upd H1 a (xcv a cls d)), rt := fun _ _ => False, bk := fun _ _ => False, ct := fun _ _ => False } (σ.set k (some (.ref a))) H
section
variable {X : Cx} {x n : Str} {cv : Value} {k : Nat} {body suite : List Stmt} {b₀ : Stmt} {np pos pos' : Pos} {tb : WX → TS} {ts : Addr → Value → Option Addr → TS}
theorem ps_try_asV (hs : X.stack = X.env :: X.outer) (hf : X.env.frame = some X.env.locals) (hN : X.N.Nodup) (hk : X.N[k]? = some n) (hx : X.ex = []) (hln : X.env.kindOf n = some .local) (hc : Names X x cv)
    (hb : ∀ (W : WX) (pn : List (Addr × Obj)) (xe : Value → Shared → Prop), Takes (X.tr pn xe) W → PassesOwn (model X.prog X.w) X.A X.env xe → PSs (X.tr pn xe) body (tb W))
    (hsu : ∀ (a : Addr) (oe : Obj) (cls : Value) (d : Option Addr) (pn : List (Addr × Obj)), Zc cls d oe → (∃ vs, oe.data = .fields vs) → PSs (X.suite a ((a, oe) :: pn)) (b₀ :: suite) (ts a cls d)) :
    PS X (.Try body [.ExceptHandler (some (.Name x np)) (some n) (b₀ :: suite) pos'] [] [] pos) (fun D σ H => tb (wAsV X.K cv k ts D) D σ H) := by
  refine ⟨fun pins s σ H D I hq => ?_⟩
  have okX := I.ok
  have frX : X.A.frames = some (X.env :: X.outer) := by rw [okX.frames, hs]
  refine wpAny_Try_except ?_
  have hbody := (hb (wAsV X.K cv k ts D) (X.pn ++ pins) (fun er sa => wpAny (model X.prog X.w) X.A (noteFrame er X.env) (fun _ sb => wpAny (model X.prog X.w) X.A (setFlight er none) (fun _ sc =>
      wpAny (model X.prog X.w) X.A (handleBy er X.env [.ExceptHandler (some (.Name x np)) (some n) (b₀ :: suite) pos']) (SP X pins D) X.xe sc) X.xe sb) X.xe sa) (fun u sA xx => ?_) PassesOwn.looking).run [] s σ H D (I.toTry _) hq
  · refine wpAny_mono hbody (fun f sA hsp => ?_) (fun er sA he => he)
    cases f with
    | next => exact let ⟨σ', H', J', q⟩ := hsp; wpAny_execs_nil ⟨σ', H', J'.ofTry okX, q⟩
    | brk => exact let ⟨σ', H', J', q⟩ := hsp; ⟨σ', H', J'.ofTry okX, q⟩
    | cont => exact let ⟨σ', H', J', q⟩ := hsp; ⟨σ', H', J'.ofTry okX, q⟩
    | ret u => exact let ⟨v, σ', H', J', r, q⟩ := hsp; ⟨v, σ', H', J'.ofTry okX, r, q⟩
  · obtain ⟨a, G, sI, pins1, σ1, H1, cls, d, rfl, J1, nb, up, sky, na, eos, ag, hexm, hyes⟩ := xx
    have J : Inv X pins σ1 H1 sI := J1.ofTry okX
    rw [hs] at sky
    refine Sky.land Zc.steady frX hf sky fun g3 fl3 up3 => ?_
    have J3 : Inv X pins σ1 H1 { sA with heap := g3 } := J.landed nb fl3.1 (up.trans up3) eos ag
    obtain ⟨o3, w3, at3, z3, dt3⟩ := fl3.there
    have apart : a ∉ frs (X.env :: X.outer) := fun hm => by
      obtain ⟨_, o', e', hnf⟩ := fl3.2.2.1.mem hm
      rw [at3] at e'
      cases e'
      exact hnf _ dt3
    have aL : a ≠ X.env.locals := fun z => apart (List.mem_filterMap.mpr ⟨X.env, List.mem_cons_self, by rw [hf, z]⟩)
    have aF : a ∉ X.fs := fun hm => by
      obtain ⟨er, her, q⟩ := List.mem_filterMap.mp hm
      exact apart (List.mem_filterMap.mpr ⟨er, List.mem_cons_of_mem _ her, q⟩)
    -- a is not among what stood before
    have aG : G.get? a = none := fl3.2.1
    have aI : sI.heap.get? a = none := by
      cases e : sI.heap.get? a with
      | none => rfl
      | some ob =>
        have z := nb a ob e (by rw [hs]; exact apart)
        rw [aG] at z
        cases z
    have a0 : X.s_0.heap.get? a = none := by
      cases e : X.s_0.heap.get? a with
      | none => rfl
      | some ob =>
        obtain ⟨o', q⟩ := J.base.there a ob e (by rw [hx]; exact fun z => nomatch z)
        rw [aI] at q
        cases q
    have aC : ∀ y c, X.env.cells.lookup y = some c → c ≠ a := fun y c e z => by
      obtain ⟨v, ob, q, _⟩ := J.cell y c e
      rw [z, aI] at q
      cases q
    have aP : ∀ p ∈ X.pn ++ pins, p.1 ≠ a := fun p hp z => by
      have q := (J.pin p hp).1
      rw [z, aI] at q
      cases q
    have S3 := J3.suite at3 dt3 na aL aF
    refine wpAny_handleBy_cons (codeAny_handlers_test ?_) (by intro q; cases q)
    have lkT : PySem.W.Looks (model X.prog X.w) g3 (typeOf (.ref a)) cls := fun A Q E s' kp q => wpAny_typeOf_ref (kp _ _ at3) (by rw [z3.1]; exact q)
    have lkM := PySem.W.exm_one (M := model X.prog X.w) (J3.kIn) lkT hexm
    have ask : ∀ {Q : Value → Shared → Prop} {E : Value → Shared → Prop}, Q cv { sA with heap := g3 } → wpAny (model X.prog X.w) (X.A.mark (some (.ref a))) (eval (.Name x np) X.env) Q E { sA with heap := g3 } := fun {Q E} q => by
      obtain ⟨hg, hdb, hm | ⟨hm, hv, hnn⟩⟩ := hc
      · exact ld_glob (X := X.suite a ((a, o3) :: (X.pn ++ pins))) S3 hg hm q hdb
      · exact ld_blt (X := X.suite a ((a, o3) :: (X.pn ++ pins))) S3 hg hm hv q hnn hdb
    refine ask (lkM.here ?_)
    refine codeAny_handlers_suite_as ?_
    refine HandSPX.lands_againZ fl3 fun g4 fl4 up4 => ?_
    have J4 : Inv X pins σ1 H1 { sA with heap := g4 } := J.landed nb fl4.1 ((up.trans up3).trans up4) eos ag
    obtain ⟨o4, w4, at4, z4, dt4⟩ := fl4.there
    have S4 := J4.suite at4 dt4 na aL aF
    refine store_ok (X := X.suite a ((a, o4) :: (X.pn ++ pins))) (v := .ref a) S4 hN hk (.inl hln) rfl (fun s5 S5 => ?_) (.inr hln)
    refine wpAny_mono ((hsu a o4 cls d (X.pn ++ pins) z4 ⟨_, dt4⟩).run [] s5 _ H1 _ S5 (hyes a na)) (fun f s6 hsp => ?_) (fun _ _ z => False.elim z)
    cases f with
    | next =>
      obtain ⟨σ6, H6, S6, q6⟩ := hsp
      obtain ⟨p1, p2, _⟩ := S6.pin (a, o4) (List.mem_append_left _ List.mem_cons_self)
      have J6 : Inv X pins σ6 (upd H6 a (xcv a cls d)) s6 := inv_track (S6.unsuite okX) p2 a0 aL.symm aC aP (xcv_ok p1 z4 dt4)
      exact gone_ok J6 hN hk hln fun s7 J7 => ⟨_, _, J7, q6 p2⟩
    | brk => exact (let ⟨_, _, _, q⟩ := hsp; q : False).elim
    | cont => exact (let ⟨_, _, _, q⟩ := hsp; q : False).elim
    | ret u => exact (let ⟨_, _, _, _, _, q⟩ := hsp; q : False).elim
end
end TX

set_option Elab.async false
set_option linter.all false
set_option autoImplicit false
set_option maxRecDepth 100000
set_option maxHeartbeats 2000000
namespace TX
open PySem PySem.Spec PyProof.Rows L2
/-- what of the text an error's class must have so that an error of it may be asked -/
structure ErC (K : PySem.W.Frag) (C : Addr) : Prop where
  xf : XfC K C
  ha : PySem.W.findIn K (.ref C) "__class__" = some (some (.builtin "object.__class__"))
  hn : PySem.W.specialIn K (.builtin "object.__class__") "__get__" = some (some (.builtin "getset_descriptor.__get__"))
  ht : PySem.W.takesIn K (.builtin "object.__class__") = some true
  hm : PySem.W.mroIn K C (.type "object") = some true
section
variable {X : Cx} {pins : List (Addr × Obj)} {σ : L2.St} {H : Hp} {s : Shared}
/-- where such an error stands -/
theorem xcv_inst {a dd C : Addr} {fs : List (Str × V)} (I : Inv X pins σ H s) (ha : H a = some (xcv a (.ref C) (some dd))) (hd : H dd = some (.xd fs)) :
    ∃ (ob oD : Obj) (mA : Str → Option Value), PySem.W.InstAt s.heap a ob C (some oD) ∧ (∀ f, PySem.W.lookIn f oD = some (mA f)) ∧ ∀ f, RelO (fs.lookup f) (mA f) := by
  have q : ObjOk X.prog X.w H s.heap a (.ext fun hp => ∃ (ob : Obj) (fv : Array Value), hp.get? a = some ob ∧ Zc (.ref C) (some dd) ob ∧ ob.data = .fields fv) := I.hok a _ ha
  obtain ⟨⟨ob, fv, h1, h2, h3⟩, _⟩ := q
  have qd : ObjOk X.prog X.w H s.heap dd (.xd fs) := I.hok dd _ hd
  obtain ⟨mA, hns, hr⟩ := qd
  obtain ⟨oD, ho, hl⟩ := lookIn_ns hns
  exact ⟨ob, oD, mA, ⟨h1, h2.1, by unfold PySem.W.notCls; rw [h3] <;> rfl, by rw [h2.2]; exact ho⟩, hl, hr⟩
/-- isinstance of it -/
def rIsX (K : PySem.W.Frag) : List V → Hp → VK → Prop := fun xs H Q => ∃ (a C dd : Addr) (fs : List (Str × V)) (c : V) (u : Value) (b : Bool), xs = [.ref a, c] ∧ H a = some (xcv a (.ref C) (some dd)) ∧ H dd = some (.xd fs) ∧ ErC K C ∧ ClsV c u ∧ PySem.W.kitOne K (.ref C) u = some b ∧ Q (.bl b) H
theorem call_isX : CallR X (.builtin "isinstance") (rIsX X.K) := by
  intro pins s σ H xs us Q I r hh
  obtain ⟨a, C, dd, fs, c, u, b, rfl, h1, h2, E, k, e, q⟩ := hh
  obtain ⟨u1, u2, rfl, r1, r2⟩ := vals2 r
  have e2 := k.eq r2
  subst e2
  cases (show u1 = Value.ref a from r1)
  obtain ⟨ob, oD, mA, J, _⟩ := xcv_inst I h1 h2
  obtain ⟨cd, hcl, _⟩ := PySem.W.any_some E.xf.hdC
  exact PySem.W.kia_one (PySem.W.kitx_exc (by rw [hcl]; rfl) E.xf.ga E.xf.gg E.xf.exC E.ha E.hn E.ht E.hm) I.kIn J e (fun z => nomatch z) fun tk => ⟨.bl b, H, I.tok tk, rfl, q⟩
/-- its attribute -/
theorem pe_xv {e : Expr} {te : TE} {pos : Pos} {f : Str} (he : PE X e te) (hb : attributeBase e f X.env (eval e X.env) = eval e X.env := by rfl) :
    PE X (.Attribute e f pos) (fun σ H Q => te σ H fun x H1 => ∃ (a C dd : Addr) (fs : List (Str × V)) (v : V), x = .ref a ∧ H1 a = some (xcv a (.ref C) (some dd)) ∧ H1 dd = some (.xd fs) ∧ XfC X.K C ∧ PySem.W.findIn X.K (.ref C) f = some none ∧ fs.lookup f = some v ∧ Q v H1) := by
  refine ⟨fun pins s σ H Q I h => attr_of hb (thn (he.run pins s σ H _ I h) fun u s1 hh => ?_)⟩
  obtain ⟨x, H1, I1, rx, a, C, dd, fs, v, rfl, h1, h2, T, hno, l, q⟩ := hh
  cases (show u = Value.ref a from rx)
  obtain ⟨ob, oD, mA, J, hl, hr⟩ := xcv_inst I1 h1 h2
  obtain ⟨w, hw, rw_⟩ := RelO.some_of (v := v) (o := mA f) (by rw [← l]; exact hr f)
  exact HandSPX.exc_get I1.kIn J T.ga T.gg T.exC (PySem.W.findObj_own T.hdC hno rfl (by rw [hl f, hw])) (handed_of rw_) ⟨v, H1, I1.tok _, rw_, q⟩
end
end TX

set_option Elab.async false
set_option linter.all false
set_option autoImplicit false
set_option maxRecDepth 100000
set_option maxHeartbeats 2000000
namespace TX
open PySem PySem.Spec PyProof.Rows L2 TW
variable {g : G} {T : Tx} {B B' H H' : Hp} {σ : L2.St} {s : S} {W : WX}

/-! ## what is left where tables of code objects grow -/
def isTbl : HO → Bool
  | .tbl _ => true
  | _ => false
def noT (B : Hp) : Hp := fun a => match B a with
  | some o => if isTbl o = true then none else some o
  | none => none
theorem noT_of {a : Addr} {o : HO} (h : B a = some o) (ho : isTbl o = false) : noT B a = some o := by
  unfold noT; rw [h]; show (if isTbl o = true then none else some o) = _
  rw [ho]; rfl
theorem noT_some {a : Addr} {o : HO} (h : noT B a = some o) : B a = some o ∧ isTbl o = false := by
  unfold noT at h
  cases e : B a with
  | none => rw [e] at h; cases h
  | some u =>
    rw [e] at h
    have h' : (if isTbl u = true then none else some u) = some o := h
    by_cases hu : isTbl u = true
    · rw [if_pos hu] at h'; cases h'
    · rw [if_neg hu] at h'; cases h'; exact ⟨rfl, by simpa using hu⟩
theorem noT_none {a : Addr} (h : B a = none) : noT B a = none := by unfold noT; rw [h]
theorem sqT_noT {a : Addr} {xs : List V} (h : SqT g.K B a xs) : SqT g.K (noT B) a xs := by
  rcases h with h | h
  · rcases h with h | ⟨o, h⟩
    · exact .inl (.inl (noT_of h rfl))
    · exact .inl (.inr ⟨o, noT_of h rfl⟩)
  · exact .inr h
theorem sqL_noT {a : Addr} {xs : List V} (h : SqL g.K B a xs) : SqL g.K (noT B) a xs := by
  rcases h with h | h
  · rcases h with h | ⟨o, h⟩
    · exact .inl (.inl (noT_of h rfl))
    · exact .inl (.inr ⟨o, noT_of h rfl⟩)
  · exact .inr h
mutual
theorem den_noT : ∀ {d : D} {v : V}, Den g B d v → Den g (noT B) d v
  | .non, _, h => h
  | .bl _, _, h => h
  | .int _, _, h => h
  | .str _, _, h => h
  | .dct, _, ⟨a, kvs, e1, h1⟩ => ⟨a, kvs, e1, noT_of h1 rfl⟩
  | .tup ds, _, ⟨a, vs, e1, h1, h2⟩ => ⟨a, vs, e1, sqT_noT h1, dens_noT h2⟩
  | .lst ds, _, ⟨a, vs, e1, h1, h2⟩ => ⟨a, vs, e1, noT_of h1 rfl, dens_noT h2⟩
  | .arg ds, _, ⟨a, vs, e1, h1, h2⟩ => ⟨a, vs, e1, sqL_noT h1, dens_noT h2⟩
  | .obj c ds, _, ⟨a, dx, vs, e1, h1, h3⟩ => ⟨a, dx, vs, e1, noT_of h1 rfl, dens_noT h3⟩
  | .exc a x c ds, _, ⟨e1, .inl h⟩ => ⟨e1, .inl h⟩
  | .exc a x c ds, _, ⟨e1, .inr ⟨dx, fs, vs, h1, h2, h3, h4⟩⟩ => ⟨e1, .inr ⟨dx, fs, vs, h1, noT_of h2 rfl, dens_noT h3, h4⟩⟩
theorem dens_noT : ∀ {ds : List D} {vs : List V}, Dens g B ds vs → Dens g (noT B) ds vs
  | [], _, h => h
  | d :: ds, _, ⟨v, r, e1, h1, h2⟩ => ⟨v, r, e1, den_noT h1, dens_noT h2⟩
end
/-- the own slots' addresses -/
def ioS (σ : L2.St) (s : S) : Nat → Option Addr := fun j => match s[j]?, σ[j]? with
  | some x, some (some (.ref a)) => if x.own = true then some a else none
  | _, _ => none
theorem ioS_some {j : Nat} {a : Addr} (h : ioS σ s j = some a) : ∃ x, s[j]? = some x ∧ x.own = true ∧ σ[j]? = some (some (.ref a)) := by
  unfold ioS at h
  cases e1 : s[j]? with
  | none => rw [e1] at h; cases h
  | some x =>
    cases e2 : σ[j]? with
    | none => rw [e1, e2] at h; cases h
    | some v =>
      rw [e1, e2] at h
      cases v with
      | none => cases h
      | some v =>
        cases v with
        | ref b =>
          have h' : (if x.own = true then some b else none) = some a := h
          by_cases ho : x.own = true
          · rw [if_pos ho] at h'; cases h'; exact ⟨x, rfl, ho, rfl⟩
          · rw [if_neg ho] at h'; cases h'
        | _ => cases h
theorem ioS_of {j : Nat} {a : Addr} {x : Sl} (h1 : s[j]? = some x) (h2 : x.own = true) (h3 : σ[j]? = some (some (.ref a))) : ioS σ s j = some a := by
  unfold ioS; rw [h1, h3]; exact if_pos h2
theorem ioS_no {j : Nat} (h : ∀ x, s[j]? = some x → x.own = false) : ioS σ s j = none := by
  cases e : ioS σ s j with
  | none => rfl
  | some a =>
    obtain ⟨x, h1, h2, _⟩ := ioS_some e
    rw [h x h1] at h2; cases h2
abbrev txS (B H : Hp) (σ : L2.St) (s : S) : Tx := ⟨B, H, ioS σ s, [], []⟩
/-- the run goes on as if it began here -/
theorem rel_base (R : Rel g T B H σ s) (eN : LamX.ExtN H H') : Rel g (txS (noT B) H' σ s) (noT B) H' σ s := by
  have k : ∀ a o, H a = some o → isTbl o = false → H' a = some o := fun a o h ho => eN a o h fun ps z => by rw [z] at ho; cases ho
  have gt : ∀ {i : Nat} {x : Sl}, s[i]? = some x → (s ++ T.t)[i]? = some x := fun h => app_some h
  have gσ : ∀ {i : Nat} {y : Option V}, σ[i]? = some y → (σ ++ T.τ)[i]? = some y := fun h => app_some h
  refine ⟨⟨Evl.Ex.refl _, fun a o h => ?_, fun _ _ => rfl, fun _ _ h _ => h, fun _ h => h, ?_, fun i x y hx hy => ?_, fun i j x x' a hx hx' ho ho' e1 e2 => ?_, fun j a hj => ?_, fun i x a hx ho e1 => ?_⟩, R.ln, fun j a hj => ?_⟩
  · obtain ⟨h1, h2⟩ := noT_some h
    exact k a o (R.bh a o h1) h2
  · simpa using R.ln
  · simp only [List.append_nil] at hx hy
    have q := R.r.sl i x y (gt hx) (gσ hy)
    cases x with
    | no => trivial
    | v d => obtain ⟨v, e, h1⟩ := q; exact ⟨v, e, den_noT h1⟩
    | l ds => obtain ⟨a, vs, e, h1, h2, h3⟩ := q; exact ⟨a, vs, e, noT_none h1, k a _ h2 rfl, dens_noT h3⟩
    | o c ds => obtain ⟨a, dx, vs, e, h1, h2, h3⟩ := q; exact ⟨a, dx, vs, e, noT_none h1, k a _ h2 rfl, dens_noT h3⟩
  · simp only [List.append_nil] at hx hx' e1 e2
    exact R.r.nd i j x x' a (gt hx) (gt hx') ho ho' (gσ e1) (gσ e2)
  · simp only [List.append_nil]
    obtain ⟨x, h1, h2, h3⟩ := ioS_some hj
    exact ⟨h3, x, h1, h2⟩
  · simp only [List.append_nil] at hx e1
    exact .inr ⟨i, ioS_of hx ho e1⟩
  · obtain ⟨x, h1, _⟩ := ioS_some hj
    have := (List.getElem?_eq_some_iff.mp h1).1
    rw [R.ln]; exact this
/-- the tables stay where a run keeps all but what is own -/
theorem tabs_keep {tbs : List (Addr × Str)} (t : LamX.Tabs tbs H) (h : ∀ a o, H a = some o → (isTbl o = true ∨ ∃ c q, o = LamX.CodeO c q) → H' a = some o) : LamX.Tabs tbs H' := fun p hp => by
  obtain ⟨ps, h1, h2, h3⟩ := t p hp
  refine ⟨ps, h _ _ h1 (.inl rfl), h2, fun pos cv hc => ?_⟩
  obtain ⟨c, e1, e2⟩ := h3 pos cv hc
  exact ⟨c, e1, h _ _ e2 (.inr ⟨_, _, rfl⟩)⟩
theorem tabs_rel {tbs : List (Addr × Str)} {B0 H0 : Hp} {σ0 : L2.St} {s0 : S} (R0 : Rel g (txS B0 H0 σ0 s0) B0 H0 σ0 s0) (t : LamX.Tabs tbs H0) (R : Rel g (txS B0 H0 σ0 s0) B H σ s) : LamX.Tabs tbs H := by
  refine tabs_keep t fun a o h ho => R.r.hh a o h fun j z => ?_
  obtain ⟨x, h1, h2, h3⟩ := ioS_some z
  cases x with
  | l ds =>
    obtain ⟨b, vs, e, _, q, _⟩ := R0.getl h1
    rw [h3] at e; cases e
    rw [h] at q; cases q
    rcases ho with ho | ⟨c, q, ho⟩
    · cases ho
    · cases ho
  | o c ds =>
    obtain ⟨b, dx, vs, e, _, q, _⟩ := R0.geto h1
    rw [h3] at e; cases e
    rw [h] at q; cases q
    rcases ho with ho | ⟨c, q, ho⟩
    · cases ho
    · cases ho
  | _ => cases h2
end TX

set_option Elab.async false
set_option linter.all false
set_option autoImplicit false
set_option maxRecDepth 100000
set_option maxHeartbeats 2000000
namespace TX
open PySem PySem.Spec PyProof.Rows L2 TW
variable {g : G} {T : Tx} {B B' H H' : Hp} {σ : L2.St} {s : S} {W : WX} {X : Cx} {tbs : List (Addr × Str)}
def PostT (g : G) (tbs : List (Addr × Str)) : OutS → Ends → Prop
  | .nx s', D => ∀ σ' B' H' T', Rel g T' B' H' σ' s' → LamX.Tabs tbs H' → D.nx σ' H'
  | .rt r s', D => ∀ v σ' B' H' T', Rel g T' B' H' σ' s' → RvOk g T' σ' s' r B' H' v → D.rt v H'
  | _, _ => False
def RdT (g : G) (tbs : List (Addr × Str)) (f : MS) : TS := fun D σ H => ∃ B s T, Rel g T B H σ s ∧ LamX.Tabs tbs H ∧ PostT g tbs (f s) D
def JSt (X : Cx) (g : G) (tbs : List (Addr × Str)) (st : Stmt) (f : MS) : Prop := PS X st (RdT g tbs f)
def JSts (X : Cx) (g : G) (tbs : List (Addr × Str)) (st : List Stmt) (f : MS) : Prop := PSs X st (RdT g tbs f)
/-- the slots of L hold nothing of their own -/
def guardN (L : List Nat) (s : S) : Bool := L.all fun i => match s[i]? with
  | some x => !x.own
  | none => true
def mguard (L : List Nat) (f : MS) : MS := fun s => if guardN L s = true then f s else .bad
theorem guardN_of {L : List Nat} (h : guardN L s = true) {i : Nat} (hi : i ∈ L) : ioS σ s i = none := by
  have q := List.all_eq_true.mp h i hi
  refine ioS_no fun x hx => ?_
  rw [hx] at q
  simpa using q
theorem PS.ex {ι : Type} {st : Stmt} {t : ι → TS} (h : ∀ i, PS X st (t i)) : PS X st (fun D σ H => ∃ i, t i D σ H) := ⟨fun pins s σ H D I ⟨i, q⟩ => (h i).run pins s σ H D I q⟩
theorem jst_of {st : Stmt} {f : MS} (L : List Nat) (h : ∀ T : Tx, (∀ i ∈ L, T.io i = none) → JS X g T W0 st f) : JSt X g tbs st (mguard L f) := by
  refine PS.imp (PS.ex (ι := {T : Tx // ∀ i ∈ L, T.io i = none}) (t := fun T => RdS g T.1 W0 f) fun T => h T.1 T.2) fun D σ H ⟨B, s, T, R, t, p⟩ => ?_
  unfold mguard at p
  by_cases hg : guardN L s = true
  · rw [if_pos hg] at p
    have R1 := rel_base R (LamX.ExtN.refl H)
    refine ⟨⟨txS (noT B) H σ s, fun i hi => guardN_of hg hi⟩, noT B, s, R1, ?_⟩
    cases e : f s with
    | nx s' => rw [e] at p; exact fun σ' B' H' R' _ => p σ' B' H' _ R' (tabs_rel R1 t R')
    | rt r s' => rw [e] at p; exact fun v σ' B' H' R' _ q => p v σ' B' H' _ R' q
    | bk s' => rw [e] at p; exact p.elim
    | ct s' => rw [e] at p; exact p.elim
    | ex c ds s' => rw [e] at p; exact p.elim
    | bad => rw [e] at p; exact p.elim
  · rw [if_neg hg] at p; exact p.elim
theorem jsts_nil : JSts X g tbs [] (fun s => .nx s) := PSs.imp pss_nil fun D σ H ⟨B, s, T, R, t, p⟩ => p σ B H T R t
theorem jsts_one {st : Stmt} {f : MS} (h : JSt X g tbs st f) : JSts X g tbs [st] f := pss_one h
theorem jsts_cons {st : Stmt} {rest : List Stmt} {f k : MS} (h : JSt X g tbs st f) (hr : JSts X g tbs rest k) : JSts X g tbs (st :: rest) (mseq f k) := PSs.imp (pss_cons h hr) fun D σ H ⟨B, s, T, R, t, p⟩ => by
  refine ⟨B, s, T, R, t, ?_⟩
  unfold mseq at p
  cases e : f s with
  | nx s' => rw [e] at p; exact fun σ' B' H' T' R' t' => ⟨B', s', T', R', t', p⟩
  | rt r s' => rw [e] at p; exact p
  | bk s' => rw [e] at p; exact p
  | ct s' => rw [e] at p; exact p
  | ex c ds s' => rw [e] at p; exact p
  | bad => rw [e] at p; exact p
/-! ### expressions -/
def PostTE (g : G) (tbs : List (Addr × Str)) (σ : L2.St) : Out D → VK → Prop
  | .ok d s', Q => ∀ v B' H' T', Rel g T' B' H' σ s' → LamX.Tabs tbs H' → Den g B' d v → Q v H'
  | _, _ => False
def RdTE (g : G) (tbs : List (Addr × Str)) (f : M D) : TE := fun σ H Q => ∃ B s T, Rel g T B H σ s ∧ LamX.Tabs tbs H ∧ PostTE g tbs σ (f s) Q
def JEt (X : Cx) (g : G) (tbs : List (Addr × Str)) (e : Expr) (f : M D) : Prop := PE X e (RdTE g tbs f)
/-- x = [e] -/
def tset1 (i : Nat) (f : M D) : MS := fun s => match f s with
  | .ok d s' => if guardN [i] s' = true ∧ i < s'.length then .nx (s'.set i (.l [d])) else .bad
  | _ => .bad
theorem jst_set1 {i : Nat} {e : Expr} {st : Stmt} {f : M D} {pos : Pos} (hps : ∀ te, PE X (.List [e] pos) te → PS X st (tAsg te (gName i))) (he : JEt X g tbs e f)
    (hs : starEach [e] X.env = (false, eval e X.env) :: starEach [] X.env := by rfl) : JSt X g tbs st (tset1 i f) :=
  PS.imp (hps _ (pe_lst (pa_cons he pa_nil hs))) fun D σ H ⟨B, s, T, R, t, p⟩ => by
    refine ⟨B, s, T, R, t, ?_⟩
    unfold tset1 at p
    cases ef : f s with
    | ok d s' =>
      rw [ef] at p
      dsimp only at p
      by_cases hg : guardN [i] s' = true ∧ i < s'.length
      · rw [if_pos hg] at p
        intro v B1 H1 T1 R1 t1 hv
        have R2 := rel_base R1 (LamX.ExtN.refl H1)
        refine ⟨by show 1 ≤ sizeLine; decide, fun q hq => ?_⟩
        obtain ⟨R3, p3, vs, e3, F3, hd3⟩ := R2.newl (ds := [d]) (vs := [v]) hq (Dens.cons (den_noT hv) Dens.nil)
        refine p _ _ _ _ (R3.storel hg.2 (guardN_of hg.1 (by simp)) (by cases e3; exact F3) hd3) (tabs_rel R2 t1 R3)
      · rw [if_neg hg] at p; exact p.elim
    | ex c ds s' => rw [ef] at p; exact p.elim
    | bad => rw [ef] at p; exact p.elim
/-- x.append(e) -/
def tapp (k : Nat) (f : M D) : MS := fun s => match s[k]? with
  | some (.l _) => (match f s with
    | .ok d s1 => (match s1[k]? with
      | some (.l ds) => if ds.length < 16000000 then .nx (s1.set k (.l (ds ++ [d]))) else .bad
      | _ => .bad)
    | _ => .bad)
  | _ => .bad
theorem jst_app {k : Nat} {o e : Expr} {apos cpos pos' : Pos} {f : M D} (ho : PE X o (tVar k)) (he : JEt X g tbs e f)
    (hbase : attributeBase o "append" X.env (eval o X.env) = eval o X.env := by rfl)
    (hfew : ((backTo cpos (starEach [e] X.env)).all (fun x => !x.1) && (backToKw cpos (keywordEach [] X.env)).all (fun x => x.1.isSome) && decide ([e].length + ([] : List Keyword).length + (if ([] : List Keyword).isEmpty then 0 else 1) < 30)) = true := by rfl)
    (hline : (apos.endLine == cpos.line) = true := by rfl) (hs : starEach [e] X.env = (false, eval e X.env) :: starEach [] X.env := by rfl)
    (hsw : swapsWith (.Call (.Attribute o "append" apos) [e] [] cpos) none pos'.line X.env = pure false := by rfl) : JSt X g tbs (.Expr (.Call (.Attribute o "append" apos) [e] [] cpos) pos') (tapp k f) := by
  refine PS.imp (ps_expr (pe_bm PySem.F.plainAttrs_list PySem.F.slot_list_append PySem.F.type_list_append mt_append ho (pa_cons he pa_nil hs) hbase hfew hline hs rfl) hsw) fun D σ H ⟨B, s, T, R, t, p⟩ => ?_
  unfold tapp at p
  cases hk : s[k]? with
  | none => rw [hk] at p; exact p.elim
  | some y =>
    rw [hk] at p
    cases y with
    | l ds0 =>
      obtain ⟨l, us0, ha, _, hl, _⟩ := R.getl hk
      refine ⟨.ref l, ha, .inl ⟨rfl, us0, .inl (.inl hl)⟩, B, s, T, R, t, ?_⟩
      dsimp only at p
      cases ef : f s with
      | ok d s1 =>
        rw [ef] at p
        dsimp only at p
        cases hk1 : s1[k]? with
        | none => rw [hk1] at p; exact p.elim
        | some y1 =>
          rw [hk1] at p
          cases y1 with
          | l ds =>
            dsimp only at p
            by_cases hz : ds.length < 16000000
            · rw [if_pos hz] at p
              intro v B1 H1 T1 R1 t1 q
              have R2 := rel_base R1 (LamX.ExtN.refl H1)
              obtain ⟨l', us, ha', _, hl', hd⟩ := R2.getl hk1
              rw [ha] at ha'; cases ha'
              refine ⟨l, us, v, rfl, rfl, hl', szlt (by rw [hd.length]; exact hz), ?_⟩
              have R3 := R2.wrl hk1 ha (hd.append (Dens.cons (den_noT q) Dens.nil))
              refine p σ _ _ _ R3 (tabs_keep t1 fun a o h ho => ?_)
              have ne : a ≠ l := fun z => by
                rw [z, hl'] at h; cases h
                rcases ho with ho | ⟨c, q, ho⟩
                · cases ho
                · cases ho
              rw [upd_ne ne]; exact h
            · rw [if_neg hz] at p; exact p.elim
          | _ => exact p.elim
      | ex c ds s' => rw [ef] at p; exact p.elim
      | bad => rw [ef] at p; exact p.elim
    | _ => exact p.elim
end TX

set_option Elab.async false
set_option linter.all false
set_option autoImplicit false
set_option maxRecDepth 100000
set_option maxHeartbeats 4000000
namespace TX
open PySem PySem.Spec PyProof.Rows L2
section
variable {X : Cx}
theorem callR_or {v : Value} {r1 r2 : List V → Hp → VK → Prop} (h1 : CallR X v r1) (h2 : CallR X v r2) : CallR X v (fun xs H Q => r1 xs H Q ∨ r2 xs H Q) := by
  intro pins s σ H xs us Q I r h
  rcases h with h | h
  · exact h1 pins s σ H xs us Q I r h
  · exact h2 pins s σ H xs us Q I r h
theorem PE.or {e : Expr} {t1 t2 : TE} (h1 : PE X e t1) (h2 : PE X e t2) : PE X e (fun σ H Q => t1 σ H Q ∨ t2 σ H Q) :=
  ⟨fun pins s σ H Q I h => h.elim (h1.run pins s σ H Q I) (h2.run pins s σ H Q I)⟩
theorem PE.ex {ι : Type} {e : Expr} {t : ι → TE} (h : ∀ i, PE X e (t i)) : PE X e (fun σ H Q => ∃ i, t i σ H Q) :=
  ⟨fun pins s σ H Q I ⟨i, q⟩ => (h i).run pins s σ H Q I q⟩
end
end TX
namespace K01
open PySem PySem.Spec PyProof.Rows L2 TW TX
def topp (i : Nat) : Stmt := PySem.Challenge.pw_thincoins_k01_checks_of_any_value.main.body.getD i (.Pass ⟨0, 0, 0, 0⟩)
abbrev s_part : Stmt := topp 40
abbrev N_part : List Str := ["_law_ask", "_law_caught", "error"]
theorem sc_part : FnScope N_part ["_law_ask"] (defScope s_part) := ⟨rfl, rfl, rfl, by decide +kernel, rfl, by decide +kernel, by decide +kernel⟩
/-- what of the text _law_part leans on -/
structure PartT (K : PySem.W.Frag) (mg : Str → Option Value) (CT CR CN : Addr) : Prop where
  T : mg "ThinError" = some (.ref CT)
  R : mg "BadRatio" = some (.ref CR)
  N : mg "BadNumber" = some (.ref CN)
  isi : mg "isinstance" = none
  nR : PySem.W.kitOne K (.type "NoneType") (.ref CR) = some false
/-- an error that the lambda lets out -/
structure ErrT (K : PySem.W.Frag) (CT CR CN C : Addr) (bR bN : Bool) : Prop where
  E : ErC K C
  no : PySem.W.findIn K (.ref C) "part" = some none
  ex : PySem.W.exmOne K (.ref C) (.ref CT) = some true
  r : PySem.W.kitOne K (.ref C) (.ref CR) = some bR
  n : PySem.W.kitOne K (.ref C) (.ref CN) = some bN
/-- what the call of _law_part makes of its lambda's reading -/
def TTp (K : PySem.W.Frag) (CT CR CN : Addr) : (XK → Hp → VK → Prop) → Hp → VK → Prop := fun tl H Q => ∀ Qn : VK, (∀ v H', Q .non H' → Qn v H') →
  tl (fun cls d H' => ∃ (C dd : Addr) (fs : List (Str × V)) (u : V) (bR : Bool), cls = .ref C ∧ d = some dd ∧ H' dd = some (.xd fs) ∧ ErrT K CT CR CN C bR (!bR) ∧ fs.lookup (Str.ofString "part") = some u ∧
    ∀ a, H' a = none → (bR = false → Q u (upd H' a (xcv a cls d))) ∧ (bR = true → ∀ p, upd H' a (xcv a cls d) p = none → Q (.ref p) (upd (upd H' a (xcv a cls d)) p (.tup [.str "ratio", u])))) H Qn
theorem part_gives {X : Cx} {g : Addr} {cdg : Value} {q : Str} {CT CR CN : Addr} (P : PartT X.K X.mg CT CR CN) : LamX.GivesTo X N_part "_law_part" (defScope s_part) g cdg (defBody s_part) "_law_ask" q (TTp X.K CT CR CN) := by
  intro f c' s H Q tl act hc h
  have nd : N_part.Nodup := sc_part.nd
  refine ⟨_, pss_cons (ps_set (i := 1) nd rfl (by first | exact Or.inl rfl | exact Or.inr rfl) pe_non)
    (pss_cons (ps_try_asV (k := 2) (cv := .ref CT) (tb := fun W D σ H => ∃ Ech : XK, (∀ cls d σ' H', Ech cls d H' → W cls d σ' H') ∧ σ[0]? = some (some (.ref f)) ∧ H c' = some (LamX.CodeO c' q) ∧ tl Ech H fun _ H' => D.nx σ H')
        (ts := fun a cls d D σ H => (∃ σ0 : L2.St, σ = σ0.set 2 (some (.ref a))) ∧ ∀ σ1 : L2.St, σ1.length = 3 → σ1[1]? = some (some (.ref a)) → D.nx σ1 H) rfl rfl nd rfl rfl rfl ⟨rfl, by decide, .inl P.T⟩ (fun W pn xe tk _ => ?_) (fun a oe cls d pn _ _ => ?_))
      (pss_cons (ps_if (pt_truth (pe_callB (callR_or call_isi call_isX) rfl P.isi rfl (pa_cons (pv 1) (pa_cons (pe_glob (v := .ref CR) rfl P.R rfl) pa_nil)) (by decide) (by decide)) (fun _ => rfl)) (pss_one (ps_ret (pe_tup (pa_cons pe_str (pa_cons (pe_xv (pv 1)) pa_nil))))) pss_nil)
        (pss_one (ps_ret (pe_ifExp (pt_cmpR op_isN (pv 1) pe_non (nomark _)) pe_non (pe_ifExp (pt_truth (pe_callB call_isX rfl P.isi rfl (pa_cons (pv 1) (pa_cons (pe_glob (v := .ref CN) rfl P.N rfl) pa_nil)) (by decide) (by decide)) (fun _ => rfl)) (pe_xv (pv 1)) pe_bl)))))), ?_⟩
  · refine ⟨fun pins s' σ H' D I h' => ?_⟩
    obtain ⟨Ech, hW, h1, h2, h3⟩ := h'
    exact (pss_one (ps_expr (act W pn xe Ech _ _ tk hW) rfl)).run pins s' σ H' D I ⟨h1, h2, h3⟩
  · refine ⟨fun pins s' σ H' D I h' => ?_⟩
    obtain ⟨⟨σ0, e0⟩, h2⟩ := h'
    have hl : σ.length = 3 := I.len
    have h1 : σ[2]? = some (some (.ref a)) := by
      subst e0
      rw [List.length_set] at hl
      simp [hl]
    exact (pss_one (ps_set (i := 1) nd rfl (by first | exact Or.inl rfl | exact Or.inr rfl) (pv 2))).run pins s' σ H' D I ⟨.ref a, h1, h2 _ (by rw [List.length_set]; exact hl) (by simp [hl])⟩
  · show ∃ Ech : XK, _
    refine ⟨_, fun cls d σ' H' hE => ?_, rfl, hc, h _ fun v H' hq => ?_⟩
    obtain ⟨C, dd, fs, u, bR, rfl, rfl, hdd, ET, hl, hq⟩ := hE
    refine ⟨ET.ex, fun a na => ⟨⟨σ', rfl⟩, fun σ1 h1 h2 na' => ?_⟩⟩
    obtain ⟨q1, q2⟩ := hq a na
    have nea : dd ≠ a := fun z => by rw [z, na] at hdd; cases hdd
    have hda : upd H' a (xcv a (.ref C) (some dd)) dd = some (.xd fs) := by rw [upd_ne nea]; exact hdd
    have hs1 : (σ1.set 2 none)[1]? = some (some (V.ref a)) := by rw [List.getElem?_set_ne (by decide)]; exact h2
    refine ⟨.ref a, hs1, .inr ⟨a, C, dd, fs, .ref CR, .ref CR, bR, rfl, upd_same, hda, ET.E, .own CR, ET.r, ?_⟩⟩
    cases bR with
    | true =>
      refine ⟨true, rfl, ?_⟩
      exact ⟨.ref a, hs1, a, C, dd, fs, u, rfl, upd_same, hda, ET.E.xf, ET.no, hl, by show 2 ≤ sizeLine; decide, fun p hp => q2 rfl p hp⟩
    | false =>
      refine ⟨false, rfl, ?_⟩
      exact ⟨.ref a, hs1, rfl, false, congrArg V.bl (decide_eq_false (fun z => nomatch z)), .ref a, hs1, a, C, dd, fs, .ref CN, .ref CN, true, rfl, upd_same, hda, ET.E, .own CN, ET.n, true, rfl, .ref a, hs1, a, C, dd, fs, u, rfl, upd_same, hda, ET.E.xf, ET.no, hl, q1 rfl⟩
    · refine ⟨.non, rfl, .inl ⟨.non, .ref CR, .type "NoneType", .ref CR, false, rfl, .own CR, .base .non, P.nR, ?_⟩⟩
      refine ⟨false, rfl, ?_⟩
      exact ⟨.non, rfl, rfl, true, congrArg V.bl (decide_eq_true rfl), hq⟩
/-! ### .. as data -/
def mlamp (fb : M Rv) : M D := fun s => match fb s with
  | .ok _ s' => .ok .non s'
  | .ex c [d] s' => if c = 101 then .ok d s' else if c = 102 then .ok (.tup [.str "ratio", d]) s' else .bad
  | _ => .bad
theorem jet_part {X : Cx} {g : G} {tbs : List (Addr × Str)} {CT CR CN ga c Pt : Addr} {k : Nat} {dV kV doc pm cdv ct oc : Value} {an od : Option Addr} {osl : Array (Option Value)} {params : Arguments} {body : Expr} {scope : Scope} {p lpos pos : Pos} {fb : M Rv}
    (hK : X.K = g.K) (P : PartT X.K X.mg CT CR CN) (EN : ErrT X.K CT CR CN (g.cn 101) false true) (ER : ErrT X.K CT CR CN (g.cn 102) true false) (n1 : g.names 101 = [Str.ofString "part"]) (n2 : g.names 102 = [Str.ofString "part"])
    (hg : Gl X "_law_part") (hm : X.mg "_law_part" = some (.ref ga)) (hk : PySem.W.keepIn X.K (.ref ga) = true)
    (lk : X.K.lookup ga = some ⟨oc, od, .func (PySem.W.fnOf "_law_part" "_law_part" (defArgs s_part) (defBody s_part) (defScope s_part) dV kV doc pm an cdv ct), osl⟩) (hcg : PySem.W.codeIn X.K cdv "_law_part" = true) (hb : L2.Binds X.K (PySem.W.fnOf "_law_part" "_law_part" (defArgs s_part) (defBody s_part) (defScope s_part) dV kV doc pm an cdv ct) ["_law_ask"] [])
    (TB : LamX.TabB X.base X.mg c Pt) (hcode : X.env.code = .ref c) (hmT : (Pt, X.env.qual ++ "<lambda>") ∈ tbs) (hu : ∀ p ∈ tbs, p.1 = Pt → p.2 = X.env.qual ++ "<lambda>") (hr : Room (k + 2) X.A) (L : LamX.LamS X.env.scope scope) (hdef : defaultsOf params X.env = ([], []))
    (hbind : ∀ (q : Str) (cl : List (Str × Addr)) (pm cv ctv : Value), bindArgs (PySem.W.kla_fn "<lambda>" q params body scope cl pm cv ctv) ⟨[], []⟩ = pure [])
    (hbody : ∀ (A : Around) (outer : List Env) (s : Shared) (H : Hp) (E : XK) (f c' : Addr), Room k (A.deeper (LamX.lamEnv X scope s.heap.objs.size f c')) → ∀ T : Tx, JR (LamX.lamCx X A outer s H E scope f c') g T (fun cls d _ H => E cls d H) body fb) :
    JEt X g tbs (.Call (.Name "_law_part" p) [.Lambda params body scope lpos] [] pos) (mlamp fb) := by
  have base := LamX.pe_lamcall (X := X) (T := tbs) (TT := TTp X.K CT CR CN) (t := fun E σ H Q => ∃ T, RdM g (T.tmp [] []) (fun cls d _ H => E cls d H) (RvOk g (T.tmp [] [])) fb σ H Q) (p := p) (lpos := lpos) (pos := pos) hg hm hk lk hcg hb sc_part rfl (.inl rfl)
    (part_gives P) TB hcode hmT hu hr L hdef hbind (fun A outer s H E f c' hr' => TX.PE.ex fun T => hbody A outer s H E f c' hr' T [] [])
  refine PE.imp base fun σ H Q ⟨B, s, T, R, t, p0⟩ => ⟨t, fun H1 eN t1 Qn hQn => ?_⟩
  have R1 := rel_base R eN
  refine ⟨txS (noT B) H1 σ s, noT B, s, R1, ?_⟩
  unfold mlamp at p0
  cases e : fb s with
  | bad => rw [e] at p0; exact p0.elim
  | ok r s' =>
    rw [e] at p0
    exact fun v B' H' R' _ _ => hQn v H' (p0 .non B' H' _ R' (tabs_rel R1 t1 R') rfl)
  | ex c ds s' =>
    rw [e] at p0
    intro x B' H' R' _ hx
    have t' := tabs_rel R1 t1 R'
    match ds, p0, hx with
    | [d], p0, hx =>
      replace p0 : PostTE g tbs σ (if c = 101 then .ok d s' else if c = 102 then .ok (.tup [.str "ratio", d]) s' else .bad) Q := p0
      have gx : ∀ ex : Ex H' (upd H' 0 (.tup [])) ∨ True, True := fun _ => trivial
      rcases hx with hx | ⟨dx, fs, vs, ex, hdx, hvs, hfs⟩
      · cases hx
      · obtain ⟨u, r, rfl, hu', hr'⟩ := hvs
        cases hr'
        have cases2 : (c = 101 ∧ g.names c = [Str.ofString "part"]) ∨ (c = 102 ∧ g.names c = [Str.ofString "part"]) := by
          by_cases h1 : c = 101
          · exact .inl ⟨h1, by rw [h1]; exact n1⟩
          · by_cases h2 : c = 102
            · exact .inr ⟨h2, by rw [h2]; exact n2⟩
            · rw [if_neg h1, if_neg h2] at p0; exact p0.elim
        have hpart : fs.lookup (Str.ofString "part") = some u := by
          refine hfs 0 "part" u ?_ rfl
          rcases cases2 with ⟨_, z⟩ | ⟨_, z⟩ <;> rw [z] <;> rfl
        have grow : ∀ a o, H' a = none → LamX.Tabs tbs (upd H' a o) := fun a o na => t'.ext fun b ob hb => by rw [upd_ne (ne_of_none hb na)]; exact hb
        rcases cases2 with ⟨hc, _⟩ | ⟨hc, _⟩
        · subst hc
          rw [if_pos rfl] at p0
          refine ⟨g.cn 101, dx, fs, u, false, rfl, ex, R'.bh _ _ hdx, EN, hpart, fun a na => ⟨fun _ => ?_, fun z => nomatch z⟩⟩
          exact p0 u B' _ _ (R'.newH na) (grow a _ na) hu'
        · subst hc
          rw [if_neg (by decide), if_pos rfl] at p0
          refine ⟨g.cn 102, dx, fs, u, true, rfl, ex, R'.bh _ _ hdx, ER, hpart, fun a na => ⟨(fun z => nomatch z), fun _ q hq => ?_⟩⟩
          have R2 := R'.newH (o := xcv a (.ref (g.cn 102)) x) na
          obtain ⟨B3, R3, e3, h3⟩ := R2.newt (ds := [.str "ratio", d]) (vs := [.str "ratio", u]) hq (Dens.cons rfl (Dens.cons hu' Dens.nil))
          exact p0 _ B3 _ _ R3 ((grow a _ na).ext fun b ob hb => by rw [upd_ne (ne_of_none hb hq)]; exact hb) h3
    | [], p0, hx => exact p0.elim
    | _ :: _ :: _, p0, hx => exact p0.elim
end K01

set_option Elab.async false
set_option linter.all false
set_option autoImplicit false
set_option maxRecDepth 100000
set_option maxHeartbeats 2000000
namespace TW
open PySem PySem.Spec PyProof.Rows L2
variable {g : G} {T : Tx} {B B' H H' : Hp} {σ : L2.St} {s : S} {W : WX} {α β γ δ : Type} {P : PP α β}
variable {X : Cx} {e a b c tg iter elt : Expr} {es : List Expr} {pos : Pos}

/-! ## two operands, read once more -/
def mop2 (f : D → D → Option D) (oa ob : Opd) : M D := mbind (res oa) fun x => mbind (res ob) fun y => mopt (f x y)
theorem op2_post {f : D → D → Option D} {r : R2} {oa ob : Opd} {x y : V} {k : D → M γ} {PQ : PP γ δ} {Q : δ → Hp → Prop} {Q' : VK} (hr : ∀ (T : Tx) (B H : Hp) (σ : L2.St) (s : S) (x y : V) (dx dy d : D) (Q : VK), Rel g T B H σ s → DenW g B H dx x → DenW g B H dy y → f dx dy = some d →
    (∀ v B' H', Rel g T B' H' σ s → Ex B B' → Den g B' d v → Q v H') → r x y H Q) (R : Rel g T B H σ s) (qa : OpdOk g B σ oa x) (qb : OpdOk g B σ ob y) (p : PostM g T W PQ σ B (mbind (mop2 f oa ob) k s) Q)
    (hq : ∀ d v B' H', Rel g T B' H' σ s → Ex B B' → Den g B' d v → PostM g T W PQ σ B' (k d s) Q → Q' v H') : r x y H Q' := by
  unfold mop2 at p
  rcases res_cases (o := oa) (s := s) with ⟨dx, w1⟩ | w1
  · rcases res_cases (o := ob) (s := s) with ⟨dy, w2⟩ | w2
    · cases ef : f dx dy with
      | none =>
        exfalso
        have z : mbind (mbind (res oa) fun x => mbind (res ob) fun y => mopt (f x y)) k s = .bad := by
          unfold mbind; rw [w1]; dsimp only; rw [w2]; dsimp only; rw [ef]; rfl
        rw [z] at p; exact p
      | some d =>
        have z : mbind (mbind (res oa) fun x => mbind (res ob) fun y => mopt (f x y)) k s = k d s := by
          unfold mbind; rw [w1]; dsimp only; rw [w2]; dsimp only; rw [ef]; rfl
        rw [z] at p
        exact hr T B H σ s x y dx dy d Q' R (res_ok R qa w1).2 (res_ok R qb w2).2 ef fun v B' H' R' e' hd => hq d v B' H' R' e' hd (PostM.base e' p)
    · exfalso
      have z : mbind (mbind (res oa) fun x => mbind (res ob) fun y => mopt (f x y)) k s = .bad := by unfold mbind; rw [w1]; dsimp only; rw [w2]
      rw [z] at p; exact p
  · exfalso
    have z : mbind (mbind (res oa) fun x => mbind (res ob) fun y => mopt (f x y)) k s = .bad := by unfold mbind; rw [w1]
    rw [z] at p; exact p
/-! ## a < b < c -/
def mchain (f f' : D → D → Option D) (fa fb fc : M Opd) : M D := mbind fa fun oa => mbind fb fun ob => mbind (mop2 f oa ob) fun z => match z with
  | .bl k => if k = true then mbind fc fun oc => mbind (mop2 f' ob oc) mret else mret (.bl false)
  | _ => mbad
theorem chain_rd {f f' : D → D → Option D} {r r' : R2} {fa fb fc : M Opd} {Q : VK} (h2 : ∀ (T : Tx) (B H : Hp) (σ : L2.St) (s : S) (x y : V) (dx dy d : D) (Q : VK), Rel g T B H σ s → DenW g B H dx x → DenW g B H dy y → f dx dy = some d →
    (∀ v B' H', Rel g T B' H' σ s → Ex B B' → Den g B' d v → Q v H') → r x y H Q) (h2' : ∀ (T : Tx) (B H : Hp) (σ : L2.St) (s : S) (x y : V) (dx dy d : D) (Q : VK), Rel g T B H σ s → DenW g B H dx x → DenW g B H dy y → f' dx dy = some d →
    (∀ v B' H', Rel g T B' H' σ s → Ex B B' → Den g B' d v → Q v H') → r' x y H Q) (h : RdM g T W (PD g) (mchain f f' fa fb fc) σ H Q) : tChain r r' (RdM g T W (PO' g) fa) (RdM g T W (PO' g) fb) (RdM g T W (PO' g) fc) σ H Q := by
  obtain ⟨B, s, R, p⟩ := h
  refine (PostM.bind (P := PO' g) R p).mono fun x H1 ⟨oa, B1, s1, R1, e1, q1, p1⟩ => ?_
  refine (PostM.bind (P := PO' g) R1 p1).mono fun y H2 ⟨ob, B2, s2, R2, e2, q2, p2⟩ => ?_
  refine op2_post h2 R2 (q1.mono e2) q2 p2 fun d v B3 H3 R3 e3 hd p3 => ?_
  cases d with
  | bl k =>
    refine ⟨k, hd, ?_⟩
    cases k with
    | true =>
      refine (PostM.bind (P := PO' g) R3 p3).mono fun z H4 ⟨oc, B4, s4, R4, e4, q4, p4⟩ => ?_
      exact op2_post h2' R4 ((q2.mono e3).mono e4) q4 p4 fun d' v' B5 H5 R5 e5 hd' p5 => p5 v' B5 H5 R5 (Evl.Ex.refl _) hd'
    | false => exact p3 _ B3 H3 R3 (Evl.Ex.refl _) rfl
  | _ => exact p3.elim
theorem je_chain {op op' : CmpOp} {f f' : D → D → Option D} {fa fb fc : M Opd} (ho : OpD X g (compareOp op) f) (ho' : OpD X g (compareOp op') f') (ha : JO X g T W a fa) (hb : JO X g T W b fb) (hc : JO X g T W c fc)
    (hm : lastMarks [op, op'] [b, c] = false := by with_unfolding_all rfl) : JE X g T W (.Compare a [op, op'] [b, c] pos) (mchain f f' fa fb fc) := by
  obtain ⟨r, h1, h2⟩ := ho
  obtain ⟨r', h1', h2'⟩ := ho'
  exact fun τ t => PE.imp (pe_chain h1 h1' (ha τ t) (hb τ t) (hc τ t) hm) fun σ H Q h => chain_rd h2 h2' h
theorem jt_chain {op op' : CmpOp} {f f' : D → D → Option D} {fa fb fc : M Opd} (ho : OpD X g (compareOp op) f) (ho' : OpD X g (compareOp op') f') (ha : JO X g T W a fa) (hb : JO X g T W b fb) (hc : JO X g T W c fc)
    (hm : lastMarks [op, op'] [b, c] = false := by with_unfolding_all rfl) : JT X g T W (.Compare a [op, op'] [b, c] pos) (mbind (mchain f f' fa fb fc) tob) := by
  obtain ⟨r, h1, h2⟩ := ho
  obtain ⟨r', h1', h2'⟩ := ho'
  exact fun τ t => PT.imp (pt_chain h1 h1' (ha τ t) (hb τ t) (hc τ t) hm) fun σ H Q h => tob_rd (fun Q h => chain_rd h2 h2' h) h
/-! ## texts -/
def dInS (x y : D) : Option D := match x, y with
  | .str c, .str z => (match c.cps.toList with
    | [k] => some (.bl (decide (k ∈ z.cps.toList)))
    | _ => none)
  | _, _ => none
theorem o_inS : OpD X g (compareOp .In) dInS := ⟨_, op_in_sign, fun T B H σ s x y dx dy d Q R h1 h2 e q => by
  cases dx with
  | str c =>
    cases dy with
    | str z =>
      cases h1; cases h2
      have e' : (match c.cps.toList with
        | [k] => some (D.bl (decide (k ∈ z.cps.toList)))
        | _ => none) = some d := e
      match hc : c.cps.toList, e' with
      | [k], e' =>
        cases e'
        have ec : c = ⟨#[k]⟩ := by
          cases c with
          | mk cps =>
            have h : cps.toList = [k] := hc
            have : cps = #[k] := by rw [← Array.toArray_toList (xs := cps), h]
            rw [this]
        subst ec
        exact ⟨k, z, rfl, rfl, q _ B H R (Evl.Ex.refl _) rfl⟩
      | [], e' => cases e'
      | _ :: _ :: _, e' => cases e'
    | _ => cases e
  | _ => cases dy <;> cases e⟩
def dAddS (x y : D) : Option D := match x, y with
  | .str i, .str j => if i.length + j.length ≤ 100000 then some (.str (i ++ j)) else none
  | _, _ => none
theorem o_addS : OpD X g (binaryOp .Add) dAddS := ⟨_, op_add_str, fun T B H σ s x y dx dy d Q R h1 h2 e q => by
  cases dx with
  | str i =>
    cases dy with
    | str j =>
      cases h1; cases h2
      have e' : (if i.length + j.length ≤ 100000 then some (D.str (i ++ j)) else none) = some d := e
      by_cases hz : i.length + j.length ≤ 100000
      · rw [if_pos hz] at e'; cases e'
        exact ⟨i, j, rfl, rfl, Evl.sz_of hz, q _ B H R (Evl.Ex.refl _) rfl⟩
      · rw [if_neg hz] at e'; cases e'
    | _ => cases e
  | _ => cases dy <;> cases e⟩
def dAddX (x y : D) : Option D := match x with
  | .str _ => dAddS x y
  | _ => dAdd x y
theorem o_addX : OpD X g (binaryOp .Add) dAddX := by
  have h := OpD.or (g := g) (X := X) o_addS o_add
  obtain ⟨r, h1, h2⟩ := h
  refine ⟨r, h1, fun T B H σ s x y dx dy d Q R a1 a2 e q => h2 T B H σ s x y dx dy d Q R a1 a2 ?_ q⟩
  unfold dOr
  cases dx with
  | str i => rw [show dAddS (.str i) dy = some d from e]
  | _ => exact e
/-- one sign many times -/
def strRep (x : Str) (n : Nat) : Str := ⟨(List.replicate n x.cps).foldl (· ++ ·) #[]⟩
theorem foldl_app_size (a : Array Nat) : ∀ (n : Nat) (acc : Array Nat), ((List.replicate n a).foldl (· ++ ·) acc).size = acc.size + n * a.size
  | 0, acc => by simp
  | n + 1, acc => by rw [List.replicate_succ, List.foldl_cons, foldl_app_size a n]; simp [Nat.add_mul]; omega
theorem strRep_len (x : Str) (n : Nat) : (strRep x n).length = n * x.length := by
  show ((List.replicate n x.cps).foldl (· ++ ·) #[]).size = n * x.cps.size
  rw [foldl_app_size]; simp
def dRepS (x y : D) : Option D := match x, y with
  | .str x, .int n => if x.length = 1 ∧ n ≤ 1000 ∧ -1000 ≤ n then some (.str (if n < 1 then Str.empty else if n = 1 then x else strRep x n.toNat)) else none
  | _, _ => none
theorem op_repS : OpR X (binaryOp .Mult) (fun x y H Q => ∃ (z : Str) (n : Int), x = .str z ∧ y = .int n ∧ z.length = 1 ∧ n ≤ 1000 ∧ -1000 ≤ n ∧ Q (.str (if n < 1 then Str.empty else if n = 1 then z else strRep z n.toNat)) H) := by
  intro pins s σ H x y v u Q I rx ry h
  obtain ⟨z, n, rfl, rfl, h1, h2, h3, q⟩ := h
  obtain ⟨t, rfl⟩ := rx
  obtain ⟨t', rfl⟩ := ry
  refine PySem.P.mul_str (by rw [decide_eq_false (by omega), decide_eq_false (by omega)]; rfl) (fun hn hk => ?_) (fun hn hk => ?_) ?_
  · rw [h1]
    have h4 : (1 : Int) ≤ (2 ^ 63 - 1) / n := by
      rw [Int.le_ediv_iff_mul_le (by omega)]
      omega
    intro h5
    have : ((1 : Nat) : Int) = 1 := rfl
    omega
  · rw [h1, Nat.one_mul]
    have : n.toNat ≤ 1000 := by omega
    unfold Builtin.Str.tooLong
    first
    | (rw [decide_eq_false]; have := sizeLine_eq; omega)
    | (simp; have := sizeLine_eq; omega)
  · by_cases hn : n < 1
    · rw [if_pos hn] at q ⊢
      exact ⟨by show 0 ≤ sizeLine; omega, .str Str.empty, H, I.tok _, ⟨_, rfl⟩, q⟩
    · rw [if_neg hn] at q ⊢
      by_cases h1' : n = 1
      · subst h1'
        rw [if_pos rfl] at q
        exact ⟨.str z, H, I, ⟨t, rfl⟩, q⟩
      · rw [if_neg h1'] at q
        have hb : ¬ (n == 1 || z.length == 0) = true := by
          rw [h1]; simp [h1']
        rw [if_neg hb]
        refine ⟨?_, .str (strRep z n.toNat), H, I.tok _, ⟨_, rfl⟩, q⟩
        show (strRep z n.toNat).length ≤ sizeLine
        rw [strRep_len, h1]
        have := sizeLine_eq; omega
theorem o_repS : OpD X g (binaryOp .Mult) dRepS := ⟨_, op_repS, fun T B H σ s x y dx dy d Q R h1 h2 e q => by
  cases dx with
  | str z =>
    cases dy with
    | int n =>
      cases h1; cases h2
      have e' : (if z.length = 1 ∧ n ≤ 1000 ∧ -1000 ≤ n then some (D.str (if n < 1 then Str.empty else if n = 1 then z else strRep z n.toNat)) else none) = some d := e
      by_cases hz : z.length = 1 ∧ n ≤ 1000 ∧ -1000 ≤ n
      · rw [if_pos hz] at e'; cases e'
        exact ⟨z, n, rfl, rfl, hz.1, hz.2.1, hz.2.2, q _ B H R (Evl.Ex.refl _) rfl⟩
      · rw [if_neg hz] at e'; cases e'
    | _ => cases e
  | _ => cases dy <;> cases e⟩
/-- s[a:b] -/
def dSlS (d : D) (lo hi : Option Int) : Option D := match d with
  | .str z => if z.length ≤ 100000 then some (.str (cutS z lo hi)) else none
  | _ => none
def msliceS (fa : M Opd) (fl fh : M (Option Int)) : M D := mbind fa fun o => mbind fl fun lo => mbind fh fun hi => mbind (res o) fun d => mopt (dSlS d lo hi)
theorem je_sliceS {fa : M Opd} {fl fh : M (Option Int)} {lo hi : Option Expr} {p2 : Pos} (ha : JO X g T W a fa) (hl : JP X g T W lo fl) (hh : JP X g T W hi fh) : JE X g T W (.Subscript a (.Slice lo hi none p2) pos) (msliceS fa fl fh) :=
  fun τ t => PE.imp (pe_slice sl_str (ha τ t) (hl τ t) (hh τ t)) fun σ H Q ⟨B, s, R, p⟩ => (PostM.bind (P := PO' g) R p).mono fun x H1 ⟨o, B1, s1, R1, e1, q1, p1⟩ =>
    (PostM.bind (P := POpt) R1 p1).mono fun l H2 ⟨l', B2, s2, R2, e2, q2, p2⟩ => (PostM.bind (P := POpt) R2 p2).mono fun u H3 ⟨u', B3, s3, R3, e3, q3, p3⟩ => by
      subst q2; subst q3
      rcases res_cases (o := o) (s := s3) with ⟨d, w⟩ | w
      · rw [mbind_ok w] at p3
        have hd := (res_ok R3 ((q1.mono e2).mono e3) w).2
        cases d with
        | str z =>
          cases hd
          replace p3 : PostM g _ W (PD g) σ B3 (mopt (if z.length ≤ 100000 then some (.str (cutS z l u)) else none) s3) Q := p3
          by_cases hz : z.length ≤ 100000
          · rw [if_pos hz] at p3
            exact ⟨z, rfl, Evl.sz_of hz, p3 _ B3 H3 R3 (Evl.Ex.refl _) rfl⟩
          · rw [if_neg hz] at p3; exact p3.elim
        | _ => exact p3.elim
      · exfalso
        have z : mbind (res o) (fun d => mopt (dSlS d l u)) s3 = .bad := by unfold mbind; rw [w]
        rw [z] at p3; exact p3
end TW

set_option Elab.async false
set_option linter.all false
set_option autoImplicit false
set_option maxRecDepth 100000
set_option maxHeartbeats 2000000
namespace TW
open PySem PySem.Spec PyProof.Rows L2
variable {g : G} {T : Tx} {B B' H H' : Hp} {σ : L2.St} {s : S} {W : WX} {α β γ δ : Type} {P : PP α β}
variable {X : Cx} {e e2 a b c tg iter elt : Expr} {es : List Expr} {pos : Pos}

/-! ## zip -/
def zipW (xs ys : List D) : List D := List.zipWith (fun x y => D.tup [x, y]) xs ys
theorem zipW_get {xs ys : List D} {i : Nat} {d : D} (h : (zipW xs ys)[i]? = some d) : ∃ x y, xs[i]? = some x ∧ ys[i]? = some y ∧ d = .tup [x, y] := by
  unfold zipW at h
  rw [List.getElem?_zipWith] at h
  cases hx : xs[i]? with
  | none => rw [hx] at h; cases h
  | some x =>
    cases hy : ys[i]? with
    | none => rw [hx, hy] at h; cases h
    | some y => rw [hx, hy] at h; cases h; exact ⟨x, y, rfl, rfl, rfl⟩
theorem zipW_len (xs ys : List D) : (zipW xs ys).length = min xs.length ys.length := by unfold zipW; simp
theorem pair_den {B1 H1 : Hp} {q : Addr} {dx dy : D} {x y : V} (eB : Ex B1 H1) (hq : H1 q = none) (hx : Den g B1 dx x) (hy : Den g B1 dy y) : Den g (upd B1 q (.tup [x, y])) (.tup [dx, dy]) (.ref q) := by
  have en : Ex B1 (upd B1 q (.tup [x, y])) := Evl.Ex.new (Evl.fresh_back eB hq)
  exact ⟨q, [x, y], rfl, .inl (.inl upd_same), Dens.cons (hx.mono en) (Dens.cons (hy.mono en) Dens.nil)⟩
theorem Wk.zipL {K : PySem.W.Frag} (hK : K = g.K) {p q : Addr} {vs us : List V} {xs ys : List D} (h1 : SqL K B p vs) (hd1 : Dens g B xs vs) (h2 : SqL K B q us) (hd2 : Dens g B ys us) : Wk g B (Itz K p q) (zipW xs ys) where
  go := fun B' H' i e e' hi => by
    rw [zipW_len] at hi
    exact ⟨vs, us, vs[i]'(by rw [hd1.length]; omega), us[i]'(by rw [hd2.length]; omega), Evl.ex_l (e.trans e') h1, Evl.ex_l (e.trans e') h2, by simp [hd1.length] <;> omega, by simp [hd2.length] <;> omega⟩
  stop := fun B' H' e e' => ⟨vs, us, Evl.ex_l (e.trans e') h1, Evl.ex_l (e.trans e') h2, by rw [zipW_len, hd1.length, hd2.length]; omega⟩
  yld := fun B' H' i d x H2 e e' hi hy => by
    obtain ⟨q0, x0, y0, rfl, hn, rfl, k1, k2⟩ := hy
    obtain ⟨dx, dy, g1, g2, rfl⟩ := zipW_get hi
    obtain ⟨v1, w1, z1⟩ := hd1.get g1
    obtain ⟨v2, w2, z2⟩ := hd2.get g2
    have j1 := k1 vs (Evl.ex_l (e.trans e') h1)
    have j2 := k2 us (Evl.ex_l (e.trans e') h2)
    rw [w1] at j1; cases j1
    rw [w2] at j2; cases j2
    exact .inr ⟨q0, _, hn, rfl, pair_den e' hn (z1.mono e) (z2.mono e)⟩
theorem Wk.zipT {K : PySem.W.Frag} (hK : K = g.K) {p q : Addr} {vs us : List V} {xs ys : List D} (h1 : SqT K B p vs) (hd1 : Dens g B xs vs) (h2 : SqT K B q us) (hd2 : Dens g B ys us) : Wk g B (RZ.ItzT K p q) (zipW xs ys) where
  go := fun B' H' i e e' hi => by
    rw [zipW_len] at hi
    exact ⟨vs, us, vs[i]'(by rw [hd1.length]; omega), us[i]'(by rw [hd2.length]; omega), Evl.ex_t (e.trans e') h1, Evl.ex_t (e.trans e') h2, by simp [hd1.length] <;> omega, by simp [hd2.length] <;> omega⟩
  stop := fun B' H' e e' => ⟨vs, us, Evl.ex_t (e.trans e') h1, Evl.ex_t (e.trans e') h2, by rw [zipW_len, hd1.length, hd2.length]; omega⟩
  yld := fun B' H' i d x H2 e e' hi hy => by
    obtain ⟨q0, x0, y0, rfl, hn, rfl, k1, k2⟩ := hy
    obtain ⟨dx, dy, g1, g2, rfl⟩ := zipW_get hi
    obtain ⟨v1, w1, z1⟩ := hd1.get g1
    obtain ⟨v2, w2, z2⟩ := hd2.get g2
    have j1 := k1 vs (Evl.ex_t (e.trans e') h1)
    have j2 := k2 us (Evl.ex_t (e.trans e') h2)
    rw [w1] at j1; cases j1
    rw [w2] at j2; cases j2
    exact .inr ⟨q0, _, hn, rfl, pair_den e' hn (z1.mono e) (z2.mono e)⟩
def lstD : D → Option (List D)
  | .lst ds => some ds
  | .arg ds => some ds
  | _ => none
theorem lstD_den (hK : X.K = g.K) {d : D} {ds : List D} {v : V} (e : lstD d = some ds) (h : Den g B d v) : ∃ p vs, v = .ref p ∧ SqL X.K B p vs ∧ Dens g B ds vs := by
  cases d with
  | lst es => cases e; obtain ⟨p, vs, rfl, k1, k2⟩ := h; exact ⟨p, vs, rfl, .inl (.inl k1), k2⟩
  | arg es => cases e; obtain ⟨p, vs, rfl, k1, k2⟩ := h; exact ⟨p, vs, rfl, by rw [hK]; exact k1, k2⟩
  | _ => cases e
def zipD (x y : D) : Option (List D) := match x, y with
  | .tup xs, .tup ys => some (zipW xs ys)
  | x, y => match lstD x, lstD y with
    | some xs, some ys => some (zipW xs ys)
    | _, _ => none
def mzip (fa fb : M Opd) : M (List D) := mbind (mbind fa strong) fun x => mbind (mbind fb strong) fun y => mopt (zipD x y)
theorem ji_zip {elts : List Expr} {kk : Nat} {p tpos : Pos} {fa fb : M Opd} (hK : X.K = g.K) (hg : Gl X "zip") (hm : X.mg "zip" = none) (ha : JO X g T W e fa) (hb : JO X g T W e2 fb)
    (hs : starEach [e, e2] X.env = (false, eval e X.env) :: starEach [e2] X.env := by rfl) (hs2 : starEach [e2] X.env = (false, eval e2 X.env) :: starEach [] X.env := by rfl) (hpl : (backTo pos (starEach [e2] X.env)).any (·.1) = false := by rfl) :
    JI X g T W (.Tuple elts kk tpos) (.Call (.Name "zip" p) [e, e2] [] pos) (mzip fa fb) := fun τ t =>
  PI.imp (RZ.pi_zipA hg hm (pa_cons (je_of ha τ t) (pa_cons (je_of hb τ t) pa_nil hs2) hs) hs hpl) fun σ H R ⟨B, s, Rl, p⟩ => by
    refine (PostM.bind (P := PD g) Rl p).mono fun x H1 ⟨dx, B1, s1, R1, e1, q1, p1⟩ => ?_
    refine (PostM.bind (P := PD g) R1 p1).mono fun y H2 ⟨dy, B2, s2, R2, e2, q2, p2⟩ => ?_
    have q1' := q1.mono e2
    cases ez : zipD dx dy with
    | none => rw [ez] at p2; exact p2.elim
    | some ds =>
      rw [ez] at p2
      have tail : ∀ xs ys, lstD dx = some xs → lstD dy = some ys → ds = zipW xs ys → ∃ a b vs us, [x, y] = [V.ref a, V.ref b] ∧ ((SqL X.K H2 a vs ∧ SqL X.K H2 b us ∧ R (Itz X.K a b) H2) ∨ (SqT X.K H2 a vs ∧ SqT X.K H2 b us ∧ R (RZ.ItzT X.K a b) H2)) := fun xs ys w1 w2 ed => by
        obtain ⟨a1, vs, rfl, k1, k2⟩ := lstD_den hK w1 q1'
        obtain ⟨b1, us, rfl, k3, k4⟩ := lstD_den hK w2 q2
        subst ed
        exact ⟨a1, b1, vs, us, rfl, .inl ⟨Evl.ex_l R2.bh k1, Evl.ex_l R2.bh k3, p2 _ B2 H2 R2 (Evl.Ex.refl _) (Wk.zipL hK k1 k2 k3 k4)⟩⟩
      cases dx with
      | tup xs =>
        cases dy with
        | tup ys =>
          cases ez
          obtain ⟨a1, vs, rfl, k1, k2⟩ := q1'
          obtain ⟨b1, us, rfl, k3, k4⟩ := q2
          rw [← hK] at k1 k3
          exact ⟨a1, b1, vs, us, rfl, .inr ⟨Evl.ex_t R2.bh k1, Evl.ex_t R2.bh k3, p2 _ B2 H2 R2 (Evl.Ex.refl _) (Wk.zipT hK k1 k2 k3 k4)⟩⟩
        | _ => cases ez
      | lst xs =>
        cases dy with
        | lst ys => cases ez; exact tail _ _ rfl rfl rfl
        | arg ys => cases ez; exact tail _ _ rfl rfl rfl
        | _ => cases ez
      | arg xs =>
        cases dy with
        | lst ys => cases ez; exact tail _ _ rfl rfl rfl
        | arg ys => cases ez; exact tail _ _ rfl rfl rfl
        | _ => cases ez
      | _ => cases dy <;> cases ez
/-! ## xs[::-1] -/
def mrev (fa : M Opd) : M Rv := mbind fa fun o => mbind (res o) fun d => mopt ((lstD d).map fun ds => .l ds.reverse)
theorem jr_rev {fa : M Opd} {k : Nat} {p1 p2 p3 : Pos} (hK : X.K = g.K) (ha : JO X g T W a fa) : JR X g T W (.Subscript a (.Slice none none (some (.UnaryOp .USub (.Constant (.int 1) k p1) p2)) p3) pos) (mrev fa) :=
  fun τ t => PE.imp (pe_revL (ha τ t)) fun σ H Q ⟨B, s, R, p⟩ => (PostM.bind (P := PO' g) R p).mono fun x H1 ⟨o, B1, s1, R1, e1, q1, p1⟩ => by
    rcases res_cases (o := o) (s := s1) with ⟨d, w⟩ | w
    · rw [mbind_ok w] at p1
      have hd := (res_ok R1 q1 w).2
      cases d with
      | lst ds =>
        obtain ⟨b, vs, rfl, k1, k2⟩ := hd
        refine ⟨b, vs, rfl, .inl (.inl k1), fun q hq => ?_⟩
        obtain ⟨R', r⟩ := R1.newl hq k2.reverse
        exact p1 _ B1 _ R' (Evl.Ex.refl _) r
      | arg ds =>
        obtain ⟨b, vs, rfl, k1, k2⟩ := hd
        refine ⟨b, vs, rfl, by rw [hK]; exact Evl.ex_l R1.bh k1, fun q hq => ?_⟩
        obtain ⟨R', r⟩ := R1.newl hq k2.reverse
        exact p1 _ B1 _ R' (Evl.Ex.refl _) r
      | _ => exact p1.elim
    · exfalso
      have z : mbind (res o) (fun d => mopt ((lstD d).map fun ds => Rv.l ds.reverse)) s1 = .bad := by unfold mbind; rw [w]
      rw [z] at p1; exact p1
/-! ## x in a list, its place -/
def dInL (x y : D) : Option D := match toPy x, toPy y with
  | some p, some (.list ps) => if SeqAt.shaped p = true ∧ SeqAt.shaped (.list ps) = true then some (.bl (ps.any fun z => PyData.eqv z p)) else none
  | _, _ => none
theorem o_inL (hK : X.K = g.K) (hu : X.A.units + 65 < cLine) : OpD X g (compareOp .In) dInL := ⟨_, op_inD hu, fun T B H σ s x y dx dy d Q R h1 h2 e q => by
  unfold dInL at e
  cases e1 : toPy dx with
  | none => rw [e1] at e; cases e
  | some p =>
    cases e2 : toPy dy with
    | none => rw [e1, e2] at e; cases e
    | some p2 =>
      rw [e1, e2] at e
      cases p2 with
      | list ps =>
        replace e : (if SeqAt.shaped p = true ∧ SeqAt.shaped (.list ps) = true then some (D.bl (ps.any fun z => PyData.eqv z p)) else none) = some d := e
        by_cases hs : SeqAt.shaped p = true ∧ SeqAt.shaped (.list ps) = true
        · rw [if_pos hs] at e; cases e
          exact ⟨p, ps, dpw_of hK R.bh e1 h1, dpw_of hK R.bh e2 h2, hs.1, hs.2, q _ B H R (Evl.Ex.refl _) rfl⟩
        · rw [if_neg hs] at e; cases e
      | _ => cases e⟩
def findP (ps : List PyData) (p : PyData) : Option Nat := ps.findIdx? fun z => PyData.eqv z p
def dPlace (x y : D) : Option D := match toPy x, toPy y with
  | some (.list ps), some p => if SeqAt.shaped p = true ∧ SeqAt.shaped (.list ps) = true then (findP ps p).map fun j => .int (j : Int) else none
  | _, _ => none
def mplace (fo : M Opd) (fe : M Opd) : M D := mbind fo fun o => mbind (mbind (res o) fun x0 => mopt (lstD x0)) fun _ => mbind fe fun oe => mop2 dPlace o oe
theorem je_place {o : Expr} {apos cpos : Pos} {fo fe : M Opd} (hK : X.K = g.K) (hu : X.A.units + 65 < cLine) (ho : JO X g T W o fo) (he : JO X g T W e fe)
    (hbase : attributeBase o "index" X.env (eval o X.env) = eval o X.env := by rfl)
    (hfew : ((backTo cpos (starEach [e] X.env)).all (fun x => !x.1) && (backToKw cpos (keywordEach [] X.env)).all (fun x => x.1.isSome) && decide ([e].length + ([] : List Keyword).length + (if ([] : List Keyword).isEmpty then 0 else 1) < 30)) = true := by rfl)
    (hline : (apos.endLine == cpos.line) = true := by rfl) (hs : starEach [e] X.env = (false, eval e X.env) :: starEach [] X.env := by rfl) :
    JE X g T W (.Call (.Attribute o "index" apos) [e] [] cpos) (mplace fo fe) :=
  fun τ t => PE.imp (pe_bm PySem.F.plainAttrs_list PySem.F.slot_list_index PySem.F.type_list_index (mt_indexD hu) (ho τ t) (pa_cons (he τ t) pa_nil hs) hbase hfew hline hs rfl) fun σ H Q ⟨B, s, R, p⟩ => by
    refine (PostM.bind (P := PO' g) R p).mono fun x H1 ⟨oo, B1, s1, R1, e1, q1, p1⟩ => ?_
    rcases res_cases (o := oo) (s := s1) with ⟨dx, w⟩ | w
    · cases el : lstD dx with
      | none =>
        exfalso
        have z : mbind (mbind (res oo) fun x0 => mopt (lstD x0)) (fun _ => mbind fe fun oe => mop2 dPlace oo oe) s1 = .bad := by unfold mbind; rw [w]; dsimp only; rw [el]; rfl
        rw [z] at p1; exact p1
      | some ds =>
        have z : mbind (mbind (res oo) fun x0 => mopt (lstD x0)) (fun _ => mbind fe fun oe => mop2 dPlace oo oe) s1 = mbind fe (fun oe => mop2 dPlace oo oe) s1 := by unfold mbind; rw [w]; dsimp only; rw [el]; rfl
        rw [z] at p1
        have hd := (res_ok R1 q1 w).2
        have ty : ∃ a vs, x = .ref a ∧ SqL X.K H1 a vs := by
          cases dx with
          | lst es => obtain ⟨a, vs, rfl, k1, _⟩ := hd; exact ⟨a, vs, rfl, .inl (.inl k1)⟩
          | arg es => obtain ⟨a, vs, rfl, k1, _⟩ := hd; exact ⟨a, vs, rfl, by rw [hK]; exact Evl.ex_l R1.bh k1⟩
          | _ => cases el
        obtain ⟨a, vs, rfl, hS⟩ := ty
        refine ⟨.inl ⟨rfl, vs, hS⟩, (PostM.bind (P := PO' g) R1 p1).mono fun y H2 ⟨oe, B2, s2, R2, e2, q2, p2⟩ => ?_⟩
        unfold mop2 at p2
        rcases res_cases (o := oo) (s := s2) with ⟨d1, w1⟩ | w1
        · rw [mbind_ok w1] at p2
          rcases res_cases (o := oe) (s := s2) with ⟨d2, w2⟩ | w2
          · rw [mbind_ok w2] at p2
            have hd1 := (res_ok R2 (q1.mono e2) w1).2
            have hd2 := (res_ok R2 q2 w2).2
            unfold dPlace at p2
            cases t1 : toPy d1 with
            | none => rw [t1] at p2; exact p2.elim
            | some pp =>
              cases t2 : toPy d2 with
              | none =>
                rw [t1, t2] at p2
                cases pp <;> exact p2.elim
              | some pd =>
                rw [t1, t2] at p2
                cases pp with
                | list ps =>
                  replace p2 : PostM g _ W (PD g) σ B2 (mopt (if SeqAt.shaped pd = true ∧ SeqAt.shaped (.list ps) = true then (findP ps pd).map fun j => D.int (j : Int) else none) s2) Q := p2
                  by_cases hsh : SeqAt.shaped pd = true ∧ SeqAt.shaped (.list ps) = true
                  · rw [if_pos hsh] at p2
                    cases hf : findP ps pd with
                    | none => rw [hf] at p2; exact p2.elim
                    | some j =>
                      rw [hf] at p2
                      obtain ⟨hj, h1, h2⟩ := List.findIdx?_eq_some_iff_getElem.mp hf
                      refine ⟨a, y, pd, ps, j, ps[j], rfl, rfl, dpw_of hK R2.bh t1 hd1, dpw_of hK R2.bh t2 hd2, hsh.2, hsh.1, by simp [hj], h1, fun m z' hm hz => ?_, p2 _ B2 H2 R2 (Evl.Ex.refl _) rfl⟩
                      have hml : m < ps.length := by omega
                      have := h2 m hm
                      rw [List.getElem?_eq_getElem hml] at hz
                      cases hz
                      simpa using this
                  · rw [if_neg hsh] at p2; exact p2.elim
                | _ => exact p2.elim
          · exfalso
            have z : mbind (res oe) (fun y => mopt (dPlace d1 y)) s2 = .bad := by unfold mbind; rw [w2]
            rw [z] at p2; exact p2
        · exfalso
          have z : mbind (res oo) (fun x => mbind (res oe) fun y => mopt (dPlace x y)) s2 = .bad := by unfold mbind; rw [w1]
          rw [z] at p2; exact p2
    · exfalso
      have z : mbind (mbind (res oo) fun x0 => mopt (lstD x0)) (fun _ => mbind fe fun oe => mop2 dPlace oo oe) s1 = .bad := by unfold mbind; rw [w]
      rw [z] at p1; exact p1
end TW

set_option Elab.async false
set_option linter.all false
set_option autoImplicit false
set_option maxRecDepth 100000
set_option maxHeartbeats 2000000
namespace TW
open PySem PySem.Spec PyProof.Rows L2
variable {g : G} {T : Tx} {B B' H H' : Hp} {σ : L2.St} {s : S} {W : WX} {α β γ δ : Type} {P : PP α β}
variable {X : Cx} {e e2 a b c tg iter elt : Expr} {es : List Expr} {pos : Pos}

/-! ## list(s), str(n) -/
theorem call_listS (hc : X.calm = true) : CallR X (.type "list") (fun xs H Q => ∃ z : Str, xs = [.str z] ∧ z.length ≤ sizeLine ∧ ∀ q, H q = none → Q (.ref q) (upd H q (.lst (z.cps.toList.map fun k => V.str ⟨#[k]⟩)))) := by
  intro pins s σ H xs us Q I r h
  obtain ⟨z, rfl, hz, q⟩ := h
  obtain ⟨u, rfl, ru⟩ := Vals.one r
  obtain ⟨t, rfl⟩ := ru
  refine call_list_str (I.ok.hd hc) z t (fun h' tk acc c' hk e hi => ?_) hz
  refine ⟨.ref s.heap.objs.size, upd H s.heap.objs.size (.lst (z.cps.toList.map fun k => V.str ⟨#[k]⟩)), I.laid hk (Nat.le_refl _) ⟨by rw [List.length_map, Array.length_toList]; exact hz, acc.toList, c', ?_, by rw [Array.toArray_toList]; exact e⟩, rfl, q _ (I.hok.fresh (Nat.le_refl _))⟩
  refine vals_of_idx _ _ (by rw [List.length_map, Array.length_toList, Array.length_toList]; exact hi.1) fun j u hj => ?_
  obtain ⟨k, tt, hk2, rfl⟩ := hi.2 j u (by rw [← Array.getElem?_toList]; exact hj)
  exact ⟨.str ⟨#[k]⟩, by rw [List.getElem?_map, Array.getElem?_toList, hk2]; rfl, ⟨_, rfl⟩⟩
def lstOfS : D → Option Rv
  | .str z => if z.length ≤ 100000 then some (.l (strItems z)) else none
  | _ => none
theorem o_listS (hc : X.calm = true) : CbD X g (.type "list") (on1 lstOfS) := cb1 (call_listS hc) fun T B H σ s v d o Q R h e q => by
  cases d with
  | str z =>
    cases h
    have e' : (if z.length ≤ 100000 then some (Rv.l (strItems z)) else none) = some o := e
    by_cases hz : z.length ≤ 100000
    · rw [if_pos hz] at e'; cases e'
      refine ⟨z, rfl, Evl.sz_of hz, fun p hp => ?_⟩
      have hd : Dens g B (strItems z) (z.cps.toList.map fun k => V.str ⟨#[k]⟩) := by
        unfold strItems
        generalize z.cps.toList = l
        induction l with
        | nil => exact Dens.nil
        | cons k l ih => exact Dens.cons rfl ih
      obtain ⟨R', r⟩ := R.newl hp hd
      exact q _ B _ R' (Evl.Ex.refl _) r
    · rw [if_neg hz] at e'; cases e'
  | _ => cases e
def strOf : D → Option Rv
  | .int i => if i.natAbs.log2 < 1920 then some (.v (.str (toString i))) else none
  | _ => none
theorem o_str : CbD X g (.type "str") (on1 strOf) := cb1 call_str_int fun T B H σ s v d o Q R h e q => by
  cases d with
  | int i =>
    cases h
    have e' : (if i.natAbs.log2 < 1920 then some (Rv.v (.str (toString i))) else none) = some o := e
    by_cases hz : i.natAbs.log2 < 1920
    · rw [if_pos hz] at e'; cases e'
      exact ⟨i, rfl, hz, q _ B H R (Evl.Ex.refl _) rfl⟩
    · rw [if_neg hz] at e'; cases e'
  | _ => cases e
/-! ## True - False -/
def dSubB (x y : D) : Option D := match x, y with
  | .bl p, .bl q => some (.int (b2i p - b2i q))
  | _, _ => none
theorem op_subB : OpR X (binaryOp .Sub) (fun x y H Q => ∃ p q, x = .bl p ∧ y = .bl q ∧ Q (.int (b2i p - b2i q)) H) := by
  intro pins s σ H x y v u Q I rx ry h
  obtain ⟨p, q, rfl, rfl, k⟩ := h
  cases rx
  cases ry
  exact sub_bool ⟨.int _, H, I.tok _, ⟨_, rfl⟩, k⟩
theorem o_subB : OpD X g (binaryOp .Sub) dSubB := ⟨_, op_subB, fun T B H σ s x y dx dy d Q R h1 h2 e q => by
  cases dx with
  | bl p =>
    cases dy with
    | bl k => cases h1; cases h2; cases e; exact ⟨p, k, rfl, rfl, q _ B H R (Evl.Ex.refl _) rfl⟩
    | _ => cases e
  | _ => cases dy <;> cases e⟩
/-! ## a power of a great number -/
abbrev cPowB : Int → Int → Bool := fun i j => decide (0 ≤ j) && decide ((Builtin.Int.intBits i : Int) * j ≤ 2 ^ 27)
abbrev dPowB := dInt2 cPowB (fun i j => i ^ j.toNat)
theorem op_powB : OpR X (binaryOp .Pow) (rI (fun i j => 0 ≤ j ∧ (Builtin.Int.intBits i : Int) * j ≤ 2 ^ 27) fun i j => .int (i ^ j.toNat)) := opI fun _ _ _ _ _ _ _ hc q => pow_int hc.1 hc.2 q
theorem o_powB : OpD X g (binaryOp .Pow) dPowB := opd_int op_powB fun _ _ h => by
  have := Bool.and_eq_true_iff.mp h
  exact ⟨of_decide_eq_true this.1, of_decide_eq_true this.2⟩
/-! ## dicts written, never read -/
theorem je_dct0 : JE X g T W (.Dict [] [] pos) (mret .dct) := fun τ t => PE.imp pe_dnewK fun σ H Q ⟨B, s, R, p⟩ => fun q hq => p (.ref q) _ _ (R.new hq) (Evl.Ex.new (Evl.fresh_back R.bh hq)) ⟨q, [], rfl, upd_same⟩
theorem dct_new {q : Addr} {m : List (Key × V)} (R : Rel g T B H σ s) (hq : H q = none) : Rel g T (upd B q (.dK m)) (upd (upd H q (.dK [])) q (.dK m)) σ s := by
  have e : upd (upd H q (.dK [])) q (.dK m) = upd H q (.dK m) := upd_upd
  rw [e]; exact R.new hq
/-- {c: n} -/
theorem je_dctC {ke ve : Expr} {k : Key} {v : V} (hk : PE X ke (tC (kV k))) (hv : PE X ve (tC v)) : JE X g T W (.Dict [some ke] [ve] pos) (mret .dct) := fun τ t =>
  PE.imp (pe_disp (pps_cons hk hv pps_nil) rfl rfl (fun z => by cases z) (Nat.le_of_ble_eq_true rfl)) fun σ H Q ⟨B, s, R, p⟩ => fun q hq =>
    ⟨upd_same, [(k, v)], rfl, Nat.le_of_ble_eq_true rfl, p (.ref q) _ _ (dct_new R hq) (Evl.Ex.new (Evl.fresh_back R.bh hq)) ⟨q, _, rfl, upd_same⟩⟩
/-- {c: x}, x a name -/
theorem je_dctV {ke ve : Expr} {k : Key} {i : Nat} (hk : PE X ke (tC (kV k))) (hv : PE X ve (tVar i)) : JE X g T W (.Dict [some ke] [ve] pos) (mbind (mvar i) fun _ => mret .dct) := fun τ t =>
  PE.imp (pe_disp (pps_cons hk hv pps_nil) rfl rfl (fun z => by cases z) (Nat.le_of_ble_eq_true rfl)) fun σ H Q ⟨B, s, R, p⟩ => fun q hq => by
    cases hx : s[i]? with
    | none =>
      have z : mbind (mvar i) (fun _ => mret D.dct) s = .bad := by unfold mbind mvar; dsimp only; rw [hx]
      rw [z] at p; exact p.elim
    | some x =>
      have key : ∀ v, σ[i]? = some (some v) → PostM g (T.tmp τ t) W (PD g) σ B (.ok .dct s) Q → tPairs [(tC (kV k), tVar i)] σ (upd H q (.dK [])) fun ps H2 => H2 q = some (.dK []) ∧ ∃ kvs : List (Key × V), ps = kvs.map (fun kv => (kV kv.1, kv.2)) ∧ kvs.length ≤ 15 ∧ Q (.ref q) (upd H2 q (.dK (mergeK [] kvs))) :=
        fun v hv p => ⟨v, hv, upd_same, [(k, v)], rfl, Nat.le_of_ble_eq_true rfl, p (.ref q) _ _ (dct_new R hq) (Evl.Ex.new (Evl.fresh_back R.bh hq)) ⟨q, _, rfl, upd_same⟩⟩
      have zz : x ≠ .no → mbind (mvar i) (fun _ => mret D.dct) s = .ok .dct s := fun hn => by
        unfold mbind mvar; dsimp only; rw [hx]
        cases x with
        | no => exact absurd rfl hn
        | _ => rfl
      cases x with
      | no =>
        have z : mbind (mvar i) (fun _ => mret D.dct) s = .bad := by unfold mbind mvar; dsimp only; rw [hx]
        rw [z] at p; exact p.elim
      | v d => rw [zz (fun z => by cases z)] at p; obtain ⟨v, hv, _⟩ := R.getv hx; exact key v hv p
      | l ds => rw [zz (fun z => by cases z)] at p; obtain ⟨a, vs, hv, _⟩ := R.getl hx; exact key _ hv p
      | o c ds => rw [zz (fun z => by cases z)] at p; obtain ⟨a, dx, vs, hv, _⟩ := R.geto hx; exact key _ hv p
/-! ## f(c = .., b = .., a = ..): by keywords, the last parameter first -/
theorem PAs.reverse {os : List Opd} {vs : List V} (h : PAs g σ s os B H vs) : PAs g σ s os.reverse B H vs.reverse := by
  obtain ⟨h1, h2⟩ := h
  refine ⟨by simp [h1], fun i o v e1 e2 => ?_⟩
  have i1 : i < os.length := by have := (List.getElem?_eq_some_iff.mp e1).1; simpa using this
  rw [List.getElem?_reverse i1] at e1
  rw [List.getElem?_reverse (by omega)] at e2
  exact h2 _ o v e1 (by rw [h1]; exact e2)
def mrevA (fa : M (List Opd)) : M (List Opd) := mbind fa fun os => mret os.reverse
theorem jk_rev {kws : List Keyword} {fa : M (List Opd)} (h : JK X g T W kws fa) : ∀ τ t, PK X kws (fun σ H Q => RdM g (T.tmp τ t) W (PAs g) (mrevA fa) σ H fun vs H1 => Q vs.reverse H1) := fun τ t =>
  PK.imp (h τ t) fun σ H Q ⟨B, s, R, p⟩ => (PostM.bind (P := PAs g) R p).mono fun vs H1 ⟨os, B1, s1, R1, e1, q1, p1⟩ => by
    have : Q vs.reverse.reverse H1 := p1 vs.reverse B1 H1 R1 (Evl.Ex.refl _) q1.reverse
    rwa [List.reverse_reverse] at this
/-- the def named x binds its keywords told backwards, too -/
structure ClR (P : Program) (w : World) (g : G) (base : Heap) (k : Nat) (x : Str) (ps : List Str) (f : Fd) : Prop where
  ex : ∃ (a : Addr) (fd : FuncData), FnOk P w g.K g.mg base (L2.CX P w) k a fd ps (spD g f) ∧ g.mg x = some (.ref a) ∧ PySem.W.keepIn g.K (.ref a) = true ∧ ∀ (us : List Value), us.length = ps.length → ∀ s : Shared, BindsTo s fd ⟨[], ps.reverse.zip us⟩ (ps.zip us.reverse)
theorem pe_callKR {CX : CXT} {k : Nat} {f : Addr} {fd : FuncData} {ps : List Str} {sp : Sp} {E : L2.St → XK} {x : Str} {p : Pos} {kws : List Keyword} {t : TA} (F : FnOk X.prog X.w X.K X.mg X.base CX k f fd ps sp) (hr : Room k X.A) (hg : Gl X x) (hm : X.mg x = some (.ref f)) (hk : PySem.W.keepIn X.K (.ref f) = true)
    (hb : ∀ (us : List Value), us.length = ps.length → ∀ s : Shared, BindsTo s fd ⟨[], ps.reverse.zip us⟩ (ps.zip us.reverse)) (hx : ∀ σ, PassesAt CX X σ (E σ)) (hkw : PK X kws (fun σ H Q => t σ H fun vs H1 => Q vs.reverse H1)) (hall : (backToKw pos (keywordEach kws X.env)).all (·.1.isSome) = true := by rfl) (hks : (backToKw pos (keywordEach kws X.env)).filterMap (·.1) = ps.reverse := by rfl)
    (hdb : (x == ("__debug__" : Str)) = false := by decide) (hpl : ((backTo pos (starEach [] X.env)).any (·.1) || (backToKw pos (keywordEach kws X.env)).any (·.1.isNone)) = false := by rfl) :
    PE X (.Call (.Name x p) [] kws pos) (tCallSD sp [] E t) := by
  refine ⟨fun pins s σ H Q I h => wpAny_Call_Name_kw (ld_glob I hg hm ?_ hdb)⟩
  refine PySem.W.callWith_KW0 (h₀ := X.base) I.ok.mod.kin hk hall ?_ hpl
  refine thn (hkw.run pos pins s σ H (fun vs H1 => sp (vs.reverse ++ []) H1 Q (E σ)) I ?_) fun ws s2 ⟨zs, H2, I2, rz, q2⟩ => ⟨I2.kIn, ?_⟩
  · have h' : t σ H fun vs H1 => sp (vs ++ []) H1 Q (E σ) := h
    simpa using h'
  rw [hks]
  replace q2 : sp (zs.reverse ++ []) H2 Q (E σ) := q2
  rw [List.append_nil] at q2
  have rz' : Vals zs.reverse ws.reverse := by
    have key : ∀ {xs : List V} {us : List Value}, Vals xs us → Vals xs.reverse us.reverse := fun {xs us} r => by
      induction r with
      | nil => exact .nil
      | cons r1 r2 ih => rw [List.reverse_cons, List.reverse_cons]; exact ih.append (.cons r1 .nil)
    exact key rz
  have hl : ws.length = ps.length := by rw [← rz.length]; have := F.len _ _ _ _ q2; simpa using this
  refine wpAny_call (codeAny_mono (F.run X.A X.stack s2 H2 ⟨[], ps.reverse.zip ws⟩ ws.reverse zs.reverse Q (E σ) hr I2.env0 (hb ws hl s2) rz' q2) fun r s' hq => ?_)
  cases r with
  | error e => exact hx σ pins H2 s2 e s' I2 hq
  | ok fl =>
    cases fl with
    | ret u => exact I2.after hq
    | next => exact hq.elim
    | brk => exact hq.elim
    | cont => exact hq.elim
theorem jr_callKR {k j : Nat} {x : Str} {ps : List Str} {f : Fd} {fa : M (List Opd)} {p : Pos} {kws : List Keyword} (c : ClR X.prog X.w g X.base k x ps f) (hr : Room j X.A) (hk : k ≤ j) (hK : X.K = g.K) (hmg : X.mg = g.mg) (hg : Gl X x) (tk : Takes X W) (ha : JK X g T W kws fa)
    (hall : (backToKw pos (keywordEach kws X.env)).all (·.1.isSome) = true := by rfl) (hks : (backToKw pos (keywordEach kws X.env)).filterMap (·.1) = ps.reverse := by rfl)
    (hdb : (x == ("__debug__" : Str)) = false := by decide) (hpl : ((backTo pos (starEach [] X.env)).any (·.1) || (backToKw pos (keywordEach kws X.env)).any (·.1.isNone)) = false := by rfl) :
    JR X g T W (.Call (.Name x p) [] kws pos) (mcall f [] (mrevA fa)) := by
  obtain ⟨a, fd, F, hm, kp, b⟩ := c
  rw [← hK, ← hmg] at F
  rw [← hmg] at hm
  rw [← hK] at kp
  exact fun τ t => PE.imp (pe_callKR (E := WE W) F (hr.mono hk) hg hm kp b (fun σ => passAt tk σ) (jk_rev ha τ t) hall hks hdb hpl) fun σ H Q ⟨B, s, R, p⟩ => (PostM.bind (P := PAs g) R p).mono fun vs H1 ⟨os, B1, s1, R1, e1, q, p1⟩ => by
    by_cases hd : dupFree s1 os = true
    · rw [if_pos hd] at p1
      cases ea : argsOf s1 os with
      | none => rw [ea] at p1; exact p1.elim
      | some as =>
        rw [ea] at p1
        dsimp only at p1
        refine ⟨B1, as ++ ([] : List D).map .v, R1.bh, args_ok (dds := []) R1 q hd ea (rfl : Dens g B1 [] []), ?_⟩
        cases ef : f (as ++ ([] : List D).map .v) with
        | bad => rw [ef] at p1; exact p1.elim
        | ret r post =>
          rw [ef] at p1
          intro v B' H' A hr
          have R' := R1.called q hd ea (dds := []) (rfl : Dens g B1 [] []) A
          refine p1 v B' H' R' A.eB (RetOk.rv (vs := vs) (as := as) R1 R' hr fun i x p h1 h2 h3 hn => ?_)
          obtain ⟨x0, k1, k2⟩ := putBack_own h1 h2
          obtain ⟨_, o, ho⟩ := R1.r.ownH k1 k2 h3
          rw [ho] at hn; cases hn
        | ex c ds post =>
          rw [ef] at p1
          intro x B' H' A hx
          exact p1 x B' H' (R1.called q hd ea (dds := []) (rfl : Dens g B1 [] []) A) A.eB hx
    · rw [if_neg hd] at p1; exact p1.elim
end TW

set_option Elab.async false
set_option linter.all false
set_option autoImplicit false
set_option maxRecDepth 100000
set_option maxHeartbeats 4000000
namespace K01s
open PySem PySem.Spec PyProof.Rows L2 TW
def top (i : Nat) : Stmt := PySem.Challenge.pw_thincoins_k01_checks_of_any_value.main.body.getD i (.Pass ⟨0, 0, 0, 0⟩)
abbrev s_ft : Stmt := top 14
abbrev N_ft : List Str := ["values", "known", "each"]
theorem sc_ft : FnScope N_ft ["values"] (defScope s_ft) := ⟨rfl, rfl, rfl, by decide +kernel, rfl, by decide +kernel, by decide +kernel⟩
/-- ints and texts -/
def keyOf : D → Option Key
  | .int i => some (.inl i)
  | .str x => some (.inr x)
  | _ => none
def keysOf : List D → Option (List Key)
  | [] => some []
  | d :: r => match keyOf d, keysOf r with
    | some k, some ks => some (k :: ks)
    | _, _ => none
def keyD : Key → D
  | .inl i => .int i
  | .inr x => .str x
def dupGo (S : Key → Bool) : List Key → Option Key
  | [] => none
  | k :: r => if S k = true then some k else dupGo (fun j => S j || decide (j = k)) r
theorem dupGo_cons (S : Key → Bool) (k : Key) (r : List Key) : dupGo S (k :: r) = if S k = true then some k else dupGo (fun j => S j || decide (j = k)) r := rfl
def ftRes (ks : List Key) : D := match dupGo (fun _ => false) ks with
  | some k => keyD k
  | none => .non
def seqOf : Sl → Option (List D)
  | .l ds => some ds
  | .v (.lst ds) => some ds
  | .v (.arg ds) => some ds
  | .v (.tup ds) => some ds
  | _ => none
def d_first_twice : Fd := fun as => match as with
  | [x] => (match (seqOf x).bind keysOf with
    | some ks => if ks.length ≤ 1000 then .ret (.v (ftRes ks)) [x] else .bad
    | none => .bad)
  | _ => .bad
theorem key_den {g : G} {B : Hp} {d : D} {k : Key} {v : V} (e : keyOf d = some k) (h : Den g B d v) : v = kV k := by
  cases d with
  | int i => cases e; exact h
  | str x => cases e; exact h
  | _ => cases e
theorem keys_den {g : G} {B : Hp} : ∀ {ds : List D} {ks : List Key} {vs : List V}, keysOf ds = some ks → Dens g B ds vs → vs = ks.map kV
  | [], ks, vs, e, h => by cases e; cases h; rfl
  | d :: r, ks, vs, e, h => by
    obtain ⟨v, w, rfl, h1, h2⟩ := h
    unfold keysOf at e
    cases e1 : keyOf d with
    | none => rw [e1] at e; cases e
    | some k =>
      cases e2 : keysOf r with
      | none => rw [e1, e2] at e; cases e
      | some ks' =>
        rw [e1, e2] at e; cases e
        rw [key_den e1 h1, keys_den e2 h2]; rfl
theorem keyD_den {g : G} {B : Hp} (k : Key) : Den g B (keyD k) (kV k) := by cases k <;> rfl
variable {P : Program} {w : World} {g : G} {base : Heap}
theorem ok_first_twice {f : Addr} {fd : FuncData} (F : Fun g.K "first_twice" "first_twice" s_ft f fd) (hset : g.mg "set" = none) : FnOk P w g.K g.mg base (L2.CX P w) 1 f fd ["values"] (spD g d_first_twice) := by
  refine F.okX sc_ft (fun vs H Q E h => ?_) (fun cdv A outer s H vs Q E hr h => ?_)
  · obtain ⟨B, as, e, Ao, p⟩ := h
    match as, p, Ao with
    | [x], p, Ao => exact Ao.len.symm
    | [], p, Ao => exact p.elim
    | _ :: _ :: _, p, Ao => exact p.elim
  · obtain ⟨B, as, e, Ao, p⟩ := h
    match as, p, Ao with
    | [], p, Ao => exact p.elim
    | _ :: _ :: _, p, Ao => exact p.elim
    | [x], p, Ao =>
      have hl := Ao.len
      match vs, hl, Ao with
      | [v], hl, Ao =>
      cases ek : (seqOf x).bind keysOf with
      | none =>
        have p' : PostF g B H [x] [v] Q E (match (seqOf x).bind keysOf with | some ks => if ks.length ≤ 1000 then .ret (.v (ftRes ks)) [x] else .bad | none => .bad) := p
        rw [ek] at p'; exact p'.elim
      | some ks =>
        have p' : PostF g B H [x] [v] Q E (match (seqOf x).bind keysOf with | some ks => if ks.length ≤ 1000 then .ret (.v (ftRes ks)) [x] else .bad | none => .bad) := p
        rw [ek] at p'
        replace p' : PostF g B H [x] [v] Q E (if ks.length ≤ 1000 then .ret (.v (ftRes ks)) [x] else .bad) := p'
        have hk : ks.length ≤ 1000 := by
          by_cases hk : ks.length ≤ 1000
          · exact hk
          · rw [if_neg hk] at p'; exact p'.elim
        rw [if_pos hk] at p'
        have hx := Ao.ok 0 x v rfl rfl
        have seq : ∃ a vs, v = .ref a ∧ (SqL g.K H a vs ∨ SqT g.K H a vs) ∧ vs = ks.map kV := by
          cases x with
          | no => cases ek
          | l ds => obtain ⟨a, vs, ev, _, h2, h3⟩ := hx; cases ev; exact ⟨a, vs, rfl, .inl (.inl (.inl h2)), keys_den ek h3⟩
          | o c ds => cases ek
          | v d =>
            obtain ⟨v', ev, hd⟩ := hx
            cases ev
            cases d with
            | lst ds => obtain ⟨a, vs, rfl, h2, h3⟩ := hd; exact ⟨a, vs, rfl, .inl (.inl (.inl (e _ _ h2))), keys_den ek h3⟩
            | arg ds => obtain ⟨a, vs, rfl, h2, h3⟩ := hd; exact ⟨a, vs, rfl, .inl (Evl.ex_l e h2), keys_den ek h3⟩
            | tup ds => obtain ⟨a, vs, rfl, h2, h3⟩ := hd; exact ⟨a, vs, rfl, .inr (Evl.ex_t e h2), keys_den ek h3⟩
            | _ => cases ek
        obtain ⟨a, vs, rfl, hS, rfl⟩ := seq
        have fin : ∀ (q : Addr) (S : Key → Bool) (m : Nat) (v : V), H q = none → Den g B (ftRes ks) v → Q v (upd H q (SetK P w q S m)) := fun q S m v hq hv => by
          have gr : ∀ b o, H b = some o → upd H q (SetK P w q S m) b = some o := fun b o hb => by rw [upd_ne (ne_of_none hb hq)]; exact hb
          refine p' v B _ ⟨Evl.Ex.refl B, fun b o hb => gr b o (e b o hb), fun _ _ => rfl, fun b o hb _ => gr b o hb, fun b hb => ?_, fun j y u hy ho hu => ?_⟩ hv
          · cases hb' : H b with
            | none => exact absurd hb' hb
            | some o => rw [gr b o hb']; simp
          · match j, hy, hu with
            | 0, hy, hu =>
              cases hy; cases hu
              refine ⟨x, rfl, ho, ?_⟩
              cases x with
              | l ds => obtain ⟨b, us, ev, h1, h2, h3⟩ := hx; exact ⟨b, us, ev, h1, gr _ _ h2, h3⟩
              | o c ds => obtain ⟨b, dx, us, ev, h1, h2, h3⟩ := hx; exact ⟨b, dx, us, ev, h1, gr _ _ h2, h3⟩
              | _ => cases ho
            | j + 1, hy, hu => simp at hy
        refine ⟨_, pss_cons (ps_set (i := 1) sc_ft.nd rfl (by first | exact Or.inl rfl | exact Or.inr rfl) (pe_callTy0 cr_set0K rfl hset rfl))
          (pss_cons (ps_for (passes_of rfl) rfl (PI.or (pi_list (pv 0)) (pi_tup (pv 0))) (pg_name (i := 2) sc_ft.nd rfl (by first | exact Or.inl rfl | exact Or.inr rfl))
            (pss_cons (ps_if (pt_cmpR or_sinK (pv 2) (pv 1) rfl) (pss_one (ps_ret (pv 2))) pss_nil) (pss_one (ps_expr (pe_saddK (pv 1) (pa_cons (pv 2) pa_nil)) rfl))))
          (pss_one (ps_ret pe_non))), ?_⟩
        refine ⟨rfl, fun q hq => ?_⟩
        have core : ∀ {J : It} {G : Hp → Prop} {gg : TG} {tb : TS} {D : Ends}, Walk J (ks.map kV).length G (YAt (ks.map kV)) → (∀ S m, G (upd H q (SetK P w q S m))) →
            (∀ (k : Key) (S : Key → Bool) (m : Nat) (y : Option V) (N : L2.St → Hp → Prop), m < 4000 → (S k = true → Q (kV k) (upd H q (SetK P w q S m))) → (S k = false → ∀ m', m' ≤ m + 1 → N [some (.ref a), some (.ref q), some (kV k)] (upd H q (SetK P w q (fun j => S j || decide (j = k)) m'))) →
              gg (kV k) [some (.ref a), some (.ref q), y] (upd H q (SetK P w q S m)) fun σ2 H2 => tb { D with nx := N, ct := N, bk := D.nx } σ2 H2) →
            (∀ σ' S m, dupGo (fun _ => false) ks = none → D.nx σ' (upd H q (SetK P w q S m))) →
            ∃ W : Nat → Nat → L2.St → Hp → Prop, (∃ m, W 0 m [some (.ref a), some (.ref q), none] (upd H q (SetK P w q (fun _ => false) 0))) ∧ ∀ i m σ H, W i m σ H →
              (J.stop i H ∧ D.nx σ H) ∨ (J.go i H ∧ ∃ N : L2.St → Hp → Prop, (∀ σ' H', N σ' H' → ∃ m', m' < m ∧ W (i + 1) m' σ' H') ∧ ∀ x H', J.yld i H x H' → gg x σ H' fun σ2 H2 => tb { D with nx := N, ct := N, bk := D.nx } σ2 H2) := by
          intro J G gg tb D wk hG hstep hend
          refine for_it wk (fun i σ' H' => ∃ y S m, σ' = [some (.ref a), some (.ref q), y] ∧ H' = upd H q (SetK P w q S m) ∧ m ≤ i ∧ i ≤ ks.length ∧ dupGo (fun _ => false) ks = dupGo S (ks.drop i)) ⟨none, _, 0, rfl, rfl, Nat.le_refl _, Nat.zero_le _, rfl⟩ (fun i σ' H' _ ⟨y, S, m, _, eh, _⟩ => by rw [eh]; exact hG S m) (fun i x σ' H1 H2 hi ⟨y, S, m, es, eh, hm, hik, hd⟩ hy => ?_) (fun σ' H' ⟨y, S, m, es, eh, hm, hik, hd⟩ => ?_)
          · obtain ⟨e2, hxx⟩ := hy
            subst es; subst eh; subst e2
            have hi' : i < ks.length := by simpa using hi
            have hx2 : x = kV ks[i] := by
              rw [List.getElem?_map, List.getElem?_eq_getElem hi'] at hxx
              exact (Option.some.inj hxx).symm
            subst hx2
            rw [List.drop_eq_getElem_cons hi'] at hd
            rw [dupGo_cons] at hd
            refine hstep ks[i] S m y _ (by omega) (fun hS' => ?_) (fun hS' m' hm' => ⟨_, _, m', rfl, rfl, by omega, hi', ?_⟩)
            · rw [if_pos hS'] at hd
              exact fin q S m _ hq (by unfold ftRes; rw [hd]; exact keyD_den _)
            · rw [if_neg (by rw [hS']; exact Bool.false_ne_true)] at hd
              exact hd
          · subst es; subst eh
            rw [List.length_map, List.drop_length] at hd
            exact hend _ S m hd
        have step : ∀ (k : Key) (S : Key → Bool) (m : Nat) (y : Option V) (N : L2.St → Hp → Prop), m < 4000 → True := fun _ _ _ _ _ _ => trivial
        rcases hS with hS | hS
        · refine .inl ⟨.ref a, rfl, a, rfl, ⟨ks.map kV, Evl.ex_l (Evl.Ex.new hq) hS⟩, core walk_list (fun S m => Evl.ex_l (Evl.Ex.new hq) hS) (fun k S m y N hm h1 h2 => ?_) (fun σ' S m hn => fin q S m _ hq (by unfold ftRes; rw [hn]; rfl))⟩
          refine ⟨kV k, rfl, .ref q, rfl, k, q, S, m, rfl, rfl, upd_same, S k, rfl, ?_⟩
          cases hSk : S k with
          | true => exact ⟨kV k, rfl, h1 hSk⟩
          | false =>
            refine ⟨.ref q, rfl, ⟨q, S, m, rfl, upd_same⟩, kV k, rfl, q, k, S, m, rfl, rfl, upd_same, by show m + 1 < 4096; omega, ?_⟩
            have z := h2 hSk (if S k = true then m else m + 1) (by split <;> omega)
            have eu : upd (upd H q (SetK P w q S m)) q (SetK P w q (fun j => S j || decide (j = k)) (if S k = true then m else m + 1)) = upd H q (SetK P w q (fun j => S j || decide (j = k)) (if S k = true then m else m + 1)) := TW.upd_upd
            show N _ (upd (upd H q (SetK P w q S m)) q (SetK P w q (fun j => S j || decide (j = k)) (if S k = true then m else m + 1)))
            rw [eu]; exact z
        · refine .inr ⟨.ref a, rfl, a, rfl, ⟨ks.map kV, Evl.ex_t (Evl.Ex.new hq) hS⟩, core walk_tup (fun S m => Evl.ex_t (Evl.Ex.new hq) hS) (fun k S m y N hm h1 h2 => ?_) (fun σ' S m hn => fin q S m _ hq (by unfold ftRes; rw [hn]; rfl))⟩
          refine ⟨kV k, rfl, .ref q, rfl, k, q, S, m, rfl, rfl, upd_same, S k, rfl, ?_⟩
          cases hSk : S k with
          | true => exact ⟨kV k, rfl, h1 hSk⟩
          | false =>
            refine ⟨.ref q, rfl, ⟨q, S, m, rfl, upd_same⟩, kV k, rfl, q, k, S, m, rfl, rfl, upd_same, by show m + 1 < 4096; omega, ?_⟩
            have z := h2 hSk (if S k = true then m else m + 1) (by split <;> omega)
            have eu : upd (upd H q (SetK P w q S m)) q (SetK P w q (fun j => S j || decide (j = k)) (if S k = true then m else m + 1)) = upd H q (SetK P w q (fun j => S j || decide (j = k)) (if S k = true then m else m + 1)) := TW.upd_upd
            show N _ (upd (upd H q (SetK P w q S m)) q (SetK P w q (fun j => S j || decide (j = k)) (if S k = true then m else m + 1)))
            rw [eu]; exact z
end K01s

set_option Elab.async false
set_option linter.all false
set_option autoImplicit false
set_option maxRecDepth 100000
set_option maxHeartbeats 2000000
namespace TW
open PySem PySem.Spec PyProof.Rows L2
variable {g : G} {X : Cx}
theorem hu65 {k : Nat} {A : Around} (h : Room k A) : A.units + 65 < cLine := by have := h.un; omega
/-! ## n // k, k of any sign -/
abbrev cFdv : Int → Int → Bool := fun i j => decide (j ≠ 0) && decide (j.natAbs.log2 < 9000)
abbrev dFdv := dInt2 cFdv (fun i j => i.fdiv j)
theorem op_fdvA : OpR X (binaryOp .FloorDiv) (rI (fun i j => j ≠ 0 ∧ j.natAbs.log2 < 9000) fun i j => .int (i.fdiv j)) := opI fun i j _ _ _ _ _ hc q => floordiv_int hc.1 q (.inl (PyProof.noPylong_of_log2 hc.2))
theorem o_fdv : OpD X g (binaryOp .FloorDiv) dFdv := opd_int op_fdvA fun _ _ h => by
  have := Bool.and_eq_true_iff.mp h
  exact ⟨of_decide_eq_true this.1, of_decide_eq_true this.2⟩
/-! ## a, b, c = x, y, z -/
variable {T : Tx} {B H : Hp} {σ : L2.St} {s : S} {W : WX} {es : List Expr} {pos : Pos}
def stPar3 (i j l : Nat) : List D → MS
  | [d1, d2, d3] => fun s => if i < s.length ∧ j < s.length ∧ l < s.length then .nx (((s.set i (.v d1)).set j (.v d2)).set l (.v d3)) else .bad
  | _ => fun _ => .bad
def mpar3 (i j l : Nat) (fa : M (List Opd)) : MS := ms fa fun os => ms (strongs os) (stPar3 i j l)
theorem js_par3 {i j l : Nat} {st : Stmt} {fa : M (List Opd)} (hps : ∀ ta, PA X es ta → PS X st (tPar3 i j l ta)) (hi : T.io i = none) (hj : T.io j = none) (hl : T.io l = none) (ha : JA X g T W es fa) : JS X g T W st (mpar3 i j l fa) :=
  PS.imp (hps _ (ha T.τ T.t)) fun D σ H ⟨B, s, R, p⟩ => (PostS.bind (P := PAs g) R p).mono fun vs H1 ⟨os, B1, s1, R1, e1, q1, p1⟩ => by
    rcases strongs_ex (os := os) (s := s1) with ⟨ds, w⟩ | w
    · rw [ms_ok w] at p1
      obtain ⟨_, hd⟩ := strongs_ok R1 q1 w
      match ds, hd, p1 with
      | [d1, d2, d3], hd, p1 =>
        obtain ⟨v1, r1, rfl, h1, v2, r2, rfl, h2, v3, r3, rfl, h3, h4⟩ := hd
        cases h4
        replace p1 : PostS g T W B1 (if i < s1.length ∧ j < s1.length ∧ l < s1.length then .nx (((s1.set i (.v d1)).set j (.v d2)).set l (.v d3)) else .bad) D := p1
        by_cases hlt : i < s1.length ∧ j < s1.length ∧ l < s1.length
        · rw [if_pos hlt] at p1
          refine ⟨v1, v2, v3, rfl, p1 _ B1 H1 ?_ (Evl.Ex.refl _)⟩
          exact ((R1.storev hlt.1 hi h1).storev (by rw [List.length_set]; exact hlt.2.1) hj h2).storev (by rw [List.length_set, List.length_set]; exact hlt.2.2) hl h3
        · rw [if_neg hlt] at p1; exact p1.elim
      | [], hd, p1 => exact p1.elim
      | [_], hd, p1 => exact p1.elim
      | [_, _], hd, p1 => exact p1.elim
      | _ :: _ :: _ :: _ :: _, hd, p1 => exact p1.elim
    · rw [ms_bad w] at p1; exact p1.elim
/-! ## isinstance where no instance of an own class is asked -/
variable {B' H' : Hp} {e : Expr} {v : V}
theorem tyx_den0 {d : D} {x : V} {t : Value} (hd : ∀ c ds, d ≠ .obj c ds) (eB : Ex B H) (h : DenW g B H d x) (ev : tyD g.cn d = some t) : TyX g.K H x t := by
  cases d with
  | non => cases ev; cases h; exact .base .non
  | bl b => cases ev; cases h; exact .base (.bl b)
  | int i => cases ev; cases h; exact .base (.int i)
  | str z => cases ev; cases h; exact .base (.str z)
  | tup ds => cases ev; obtain ⟨a, vs, rfl, k1, _⟩ := h; exact tyx_seqT (Evl.ex_t eB k1)
  | lst ds => cases ev; obtain ⟨a, vs, rfl, k1, _⟩ := h; exact .base (.lst k1)
  | arg ds => cases ev; obtain ⟨a, vs, rfl, k1, _⟩ := h; exact tyx_seqL (Evl.ex_l eB k1)
  | obj c ds => exact absurd rfl (hd c ds)
  | exc _ _ _ _ => cases ev
  | dct => cases ev; obtain ⟨a, kvs, rfl, k1⟩ := h; exact .base (.dK (eB _ _ k1))
theorem no_obj {f : Ty → Option Bool} {d : D} {t : Ty} {b : Bool} (hf : ∀ c, f (.obj c) = none) (et : dTy d = some t) (eb : f t = some b) : ∀ c ds, d ≠ .obj c ds := fun c ds z => by
  subst z
  by_cases hc : c < 100
  · rw [show dTy (.obj c ds) = some (.obj c) from if_pos hc] at et
    cases et
    rw [hf c] at eb; cases eb
  · rw [show dTy (.obj c ds) = none from if_neg hc] at et; cases et
theorem je_isiB {f : Ty → Option Bool} {u : Value} {v : V} {fo : M Opd} {c : Expr} {p : Pos} (hK : X.K = g.K) (hf0 : ∀ c, f (.obj c) = none) (hf : Isi g u f) (hv : ClsV v u) (hg : Gl X "isinstance") (hm : X.mg "isinstance" = none) (hc : PE X c (tC v)) (ho : JO X g T W e fo)
    (hs : starEach (e :: [c]) X.env = (false, eval e X.env) :: starEach [c] X.env := by rfl) (hs2 : starEach [c] X.env = (false, eval c X.env) :: starEach [] X.env := by rfl) (hpl : (backTo pos (starEach [c] X.env)).any (·.1) = false := by rfl) :
    JE X g T W (.Call (.Name "isinstance" p) [e, c] [] pos) (mun (isiD f) fo) :=
  fun τ t => PE.imp (pe_callB call_isi hg hm rfl (pa_cons (ho τ t) (pa_cons hc pa_nil hs2) hs) (by decide) (by decide) hs hpl) fun σ H Q ⟨B, s, R, p⟩ => (PostM.bind (P := PO' g) R p).mono fun x H1 ⟨o, B1, s1, R1, e1, q1, p1⟩ => by
    rcases res_cases (o := o) (s := s1) with ⟨d, w⟩ | w
    · rw [mbind_ok w] at p1
      unfold isiD at p1
      cases et : dTy d with
      | none => rw [et] at p1; exact p1.elim
      | some t =>
        rw [et] at p1
        cases eb : f t with
        | none => have p1' := p1; rw [show (some t).bind f = none from eb] at p1'; exact p1'.elim
        | some b =>
          rw [show (some t).bind f = some b from eb] at p1
          refine ⟨x, v, t.val g.cn, u, b, rfl, hv, ?_, ?_, p1 (.bl b) B1 H1 R1 (Evl.Ex.refl _) rfl⟩
          · rw [hK]; exact tyx_den0 (no_obj hf0 et eb) R1.bh (res_ok R1 q1 w).2 (tyD_dTy et)
          · rw [hK]; exact hf t b eb
    · exfalso
      have z : mbind (res o) (fun x => mopt (isiD f x)) s1 = .bad := by unfold mbind; rw [w]
      rw [z] at p1; exact p1
theorem or2_obj {f1 f2 : Ty → Option Bool} (h1 : ∀ c, f1 (.obj c) = none) : ∀ c, or2 f1 f2 (.obj c) = none := fun c => by unfold or2; rw [h1 c]
theorem je_isi2B {f1 f2 : Ty → Option Bool} {u1 u2 : Value} {v1 v2 : V} {fo : M Opd} {c1 c2 : Expr} {kk : Nat} {p tpos : Pos} (hK : X.K = g.K) (hf0 : ∀ c, f1 (.obj c) = none) (hf1 : Isi g u1 f1) (hf2 : Isi g u2 f2) (hv1 : ClsV v1 u1) (hv2 : ClsV v2 u2) (hg : Gl X "isinstance") (hm : X.mg "isinstance" = none)
    (hc1 : PE X c1 (tC v1)) (hc2 : PE X c2 (tC v2)) (ho : JO X g T W e fo)
    (hs : starEach (e :: [.Tuple [c1, c2] kk tpos]) X.env = (false, eval e X.env) :: starEach [.Tuple [c1, c2] kk tpos] X.env := by rfl) (hs2 : starEach [.Tuple [c1, c2] kk tpos] X.env = (false, eval (.Tuple [c1, c2] kk tpos) X.env) :: starEach [] X.env := by rfl)
    (hs3 : starEach [c1, c2] X.env = (false, eval c1 X.env) :: starEach [c2] X.env := by rfl) (hs4 : starEach [c2] X.env = (false, eval c2 X.env) :: starEach [] X.env := by rfl) (hpl : (backTo pos (starEach [.Tuple [c1, c2] kk tpos] X.env)).any (·.1) = false := by rfl) :
    JE X g T W (.Call (.Name "isinstance" p) [e, .Tuple [c1, c2] kk tpos] [] pos) (mun (isiD (or2 f1 f2)) fo) :=
  fun τ t => PE.imp (pe_callB call_isiT hg hm rfl (pa_cons (ho τ t) (pa_cons (pe_tup (pa_cons hc1 (pa_cons hc2 pa_nil hs4) hs3)) pa_nil hs2) hs) (by decide) (by decide) hs hpl) fun σ H Q ⟨B, s, R, p⟩ => (PostM.bind (P := PO' g) R p).mono fun x H1 ⟨o, B1, s1, R1, e1, q1, p1⟩ => by
    rcases res_cases (o := o) (s := s1) with ⟨d, w⟩ | w
    · rw [mbind_ok w] at p1
      unfold isiD at p1
      cases et : dTy d with
      | none => rw [et] at p1; exact p1.elim
      | some t =>
        rw [et] at p1
        cases eb : or2 f1 f2 t with
        | none => have p1' := p1; rw [show (some t).bind (or2 f1 f2) = none from eb] at p1'; exact p1'.elim
        | some b =>
          rw [show (some t).bind (or2 f1 f2) = some b from eb] at p1
          refine ⟨by show 2 ≤ sizeLine; decide, fun q hq => ?_⟩
          have R2 := R1.new (o := .tup [v1, v2]) hq
          refine ⟨x, q, [v1, v2], t.val g.cn, [u1, u2], b, rfl, upd_same, .cons hv1 (.cons hv2 .nil), ?_, ?_, p1 (.bl b) _ _ R2 (Evl.Ex.new (Evl.fresh_back R1.bh hq)) rfl⟩
          · rw [hK]
            have hd := (res_ok R1 q1 w).2
            have e2 : Ex H1 (upd H1 q (.tup [v1, v2])) := Evl.Ex.new hq
            refine tyx_den0 (B := upd B1 q (.tup [v1, v2])) (no_obj (or2_obj hf0) et eb) R2.bh ?_ (tyD_dTy et)
            cases d with
            | lst ds => obtain ⟨a, vs, rfl, k1, k2⟩ := hd; exact ⟨a, vs, rfl, e2 _ _ k1, k2.mono (Evl.Ex.new (Evl.fresh_back R1.bh hq))⟩
            | obj c ds => obtain ⟨a, dx, vs, rfl, k1, k2⟩ := hd; exact ⟨a, dx, vs, rfl, e2 _ _ k1, k2.mono (Evl.Ex.new (Evl.fresh_back R1.bh hq))⟩
            | _ => exact Den.mono (Evl.Ex.new (Evl.fresh_back R1.bh hq)) hd
          · rw [hK]
            unfold or2 at eb
            cases e1 : f1 t with
            | none => rw [e1] at eb; cases eb
            | some b1 =>
              rw [e1] at eb
              refine kitAny_cons (hf1 t b1 e1) (fun hb => ?_) (fun hb => ?_)
              · subst hb
                refine kitAny_cons (hf2 t b eb) (fun hb => ?_) (fun hb => hb)
                rw [hb]; exact kitAny_nil
              · subst hb; exact (Option.some.inj eb).symm
    · exfalso
      have z : mbind (res o) (fun x => mopt (isiD (or2 f1 f2) x)) s1 = .bad := by unfold mbind; rw [w]
      rw [z] at p1; exact p1
/-! ## a local list that is changed no more, at any use -/
def mvarF (k : Nat) : M Opd := fun s => match s[k]? with
  | some (.l ds) => .ok (.d (.lst ds)) (s.set k (.v (.lst ds)))
  | some (.v _) => .ok (.s k) s
  | _ => .bad
theorem jo_varF {k : Nat} (h : PE X e (tVar k)) (hio : T.io k = none) : JO X g T W e (mvarF k) := fun τ t => by
  have h1 := jo_frz (X := X) (g := g) (T := T) (W := W) h hio τ t
  have h2 := jo_var (X := X) (g := g) (T := T) (W := W) h τ t
  refine ⟨fun pins s0 σ H Q I q => ?_⟩
  obtain ⟨B, s, R, p⟩ := q
  cases hk : s[k]? with
  | none =>
    have z : mvarF k s = .bad := by unfold mvarF; rw [hk]
    rw [z] at p; exact p.elim
  | some x =>
    cases x with
    | l ds =>
      have z : mvarF k s = mfrz k s := by unfold mvarF mfrz; rw [hk]
      rw [z] at p
      exact h1.run pins s0 σ H Q I ⟨B, s, R, p⟩
    | v d =>
      have z : mvarF k s = mvar k s := by unfold mvarF mvar; rw [hk]
      rw [z] at p
      exact h2.run pins s0 σ H Q I ⟨B, s, R, p⟩
    | no =>
      have z : mvarF k s = .bad := by unfold mvarF; rw [hk]
      rw [z] at p; exact p.elim
    | o c ds =>
      have z : mvarF k s = .bad := by unfold mvarF; rw [hk]
      rw [z] at p; exact p.elim
end TW

set_option Elab.async false
set_option linter.all false
set_option autoImplicit false
set_option maxRecDepth 100000
set_option maxHeartbeats 4000000
namespace K01
open PySem PySem.Spec PyProof.Rows L2 TW TX
def top (i : Nat) : Stmt := PySem.Challenge.pw_thincoins_k01_checks_of_any_value.main.body.getD i (.Pass ⟨0, 0, 0, 0⟩)
def nm : Nat → List Str
  | 101 => ["part"]
  | 102 => ["part"]
  | _ => []
section
abbrev s_is_integer : Stmt := top 8
abbrev N_is_integer : List Str := ["value"]
abbrev p_is_integer : List Str := ["value"]
def b_is_integer (fu : Nat) : MS :=
    (ms (mbind (mandV (mun (isiD isiInt) (mvar 0)) (mnotV (mun (isiD isiBl) (mvar 0)))) fun d => mret (Rv.v d)) fun r s => OutS.rt r s)
def d_is_integer (fu : Nat) : Fd := fnD 1 1 (b_is_integer fu)

abbrev s_is_within : Stmt := top 9
abbrev N_is_within : List Str := ["value", "least", "most"]
abbrev p_is_within : List Str := ["value", "least", "most"]
def b_is_within (fu : Nat) : MS :=
    (mseq (mcond (mbind (mbind (mbind (mbind (mcall (d_is_integer fu) [] (mcons (mvar 0) (mret []))) fun r => mret (Rv.d r)) fun d => mret (Opd.d d)) fun o => mbind (res o) fun d => mopt (truD d)) fun b => mret (!b)) (ms (mbind (mret (D.bl false)) fun d => mret (Rv.v d)) fun r s => OutS.rt r s) (fun s => OutS.nx s))
    (ms (mbind (mandV (morV (mbin dIsN (mvar 1) (mbind (mret D.non) fun d => mret (Opd.d d))) (mbin dLe (mvar 1) (mvar 0))) (morV (mbin dIsN (mvar 2) (mbind (mret D.non) fun d => mret (Opd.d d))) (mbin dLe (mvar 0) (mvar 2)))) fun d => mret (Rv.v d)) fun r s => OutS.rt r s))
def d_is_within (fu : Nat) : Fd := fnD 3 3 (b_is_within fu)

abbrev s_is_name : Stmt := top 10
abbrev N_is_name : List Str := ["value", "sign"]
abbrev p_is_name : List Str := ["value"]
def ci_is_name_1 (fu : Nat) : M (List D) :=
    (mwalk (mbind (mvar 0) strong))
def ct_is_name_1 (fu : Nat) : M Bool :=
    (mret true)
def ce_is_name_1 (fu : Nat) : M D :=
    (mbin (dOr dInS dInL) (mvar 1) (mbind (mbin dAddX (mbind (mret (D.str "abcdefghijklmnopqrstuvwxyz")) fun d => mret (Opd.d d)) (mbind (mret (D.str "0123456789")) fun d => mret (Opd.d d))) fun d => mret (Opd.d d)))
def c_is_name_1 (fu : Nat) : M Rv :=
    mlc [1] (ci_is_name_1 fu) (tgName 1) (ct_is_name_1 fu) (ce_is_name_1 fu)
def b_is_name (fu : Nat) : MS :=
    (mseq (mcond (mif (mbind (mbind (mbind (mun (isiD isiStr) (mvar 0)) fun d => mret (Opd.d d)) fun o => mbind (res o) fun d => mopt (truD d)) fun b => mret (!b)) (mret true) (mbind (mbind (mchain dLt dLe (mbind (mret (D.int 0)) fun d => mret (Opd.d d)) (mbind (mbind (mcb (on1 lenD) (mcons (mvar 0) (mret []))) fun r => mret (Rv.d r)) fun d => mret (Opd.d d)) (mbind (mret (D.int 12)) fun d => mret (Opd.d d))) tob) fun b => mret (!b))) (ms (mbind (mret (D.bl false)) fun d => mret (Rv.v d)) fun r s => OutS.rt r s) (fun s => OutS.nx s))
    (ms (mbind (mandV (mbin (dOr dInS dInL) (mbind (mbin dIx (mvar 0) (mbind (mret (D.int 0)) fun d => mret (Opd.d d))) fun d => mret (Opd.d d)) (mbind (mret (D.str "abcdefghijklmnopqrstuvwxyz")) fun d => mret (Opd.d d))) (mbind (mcb (on1 (onBls fun bs => bs.all id)) (mcons (mbind (mbind (c_is_name_1 fu) fun r => mret (Rv.d r)) fun d => mret (Opd.d d)) (mret []))) fun r => mret (Rv.d r))) fun d => mret (Rv.v d)) fun r s => OutS.rt r s))
def d_is_name (fu : Nat) : Fd := fnD 2 1 (b_is_name fu)

abbrev s_are_integers : Stmt := top 11
abbrev N_are_integers : List Str := ["value", "each"]
abbrev p_are_integers : List Str := ["value"]
def ci_are_integers_1 (fu : Nat) : M (List D) :=
    (mwalk (mbind (mvar 0) strong))
def ct_are_integers_1 (fu : Nat) : M Bool :=
    (mret true)
def ce_are_integers_1 (fu : Nat) : M D :=
    (mbind (mcall (d_is_integer fu) [] (mcons (mvar 1) (mret []))) fun r => mret (Rv.d r))
def c_are_integers_1 (fu : Nat) : M Rv :=
    mlc [1] (ci_are_integers_1 fu) (tgName 1) (ct_are_integers_1 fu) (ce_are_integers_1 fu)
def b_are_integers (fu : Nat) : MS :=
    (ms (mbind (mandV (mun (isiD (or2 isiLst isiTup)) (mvar 0)) (mbind (mcb (on1 (onBls fun bs => bs.all id)) (mcons (mbind (mbind (c_are_integers_1 fu) fun r => mret (Rv.d r)) fun d => mret (Opd.d d)) (mret []))) fun r => mret (Rv.d r))) fun d => mret (Rv.v d)) fun r s => OutS.rt r s)
def d_are_integers (fu : Nat) : Fd := fnD 2 1 (b_are_integers fu)

abbrev s_measure : Stmt := top 18
abbrev N_measure : List Str := ["values", "found", "value", "one", "other"]
abbrev p_measure : List Str := ["values"]
def lt_measure_1 (fu : Nat) : M Bool :=
    (mbind (mbin dNe (mvar 4) (mbind (mret (D.int 0)) fun d => mret (Opd.d d))) tob)
def lb_measure_1 (fu : Nat) : MS :=
    (mpar2 3 4 (mcons (mvar 4) (mcons (mbind (mbin dMod (mvar 3) (mvar 4)) fun d => mret (Opd.d d)) (mret []))))
def l_measure_1 (fu : Nat) : MS :=
    whileD (lt_measure_1 fu) (lb_measure_1 fu) fu
def li_measure_2 (fu : Nat) : M (List D) :=
    (mwalk (mbind (mvar 0) strong))
def lb_measure_2 (fu : Nat) : MS :=
    (mseq (mpar2 3 4 (mcons (mvar 1) (mcons (mbind (mbind (mcb (on1 absD) (mcons (mvar 2) (mret []))) fun r => mret (Rv.d r)) fun d => mret (Opd.d d)) (mret []))))
    (mseq (l_measure_1 fu)
    (ms (mbind (mbind (mvar 3) strong) fun d => mret (Rv.v d)) fun r => stSet 1 (Rv.sl r))))
def l_measure_2 (fu : Nat) : MS :=
    mfor (li_measure_2 fu) (tgName 2) (lb_measure_2 fu)
def b_measure (fu : Nat) : MS :=
    (mseq (ms (mbind (mret (D.int 0)) fun d => mret (Rv.v d)) fun r => stSet 1 (Rv.sl r))
    (mseq (l_measure_2 fu)
    (ms (mbind (mbind (mvar 1) strong) fun d => mret (Rv.v d)) fun r s => OutS.rt r s)))
def d_measure (fu : Nat) : Fd := fnD 5 1 (b_measure fu)

abbrev s_is_ratio : Stmt := top 12
abbrev N_is_ratio : List Str := ["value"]
abbrev p_is_ratio : List Str := ["value"]
def b_is_ratio (fu : Nat) : MS :=
    (mseq (mcond (mif (mbind (mbind (mbind (mbind (mcall (d_are_integers fu) [] (mcons (mvar 0) (mret []))) fun r => mret (Rv.d r)) fun d => mret (Opd.d d)) fun o => mbind (res o) fun d => mopt (truD d)) fun b => mret (!b)) (mret true) (mbind (mbin dNe (mbind (mbind (mcb (on1 lenD) (mcons (mvar 0) (mret []))) fun r => mret (Rv.d r)) fun d => mret (Opd.d d)) (mbind (mret (D.int 2)) fun d => mret (Opd.d d))) tob)) (ms (mbind (mret (D.bl false)) fun d => mret (Rv.v d)) fun r s => OutS.rt r s) (fun s => OutS.nx s))
    (ms (mbind (mandV (mbin dGt (mbind (mbin dIx (mvar 0) (mbind (mret (D.int 1)) fun d => mret (Opd.d d))) fun d => mret (Opd.d d)) (mbind (mret (D.int 0)) fun d => mret (Opd.d d))) (mbin dEq (mbind (mbind (mcall (d_measure fu) [] (mcons (mvar 0) (mret []))) fun r => mret (Rv.d r)) fun d => mret (Opd.d d)) (mbind (mret (D.int 1)) fun d => mret (Opd.d d)))) fun d => mret (Rv.v d)) fun r s => OutS.rt r s))
def d_is_ratio (fu : Nat) : Fd := fnD 1 1 (b_is_ratio fu)

abbrev s_is_lot : Stmt := top 13
abbrev N_is_lot : List Str := ["value", "many", "each", "one", "other"]
abbrev p_is_lot : List Str := ["value", "many"]
def ci_is_lot_1 (fu : Nat) : M (List D) :=
    (mzip (mvar 0) (mbind (mbind (mslice (mvar 0) (mpart (mret (D.int 1))) (mret none)) fun r => mret (Rv.d r)) fun d => mret (Opd.d d)))
def ct_is_lot_1 (fu : Nat) : M Bool :=
    (mret true)
def ce_is_lot_1 (fu : Nat) : M D :=
    (mbin dLt (mvar 3) (mvar 4))
def c_is_lot_1 (fu : Nat) : M Rv :=
    mlc [3, 4] (ci_is_lot_1 fu) (tgTup 2 (tgCons (tgName 3) (tgCons (tgName 4) tgNil))) (ct_is_lot_1 fu) (ce_is_lot_1 fu)
def ci_is_lot_2 (fu : Nat) : M (List D) :=
    (mwalk (mbind (mvar 0) strong))
def ct_is_lot_2 (fu : Nat) : M Bool :=
    (mret true)
def ce_is_lot_2 (fu : Nat) : M D :=
    (mchain dLe dLt (mbind (mret (D.int 0)) fun d => mret (Opd.d d)) (mvar 2) (mvar 1))
def c_is_lot_2 (fu : Nat) : M Rv :=
    mlc [2] (ci_is_lot_2 fu) (tgName 2) (ct_is_lot_2 fu) (ce_is_lot_2 fu)
def b_is_lot (fu : Nat) : MS :=
    (mseq (mcond (mif (mbind (mbind (mbind (mbind (mcall (d_are_integers fu) [] (mcons (mvar 0) (mret []))) fun r => mret (Rv.d r)) fun d => mret (Opd.d d)) fun o => mbind (res o) fun d => mopt (truD d)) fun b => mret (!b)) (mret true) (mbind (mbind (mbind (mbind (mcb (on1 (onBls fun bs => bs.all id)) (mcons (mbind (mbind (c_is_lot_2 fu) fun r => mret (Rv.d r)) fun d => mret (Opd.d d)) (mret []))) fun r => mret (Rv.d r)) fun d => mret (Opd.d d)) fun o => mbind (res o) fun d => mopt (truD d)) fun b => mret (!b))) (ms (mbind (mret (D.bl false)) fun d => mret (Rv.v d)) fun r s => OutS.rt r s) (fun s => OutS.nx s))
    (ms (mcb (on1 (onBls fun bs => bs.all id)) (mcons (mbind (mbind (c_is_lot_1 fu) fun r => mret (Rv.d r)) fun d => mret (Opd.d d)) (mret []))) fun r s => OutS.rt r s))
def d_is_lot (fu : Nat) : Fd := fnD 5 2 (b_is_lot fu)

abbrev s_first_twice : Stmt := top 14
abbrev p_first_twice : List Str := ["values"]
abbrev d_first_twice (fu : Nat) : Fd := K01s.d_first_twice

abbrev s_need_number : Stmt := top 15
abbrev N_need_number : List Str := ["value", "part", "least", "most"]
abbrev p_need_number : List Str := ["value", "part", "least", "most"]
def b_need_number (fu : Nat) : MS :=
    (mcond (mbind (mbind (mbind (mbind (mcall (d_is_within fu) [] (mcons (mvar 0) (mcons (mvar 2) (mcons (mvar 3) (mret []))))) fun r => mret (Rv.d r)) fun d => mret (Opd.d d)) fun o => mbind (res o) fun d => mopt (truD d)) fun b => mret (!b)) (mraise 101 1 (mcons (mvar 1) (mret []))) (fun s => OutS.nx s))
def d_need_number (fu : Nat) : Fd := fnD 4 4 (b_need_number fu)

abbrev s_need_numbers : Stmt := top 16
abbrev N_need_numbers : List Str := ["value", "part"]
abbrev p_need_numbers : List Str := ["value", "part"]
def b_need_numbers (fu : Nat) : MS :=
    (mcond (mbind (mbind (mbind (mbind (mcall (d_are_integers fu) [] (mcons (mvar 0) (mret []))) fun r => mret (Rv.d r)) fun d => mret (Opd.d d)) fun o => mbind (res o) fun d => mopt (truD d)) fun b => mret (!b)) (mraise 101 1 (mcons (mvar 1) (mret []))) (fun s => OutS.nx s))
def d_need_numbers (fu : Nat) : Fd := fnD 2 2 (b_need_numbers fu)

abbrev s_need_ratio : Stmt := top 17
abbrev N_need_ratio : List Str := ["value", "part"]
abbrev p_need_ratio : List Str := ["value", "part"]
def b_need_ratio (fu : Nat) : MS :=
    (mcond (mbind (mbind (mbind (mbind (mcall (d_is_ratio fu) [] (mcons (mvar 0) (mret []))) fun r => mret (Rv.d r)) fun d => mret (Opd.d d)) fun o => mbind (res o) fun d => mopt (truD d)) fun b => mret (!b)) (mraise 102 1 (mcons (mvar 1) (mret []))) (fun s => OutS.nx s))
def d_need_ratio (fu : Nat) : Fd := fnD 2 2 (b_need_ratio fu)

abbrev s_common_divisor : Stmt := top 19
abbrev N_common_divisor : List Str := ["values"]
abbrev p_common_divisor : List Str := ["values"]
def b_common_divisor (fu : Nat) : MS :=
    (mseq (ms (mbind (mcall (d_need_numbers fu) [] (mcons (mvar 0) (mcons (mbind (mret (D.str "values")) fun d => mret (Opd.d d)) (mret [])))) fun r => mret (Rv.d r)) fun _ s => OutS.nx s)
    (ms (mcall (d_measure fu) [] (mcons (mvar 0) (mret []))) fun r s => OutS.rt r s))
def d_common_divisor (fu : Nat) : Fd := fnD 1 1 (b_common_divisor fu)

abbrev s_in_lowest : Stmt := top 21
abbrev N_in_lowest : List Str := ["number", "by", "shared"]
abbrev p_in_lowest : List Str := ["number", "by"]
def b_in_lowest (fu : Nat) : MS :=
    (mseq (ms (mbind (mif (mbind (mbin dGt (mvar 1) (mbind (mret (D.int 0)) fun d => mret (Opd.d d))) tob) (mbind (mcall (d_measure fu) [] (mcons (mbind (mbind (mlst (mcons (mvar 0) (mcons (mvar 1) (mret [])))) fun r => mret (Rv.d r)) fun d => mret (Opd.d d)) (mret []))) fun r => mret (Rv.d r)) (mun dNeg (mbind (mbind (mcall (d_measure fu) [] (mcons (mbind (mbind (mlst (mcons (mvar 0) (mcons (mvar 1) (mret [])))) fun r => mret (Rv.d r)) fun d => mret (Opd.d d)) (mret []))) fun r => mret (Rv.d r)) fun d => mret (Opd.d d)))) fun d => mret (Rv.v d)) fun r => stSet 2 (Rv.sl r))
    (ms (mbind (mtup (mcons (mbind (mbin dFdv (mvar 0) (mvar 2)) fun d => mret (Opd.d d)) (mcons (mbind (mbin dFdv (mvar 1) (mvar 2)) fun d => mret (Opd.d d)) (mret [])))) fun d => mret (Rv.v d)) fun r s => OutS.rt r s))
def d_in_lowest (fu : Nat) : Fd := fnD 3 2 (b_in_lowest fu)

abbrev s_lowest : Stmt := top 20
abbrev N_lowest : List Str := ["number", "by"]
abbrev p_lowest : List Str := ["number", "by"]
def b_lowest (fu : Nat) : MS :=
    (mseq (ms (mbind (mcall (d_need_number fu) [] (mcons (mvar 0) (mcons (mbind (mret (D.str "number")) fun d => mret (Opd.d d)) (mcons (mbind (mret D.non) fun d => mret (Opd.d d)) (mcons (mbind (mret D.non) fun d => mret (Opd.d d)) (mret [])))))) fun r => mret (Rv.d r)) fun _ s => OutS.nx s)
    (mseq (ms (mbind (mcall (d_need_number fu) [] (mcons (mvar 1) (mcons (mbind (mret (D.str "by")) fun d => mret (Opd.d d)) (mcons (mbind (mret D.non) fun d => mret (Opd.d d)) (mcons (mbind (mret D.non) fun d => mret (Opd.d d)) (mret [])))))) fun r => mret (Rv.d r)) fun _ s => OutS.nx s)
    (mseq (mcond (mbind (mbin dEq (mvar 1) (mbind (mret (D.int 0)) fun d => mret (Opd.d d))) tob) (mraise 101 1 (mcons (mbind (mret (D.str "by")) fun d => mret (Opd.d d)) (mret []))) (fun s => OutS.nx s))
    (ms (mcall (d_in_lowest fu) [] (mcons (mvar 0) (mcons (mvar 1) (mret [])))) fun r s => OutS.rt r s))))
def d_lowest (fu : Nat) : Fd := fnD 2 2 (b_lowest fu)

abbrev s_difference : Stmt := top 22
abbrev N_difference : List Str := ["one", "other"]
abbrev p_difference : List Str := ["one", "other"]
def b_difference (fu : Nat) : MS :=
    (ms (mbind (mbin dSub (mbind (mbin dMul (mbind (mbin dIx (mvar 0) (mbind (mret (D.int 0)) fun d => mret (Opd.d d))) fun d => mret (Opd.d d)) (mbind (mbin dIx (mvar 1) (mbind (mret (D.int 1)) fun d => mret (Opd.d d))) fun d => mret (Opd.d d))) fun d => mret (Opd.d d)) (mbind (mbin dMul (mbind (mbin dIx (mvar 1) (mbind (mret (D.int 0)) fun d => mret (Opd.d d))) fun d => mret (Opd.d d)) (mbind (mbin dIx (mvar 0) (mbind (mret (D.int 1)) fun d => mret (Opd.d d))) fun d => mret (Opd.d d))) fun d => mret (Opd.d d))) fun d => mret (Rv.v d)) fun r s => OutS.rt r s)
def d_difference (fu : Nat) : Fd := fnD 2 2 (b_difference fu)

abbrev s_compared : Stmt := top 23
abbrev N_compared : List Str := ["one", "other", "found"]
abbrev p_compared : List Str := ["one", "other"]
def b_compared (fu : Nat) : MS :=
    (mseq (ms (mbind (mcall (d_need_ratio fu) [] (mcons (mvar 0) (mcons (mbind (mret (D.str "one")) fun d => mret (Opd.d d)) (mret [])))) fun r => mret (Rv.d r)) fun _ s => OutS.nx s)
    (mseq (ms (mbind (mcall (d_need_ratio fu) [] (mcons (mvar 1) (mcons (mbind (mret (D.str "other")) fun d => mret (Opd.d d)) (mret [])))) fun r => mret (Rv.d r)) fun _ s => OutS.nx s)
    (mseq (ms (mcall (d_difference fu) [] (mcons (mvar 0) (mcons (mvar 1) (mret [])))) fun r => stSet 2 (Rv.sl r))
    (ms (mbind (mbin dSubB (mbind (mbin dGt (mvar 2) (mbind (mret (D.int 0)) fun d => mret (Opd.d d))) fun d => mret (Opd.d d)) (mbind (mbin dLt (mvar 2) (mbind (mret (D.int 0)) fun d => mret (Opd.d d))) fun d => mret (Opd.d d))) fun d => mret (Rv.v d)) fun r s => OutS.rt r s))))
def d_compared (fu : Nat) : Fd := fnD 3 2 (b_compared fu)

abbrev s__law_bag : Stmt := top 25
abbrev N__law_bag : List Str := ["_law_script", "_law_number", "_law_cell"]
abbrev p__law_bag : List Str := ["_law_script"]
def li__law_bag_1 (fu : Nat) : M (List D) :=
    (mwalk (mbind (mslice (mvar 0) (mret none) (mpart (mret (D.int 40)))) fun r => mret (Rv.d r)))
def lb__law_bag_1 (fu : Nat) : MS :=
    (ms (mbind (mbin dAdd (mbind (mbin dMul (mvar 1) (mbind (mret (D.int 1000639)) fun d => mret (Opd.d d))) fun d => mret (Opd.d d)) (mbind (mbin dMod (mbind (mbin dAdd (mbind (mbin dMul (mbind (mret (D.int 2)) fun d => mret (Opd.d d)) (mbind (mbind (mcb (on1 absD) (mcons (mbind (mbind (mcb (on1 intOf) (mcons (mvar 2) (mret []))) fun r => mret (Rv.d r)) fun d => mret (Opd.d d)) (mret []))) fun r => mret (Rv.d r)) fun d => mret (Opd.d d))) fun d => mret (Opd.d d)) (mbind (mbind (mcb (on1 intOf) (mcons (mbind (mbin dLt (mvar 2) (mbind (mret (D.int 0)) fun d => mret (Opd.d d))) fun d => mret (Opd.d d)) (mret []))) fun r => mret (Rv.d r)) fun d => mret (Opd.d d))) fun d => mret (Opd.d d)) (mbind (mbin dPowB (mbind (mbin dPow (mbind (mret (D.int 10)) fun d => mret (Opd.d d)) (mbind (mret (D.int 60)) fun d => mret (Opd.d d))) fun d => mret (Opd.d d)) (mbind (mret (D.int 5)) fun d => mret (Opd.d d))) fun d => mret (Opd.d d))) fun d => mret (Opd.d d))) fun d => mret (Rv.v d)) fun r => stSet 1 (Rv.sl r))
def l__law_bag_1 (fu : Nat) : MS :=
    mfor (li__law_bag_1 fu) (tgName 2) (lb__law_bag_1 fu)
def b__law_bag (fu : Nat) : MS :=
    (mseq (ms (mbind (mret (D.int 137)) fun d => mret (Rv.v d)) fun r => stSet 1 (Rv.sl r))
    (mseq (l__law_bag_1 fu)
    (ms (mlst (mcons (mvar 1) (mcons (mbind (mret (D.int 0)) fun d => mret (Opd.d d)) (mcons (mbind (mbin dMod (mbind (mbind (mcb (on1 intOf) (mcons (mvar 1) (mret []))) fun r => mret (Rv.d r)) fun d => mret (Opd.d d)) (mbind (mret (D.int 998244353)) fun d => mret (Opd.d d))) fun d => mret (Opd.d d)) (mret []))))) fun r s => OutS.rt r s)))
def d__law_bag (fu : Nat) : Fd := fnD 3 1 (b__law_bag fu)

abbrev s__law_pull : Stmt := top 26
abbrev N__law_pull : List Str := ["_law_bag_here", "_law_many", "_law_digit"]
abbrev p__law_pull : List Str := ["_law_bag_here", "_law_many"]
def b__law_pull (fu : Nat) : MS :=
    (mseq (mcond (mbind (mbin dEq (mbind (mbin dIx (mvar 0) (mbind (mret (D.int 0)) fun d => mret (Opd.d d))) fun d => mret (Opd.d d)) (mbind (mret (D.int 0)) fun d => mret (Opd.d d))) tob) (mseq (mseti 0 (mbin dAdd (mbind (mbin dIx (mvar 0) (mbind (mret (D.int 1)) fun d => mret (Opd.d d))) fun d => mret (Opd.d d)) (mbind (mret (D.int 1)) fun d => mret (Opd.d d))) (mret (D.int 1)))
    (mseti 0 (mbin dPow (mbind (mbin dAdd (mbind (mbin dAdd (mbind (mbin dMul (mbind (mbin dIx (mvar 0) (mbind (mret (D.int 2)) fun d => mret (Opd.d d))) fun d => mret (Opd.d d)) (mbind (mbin dAdd (mbind (mbin dMul (mbind (mret (D.int 2)) fun d => mret (Opd.d d)) (mbind (mbin dIx (mvar 0) (mbind (mret (D.int 1)) fun d => mret (Opd.d d))) fun d => mret (Opd.d d))) fun d => mret (Opd.d d)) (mbind (mret (D.int 1)) fun d => mret (Opd.d d))) fun d => mret (Opd.d d))) fun d => mret (Opd.d d)) (mbind (mbin dMul (mbind (mret (D.int 91529)) fun d => mret (Opd.d d)) (mbind (mbin dIx (mvar 0) (mbind (mret (D.int 1)) fun d => mret (Opd.d d))) fun d => mret (Opd.d d))) fun d => mret (Opd.d d))) fun d => mret (Opd.d d)) (mbind (mret (D.int 43)) fun d => mret (Opd.d d))) fun d => mret (Opd.d d)) (mbind (mret (D.int 3)) fun d => mret (Opd.d d))) (mret (D.int 0)))) (fun s => OutS.nx s))
    (mseq (ms (mbind (mbin dMod (mbind (mbind (mcb (on1 intOf) (mcons (mbind (mbin dIx (mvar 0) (mbind (mret (D.int 0)) fun d => mret (Opd.d d))) fun d => mret (Opd.d d)) (mret []))) fun r => mret (Rv.d r)) fun d => mret (Opd.d d)) (mvar 1)) fun d => mret (Rv.v d)) fun r => stSet 2 (Rv.sl r))
    (mseq (mseti 0 (mbin dDiv (mbind (mbind (mcb (on1 intOf) (mcons (mbind (mbin dIx (mvar 0) (mbind (mret (D.int 0)) fun d => mret (Opd.d d))) fun d => mret (Opd.d d)) (mret []))) fun r => mret (Rv.d r)) fun d => mret (Opd.d d)) (mvar 1)) (mret (D.int 0)))
    (ms (mbind (mbind (mvar 2) strong) fun d => mret (Rv.v d)) fun r s => OutS.rt r s))))
def d__law_pull (fu : Nat) : Fd := fnD 3 2 (b__law_pull fu)

abbrev s__law_take : Stmt := top 27
abbrev N__law_take : List Str := ["_law_bag_here", "_law_some"]
abbrev p__law_take : List Str := ["_law_bag_here", "_law_some"]
def b__law_take (fu : Nat) : MS :=
    (ms (mbind (mbin dIx (mvar 1) (mbind (mbind (mcall (d__law_pull fu) [] (mcons (mvar 0) (mcons (mbind (mbind (mcb (on1 lenD) (mcons (mvar 1) (mret []))) fun r => mret (Rv.d r)) fun d => mret (Opd.d d)) (mret [])))) fun r => mret (Rv.d r)) fun d => mret (Opd.d d))) fun d => mret (Rv.v d)) fun r s => OutS.rt r s)
def d__law_take (fu : Nat) : Fd := fnD 2 2 (b__law_take fu)

abbrev s__law_integer : Stmt := top 28
abbrev N__law_integer : List Str := ["_law_bag_here", "_law_small", "_law_great"]
abbrev p__law_integer : List Str := ["_law_bag_here"]
def b__law_integer (fu : Nat) : MS :=
    (mseq (mpar2 1 2 (mcons (mbind (mbin dSub (mbind (mbind (mcall (d__law_pull fu) [] (mcons (mvar 0) (mcons (mbind (mret (D.int 60)) fun d => mret (Opd.d d)) (mret [])))) fun r => mret (Rv.d r)) fun d => mret (Opd.d d)) (mbind (mret (D.int 30)) fun d => mret (Opd.d d))) fun d => mret (Opd.d d)) (mcons (mbind (mbin dSub (mbind (mbind (mcall (d__law_pull fu) [] (mcons (mvar 0) (mcons (mbind (mbin dPow (mbind (mret (D.int 10)) fun d => mret (Opd.d d)) (mbind (mret (D.int 28)) fun d => mret (Opd.d d))) fun d => mret (Opd.d d)) (mret [])))) fun r => mret (Rv.d r)) fun d => mret (Opd.d d)) (mbind (mbin dMul (mbind (mret (D.int 5)) fun d => mret (Opd.d d)) (mbind (mbin dPow (mbind (mret (D.int 10)) fun d => mret (Opd.d d)) (mbind (mret (D.int 27)) fun d => mret (Opd.d d))) fun d => mret (Opd.d d))) fun d => mret (Opd.d d))) fun d => mret (Opd.d d)) (mret []))))
    (ms (mcall (d__law_take fu) [] (mcons (mvar 0) (mcons (mbind (mbind (mlst (mcons (mvar 1) (mcons (mvar 1) (mcons (mvar 2) (mcons (mbind (mret (D.int 0)) fun d => mret (Opd.d d)) (mcons (mbind (mret (D.int 1)) fun d => mret (Opd.d d)) (mcons (mbind (mun dNeg (mbind (mret (D.int 1)) fun d => mret (Opd.d d))) fun d => mret (Opd.d d)) (mret [])))))))) fun r => mret (Rv.d r)) fun d => mret (Opd.d d)) (mret [])))) fun r s => OutS.rt r s))
def d__law_integer (fu : Nat) : Fd := fnD 3 1 (b__law_integer fu)

abbrev s__law_value : Stmt := top 29
abbrev N__law_value : List Str := ["_law_bag_here", "_law_number"]
abbrev p__law_value : List Str := ["_law_bag_here"]
def b__law_value (fu : Nat) : MS :=
    (mseq (ms (mcall (d__law_integer fu) [] (mcons (mvar 0) (mret []))) fun r => stSet 1 (Rv.sl r))
    (ms (mcall (d__law_take fu) [] (mcons (mvar 0) (mcons (mbind (mbind (mlst (mcons (mbind (mret D.non) fun d => mret (Opd.d d)) (mcons (mbind (mret (D.bl true)) fun d => mret (Opd.d d)) (mcons (mbind (mret (D.bl false)) fun d => mret (Opd.d d)) (mcons (mbind (mbind (mcb (on1 strOf) (mcons (mvar 1) (mret []))) fun r => mret (Rv.d r)) fun d => mret (Opd.d d)) (mcons (mbind (mret (D.str "")) fun d => mret (Opd.d d)) (mcons (mbind (mbind (mlst (mcons (mvar 1) (mret []))) fun r => mret (Rv.d r)) fun d => mret (Opd.d d)) (mcons (mbind (mtup (mcons (mvar 1) (mret []))) fun d => mret (Opd.d d)) (mcons (mbind (mret D.dct) fun d => mret (Opd.d d)) (mcons (mbind (mbind (mvar 1) fun _ => mret D.dct) fun d => mret (Opd.d d)) (mcons (mbind (mbind (mlst (mcons (mvar 1) (mcons (mbind (mret (D.bl true)) fun d => mret (Opd.d d)) (mret [])))) fun r => mret (Rv.d r)) fun d => mret (Opd.d d)) (mcons (mbind (mtup (mcons (mbind (mret D.non) fun d => mret (Opd.d d)) (mret []))) fun d => mret (Opd.d d)) (mcons (mbind (mbind (mlst (mcons (mbind (mbind (mlst (mcons (mvar 1) (mret []))) fun r => mret (Rv.d r)) fun d => mret (Opd.d d)) (mret []))) fun r => mret (Rv.d r)) fun d => mret (Opd.d d)) (mret [])))))))))))))) fun r => mret (Rv.d r)) fun d => mret (Opd.d d)) (mret [])))) fun r s => OutS.rt r s))
def d__law_value (fu : Nat) : Fd := fnD 2 1 (b__law_value fu)

abbrev s__law_same : Stmt := top 30
abbrev N__law_same : List Str := ["_law_told", "_law_due"]
abbrev p__law_same : List Str := ["_law_told", "_law_due"]
def b__law_same (fu : Nat) : MS :=
    (ms (mbind (mandV (mun (isiD isiBl) (mvar 0)) (mbin dEq (mvar 0) (mvar 1))) fun d => mret (Rv.v d)) fun r s => OutS.rt r s)
def d__law_same (fu : Nat) : Fd := fnD 2 2 (b__law_same fu)

abbrev s__law_integers_right : Stmt := top 31
abbrev N__law_integers_right : List Str := ["_law_bag_here", "_law_number", "_law_odd", "_law_low", "_law_high", "_law_least", "_law_most", "_law_due", "_law_row", "_law_turn", "_law_at"]
abbrev p__law_integers_right : List Str := ["_law_bag_here"]
def st__law_integers_right_1 (fu : Nat) : MS :=
    (mpar2 1 2 (mcons (mbind (mbind (mcall (d__law_integer fu) [] (mcons (mvar 0) (mret []))) fun r => mret (Rv.d r)) fun d => mret (Opd.d d)) (mcons (mbind (mbind (mcall (d__law_value fu) [] (mcons (mvar 0) (mret []))) fun r => mret (Rv.d r)) fun d => mret (Opd.d d)) (mret []))))
def st__law_integers_right_2 (fu : Nat) : MS :=
    (mcond (mif (mbind (mbind (mbind (mbind (mcall (d__law_same fu) [] (mcons (mbind (mbind (mcall (d_is_integer fu) [] (mcons (mvar 1) (mret []))) fun r => mret (Rv.d r)) fun d => mret (Opd.d d)) (mcons (mbind (mret (D.bl true)) fun d => mret (Opd.d d)) (mret [])))) fun r => mret (Rv.d r)) fun d => mret (Opd.d d)) fun o => mbind (res o) fun d => mopt (truD d)) fun b => mret (!b)) (mret true) (mif (mbind (mbind (mbind (mbind (mcall (d__law_same fu) [] (mcons (mbind (mbind (mcall (d_is_integer fu) [] (mcons (mvar 2) (mret []))) fun r => mret (Rv.d r)) fun d => mret (Opd.d d)) (mcons (mbind (mret (D.bl false)) fun d => mret (Opd.d d)) (mret [])))) fun r => mret (Rv.d r)) fun d => mret (Opd.d d)) fun o => mbind (res o) fun d => mopt (truD d)) fun b => mret (!b)) (mret true) (mbind (mbind (mbind (mbind (mcall (d__law_same fu) [] (mcons (mbind (mbind (mcall (d_is_within fu) [] (mcons (mvar 2) (mcons (mbind (mret D.non) fun d => mret (Opd.d d)) (mcons (mbind (mret D.non) fun d => mret (Opd.d d)) (mret []))))) fun r => mret (Rv.d r)) fun d => mret (Opd.d d)) (mcons (mbind (mret (D.bl false)) fun d => mret (Opd.d d)) (mret [])))) fun r => mret (Rv.d r)) fun d => mret (Opd.d d)) fun o => mbind (res o) fun d => mopt (truD d)) fun b => mret (!b)))) (ms (mbind (mret (D.bl false)) fun d => mret (Rv.v d)) fun r s => OutS.rt r s) (fun s => OutS.nx s))
def st__law_integers_right_3 (fu : Nat) : MS :=
    (mpar2 3 4 (mcons (mbind (mbin dSub (mbind (mbin dAdd (mvar 1) (mbind (mbind (mcall (d__law_pull fu) [] (mcons (mvar 0) (mcons (mbind (mret (D.int 5)) fun d => mret (Opd.d d)) (mret [])))) fun r => mret (Rv.d r)) fun d => mret (Opd.d d))) fun d => mret (Opd.d d)) (mbind (mret (D.int 2)) fun d => mret (Opd.d d))) fun d => mret (Opd.d d)) (mcons (mbind (mbin dSub (mbind (mbin dAdd (mvar 1) (mbind (mbind (mcall (d__law_pull fu) [] (mcons (mvar 0) (mcons (mbind (mret (D.int 5)) fun d => mret (Opd.d d)) (mret [])))) fun r => mret (Rv.d r)) fun d => mret (Opd.d d))) fun d => mret (Opd.d d)) (mbind (mret (D.int 2)) fun d => mret (Opd.d d))) fun d => mret (Opd.d d)) (mret []))))
def li__law_integers_right_1 (fu : Nat) : M (List D) :=
    (mwalk (mtup (mcons (mbind (mtup (mcons (mvar 3) (mcons (mvar 4) (mret [])))) fun d => mret (Opd.d d)) (mcons (mbind (mtup (mcons (mbind (mret D.non) fun d => mret (Opd.d d)) (mcons (mvar 4) (mret [])))) fun d => mret (Opd.d d)) (mcons (mbind (mtup (mcons (mvar 3) (mcons (mbind (mret D.non) fun d => mret (Opd.d d)) (mret [])))) fun d => mret (Opd.d d)) (mcons (mbind (mtup (mcons (mbind (mret D.non) fun d => mret (Opd.d d)) (mcons (mbind (mret D.non) fun d => mret (Opd.d d)) (mret [])))) fun d => mret (Opd.d d)) (mret [])))))))
def lb__law_integers_right_1 (fu : Nat) : MS :=
    (mseq (ms (mbind (mandV (morV (mbin dIsN (mvar 5) (mbind (mret D.non) fun d => mret (Opd.d d))) (mbin dLe (mvar 5) (mvar 1))) (morV (mbin dIsN (mvar 6) (mbind (mret D.non) fun d => mret (Opd.d d))) (mbin dLe (mvar 1) (mvar 6)))) fun d => mret (Rv.v d)) fun r => stSet 7 (Rv.sl r))
    (mcond (mif (mbind (mbind (mbind (mbind (mcall (d__law_same fu) [] (mcons (mbind (mbind (mcall (d_is_within fu) [] (mcons (mvar 1) (mcons (mvar 5) (mcons (mvar 6) (mret []))))) fun r => mret (Rv.d r)) fun d => mret (Opd.d d)) (mcons (mvar 7) (mret [])))) fun r => mret (Rv.d r)) fun d => mret (Opd.d d)) fun o => mbind (res o) fun d => mopt (truD d)) fun b => mret (!b)) (mret true) (mbind (mbind (mbind (mbind (mcall (d__law_same fu) [] (mcons (mbind (mbind (mcall (d_is_within fu) [] (mrevA (mcons (mvar 6) (mcons (mvar 5) (mcons (mvar 1) (mret [])))))) fun r => mret (Rv.d r)) fun d => mret (Opd.d d)) (mcons (mvar 7) (mret [])))) fun r => mret (Rv.d r)) fun d => mret (Opd.d d)) fun o => mbind (res o) fun d => mopt (truD d)) fun b => mret (!b))) (ms (mbind (mret (D.bl false)) fun d => mret (Rv.v d)) fun r s => OutS.rt r s) (fun s => OutS.nx s)))
def l__law_integers_right_1 (fu : Nat) : MS :=
    mfor (li__law_integers_right_1 fu) (tgTup 2 (tgCons (tgName 5) (tgCons (tgName 6) tgNil))) (lb__law_integers_right_1 fu)
def ci__law_integers_right_2 (fu : Nat) : M (List D) :=
    (mrng rng1 (mcons (mbind (mbind (mcall (d__law_pull fu) [] (mcons (mvar 0) (mcons (mbind (mret (D.int 4)) fun d => mret (Opd.d d)) (mret [])))) fun r => mret (Rv.d r)) fun d => mret (Opd.d d)) (mret [])))
def ct__law_integers_right_2 (fu : Nat) : M Bool :=
    (mret true)
def ce__law_integers_right_2 (fu : Nat) : M D :=
    (mbind (mcall (d__law_integer fu) [] (mcons (mvar 0) (mret []))) fun r => mret (Rv.d r))
def c__law_integers_right_2 (fu : Nat) : M Rv :=
    mlc [9] (ci__law_integers_right_2 fu) (tgName 9) (ct__law_integers_right_2 fu) (ce__law_integers_right_2 fu)
def st__law_integers_right_5 (fu : Nat) : MS :=
    (ms (c__law_integers_right_2 fu) fun r => stSet 8 (Rv.sl r))
def st__law_integers_right_6 (fu : Nat) : MS :=
    (ms (mcall (d__law_pull fu) [] (mcons (mvar 0) (mcons (mbind (mbin dAdd (mbind (mbind (mcb (on1 lenD) (mcons (mvarF 8) (mret []))) fun r => mret (Rv.d r)) fun d => mret (Opd.d d)) (mbind (mret (D.int 1)) fun d => mret (Opd.d d))) fun d => mret (Opd.d d)) (mret [])))) fun r => stSet 10 (Rv.sl r))
def st__law_integers_right_7 (fu : Nat) : MS :=
    (mcond (mif (mbind (mbind (mbind (mbind (mcall (d__law_same fu) [] (mcons (mbind (mbind (mcall (d_are_integers fu) [] (mcons (mvarF 8) (mret []))) fun r => mret (Rv.d r)) fun d => mret (Opd.d d)) (mcons (mbind (mret (D.bl true)) fun d => mret (Opd.d d)) (mret [])))) fun r => mret (Rv.d r)) fun d => mret (Opd.d d)) fun o => mbind (res o) fun d => mopt (truD d)) fun b => mret (!b)) (mret true) (mbind (mbind (mbind (mbind (mcall (d__law_same fu) [] (mcons (mbind (mbind (mcall (d_are_integers fu) [] (mcons (mbind (mbind (mcb (on1 tupOf) (mcons (mvarF 8) (mret []))) fun r => mret (Rv.d r)) fun d => mret (Opd.d d)) (mret []))) fun r => mret (Rv.d r)) fun d => mret (Opd.d d)) (mcons (mbind (mret (D.bl true)) fun d => mret (Opd.d d)) (mret [])))) fun r => mret (Rv.d r)) fun d => mret (Opd.d d)) fun o => mbind (res o) fun d => mopt (truD d)) fun b => mret (!b))) (ms (mbind (mret (D.bl false)) fun d => mret (Rv.v d)) fun r s => OutS.rt r s) (fun s => OutS.nx s))
def st__law_integers_right_8 (fu : Nat) : MS :=
    (ms (mbind (mandV (mbind (mcall (d__law_same fu) [] (mcons (mbind (mbind (mcall (d_are_integers fu) [] (mcons (mbind (mbind (mbinR dCat (mbind (mbind (mbinR dCat (mbind (mbind (mslice (mvarF 8) (mret none) (mpart (mbind (mvar 10) strong))) fun r => mret (Rv.d r)) fun d => mret (Opd.d d)) (mbind (mbind (mlst (mcons (mvar 2) (mret []))) fun r => mret (Rv.d r)) fun d => mret (Opd.d d))) fun r => mret (Rv.d r)) fun d => mret (Opd.d d)) (mbind (mbind (mslice (mvarF 8) (mpart (mbind (mvar 10) strong)) (mret none)) fun r => mret (Rv.d r)) fun d => mret (Opd.d d))) fun r => mret (Rv.d r)) fun d => mret (Opd.d d)) (mret []))) fun r => mret (Rv.d r)) fun d => mret (Opd.d d)) (mcons (mbind (mret (D.bl false)) fun d => mret (Opd.d d)) (mret [])))) fun r => mret (Rv.d r)) (mandV (mbind (mcall (d__law_same fu) [] (mcons (mbind (mbind (mcall (d_are_integers fu) [] (mcons (mbind (mret D.dct) fun d => mret (Opd.d d)) (mret []))) fun r => mret (Rv.d r)) fun d => mret (Opd.d d)) (mcons (mbind (mret (D.bl false)) fun d => mret (Opd.d d)) (mret [])))) fun r => mret (Rv.d r)) (mbind (mcall (d__law_same fu) [] (mcons (mbind (mbind (mcall (d_are_integers fu) [] (mcons (mbind (mret (D.str "12")) fun d => mret (Opd.d d)) (mret []))) fun r => mret (Rv.d r)) fun d => mret (Opd.d d)) (mcons (mbind (mret (D.bl false)) fun d => mret (Opd.d d)) (mret [])))) fun r => mret (Rv.d r)))) fun d => mret (Rv.v d)) fun r s => OutS.rt r s)
def b__law_integers_right (fu : Nat) : MS :=
    (mseq (st__law_integers_right_1 fu)
    (mseq (st__law_integers_right_2 fu)
    (mseq (st__law_integers_right_3 fu)
    (mseq (l__law_integers_right_1 fu)
    (mseq (st__law_integers_right_5 fu)
    (mseq (st__law_integers_right_6 fu)
    (mseq (st__law_integers_right_7 fu)
    (st__law_integers_right_8 fu))))))))
def d__law_integers_right (fu : Nat) : Fd := fnD 11 1 (b__law_integers_right fu)

abbrev s__law_names_right : Stmt := top 32
abbrev N__law_names_right : List Str := ["_law_bag_here", "_law_letters", "_law_signs", "_law_name", "_law_turn", "_law_at", "_law_odd"]
abbrev p__law_names_right : List Str := ["_law_bag_here"]
def st__law_names_right_1 (fu : Nat) : MS :=
    (masg (mtup (mcons (mbind (mret (D.str "abcdefghijklmnopqrstuvwxyz")) fun d => mret (Opd.d d)) (mcons (mbind (mret (D.str "abcdefghijklmnopqrstuvwxyz0123456789")) fun d => mret (Opd.d d)) (mret [])))) (tgTup 2 (tgCons (tgName 1) (tgCons (tgName 2) tgNil))))
def st__law_names_right_2 (fu : Nat) : MS :=
    (ms (mcall (d__law_take fu) [] (mcons (mvar 0) (mcons (mbind (mbind (mcb (on1 lstOfS) (mcons (mvar 1) (mret []))) fun r => mret (Rv.d r)) fun d => mret (Opd.d d)) (mret [])))) fun r => stSet 3 (Rv.sl r))
def li__law_names_right_1 (fu : Nat) : M (List D) :=
    (mrng rng1 (mcons (mbind (mbind (mcall (d__law_pull fu) [] (mcons (mvar 0) (mcons (mbind (mret (D.int 12)) fun d => mret (Opd.d d)) (mret [])))) fun r => mret (Rv.d r)) fun d => mret (Opd.d d)) (mret [])))
def lb__law_names_right_1 (fu : Nat) : MS :=
    (ms (mbind (mbin dAddX (mvar 3) (mbind (mbind (mcall (d__law_take fu) [] (mcons (mvar 0) (mcons (mbind (mbind (mcb (on1 lstOfS) (mcons (mvar 2) (mret []))) fun r => mret (Rv.d r)) fun d => mret (Opd.d d)) (mret [])))) fun r => mret (Rv.d r)) fun d => mret (Opd.d d))) fun d => mret (Rv.v d)) fun r => stSet 3 (Rv.sl r))
def l__law_names_right_1 (fu : Nat) : MS :=
    mfor (li__law_names_right_1 fu) (tgName 4) (lb__law_names_right_1 fu)
def st__law_names_right_4 (fu : Nat) : MS :=
    (mpar2 5 6 (mcons (mbind (mbind (mcall (d__law_pull fu) [] (mcons (mvar 0) (mcons (mbind (mbin dAddX (mbind (mbind (mcb (on1 lenD) (mcons (mvar 3) (mret []))) fun r => mret (Rv.d r)) fun d => mret (Opd.d d)) (mbind (mret (D.int 1)) fun d => mret (Opd.d d))) fun d => mret (Opd.d d)) (mret [])))) fun r => mret (Rv.d r)) fun d => mret (Opd.d d)) (mcons (mbind (mbind (mcall (d__law_take fu) [] (mcons (mvar 0) (mcons (mbind (mbind (mlst (mcons (mbind (mret (D.str "A")) fun d => mret (Opd.d d)) (mcons (mbind (mret (D.str " ")) fun d => mret (Opd.d d)) (mcons (mbind (mret (D.str "_")) fun d => mret (Opd.d d)) (mcons (mbind (mret (D.str "-")) fun d => mret (Opd.d d)) (mcons (mbind (mret (D.str ".")) fun d => mret (Opd.d d)) (mcons (mbind (mret (D.str "
")) fun d => mret (Opd.d d)) (mcons (mbind (mret (D.str "Z")) fun d => mret (Opd.d d)) (mcons (mbind (mret (D.str "#")) fun d => mret (Opd.d d)) (mcons (mbind (mret (D.str "{")) fun d => mret (Opd.d d)) (mcons (mbind (mret (D.str "/")) fun d => mret (Opd.d d)) (mcons (mbind (mret (D.str ":")) fun d => mret (Opd.d d)) (mret []))))))))))))) fun r => mret (Rv.d r)) fun d => mret (Opd.d d)) (mret [])))) fun r => mret (Rv.d r)) fun d => mret (Opd.d d)) (mret []))))
def st__law_names_right_5 (fu : Nat) : MS :=
    (mcond (mif (mbind (mbind (mbind (mbind (mcall (d__law_same fu) [] (mcons (mbind (mbind (mcall (d_is_name fu) [] (mcons (mvar 3) (mret []))) fun r => mret (Rv.d r)) fun d => mret (Opd.d d)) (mcons (mbind (mret (D.bl true)) fun d => mret (Opd.d d)) (mret [])))) fun r => mret (Rv.d r)) fun d => mret (Opd.d d)) fun o => mbind (res o) fun d => mopt (truD d)) fun b => mret (!b)) (mret true) (mbind (mbind (mbind (mbind (mcall (d__law_same fu) [] (mcons (mbind (mbind (mcall (d_is_name fu) [] (mcons (mbind (mbin dAddX (mbind (mbin dAddX (mbind (mbind (mbind (msliceS (mvar 3) (mret none) (mpart (mbind (mvar 5) strong))) fun d => mret (Rv.v d)) fun r => mret (Rv.d r)) fun d => mret (Opd.d d)) (mvar 6)) fun d => mret (Opd.d d)) (mbind (mbind (mbind (msliceS (mvar 3) (mpart (mbind (mvar 5) strong)) (mret none)) fun d => mret (Rv.v d)) fun r => mret (Rv.d r)) fun d => mret (Opd.d d))) fun d => mret (Opd.d d)) (mret []))) fun r => mret (Rv.d r)) fun d => mret (Opd.d d)) (mcons (mbind (mret (D.bl false)) fun d => mret (Opd.d d)) (mret [])))) fun r => mret (Rv.d r)) fun d => mret (Opd.d d)) fun o => mbind (res o) fun d => mopt (truD d)) fun b => mret (!b))) (ms (mbind (mret (D.bl false)) fun d => mret (Rv.v d)) fun r s => OutS.rt r s) (fun s => OutS.nx s))
def st__law_names_right_6 (fu : Nat) : MS :=
    (mcond (mif (mbind (mbind (mbind (mbind (mcall (d__law_same fu) [] (mcons (mbind (mbind (mcall (d_is_name fu) [] (mcons (mbind (mbin dAddX (mbind (mret (D.str "4")) fun d => mret (Opd.d d)) (mbind (mbind (mbind (msliceS (mvar 3) (mret none) (mpart (mret (D.int 4)))) fun d => mret (Rv.v d)) fun r => mret (Rv.d r)) fun d => mret (Opd.d d))) fun d => mret (Opd.d d)) (mret []))) fun r => mret (Rv.d r)) fun d => mret (Opd.d d)) (mcons (mbind (mret (D.bl false)) fun d => mret (Opd.d d)) (mret [])))) fun r => mret (Rv.d r)) fun d => mret (Opd.d d)) fun o => mbind (res o) fun d => mopt (truD d)) fun b => mret (!b)) (mret true) (mbind (mbind (mbind (mbind (mcall (d__law_same fu) [] (mcons (mbind (mbind (mcall (d_is_name fu) [] (mcons (mbind (mbin dAddX (mvar 3) (mbind (mbin dRepS (mbind (mret (D.str "z")) fun d => mret (Opd.d d)) (mbind (mbin dSub (mbind (mret (D.int 13)) fun d => mret (Opd.d d)) (mbind (mbind (mcb (on1 lenD) (mcons (mvar 3) (mret []))) fun r => mret (Rv.d r)) fun d => mret (Opd.d d))) fun d => mret (Opd.d d))) fun d => mret (Opd.d d))) fun d => mret (Opd.d d)) (mret []))) fun r => mret (Rv.d r)) fun d => mret (Opd.d d)) (mcons (mbind (mret (D.bl false)) fun d => mret (Opd.d d)) (mret [])))) fun r => mret (Rv.d r)) fun d => mret (Opd.d d)) fun o => mbind (res o) fun d => mopt (truD d)) fun b => mret (!b))) (ms (mbind (mret (D.bl false)) fun d => mret (Rv.v d)) fun r s => OutS.rt r s) (fun s => OutS.nx s))
def st__law_names_right_7 (fu : Nat) : MS :=
    (ms (mbind (mandV (mbind (mcall (d__law_same fu) [] (mcons (mbind (mbind (mcall (d_is_name fu) [] (mcons (mbind (mbin dAddX (mvar 3) (mbind (mbin dRepS (mbind (mret (D.str "z")) fun d => mret (Opd.d d)) (mbind (mbin dSub (mbind (mret (D.int 12)) fun d => mret (Opd.d d)) (mbind (mbind (mcb (on1 lenD) (mcons (mvar 3) (mret []))) fun r => mret (Rv.d r)) fun d => mret (Opd.d d))) fun d => mret (Opd.d d))) fun d => mret (Opd.d d))) fun d => mret (Opd.d d)) (mret []))) fun r => mret (Rv.d r)) fun d => mret (Opd.d d)) (mcons (mbind (mret (D.bl true)) fun d => mret (Opd.d d)) (mret [])))) fun r => mret (Rv.d r)) (mandV (mnotV (mbind (mcall (d_is_name fu) [] (mcons (mbind (mret (D.str "")) fun d => mret (Opd.d d)) (mret []))) fun r => mret (Rv.d r))) (mnotV (mbind (mcall (d_is_name fu) [] (mcons (mbind (mbind (mcall (d__law_value fu) [] (mcons (mvar 0) (mret []))) fun r => mret (Rv.d r)) fun d => mret (Opd.d d)) (mret []))) fun r => mret (Rv.d r))))) fun d => mret (Rv.v d)) fun r s => OutS.rt r s)
def b__law_names_right (fu : Nat) : MS :=
    (mseq (st__law_names_right_1 fu)
    (mseq (st__law_names_right_2 fu)
    (mseq (l__law_names_right_1 fu)
    (mseq (st__law_names_right_4 fu)
    (mseq (st__law_names_right_5 fu)
    (mseq (st__law_names_right_6 fu)
    (st__law_names_right_7 fu)))))))
def d__law_names_right (fu : Nat) : Fd := fnD 7 1 (b__law_names_right fu)

abbrev s__law_lots_right : Stmt := top 33
abbrev N__law_lots_right : List Str := ["_law_bag_here", "_law_many", "_law_lot", "_law_number", "_law_odd"]
abbrev p__law_lots_right : List Str := ["_law_bag_here"]
def st__law_lots_right_1 (fu : Nat) : MS :=
    (ms (mcall (d__law_pull fu) [] (mcons (mvar 0) (mcons (mbind (mret (D.int 8)) fun d => mret (Opd.d d)) (mret [])))) fun r => stSet 1 (Rv.sl r))
def ci__law_lots_right_1 (fu : Nat) : M (List D) :=
    (mrng rng1 (mcons (mvar 1) (mret [])))
def ct__law_lots_right_1 (fu : Nat) : M Bool :=
    (mbind (mbin dEq (mbind (mbind (mcall (d__law_pull fu) [] (mcons (mvar 0) (mcons (mbind (mret (D.int 2)) fun d => mret (Opd.d d)) (mret [])))) fun r => mret (Rv.d r)) fun d => mret (Opd.d d)) (mbind (mret (D.int 0)) fun d => mret (Opd.d d))) tob)
def ce__law_lots_right_1 (fu : Nat) : M D :=
    (mbind (mvar 3) strong)
def c__law_lots_right_1 (fu : Nat) : M Rv :=
    mlc [3] (ci__law_lots_right_1 fu) (tgName 3) (ct__law_lots_right_1 fu) (ce__law_lots_right_1 fu)
def st__law_lots_right_2 (fu : Nat) : MS :=
    (ms (c__law_lots_right_1 fu) fun r => stSet 2 (Rv.sl r))
def st__law_lots_right_3 (fu : Nat) : MS :=
    (mcond (mif (mbind (mbind (mbind (mbind (mcall (d__law_same fu) [] (mcons (mbind (mbind (mcall (d_is_lot fu) [] (mcons (mvarF 2) (mcons (mvar 1) (mret [])))) fun r => mret (Rv.d r)) fun d => mret (Opd.d d)) (mcons (mbind (mret (D.bl true)) fun d => mret (Opd.d d)) (mret [])))) fun r => mret (Rv.d r)) fun d => mret (Opd.d d)) fun o => mbind (res o) fun d => mopt (truD d)) fun b => mret (!b)) (mret true) (mbind (mbind (mbind (mbind (mcall (d__law_same fu) [] (mcons (mbind (mbind (mcall (d_is_lot fu) [] (mcons (mbind (mbind (mcb (on1 tupOf) (mcons (mvarF 2) (mret []))) fun r => mret (Rv.d r)) fun d => mret (Opd.d d)) (mcons (mbind (mbin dAdd (mvar 1) (mbind (mbind (mcall (d__law_pull fu) [] (mcons (mvar 0) (mcons (mbind (mret (D.int 9)) fun d => mret (Opd.d d)) (mret [])))) fun r => mret (Rv.d r)) fun d => mret (Opd.d d))) fun d => mret (Opd.d d)) (mret [])))) fun r => mret (Rv.d r)) fun d => mret (Opd.d d)) (mcons (mbind (mret (D.bl true)) fun d => mret (Opd.d d)) (mret [])))) fun r => mret (Rv.d r)) fun d => mret (Opd.d d)) fun o => mbind (res o) fun d => mopt (truD d)) fun b => mret (!b))) (ms (mbind (mret (D.bl false)) fun d => mret (Rv.v d)) fun r s => OutS.rt r s) (fun s => OutS.nx s))
def st__law_lots_right_4 (fu : Nat) : MS :=
    (mcond (mif (mbind (mbin dNe (mvarF 2) (mbind (mbind (mlst (mret [])) fun r => mret (Rv.d r)) fun d => mret (Opd.d d))) tob) (mif (mbind (mbind (mbind (mcall (d_is_lot fu) [] (mcons (mvarF 2) (mcons (mbind (mbin dIx (mvarF 2) (mbind (mun dNeg (mbind (mret (D.int 1)) fun d => mret (Opd.d d))) fun d => mret (Opd.d d))) fun d => mret (Opd.d d)) (mret [])))) fun r => mret (Rv.d r)) fun d => mret (Opd.d d)) fun o => mbind (res o) fun d => mopt (truD d)) (mret true) (mif (mbind (mbind (mbind (mcall (d_is_lot fu) [] (mcons (mbind (mbind (mbinR dCat (mvarF 2) (mbind (mbind (mslice (mvarF 2) (mpart (mun dNeg (mbind (mret (D.int 1)) fun d => mret (Opd.d d)))) (mret none)) fun r => mret (Rv.d r)) fun d => mret (Opd.d d))) fun r => mret (Rv.d r)) fun d => mret (Opd.d d)) (mcons (mvar 1) (mret [])))) fun r => mret (Rv.d r)) fun d => mret (Opd.d d)) fun o => mbind (res o) fun d => mopt (truD d)) (mret true) (mif (mbind (mbind (mbind (mcall (d_is_lot fu) [] (mcons (mbind (mbind (mbinR dCat (mbind (mbind (mslice (mvarF 2) (mret none) (mpart (mun dNeg (mbind (mret (D.int 1)) fun d => mret (Opd.d d))))) fun r => mret (Rv.d r)) fun d => mret (Opd.d d)) (mbind (mbind (mlst (mcons (mbind (mun dNeg (mbind (mret (D.int 1)) fun d => mret (Opd.d d))) fun d => mret (Opd.d d)) (mret []))) fun r => mret (Rv.d r)) fun d => mret (Opd.d d))) fun r => mret (Rv.d r)) fun d => mret (Opd.d d)) (mcons (mvar 1) (mret [])))) fun r => mret (Rv.d r)) fun d => mret (Opd.d d)) fun o => mbind (res o) fun d => mopt (truD d)) (mret true) (mbind (mbind (mbind (mcall (d_is_lot fu) [] (mcons (mbind (mbind (mbinR dCat (mbind (mbind (mslice (mvarF 2) (mret none) (mpart (mun dNeg (mbind (mret (D.int 1)) fun d => mret (Opd.d d))))) fun r => mret (Rv.d r)) fun d => mret (Opd.d d)) (mbind (mbind (mlst (mcons (mbind (mret (D.str "1")) fun d => mret (Opd.d d)) (mret []))) fun r => mret (Rv.d r)) fun d => mret (Opd.d d))) fun r => mret (Rv.d r)) fun d => mret (Opd.d d)) (mcons (mvar 1) (mret [])))) fun r => mret (Rv.d r)) fun d => mret (Opd.d d)) fun o => mbind (res o) fun d => mopt (truD d))))) (mret false)) (ms (mbind (mret (D.bl false)) fun d => mret (Rv.v d)) fun r s => OutS.rt r s) (fun s => OutS.nx s))
def st__law_lots_right_5 (fu : Nat) : MS :=
    (mcond (mif (mbind (mbin dGt (mbind (mbind (mcb (on1 lenD) (mcons (mvarF 2) (mret []))) fun r => mret (Rv.d r)) fun d => mret (Opd.d d)) (mbind (mret (D.int 1)) fun d => mret (Opd.d d))) tob) (mif (mbind (mbind (mbind (mcall (d_is_lot fu) [] (mcons (mbind (mbind (mrev (mvarF 2)) fun r => mret (Rv.d r)) fun d => mret (Opd.d d)) (mcons (mvar 1) (mret [])))) fun r => mret (Rv.d r)) fun d => mret (Opd.d d)) fun o => mbind (res o) fun d => mopt (truD d)) (mret true) (mbind (mbind (mbind (mcall (d_is_lot fu) [] (mcons (mbind (mbind (mbinR dCat (mbind (mbind (mlst (mcons (mbind (mbin dIx (mvarF 2) (mbind (mret (D.int 1)) fun d => mret (Opd.d d))) fun d => mret (Opd.d d)) (mcons (mbind (mbin dIx (mvarF 2) (mbind (mret (D.int 0)) fun d => mret (Opd.d d))) fun d => mret (Opd.d d)) (mret [])))) fun r => mret (Rv.d r)) fun d => mret (Opd.d d)) (mbind (mbind (mslice (mvarF 2) (mpart (mret (D.int 2))) (mret none)) fun r => mret (Rv.d r)) fun d => mret (Opd.d d))) fun r => mret (Rv.d r)) fun d => mret (Opd.d d)) (mcons (mvar 1) (mret [])))) fun r => mret (Rv.d r)) fun d => mret (Opd.d d)) fun o => mbind (res o) fun d => mopt (truD d))) (mret false)) (ms (mbind (mret (D.bl false)) fun d => mret (Rv.v d)) fun r s => OutS.rt r s) (fun s => OutS.nx s))
def st__law_lots_right_6 (fu : Nat) : MS :=
    (ms (mcall (d__law_take fu) [] (mcons (mvar 0) (mcons (mbind (mbind (mlst (mcons (mbind (mret D.non) fun d => mret (Opd.d d)) (mcons (mbind (mret (D.int 0)) fun d => mret (Opd.d d)) (mcons (mbind (mret (D.str "01")) fun d => mret (Opd.d d)) (mcons (mbind (mret D.dct) fun d => mret (Opd.d d)) (mcons (mbind (mbind (mlst (mcons (mbind (mret (D.bl true)) fun d => mret (Opd.d d)) (mret []))) fun r => mret (Rv.d r)) fun d => mret (Opd.d d)) (mcons (mbind (mbind (mlst (mcons (mbind (mret (D.bl false)) fun d => mret (Opd.d d)) (mcons (mbind (mret (D.int 1)) fun d => mret (Opd.d d)) (mret [])))) fun r => mret (Rv.d r)) fun d => mret (Opd.d d)) (mcons (mbind (mbind (mlst (mcons (mbind (mret D.non) fun d => mret (Opd.d d)) (mret []))) fun r => mret (Rv.d r)) fun d => mret (Opd.d d)) (mcons (mbind (mbind (mlst (mcons (mbind (mbind (mlst (mcons (mbind (mret (D.int 0)) fun d => mret (Opd.d d)) (mret []))) fun r => mret (Rv.d r)) fun d => mret (Opd.d d)) (mret []))) fun r => mret (Rv.d r)) fun d => mret (Opd.d d)) (mcons (mbind (mtup (mcons (mbind (mret (D.int 0)) fun d => mret (Opd.d d)) (mcons (mbind (mret (D.int 0)) fun d => mret (Opd.d d)) (mret [])))) fun d => mret (Opd.d d)) (mcons (mbind (mbind (mlst (mcons (mbind (mret (D.int 1)) fun d => mret (Opd.d d)) (mcons (mbind (mret (D.int 0)) fun d => mret (Opd.d d)) (mret [])))) fun r => mret (Rv.d r)) fun d => mret (Opd.d d)) (mcons (mbind (mbind (mlst (mcons (mbind (mun dNeg (mbind (mret (D.int 1)) fun d => mret (Opd.d d))) fun d => mret (Opd.d d)) (mret []))) fun r => mret (Rv.d r)) fun d => mret (Opd.d d)) (mcons (mbind (mbind (mlst (mcons (mbind (mret (D.int 9)) fun d => mret (Opd.d d)) (mret []))) fun r => mret (Rv.d r)) fun d => mret (Opd.d d)) (mret [])))))))))))))) fun r => mret (Rv.d r)) fun d => mret (Opd.d d)) (mret [])))) fun r => stSet 4 (Rv.sl r))
def st__law_lots_right_7 (fu : Nat) : MS :=
    (ms (mbind (mandV (mbind (mcall (d__law_same fu) [] (mcons (mbind (mbind (mcall (d_is_lot fu) [] (mcons (mvar 4) (mcons (mbind (mret (D.int 9)) fun d => mret (Opd.d d)) (mret [])))) fun r => mret (Rv.d r)) fun d => mret (Opd.d d)) (mcons (mbind (mret (D.bl false)) fun d => mret (Opd.d d)) (mret [])))) fun r => mret (Rv.d r)) (mandV (mbind (mcall (d__law_same fu) [] (mcons (mbind (mbind (mcall (d_is_lot fu) [] (mcons (mbind (mtup (mret [])) fun d => mret (Opd.d d)) (mcons (mbind (mret (D.int 0)) fun d => mret (Opd.d d)) (mret [])))) fun r => mret (Rv.d r)) fun d => mret (Opd.d d)) (mcons (mbind (mret (D.bl true)) fun d => mret (Opd.d d)) (mret [])))) fun r => mret (Rv.d r)) (mbind (mcall (d__law_same fu) [] (mcons (mbind (mbind (mcall (d_is_lot fu) [] (mcons (mbind (mbind (mlst (mcons (mbind (mret (D.int 0)) fun d => mret (Opd.d d)) (mret []))) fun r => mret (Rv.d r)) fun d => mret (Opd.d d)) (mcons (mbind (mret (D.int 0)) fun d => mret (Opd.d d)) (mret [])))) fun r => mret (Rv.d r)) fun d => mret (Opd.d d)) (mcons (mbind (mret (D.bl false)) fun d => mret (Opd.d d)) (mret [])))) fun r => mret (Rv.d r)))) fun d => mret (Rv.v d)) fun r s => OutS.rt r s)
def b__law_lots_right (fu : Nat) : MS :=
    (mseq (st__law_lots_right_1 fu)
    (mseq (st__law_lots_right_2 fu)
    (mseq (st__law_lots_right_3 fu)
    (mseq (st__law_lots_right_4 fu)
    (mseq (st__law_lots_right_5 fu)
    (mseq (st__law_lots_right_6 fu)
    (st__law_lots_right_7 fu)))))))
def d__law_lots_right (fu : Nat) : Fd := fnD 5 1 (b__law_lots_right fu)

abbrev s__law_divides : Stmt := top 34
abbrev N__law_divides : List Str := ["_law_part_here", "_law_numbers", "_law_number"]
abbrev p__law_divides : List Str := ["_law_part_here", "_law_numbers"]
def ci__law_divides_1 (fu : Nat) : M (List D) :=
    (mwalk (mbind (mvar 1) strong))
def ct__law_divides_1 (fu : Nat) : M Bool :=
    (mbind (mbin dNe (mbind (mbin dMul (mbind (mbin dDiv (mvar 2) (mvar 0)) fun d => mret (Opd.d d)) (mvar 0)) fun d => mret (Opd.d d)) (mvar 2)) tob)
def ce__law_divides_1 (fu : Nat) : M D :=
    (mbind (mvar 2) strong)
def c__law_divides_1 (fu : Nat) : M Rv :=
    mlc [2] (ci__law_divides_1 fu) (tgName 2) (ct__law_divides_1 fu) (ce__law_divides_1 fu)
def b__law_divides (fu : Nat) : MS :=
    (ms (mbind (mbin dEq (mbind (mbind (c__law_divides_1 fu) fun r => mret (Rv.d r)) fun d => mret (Opd.d d)) (mbind (mbind (mlst (mret [])) fun r => mret (Rv.d r)) fun d => mret (Opd.d d))) fun d => mret (Rv.v d)) fun r s => OutS.rt r s)
def d__law_divides (fu : Nat) : Fd := fnD 3 2 (b__law_divides fu)

abbrev s__law_measure : Stmt := top 35
abbrev N__law_measure : List Str := ["_law_numbers", "_law_most", "_law_number", "_law_part_here"]
abbrev p__law_measure : List Str := ["_law_numbers"]
def ci__law_measure_1 (fu : Nat) : M (List D) :=
    (mrng rng2 (mcons (mbind (mret (D.int 1)) fun d => mret (Opd.d d)) (mcons (mbind (mbin dAdd (mvar 1) (mbind (mret (D.int 1)) fun d => mret (Opd.d d))) fun d => mret (Opd.d d)) (mret []))))
def ct__law_measure_1 (fu : Nat) : M Bool :=
    (mbind (mbind (mbind (mcall (d__law_divides fu) [] (mcons (mvar 3) (mcons (mvar 0) (mret [])))) fun r => mret (Rv.d r)) fun d => mret (Opd.d d)) fun o => mbind (res o) fun d => mopt (truD d))
def ce__law_measure_1 (fu : Nat) : M D :=
    (mbind (mvar 3) strong)
def c__law_measure_1 (fu : Nat) : M Rv :=
    mlc [3] (ci__law_measure_1 fu) (tgName 3) (ct__law_measure_1 fu) (ce__law_measure_1 fu)
def ci__law_measure_2 (fu : Nat) : M (List D) :=
    (mwalk (mbind (mvar 0) strong))
def ct__law_measure_2 (fu : Nat) : M Bool :=
    (mret true)
def ce__law_measure_2 (fu : Nat) : M D :=
    (mbind (mcb (on1 absD) (mcons (mvar 2) (mret []))) fun r => mret (Rv.d r))
def c__law_measure_2 (fu : Nat) : M Rv :=
    mlc [2] (ci__law_measure_2 fu) (tgName 2) (ct__law_measure_2 fu) (ce__law_measure_2 fu)
def b__law_measure (fu : Nat) : MS :=
    (mseq (ms (mcb (on1 (onInts maxL)) (mcons (mbind (mbind (mbinR dCat (mbind (mbind (c__law_measure_2 fu) fun r => mret (Rv.d r)) fun d => mret (Opd.d d)) (mbind (mbind (mlst (mcons (mbind (mret (D.int 0)) fun d => mret (Opd.d d)) (mret []))) fun r => mret (Rv.d r)) fun d => mret (Opd.d d))) fun r => mret (Rv.d r)) fun d => mret (Opd.d d)) (mret []))) fun r => stSet 1 (Rv.sl r))
    (ms (mcb (on1 (onInts maxL)) (mcons (mbind (mbind (mbinR dCat (mbind (mbind (c__law_measure_1 fu) fun r => mret (Rv.d r)) fun d => mret (Opd.d d)) (mbind (mbind (mlst (mcons (mbind (mret (D.int 0)) fun d => mret (Opd.d d)) (mret []))) fun r => mret (Rv.d r)) fun d => mret (Opd.d d))) fun r => mret (Rv.d r)) fun d => mret (Opd.d d)) (mret []))) fun r s => OutS.rt r s))
def d__law_measure (fu : Nat) : Fd := fnD 4 1 (b__law_measure fu)

abbrev s__law_divisors_right : Stmt := top 36
abbrev N__law_divisors_right : List Str := ["_law_bag_here", "_law_shared", "_law_row", "_law_turn", "_law_found", "_law_due", "_law_great", "_law_number"]
abbrev p__law_divisors_right : List Str := ["_law_bag_here"]
def st__law_divisors_right_1 (fu : Nat) : MS :=
    (ms (mcall (d__law_pull fu) [] (mcons (mvar 0) (mcons (mbind (mret (D.int 12)) fun d => mret (Opd.d d)) (mret [])))) fun r => stSet 1 (Rv.sl r))
def ci__law_divisors_right_1 (fu : Nat) : M (List D) :=
    (mrng rng1 (mcons (mbind (mbind (mcall (d__law_pull fu) [] (mcons (mvar 0) (mcons (mbind (mret (D.int 5)) fun d => mret (Opd.d d)) (mret [])))) fun r => mret (Rv.d r)) fun d => mret (Opd.d d)) (mret [])))
def ct__law_divisors_right_1 (fu : Nat) : M Bool :=
    (mret true)
def ce__law_divisors_right_1 (fu : Nat) : M D :=
    (mbin dMul (mbind (mbin dSub (mbind (mbind (mcall (d__law_pull fu) [] (mcons (mvar 0) (mcons (mbind (mret (D.int 13)) fun d => mret (Opd.d d)) (mret [])))) fun r => mret (Rv.d r)) fun d => mret (Opd.d d)) (mbind (mret (D.int 6)) fun d => mret (Opd.d d))) fun d => mret (Opd.d d)) (mvar 1))
def c__law_divisors_right_1 (fu : Nat) : M Rv :=
    mlc [3] (ci__law_divisors_right_1 fu) (tgName 3) (ct__law_divisors_right_1 fu) (ce__law_divisors_right_1 fu)
def st__law_divisors_right_2 (fu : Nat) : MS :=
    (ms (c__law_divisors_right_1 fu) fun r => stSet 2 (Rv.sl r))
def st__law_divisors_right_3 (fu : Nat) : MS :=
    (mpar2 4 5 (mcons (mbind (mbind (mcall (d_common_divisor fu) [] (mcons (mvarF 2) (mret []))) fun r => mret (Rv.d r)) fun d => mret (Opd.d d)) (mcons (mbind (mbind (mcall (d__law_measure fu) [] (mcons (mvarF 2) (mret []))) fun r => mret (Rv.d r)) fun d => mret (Opd.d d)) (mret []))))
def st__law_divisors_right_4 (fu : Nat) : MS :=
    (mcond (mif (mbind (mbin dNe (mvar 4) (mvar 5)) tob) (mret true) (mif (mbind (mbin dNe (mbind (mbind (mcall (d_common_divisor fu) [] (mcons (mbind (mbind (mcb (on1 tupOf) (mcons (mbind (mbind (mrev (mvarF 2)) fun r => mret (Rv.d r)) fun d => mret (Opd.d d)) (mret []))) fun r => mret (Rv.d r)) fun d => mret (Opd.d d)) (mret []))) fun r => mret (Rv.d r)) fun d => mret (Opd.d d)) (mvar 5)) tob) (mret true) (mbind (mbind (mbind (mbind (mcall (d_is_integer fu) [] (mcons (mvar 4) (mret []))) fun r => mret (Rv.d r)) fun d => mret (Opd.d d)) fun o => mbind (res o) fun d => mopt (truD d)) fun b => mret (!b)))) (ms (mbind (mret (D.bl false)) fun d => mret (Rv.v d)) fun r s => OutS.rt r s) (fun s => OutS.nx s))
def st__law_divisors_right_5 (fu : Nat) : MS :=
    (ms (mbind (mbin dAdd (mbind (mbin dPow (mbind (mret (D.int 10)) fun d => mret (Opd.d d)) (mbind (mret (D.int 17)) fun d => mret (Opd.d d))) fun d => mret (Opd.d d)) (mbind (mbind (mcall (d__law_pull fu) [] (mcons (mvar 0) (mcons (mbind (mbin dPow (mbind (mret (D.int 10)) fun d => mret (Opd.d d)) (mbind (mret (D.int 17)) fun d => mret (Opd.d d))) fun d => mret (Opd.d d)) (mret [])))) fun r => mret (Rv.d r)) fun d => mret (Opd.d d))) fun d => mret (Rv.v d)) fun r => stSet 6 (Rv.sl r))
def ci__law_divisors_right_2 (fu : Nat) : M (List D) :=
    (mwalk (mbind (mvarF 2) strong))
def ct__law_divisors_right_2 (fu : Nat) : M Bool :=
    (mret true)
def ce__law_divisors_right_2 (fu : Nat) : M D :=
    (mbin dMul (mvar 6) (mvar 7))
def c__law_divisors_right_2 (fu : Nat) : M Rv :=
    mlc [7] (ci__law_divisors_right_2 fu) (tgName 7) (ct__law_divisors_right_2 fu) (ce__law_divisors_right_2 fu)
def st__law_divisors_right_6 (fu : Nat) : MS :=
    (ms (mbind (mandV (mbin dEq (mbind (mbind (mcall (d_common_divisor fu) [] (mcons (mbind (mbind (c__law_divisors_right_2 fu) fun r => mret (Rv.d r)) fun d => mret (Opd.d d)) (mret []))) fun r => mret (Rv.d r)) fun d => mret (Opd.d d)) (mbind (mbin dMul (mvar 6) (mvar 5)) fun d => mret (Opd.d d))) (mandV (mbin dEq (mbind (mbind (mcall (d_common_divisor fu) [] (mcons (mbind (mtup (mret [])) fun d => mret (Opd.d d)) (mret []))) fun r => mret (Rv.d r)) fun d => mret (Opd.d d)) (mbind (mret (D.int 0)) fun d => mret (Opd.d d))) (mbin dEq (mbind (mbind (mcall (d_common_divisor fu) [] (mcons (mbind (mbind (mlst (mcons (mbind (mun dNeg (mbind (mret (D.int 9)) fun d => mret (Opd.d d))) fun d => mret (Opd.d d)) (mret []))) fun r => mret (Rv.d r)) fun d => mret (Opd.d d)) (mret []))) fun r => mret (Rv.d r)) fun d => mret (Opd.d d)) (mbind (mret (D.int 9)) fun d => mret (Opd.d d))))) fun d => mret (Rv.v d)) fun r s => OutS.rt r s)
def b__law_divisors_right (fu : Nat) : MS :=
    (mseq (st__law_divisors_right_1 fu)
    (mseq (st__law_divisors_right_2 fu)
    (mseq (st__law_divisors_right_3 fu)
    (mseq (st__law_divisors_right_4 fu)
    (mseq (st__law_divisors_right_5 fu)
    (st__law_divisors_right_6 fu))))))
def d__law_divisors_right (fu : Nat) : Fd := fnD 8 1 (b__law_divisors_right fu)

abbrev s__law_ratios_right : Stmt := top 37
abbrev N__law_ratios_right : List Str := ["_law_bag_here", "_law_shared", "_law_one", "_law_other", "_law_due", "_law_told", "_law_odd"]
abbrev p__law_ratios_right : List Str := ["_law_bag_here"]
def st__law_ratios_right_1 (fu : Nat) : MS :=
    (mpar3 1 2 3 (mcons (mbind (mbind (mcall (d__law_pull fu) [] (mcons (mvar 0) (mcons (mbind (mret (D.int 30)) fun d => mret (Opd.d d)) (mret [])))) fun r => mret (Rv.d r)) fun d => mret (Opd.d d)) (mcons (mbind (mbin dSub (mbind (mbind (mcall (d__law_pull fu) [] (mcons (mvar 0) (mcons (mbind (mret (D.int 41)) fun d => mret (Opd.d d)) (mret [])))) fun r => mret (Rv.d r)) fun d => mret (Opd.d d)) (mbind (mret (D.int 20)) fun d => mret (Opd.d d))) fun d => mret (Opd.d d)) (mcons (mbind (mbin dSub (mbind (mbind (mcall (d__law_pull fu) [] (mcons (mvar 0) (mcons (mbind (mret (D.int 41)) fun d => mret (Opd.d d)) (mret [])))) fun r => mret (Rv.d r)) fun d => mret (Opd.d d)) (mbind (mret (D.int 20)) fun d => mret (Opd.d d))) fun d => mret (Opd.d d)) (mret [])))))
def st__law_ratios_right_2 (fu : Nat) : MS :=
    (mpar2 2 3 (mcons (mbind (mbin dMul (mvar 2) (mvar 1)) fun d => mret (Opd.d d)) (mcons (mbind (mbin dMul (mvar 3) (mvar 1)) fun d => mret (Opd.d d)) (mret []))))
def st__law_ratios_right_3 (fu : Nat) : MS :=
    (ms (mbind (mandV (mbin dGt (mvar 3) (mbind (mret (D.int 0)) fun d => mret (Opd.d d))) (mbin dEq (mbind (mbind (mcall (d__law_measure fu) [] (mcons (mbind (mbind (mlst (mcons (mvar 2) (mcons (mvar 3) (mret [])))) fun r => mret (Rv.d r)) fun d => mret (Opd.d d)) (mret []))) fun r => mret (Rv.d r)) fun d => mret (Opd.d d)) (mbind (mret (D.int 1)) fun d => mret (Opd.d d)))) fun d => mret (Rv.v d)) fun r => stSet 4 (Rv.sl r))
def st__law_ratios_right_4 (fu : Nat) : MS :=
    (mcond (mif (mbind (mbind (mbind (mbind (mcall (d__law_same fu) [] (mcons (mbind (mbind (mcall (d_is_ratio fu) [] (mcons (mbind (mtup (mcons (mvar 2) (mcons (mvar 3) (mret [])))) fun d => mret (Opd.d d)) (mret []))) fun r => mret (Rv.d r)) fun d => mret (Opd.d d)) (mcons (mvar 4) (mret [])))) fun r => mret (Rv.d r)) fun d => mret (Opd.d d)) fun o => mbind (res o) fun d => mopt (truD d)) fun b => mret (!b)) (mret true) (mbind (mbind (mbind (mbind (mcall (d__law_same fu) [] (mcons (mbind (mbind (mcall (d_is_ratio fu) [] (mcons (mbind (mbind (mlst (mcons (mvar 2) (mcons (mvar 3) (mret [])))) fun r => mret (Rv.d r)) fun d => mret (Opd.d d)) (mret []))) fun r => mret (Rv.d r)) fun d => mret (Opd.d d)) (mcons (mvar 4) (mret [])))) fun r => mret (Rv.d r)) fun d => mret (Opd.d d)) fun o => mbind (res o) fun d => mopt (truD d)) fun b => mret (!b))) (ms (mbind (mret (D.bl false)) fun d => mret (Rv.v d)) fun r s => OutS.rt r s) (fun s => OutS.nx s))
def st__law_ratios_right_5 (fu : Nat) : MS :=
    (mcond (mbind (mbin dNe (mvar 3) (mbind (mret (D.int 0)) fun d => mret (Opd.d d))) tob) (mseq (ms (mcall (d_lowest fu) [] (mcons (mvar 2) (mcons (mvar 3) (mret [])))) fun r => stSet 5 (Rv.sl r))
    (mcond (mif (mbind (mbind (mbind (mun (isiD isiTup) (mvar 5)) fun d => mret (Opd.d d)) fun o => mbind (res o) fun d => mopt (truD d)) fun b => mret (!b)) (mret true) (mif (mbind (mbind (mbind (mbind (mcall (d_is_ratio fu) [] (mcons (mvar 5) (mret []))) fun r => mret (Rv.d r)) fun d => mret (Opd.d d)) fun o => mbind (res o) fun d => mopt (truD d)) fun b => mret (!b)) (mret true) (mbind (mbin dNe (mbind (mbin dMul (mbind (mbin dIx (mvar 5) (mbind (mret (D.int 0)) fun d => mret (Opd.d d))) fun d => mret (Opd.d d)) (mvar 3)) fun d => mret (Opd.d d)) (mbind (mbin dMul (mbind (mbin dIx (mvar 5) (mbind (mret (D.int 1)) fun d => mret (Opd.d d))) fun d => mret (Opd.d d)) (mvar 2)) fun d => mret (Opd.d d))) tob))) (ms (mbind (mret (D.bl false)) fun d => mret (Rv.v d)) fun r s => OutS.rt r s) (fun s => OutS.nx s))) (fun s => OutS.nx s))
def st__law_ratios_right_6 (fu : Nat) : MS :=
    (ms (mcall (d__law_take fu) [] (mcons (mvar 0) (mcons (mbind (mbind (mlst (mcons (mbind (mtup (mcons (mbind (mret (D.int 1)) fun d => mret (Opd.d d)) (mcons (mbind (mret (D.bl true)) fun d => mret (Opd.d d)) (mret [])))) fun d => mret (Opd.d d)) (mcons (mbind (mtup (mcons (mbind (mret (D.bl false)) fun d => mret (Opd.d d)) (mcons (mbind (mret (D.int 1)) fun d => mret (Opd.d d)) (mret [])))) fun d => mret (Opd.d d)) (mcons (mbind (mtup (mcons (mbind (mret (D.int 1)) fun d => mret (Opd.d d)) (mret []))) fun d => mret (Opd.d d)) (mcons (mbind (mtup (mcons (mbind (mret (D.int 1)) fun d => mret (Opd.d d)) (mcons (mbind (mret (D.int 2)) fun d => mret (Opd.d d)) (mcons (mbind (mret (D.int 3)) fun d => mret (Opd.d d)) (mret []))))) fun d => mret (Opd.d d)) (mcons (mbind (mret (D.str "12")) fun d => mret (Opd.d d)) (mcons (mbind (mret D.non) fun d => mret (Opd.d d)) (mcons (mbind (mtup (mcons (mbind (mret (D.int 1)) fun d => mret (Opd.d d)) (mcons (mbind (mret (D.int 0)) fun d => mret (Opd.d d)) (mret [])))) fun d => mret (Opd.d d)) (mcons (mbind (mtup (mcons (mbind (mret (D.int 0)) fun d => mret (Opd.d d)) (mcons (mbind (mret (D.int 2)) fun d => mret (Opd.d d)) (mret [])))) fun d => mret (Opd.d d)) (mcons (mbind (mtup (mcons (mbind (mret (D.int 2)) fun d => mret (Opd.d d)) (mcons (mbind (mun dNeg (mbind (mret (D.int 3)) fun d => mret (Opd.d d))) fun d => mret (Opd.d d)) (mret [])))) fun d => mret (Opd.d d)) (mcons (mbind (mret D.dct) fun d => mret (Opd.d d)) (mcons (mbind (mtup (mcons (mbind (mret (D.int 1)) fun d => mret (Opd.d d)) (mcons (mbind (mret D.non) fun d => mret (Opd.d d)) (mret [])))) fun d => mret (Opd.d d)) (mcons (mbind (mtup (mret [])) fun d => mret (Opd.d d)) (mret [])))))))))))))) fun r => mret (Rv.d r)) fun d => mret (Opd.d d)) (mret [])))) fun r => stSet 6 (Rv.sl r))
def st__law_ratios_right_7 (fu : Nat) : MS :=
    (ms (mbind (mandV (mbind (mcall (d__law_same fu) [] (mcons (mbind (mbind (mcall (d_is_ratio fu) [] (mcons (mvar 6) (mret []))) fun r => mret (Rv.d r)) fun d => mret (Opd.d d)) (mcons (mbind (mret (D.bl false)) fun d => mret (Opd.d d)) (mret [])))) fun r => mret (Rv.d r)) (mandV (mbind (mcall (d_is_ratio fu) [] (mcons (mbind (mtup (mcons (mbind (mret (D.int 0)) fun d => mret (Opd.d d)) (mcons (mbind (mret (D.int 1)) fun d => mret (Opd.d d)) (mret [])))) fun d => mret (Opd.d d)) (mret []))) fun r => mret (Rv.d r)) (mbind (mcall (d_is_ratio fu) [] (mcons (mbind (mtup (mcons (mbind (mun dNeg (mbind (mret (D.int 7)) fun d => mret (Opd.d d))) fun d => mret (Opd.d d)) (mcons (mbind (mbin dPow (mbind (mret (D.int 10)) fun d => mret (Opd.d d)) (mbind (mret (D.int 20)) fun d => mret (Opd.d d))) fun d => mret (Opd.d d)) (mret [])))) fun d => mret (Opd.d d)) (mret []))) fun r => mret (Rv.d r)))) fun d => mret (Rv.v d)) fun r s => OutS.rt r s)
def b__law_ratios_right (fu : Nat) : MS :=
    (mseq (st__law_ratios_right_1 fu)
    (mseq (st__law_ratios_right_2 fu)
    (mseq (st__law_ratios_right_3 fu)
    (mseq (st__law_ratios_right_4 fu)
    (mseq (st__law_ratios_right_5 fu)
    (mseq (st__law_ratios_right_6 fu)
    (st__law_ratios_right_7 fu)))))))
def d__law_ratios_right (fu : Nat) : Fd := fnD 7 1 (b__law_ratios_right fu)

abbrev s__law_compared_right : Stmt := top 38
abbrev N__law_compared_right : List Str := ["_law_bag_here", "_law_great", "_law_one", "_law_other", "_law_near", "_law_first", "_law_second", "_law_left", "_law_right", "_law_told"]
abbrev p__law_compared_right : List Str := ["_law_bag_here"]
def st__law_compared_right_1 (fu : Nat) : MS :=
    (ms (mcall (d__law_take fu) [] (mcons (mvar 0) (mcons (mbind (mbind (mlst (mcons (mbind (mret (D.int 0)) fun d => mret (Opd.d d)) (mcons (mbind (mret (D.int 0)) fun d => mret (Opd.d d)) (mcons (mbind (mbin dPow (mbind (mret (D.int 10)) fun d => mret (Opd.d d)) (mbind (mret (D.int 30)) fun d => mret (Opd.d d))) fun d => mret (Opd.d d)) (mret []))))) fun r => mret (Rv.d r)) fun d => mret (Opd.d d)) (mret [])))) fun r => stSet 1 (Rv.sl r))
def st__law_compared_right_2 (fu : Nat) : MS :=
    (ms (mcall (d_lowest fu) [] (mcons (mbind (mbin dAdd (mbind (mbin dSub (mbind (mbind (mcall (d__law_pull fu) [] (mcons (mvar 0) (mcons (mbind (mret (D.int 41)) fun d => mret (Opd.d d)) (mret [])))) fun r => mret (Rv.d r)) fun d => mret (Opd.d d)) (mbind (mret (D.int 20)) fun d => mret (Opd.d d))) fun d => mret (Opd.d d)) (mvar 1)) fun d => mret (Opd.d d)) (mcons (mbind (mbin dAdd (mbind (mret (D.int 1)) fun d => mret (Opd.d d)) (mbind (mbind (mcall (d__law_pull fu) [] (mcons (mvar 0) (mcons (mbind (mret (D.int 20)) fun d => mret (Opd.d d)) (mret [])))) fun r => mret (Rv.d r)) fun d => mret (Opd.d d))) fun d => mret (Opd.d d)) (mret [])))) fun r => stSet 2 (Rv.sl r))
def st__law_compared_right_3 (fu : Nat) : MS :=
    (ms (mcall (d_lowest fu) [] (mcons (mbind (mbin dAdd (mbind (mbin dSub (mbind (mbind (mcall (d__law_pull fu) [] (mcons (mvar 0) (mcons (mbind (mret (D.int 41)) fun d => mret (Opd.d d)) (mret [])))) fun r => mret (Rv.d r)) fun d => mret (Opd.d d)) (mbind (mret (D.int 20)) fun d => mret (Opd.d d))) fun d => mret (Opd.d d)) (mvar 1)) fun d => mret (Opd.d d)) (mcons (mbind (mbin dAdd (mbind (mret (D.int 1)) fun d => mret (Opd.d d)) (mbind (mbind (mcall (d__law_pull fu) [] (mcons (mvar 0) (mcons (mbind (mret (D.int 20)) fun d => mret (Opd.d d)) (mret [])))) fun r => mret (Rv.d r)) fun d => mret (Opd.d d))) fun d => mret (Opd.d d)) (mret [])))) fun r => stSet 3 (Rv.sl r))
def st__law_compared_right_4 (fu : Nat) : MS :=
    (ms (mcall (d_lowest fu) [] (mcons (mbind (mbin dAdd (mbind (mbin dMul (mbind (mbin dIx (mvar 2) (mbind (mret (D.int 0)) fun d => mret (Opd.d d))) fun d => mret (Opd.d d)) (mbind (mbin dPow (mbind (mret (D.int 10)) fun d => mret (Opd.d d)) (mbind (mret (D.int 9)) fun d => mret (Opd.d d))) fun d => mret (Opd.d d))) fun d => mret (Opd.d d)) (mbind (mret (D.int 1)) fun d => mret (Opd.d d))) fun d => mret (Opd.d d)) (mcons (mbind (mbin dMul (mbind (mbin dIx (mvar 2) (mbind (mret (D.int 1)) fun d => mret (Opd.d d))) fun d => mret (Opd.d d)) (mbind (mbin dPow (mbind (mret (D.int 10)) fun d => mret (Opd.d d)) (mbind (mret (D.int 9)) fun d => mret (Opd.d d))) fun d => mret (Opd.d d))) fun d => mret (Opd.d d)) (mret [])))) fun r => stSet 4 (Rv.sl r))
def li__law_compared_right_1 (fu : Nat) : M (List D) :=
    (mwalk (mtup (mcons (mbind (mtup (mcons (mvar 2) (mcons (mvar 3) (mret [])))) fun d => mret (Opd.d d)) (mcons (mbind (mtup (mcons (mvar 2) (mcons (mvar 4) (mret [])))) fun d => mret (Opd.d d)) (mcons (mbind (mtup (mcons (mvar 4) (mcons (mvar 2) (mret [])))) fun d => mret (Opd.d d)) (mcons (mbind (mtup (mcons (mvar 2) (mcons (mvar 2) (mret [])))) fun d => mret (Opd.d d)) (mret [])))))))
def lb__law_compared_right_1 (fu : Nat) : MS :=
    (mseq (mpar2 7 8 (mcons (mbind (mbin dMul (mbind (mbin dIx (mvar 5) (mbind (mret (D.int 0)) fun d => mret (Opd.d d))) fun d => mret (Opd.d d)) (mbind (mbin dIx (mvar 6) (mbind (mret (D.int 1)) fun d => mret (Opd.d d))) fun d => mret (Opd.d d))) fun d => mret (Opd.d d)) (mcons (mbind (mbin dMul (mbind (mbin dIx (mvar 6) (mbind (mret (D.int 0)) fun d => mret (Opd.d d))) fun d => mret (Opd.d d)) (mbind (mbin dIx (mvar 5) (mbind (mret (D.int 1)) fun d => mret (Opd.d d))) fun d => mret (Opd.d d))) fun d => mret (Opd.d d)) (mret []))))
    (mseq (ms (mcall (d_compared fu) [] (mcons (mvar 5) (mcons (mbind (mbind (mcb (on1 listOf) (mcons (mvar 6) (mret []))) fun r => mret (Rv.d r)) fun d => mret (Opd.d d)) (mret [])))) fun r => stSet 9 (Rv.sl r))
    (mcond (mif (mbind (mbind (mbind (mbind (mcall (d_is_integer fu) [] (mcons (mvar 9) (mret []))) fun r => mret (Rv.d r)) fun d => mret (Opd.d d)) fun o => mbind (res o) fun d => mopt (truD d)) fun b => mret (!b)) (mret true) (mbind (mbin dNe (mvar 9) (mbind (mif (mbind (mbin dEq (mvar 7) (mvar 8)) tob) (mret (D.int 0)) (mif (mbind (mbin dGt (mvar 7) (mvar 8)) tob) (mret (D.int 1)) (mun dNeg (mbind (mret (D.int 1)) fun d => mret (Opd.d d))))) fun d => mret (Opd.d d))) tob)) (ms (mbind (mret (D.bl false)) fun d => mret (Rv.v d)) fun r s => OutS.rt r s) (fun s => OutS.nx s))))
def l__law_compared_right_1 (fu : Nat) : MS :=
    mfor (li__law_compared_right_1 fu) (tgTup 2 (tgCons (tgName 5) (tgCons (tgName 6) tgNil))) (lb__law_compared_right_1 fu)
def st__law_compared_right_6 (fu : Nat) : MS :=
    (ms (mbind (mret (D.bl true)) fun d => mret (Rv.v d)) fun r s => OutS.rt r s)
def b__law_compared_right (fu : Nat) : MS :=
    (mseq (st__law_compared_right_1 fu)
    (mseq (st__law_compared_right_2 fu)
    (mseq (st__law_compared_right_3 fu)
    (mseq (st__law_compared_right_4 fu)
    (mseq (l__law_compared_right_1 fu)
    (st__law_compared_right_6 fu))))))
def d__law_compared_right (fu : Nat) : Fd := fnD 10 1 (b__law_compared_right fu)

abbrev s__law_twice_right : Stmt := top 39
abbrev N__law_twice_right : List Str := ["_law_bag_here", "_law_row", "_law_turn", "_law_again", "_law_each", "_law_at", "_law_texts"]
abbrev p__law_twice_right : List Str := ["_law_bag_here"]
def ci__law_twice_right_1 (fu : Nat) : M (List D) :=
    (mrng rng1 (mcons (mbind (mbind (mcall (d__law_pull fu) [] (mcons (mvar 0) (mcons (mbind (mret (D.int 6)) fun d => mret (Opd.d d)) (mret [])))) fun r => mret (Rv.d r)) fun d => mret (Opd.d d)) (mret [])))
def ct__law_twice_right_1 (fu : Nat) : M Bool :=
    (mret true)
def ce__law_twice_right_1 (fu : Nat) : M D :=
    (mbind (mcall (d__law_pull fu) [] (mcons (mvar 0) (mcons (mbind (mret (D.int 9)) fun d => mret (Opd.d d)) (mret [])))) fun r => mret (Rv.d r))
def c__law_twice_right_1 (fu : Nat) : M Rv :=
    mlc [2] (ci__law_twice_right_1 fu) (tgName 2) (ct__law_twice_right_1 fu) (ce__law_twice_right_1 fu)
def st__law_twice_right_1 (fu : Nat) : MS :=
    (ms (c__law_twice_right_1 fu) fun r => stSet 1 (Rv.sl r))
def ci__law_twice_right_2 (fu : Nat) : M (List D) :=
    (menum (mvarF 1))
def ct__law_twice_right_2 (fu : Nat) : M Bool :=
    (mbind (mbin (dOr dInS dInL) (mvar 4) (mbind (mbind (mslice (mvarF 1) (mret none) (mpart (mbind (mvar 5) strong))) fun r => mret (Rv.d r)) fun d => mret (Opd.d d))) tob)
def ce__law_twice_right_2 (fu : Nat) : M D :=
    (mbind (mvar 4) strong)
def c__law_twice_right_2 (fu : Nat) : M Rv :=
    mlc [5, 4] (ci__law_twice_right_2 fu) (tgTup 2 (tgCons (tgName 5) (tgCons (tgName 4) tgNil))) (ct__law_twice_right_2 fu) (ce__law_twice_right_2 fu)
def st__law_twice_right_2 (fu : Nat) : MS :=
    (ms (c__law_twice_right_2 fu) fun r => stSet 3 (Rv.sl r))
def st__law_twice_right_3 (fu : Nat) : MS :=
    (mcond (mbind (mbin dNe (mbind (mbind (mcall (d_first_twice fu) [] (mcons (mvarF 1) (mret []))) fun r => mret (Rv.d r)) fun d => mret (Opd.d d)) (mbind (mif (mbind (mbin dNe (mvarF 3) (mbind (mbind (mlst (mret [])) fun r => mret (Rv.d r)) fun d => mret (Opd.d d))) tob) (mbin dIx (mvarF 3) (mbind (mret (D.int 0)) fun d => mret (Opd.d d))) (mret D.non)) fun d => mret (Opd.d d))) tob) (ms (mbind (mret (D.bl false)) fun d => mret (Rv.v d)) fun r s => OutS.rt r s) (fun s => OutS.nx s))
def ci__law_twice_right_3 (fu : Nat) : M (List D) :=
    (mwalk (mbind (mvarF 1) strong))
def ct__law_twice_right_3 (fu : Nat) : M Bool :=
    (mret true)
def ce__law_twice_right_3 (fu : Nat) : M D :=
    (mbin dAddX (mbind (mret (D.str "d")) fun d => mret (Opd.d d)) (mbind (mbind (mcb (on1 strOf) (mcons (mvar 4) (mret []))) fun r => mret (Rv.d r)) fun d => mret (Opd.d d)))
def c__law_twice_right_3 (fu : Nat) : M Rv :=
    mlc [4] (ci__law_twice_right_3 fu) (tgName 4) (ct__law_twice_right_3 fu) (ce__law_twice_right_3 fu)
def st__law_twice_right_4 (fu : Nat) : MS :=
    (ms (c__law_twice_right_3 fu) fun r => stSet 6 (Rv.sl r))
def st__law_twice_right_5 (fu : Nat) : MS :=
    (ms (mbind (mbin dEq (mbind (mbind (mcall (d_first_twice fu) [] (mcons (mbind (mbind (mcb (on1 tupOf) (mcons (mvarF 6) (mret []))) fun r => mret (Rv.d r)) fun d => mret (Opd.d d)) (mret []))) fun r => mret (Rv.d r)) fun d => mret (Opd.d d)) (mbind (mif (mbind (mbin dNe (mvarF 3) (mbind (mbind (mlst (mret [])) fun r => mret (Rv.d r)) fun d => mret (Opd.d d))) tob) (mbin dIx (mvarF 6) (mbind (mplace (mvarF 1) (mbind (mbin dIx (mvarF 3) (mbind (mret (D.int 0)) fun d => mret (Opd.d d))) fun d => mret (Opd.d d))) fun d => mret (Opd.d d))) (mret D.non)) fun d => mret (Opd.d d))) fun d => mret (Rv.v d)) fun r s => OutS.rt r s)
def b__law_twice_right (fu : Nat) : MS :=
    (mseq (st__law_twice_right_1 fu)
    (mseq (st__law_twice_right_2 fu)
    (mseq (st__law_twice_right_3 fu)
    (mseq (st__law_twice_right_4 fu)
    (st__law_twice_right_5 fu)))))
def d__law_twice_right (fu : Nat) : Fd := fnD 7 1 (b__law_twice_right fu)

abbrev s_law : Stmt := top 41
abbrev N_law : List Str := ["_law_script", "_law_bag_here", "_law_turn", "_law_odd", "_law_also", "_law_none", "_law_wrong", "_law_heard"]
abbrev p_law : List Str := ["_law_script"]
def st_law_1 (fu : Nat) : MS :=
    (mguard [1] (ms (mcall (d__law_bag fu) [] (mcons (mvar 0) (mret []))) fun r => stSet 1 (Rv.sl r)))
def li_law_1 (fu : Nat) : M (List D) :=
    (mrng rng1 (mcons (mbind (mret (D.int 3)) fun d => mret (Opd.d d)) (mret [])))
def lb_law_1 (fu : Nat) : MS :=
    (mseq (mcond (mif (mbind (mbind (mbind (mbind (mcall (d__law_integers_right fu) [] (mcons (mvar 1) (mret []))) fun r => mret (Rv.d r)) fun d => mret (Opd.d d)) fun o => mbind (res o) fun d => mopt (truD d)) fun b => mret (!b)) (mret true) (mif (mbind (mbind (mbind (mbind (mcall (d__law_names_right fu) [] (mcons (mvar 1) (mret []))) fun r => mret (Rv.d r)) fun d => mret (Opd.d d)) fun o => mbind (res o) fun d => mopt (truD d)) fun b => mret (!b)) (mret true) (mif (mbind (mbind (mbind (mbind (mcall (d__law_ratios_right fu) [] (mcons (mvar 1) (mret []))) fun r => mret (Rv.d r)) fun d => mret (Opd.d d)) fun o => mbind (res o) fun d => mopt (truD d)) fun b => mret (!b)) (mret true) (mbind (mbind (mbind (mbind (mcall (d__law_twice_right fu) [] (mcons (mvar 1) (mret []))) fun r => mret (Rv.d r)) fun d => mret (Opd.d d)) fun o => mbind (res o) fun d => mopt (truD d)) fun b => mret (!b))))) (ms (mbind (mret (D.bl false)) fun d => mret (Rv.v d)) fun r s => OutS.rt r s) (fun s => OutS.nx s))
    (mcond (mif (mbind (mbind (mbind (mbind (mcall (d__law_divisors_right fu) [] (mcons (mvar 1) (mret []))) fun r => mret (Rv.d r)) fun d => mret (Opd.d d)) fun o => mbind (res o) fun d => mopt (truD d)) fun b => mret (!b)) (mret true) (mif (mbind (mbind (mbind (mbind (mcall (d__law_lots_right fu) [] (mcons (mvar 1) (mret []))) fun r => mret (Rv.d r)) fun d => mret (Opd.d d)) fun o => mbind (res o) fun d => mopt (truD d)) fun b => mret (!b)) (mret true) (mbind (mbind (mbind (mbind (mcall (d__law_compared_right fu) [] (mcons (mvar 1) (mret []))) fun r => mret (Rv.d r)) fun d => mret (Opd.d d)) fun o => mbind (res o) fun d => mopt (truD d)) fun b => mret (!b)))) (ms (mbind (mret (D.bl false)) fun d => mret (Rv.v d)) fun r s => OutS.rt r s) (fun s => OutS.nx s)))
def l_law_1 (fu : Nat) : MS :=
    mfor (li_law_1 fu) (tgName 2) (lb_law_1 fu)
def st_law_2 (fu : Nat) : MS :=
    (mguard [2] (l_law_1 fu))
def st_law_3 (fu : Nat) : MS :=
    (mguard [3, 4] (masg (mtup (mcons (mbind (mbind (mcall (d__law_value fu) [] (mcons (mvar 1) (mret []))) fun r => mret (Rv.d r)) fun d => mret (Opd.d d)) (mcons (mbind (mbind (mcall (d__law_value fu) [] (mcons (mvar 1) (mret []))) fun r => mret (Rv.d r)) fun d => mret (Opd.d d)) (mret [])))) (tgTup 2 (tgCons (tgName 3) (tgCons (tgName 4) tgNil)))))
def st_law_4 (fu : Nat) : MS :=
    (mguard [5] (ms (mcall (d__law_take fu) [] (mcons (mvar 1) (mcons (mbind (mbind (mlst (mcons (mbind (mret D.non) fun d => mret (Opd.d d)) (mcons (mbind (mret (D.int 5)) fun d => mret (Opd.d d)) (mcons (mbind (mret (D.str "12")) fun d => mret (Opd.d d)) (mcons (mbind (mbind (mlst (mcons (mbind (mret D.non) fun d => mret (Opd.d d)) (mret []))) fun r => mret (Rv.d r)) fun d => mret (Opd.d d)) (mcons (mbind (mbind (mlst (mcons (mbind (mret (D.bl true)) fun d => mret (Opd.d d)) (mret []))) fun r => mret (Rv.d r)) fun d => mret (Opd.d d)) (mcons (mbind (mbind (mlst (mcons (mbind (mret (D.int 1)) fun d => mret (Opd.d d)) (mcons (mbind (mret (D.str "2")) fun d => mret (Opd.d d)) (mret [])))) fun r => mret (Rv.d r)) fun d => mret (Opd.d d)) (mcons (mbind (mret D.dct) fun d => mret (Opd.d d)) (mcons (mbind (mtup (mcons (mbind (mret (D.int 1)) fun d => mret (Opd.d d)) (mcons (mbind (mtup (mcons (mbind (mret (D.int 2)) fun d => mret (Opd.d d)) (mret []))) fun d => mret (Opd.d d)) (mret [])))) fun d => mret (Opd.d d)) (mret [])))))))))) fun r => mret (Rv.d r)) fun d => mret (Opd.d d)) (mret [])))) fun r => stSet 5 (Rv.sl r)))
def st_law_5 (fu : Nat) : MS :=
    (mguard [6] (ms (mcall (d__law_take fu) [] (mcons (mvar 1) (mcons (mbind (mbind (mlst (mcons (mbind (mret D.non) fun d => mret (Opd.d d)) (mcons (mbind (mret (D.int 5)) fun d => mret (Opd.d d)) (mcons (mbind (mtup (mcons (mbind (mret (D.int 2)) fun d => mret (Opd.d d)) (mcons (mbind (mret (D.int 4)) fun d => mret (Opd.d d)) (mret [])))) fun d => mret (Opd.d d)) (mcons (mbind (mtup (mcons (mbind (mret (D.int 1)) fun d => mret (Opd.d d)) (mcons (mbind (mret (D.int 0)) fun d => mret (Opd.d d)) (mret [])))) fun d => mret (Opd.d d)) (mcons (mbind (mtup (mcons (mbind (mret (D.int 1)) fun d => mret (Opd.d d)) (mcons (mbind (mun dNeg (mbind (mret (D.int 2)) fun d => mret (Opd.d d))) fun d => mret (Opd.d d)) (mret [])))) fun d => mret (Opd.d d)) (mcons (mbind (mret (D.str "1")) fun d => mret (Opd.d d)) (mcons (mbind (mtup (mcons (mbind (mret (D.bl true)) fun d => mret (Opd.d d)) (mcons (mbind (mret (D.int 1)) fun d => mret (Opd.d d)) (mret [])))) fun d => mret (Opd.d d)) (mcons (mbind (mbind (mlst (mcons (mbind (mret (D.int 1)) fun d => mret (Opd.d d)) (mret []))) fun r => mret (Rv.d r)) fun d => mret (Opd.d d)) (mcons (mbind (mtup (mcons (mbind (mret (D.int 0)) fun d => mret (Opd.d d)) (mcons (mbind (mret (D.int 3)) fun d => mret (Opd.d d)) (mret [])))) fun d => mret (Opd.d d)) (mret []))))))))))) fun r => mret (Rv.d r)) fun d => mret (Opd.d d)) (mret [])))) fun r => stSet 6 (Rv.sl r)))
def lam_law_2 (fu : Nat) : M Rv :=
    (mcall (d_common_divisor fu) [] (mcons (mvar 5) (mret [])))
def st_law_6 (fu : Nat) : MS :=
    (tset1 7 (mlamp (lam_law_2 fu)))
def lam_law_3 (fu : Nat) : M Rv :=
    (mcall (d_lowest fu) [] (mcons (mvar 3) (mcons (mbind (mret (D.int 0)) fun d => mret (Opd.d d)) (mret []))))
def st_law_7 (fu : Nat) : MS :=
    (tapp 7 (mlamp (lam_law_3 fu)))
def lam_law_4 (fu : Nat) : M Rv :=
    (mcall (d_lowest fu) [] (mcons (mbind (mret (D.int 4)) fun d => mret (Opd.d d)) (mcons (mvar 4) (mret []))))
def st_law_8 (fu : Nat) : MS :=
    (tapp 7 (mlamp (lam_law_4 fu)))
def lam_law_5 (fu : Nat) : M Rv :=
    (mcall (d_lowest fu) [] (mcons (mbind (mret (D.int 4)) fun d => mret (Opd.d d)) (mcons (mbind (mret (D.int 0)) fun d => mret (Opd.d d)) (mret []))))
def st_law_9 (fu : Nat) : MS :=
    (tapp 7 (mlamp (lam_law_5 fu)))
def lam_law_6 (fu : Nat) : M Rv :=
    (mcall (d_lowest fu) [] (mcons (mbind (mret (D.int 0)) fun d => mret (Opd.d d)) (mcons (mbind (mun dNeg (mbind (mret (D.int 5)) fun d => mret (Opd.d d))) fun d => mret (Opd.d d)) (mret []))))
def st_law_10 (fu : Nat) : MS :=
    (tapp 7 (mlamp (lam_law_6 fu)))
def lam_law_7 (fu : Nat) : M Rv :=
    (mcall (d_compared fu) [] (mcons (mvar 6) (mcons (mbind (mret D.non) fun d => mret (Opd.d d)) (mret []))))
def st_law_11 (fu : Nat) : MS :=
    (tapp 7 (mlamp (lam_law_7 fu)))
def lam_law_8 (fu : Nat) : M Rv :=
    (mcall (d_compared fu) [] (mcons (mbind (mtup (mcons (mbind (mret (D.int 0)) fun d => mret (Opd.d d)) (mcons (mbind (mret (D.int 1)) fun d => mret (Opd.d d)) (mret [])))) fun d => mret (Opd.d d)) (mcons (mvar 6) (mret []))))
def st_law_12 (fu : Nat) : MS :=
    (tapp 7 (mlamp (lam_law_8 fu)))
def st_law_13 (fu : Nat) : MS :=
    (mguard [] (ms (mbind (mandV (mbin dEq (mvar 7) (mbind (mbind (mlst (mcons (mbind (mret (D.str "values")) fun d => mret (Opd.d d)) (mcons (mbind (mret (D.str "number")) fun d => mret (Opd.d d)) (mcons (mbind (mret (D.str "by")) fun d => mret (Opd.d d)) (mcons (mbind (mret (D.str "by")) fun d => mret (Opd.d d)) (mcons (mbind (mret D.non) fun d => mret (Opd.d d)) (mcons (mbind (mtup (mcons (mbind (mret (D.str "ratio")) fun d => mret (Opd.d d)) (mcons (mbind (mret (D.str "one")) fun d => mret (Opd.d d)) (mret [])))) fun d => mret (Opd.d d)) (mcons (mbind (mtup (mcons (mbind (mret (D.str "ratio")) fun d => mret (Opd.d d)) (mcons (mbind (mret (D.str "other")) fun d => mret (Opd.d d)) (mret [])))) fun d => mret (Opd.d d)) (mret []))))))))) fun r => mret (Rv.d r)) fun d => mret (Opd.d d))) (mbin dEq (mbind (mbind (mcall (d_lowest fu) [] (mcons (mbind (mret (D.int 0)) fun d => mret (Opd.d d)) (mcons (mbind (mun dNeg (mbind (mret (D.int 5)) fun d => mret (Opd.d d))) fun d => mret (Opd.d d)) (mret [])))) fun r => mret (Rv.d r)) fun d => mret (Opd.d d)) (mbind (mtup (mcons (mbind (mret (D.int 0)) fun d => mret (Opd.d d)) (mcons (mbind (mret (D.int 1)) fun d => mret (Opd.d d)) (mret [])))) fun d => mret (Opd.d d)))) fun d => mret (Rv.v d)) fun r s => OutS.rt r s))
def b_law (fu : Nat) : MS :=
    (mseq (st_law_1 fu)
    (mseq (st_law_2 fu)
    (mseq (st_law_3 fu)
    (mseq (st_law_4 fu)
    (mseq (st_law_5 fu)
    (mseq (st_law_6 fu)
    (mseq (st_law_7 fu)
    (mseq (st_law_8 fu)
    (mseq (st_law_9 fu)
    (mseq (st_law_10 fu)
    (mseq (st_law_11 fu)
    (mseq (st_law_12 fu)
    (st_law_13 fu)))))))))))))
end
abbrev gOf (K : PySem.W.Frag) (mg : Str → Option Value) (cn : Nat → Addr) : G := ⟨K, mg, cn, nm⟩
/-- an error's class with one field -/
structure Ex1 (K : PySem.W.Frag) (mg : Str → Option Value) (cn : Nat → Addr) (x : Str) (c : Nat) (f : Str) : Prop where
  T : OexC K (cn c)
  m : mg x = some (.ref (cn c))
  ini : ∃ fi : Addr, PySem.W.findIn K (.ref (cn c)) "__init__" = some (some (.ref fi)) ∧ PySem.W.typeIn K (.ref fi) = some (.type "function") ∧
    ∀ (P : Program) (w : World) (base : Heap), ∃ (fd : FuncData) (ps : List Str), FnOk P w K mg base CX0 1 fi fd ps (spI1 (cn c) f) ∧ Binds K fd ps []
theorem Ex1.raise {K : PySem.W.Frag} {mg : Str → Option Value} {cn : Nat → Addr} {x f : Str} {c k : Nat} {X : Cx} {T : Tx} {W : WX} {e : Expr} {es : List Expr} {p pos p2 : Pos} {fa : M (List Opd)} (E : Ex1 K mg cn x c f) (hr : Room k X.A) (tk : Takes X W)
    (ha : JA X (gOf K mg cn) T W (e :: es) fa) (hc : X.calm = true := by rfl) (hk : 2 ≤ k := by decide) (hK : X.K = K := by rfl) (hmg : X.mg = mg := by rfl) (hn : nm c = [f] := by rfl) (hg : Gl X x := by rfl)
    (hdb : (x == ("__debug__" : Str)) = false := by decide) (he : starEach (e :: es) X.env = (false, eval e X.env) :: starEach es X.env := by rfl) (hpl : (backTo pos (starEach es X.env)).any (·.1) = false := by rfl) :
    JS X (gOf K mg cn) T W (.Raise (some (.Call (.Name x p) (e :: es) [] pos)) none p2) (mraise c 1 fa) := by
  obtain ⟨T', m, fi, i1, i2, h⟩ := E
  obtain ⟨fd, ps, F, b⟩ := h X.prog X.w X.base
  rw [← hK, ← hmg] at F
  rw [← hmg] at m
  rw [← hK] at T' i1 i2 b
  exact js_raise1 (ci := cn) (fI := cn) hc tk T' rfl hn i1 i2 F b (hr.mono hk) hg m ha hdb he hpl
structure Txt (K : PySem.W.Frag) (mg : Str → Option Value) (cn : Nat → Addr) : Prop where
  n_abs : mg "abs" = none
  n_all : mg "all" = none
  n_bool : mg "bool" = none
  n_enumerate : mg "enumerate" = none
  n_int : mg "int" = none
  n_isinstance : mg "isinstance" = none
  n_len : mg "len" = none
  n_list : mg "list" = none
  n_max : mg "max" = none
  n_range : mg "range" = none
  n_str : mg "str" = none
  n_tuple : mg "tuple" = none
  n_zip : mg "zip" = none
  c_DIGITS : ∃ t, mg "DIGITS" = some (.str "0123456789" t)
  c_LETTERS : ∃ t, mg "LETTERS" = some (.str "abcdefghijklmnopqrstuvwxyz" t)
  c_LONGEST : ∃ t, mg "LONGEST" = some (.int 12 t)
  BadNumber : Ex1 K mg cn "BadNumber" 101 "part"
  BadRatio : Ex1 K mg cn "BadRatio" 102 "part"
section
variable {P : Program} {w : World} {K : PySem.W.Frag} {mg : Str → Option Value} {cn : Nat → Addr} {base : Heap} {fu : Nat}
theorem sc_is_integer : FnScope N_is_integer p_is_integer (defScope s_is_integer) := ⟨rfl, rfl, rfl, by decide +kernel, rfl, by decide +kernel, by decide +kernel⟩
theorem ok_is_integer {f : Addr} {fd : FuncData} (F : Fun K "is_integer" "is_integer" s_is_integer f fd) (T : Txt K mg cn) : FnOk P w K mg base (L2.CX P w) 1 f fd p_is_integer (spD (gOf K mg cn) (d_is_integer fu)) := by
  refine fnD_ok (g := gOf K mg cn) (N := N_is_integer) (ps := p_is_integer) (body := b_is_integer fu) F sc_is_integer (by decide) fun cdv A outer s H E T0 hr hio => ?_
  unfold b_is_integer
  exact (jss_one (js_ret (jr_of (je_and (je_isiB rfl (fun _ => rfl) isi_int (ClsV.ty "int") rfl T.n_isinstance (pe_bty rfl T.n_int rfl) (jo_var (pv 0))) (je_one (je_not (je_isiB rfl (fun _ => rfl) isi_bl (ClsV.ty "bool") rfl T.n_isinstance (pe_bty rfl T.n_bool rfl) (jo_var (pv 0)))))))))
theorem sc_is_within : FnScope N_is_within p_is_within (defScope s_is_within) := ⟨rfl, rfl, rfl, by decide +kernel, rfl, by decide +kernel, by decide +kernel⟩
theorem ok_is_within {f : Addr} {fd : FuncData} (F : Fun K "is_within" "is_within" s_is_within f fd) (T : Txt K mg cn) (C_is_integer : Cl P w (gOf K mg cn) base 1 "is_integer" p_is_integer (d_is_integer fu)) : FnOk P w K mg base (L2.CX P w) 2 f fd p_is_within (spD (gOf K mg cn) (d_is_within fu)) := by
  refine fnD_ok (g := gOf K mg cn) (N := N_is_within) (ps := p_is_within) (body := b_is_within fu) F sc_is_within (by decide) fun cdv A outer s H E T0 hr hio => ?_
  unfold b_is_within
  exact (jss_cons (js_if (jt_not (jt_tru rfl (jo_of (je_rv (jr_callC C_is_integer hr (by decide) rfl rfl rfl (takes_of rfl rfl rfl rfl) (ja_cons (jo_var (pv 0)) ja_nil)))) (fun _ => rfl))) (jss_one (js_ret (jr_of je_bl))) jss_nil)
    (jss_one (js_ret (jr_of (je_and (je_or (je_cmp (o_isN) (jo_var (pv 1)) (jo_of je_non) (nomark _)) (je_one (je_cmp (o_le) (jo_var (pv 1)) (jo_var (pv 0)) (nomark _)))) (je_one (je_or (je_cmp (o_isN) (jo_var (pv 2)) (jo_of je_non) (nomark _)) (je_one (je_cmp (o_le) (jo_var (pv 0)) (jo_var (pv 2)) (nomark _))))))))))
theorem sc_is_name : FnScope N_is_name p_is_name (defScope s_is_name) := ⟨rfl, rfl, rfl, by decide +kernel, rfl, by decide +kernel, by decide +kernel⟩
theorem ok_is_name {f : Addr} {fd : FuncData} (F : Fun K "is_name" "is_name" s_is_name f fd) (T : Txt K mg cn) : FnOk P w K mg base (L2.CX P w) 1 f fd p_is_name (spD (gOf K mg cn) (d_is_name fu)) := by
  refine fnD_ok (g := gOf K mg cn) (N := N_is_name) (ps := p_is_name) (body := b_is_name fu) F sc_is_name (by decide) fun cdv A outer s H E T0 hr hio => ?_
  unfold b_is_name
  exact (jss_cons (js_if (jt_w (jw_or (jt_not (jt_tru rfl (jo_of (je_isiB rfl (fun _ => rfl) isi_str (ClsV.ty "str") rfl T.n_isinstance (pe_bty rfl T.n_str rfl) (jo_var (pv 0)))) (fun _ => rfl))) (jw_or1 (jt_not (jt_chain (o_lt) (o_le) (jo_of je_int) (jo_of (je_rv (jr_cb (o_len rfl) (fun _ _ hc h => pe_callB hc rfl T.n_len rfl h) (ja_cons (jo_var (pv 0)) ja_nil)))) (jo_of (je_c (v := V.int 12) (pe_glob rfl (T.c_LONGEST).choose_spec (show L2.RelV (V.int 12) _ from ⟨_, rfl⟩)) fun _ => rfl))))))) (jss_one (js_ret (jr_of je_bl))) jss_nil)
    (jss_one (js_ret (jr_of (je_and (je_cmp (OpD.or o_inS (o_inL rfl (hu65 hr))) (jo_of (je_ix rfl (jo_var (pv 0)) (jo_of je_int) (fun _ _ => rfl))) (jo_of (je_c (v := V.str "abcdefghijklmnopqrstuvwxyz") (pe_glob rfl (T.c_LETTERS).choose_spec (show L2.RelV (V.str "abcdefghijklmnopqrstuvwxyz") _ from ⟨_, rfl⟩)) fun _ => rfl)) rfl) (je_one (je_rv (jr_cb (o_all rfl) (fun _ _ hc h => pe_callB hc rfl T.n_all rfl h) (ja_cons (jo_of (je_rv (jr_lc rfl sc_is_name.nd (ji_seq rfl (je_of (jo_var (pv 0)))) (blkOk_by (own := [("sign", 1)]) (N := N_is_name) (sc := defScope s_is_name) (by decide +kernel)) rfl (fun _ _ _ _ _ => (jg_name (i := 1) (pg_name (i := 1) sc_is_name.nd rfl (by first | exact Or.inl rfl | exact Or.inr rfl)) (hio 1 (by decide)) (fun _ h => by cases h; decide))) (fun _ _ _ _ _ => jts_nil) (fun _ _ _ _ _ => (je_cmp (OpD.or o_inS (o_inL rfl (hu65 hr))) (jo_var (pv 1)) (jo_of (je_bin o_addX (jo_of (je_c (v := V.str "abcdefghijklmnopqrstuvwxyz") (pe_glob rfl (T.c_LETTERS).choose_spec (show L2.RelV (V.str "abcdefghijklmnopqrstuvwxyz") _ from ⟨_, rfl⟩)) fun _ => rfl)) (jo_of (je_c (v := V.str "0123456789") (pe_glob rfl (T.c_DIGITS).choose_spec (show L2.RelV (V.str "0123456789") _ from ⟨_, rfl⟩)) fun _ => rfl)))) rfl))))) ja_nil)))))))))
theorem sc_are_integers : FnScope N_are_integers p_are_integers (defScope s_are_integers) := ⟨rfl, rfl, rfl, by decide +kernel, rfl, by decide +kernel, by decide +kernel⟩
theorem ok_are_integers {f : Addr} {fd : FuncData} (F : Fun K "are_integers" "are_integers" s_are_integers f fd) (T : Txt K mg cn) (C_is_integer : Cl P w (gOf K mg cn) base 1 "is_integer" p_is_integer (d_is_integer fu)) : FnOk P w K mg base (L2.CX P w) 2 f fd p_are_integers (spD (gOf K mg cn) (d_are_integers fu)) := by
  refine fnD_ok (g := gOf K mg cn) (N := N_are_integers) (ps := p_are_integers) (body := b_are_integers fu) F sc_are_integers (by decide) fun cdv A outer s H E T0 hr hio => ?_
  unfold b_are_integers
  exact (jss_one (js_ret (jr_of (je_and (je_isi2B rfl (fun _ => rfl) isi_lst isi_tup (ClsV.ty "list") (ClsV.ty "tuple") rfl T.n_isinstance (pe_bty rfl T.n_list rfl) (pe_bty rfl T.n_tuple rfl) (jo_var (pv 0))) (je_one (je_rv (jr_cb (o_all rfl) (fun _ _ hc h => pe_callB hc rfl T.n_all rfl h) (ja_cons (jo_of (je_rv (jr_lc rfl sc_are_integers.nd (ji_seq rfl (je_of (jo_var (pv 0)))) (blkOk_by (own := [("each", 1)]) (N := N_are_integers) (sc := defScope s_are_integers) (by decide +kernel)) rfl (fun _ _ _ _ _ => (jg_name (i := 1) (pg_name (i := 1) sc_are_integers.nd rfl (by first | exact Or.inl rfl | exact Or.inr rfl)) (hio 1 (by decide)) (fun _ h => by cases h; decide))) (fun _ _ _ _ _ => jts_nil) (fun _ _ _ _ _ => (je_rv (jr_callC C_is_integer hr (by decide) rfl rfl rfl takes0 (ja_cons (jo_var (pv 1)) ja_nil))))))) ja_nil))))))))
theorem sc_measure : FnScope N_measure p_measure (defScope s_measure) := ⟨rfl, rfl, rfl, by decide +kernel, rfl, by decide +kernel, by decide +kernel⟩
theorem ok_measure {f : Addr} {fd : FuncData} (F : Fun K "measure" "measure" s_measure f fd) (T : Txt K mg cn) : FnOk P w K mg base (L2.CX P w) 1 f fd p_measure (spD (gOf K mg cn) (d_measure fu)) := by
  refine fnD_ok (g := gOf K mg cn) (N := N_measure) (ps := p_measure) (body := b_measure fu) F sc_measure (by decide) fun cdv A outer s H E T0 hr hio => ?_
  unfold b_measure
  exact (jss_cons (js_set (i := 1) (fun _ h => ps_set (i := 1) sc_measure.nd rfl (by first | exact Or.inl rfl | exact Or.inr rfl) h) (hio 1 (by decide)) (jr_of je_int))
    (jss_cons (js_for (passes_of rfl) rfl (ji_seq rfl (je_of (jo_var (pv 0)))) (jg_name (i := 2) (pg_name (i := 2) sc_measure.nd rfl (by first | exact Or.inl rfl | exact Or.inr rfl)) (hio 2 (by decide)) (fun _ h => by cases h)) (jss_cons (js_par2 (i := 3) (j := 4) (fun _ h => ps_par (i := 3) (j := 4) rfl sc_measure.nd rfl rfl (by decide) rfl rfl h rfl) (hio 3 (by decide)) (hio 4 (by decide)) (ja_cons (jo_var (pv 1)) (ja_cons (jo_of (je_rv (jr_cb (o_abs) (fun _ _ hc h => pe_callB hc rfl T.n_abs rfl h) (ja_cons (jo_var (pv 2)) ja_nil)))) ja_nil)))
    (jss_cons (js_while fu (passes_of rfl) (jt_cmp (o_ne rfl (hu64 hr)) (jo_var (pv 4)) (jo_of je_int) (nomark _)) (jss_one (js_par2 (i := 3) (j := 4) (fun _ h => ps_par (i := 3) (j := 4) rfl sc_measure.nd rfl rfl (by decide) rfl rfl h rfl) (hio 3 (by decide)) (hio 4 (by decide)) (ja_cons (jo_var (pv 4)) (ja_cons (jo_of (je_bin o_mod (jo_var (pv 3)) (jo_var (pv 4)))) ja_nil)))))
    (jss_one (js_set (i := 1) (fun _ h => ps_set (i := 1) sc_measure.nd rfl (by first | exact Or.inl rfl | exact Or.inr rfl) h) (hio 1 (by decide)) (jr_of (je_of (jo_var (pv 3)))))))))
    (jss_one (js_ret (jr_of (je_of (jo_var (pv 1))))))))
theorem sc_is_ratio : FnScope N_is_ratio p_is_ratio (defScope s_is_ratio) := ⟨rfl, rfl, rfl, by decide +kernel, rfl, by decide +kernel, by decide +kernel⟩
theorem ok_is_ratio {f : Addr} {fd : FuncData} (F : Fun K "is_ratio" "is_ratio" s_is_ratio f fd) (T : Txt K mg cn) (C_are_integers : Cl P w (gOf K mg cn) base 2 "are_integers" p_are_integers (d_are_integers fu)) (C_measure : Cl P w (gOf K mg cn) base 1 "measure" p_measure (d_measure fu)) : FnOk P w K mg base (L2.CX P w) 3 f fd p_is_ratio (spD (gOf K mg cn) (d_is_ratio fu)) := by
  refine fnD_ok (g := gOf K mg cn) (N := N_is_ratio) (ps := p_is_ratio) (body := b_is_ratio fu) F sc_is_ratio (by decide) fun cdv A outer s H E T0 hr hio => ?_
  unfold b_is_ratio
  exact (jss_cons (js_if (jt_w (jw_or (jt_not (jt_tru rfl (jo_of (je_rv (jr_callC C_are_integers hr (by decide) rfl rfl rfl (takes_of rfl rfl rfl rfl) (ja_cons (jo_var (pv 0)) ja_nil)))) (fun _ => rfl))) (jw_or1 (jt_cmp (o_ne rfl (hu64 hr)) (jo_of (je_rv (jr_cb (o_len rfl) (fun _ _ hc h => pe_callB hc rfl T.n_len rfl h) (ja_cons (jo_var (pv 0)) ja_nil)))) (jo_of je_int) (nomark _))))) (jss_one (js_ret (jr_of je_bl))) jss_nil)
    (jss_one (js_ret (jr_of (je_and (je_cmp (o_gt) (jo_of (je_ix rfl (jo_var (pv 0)) (jo_of je_int) (fun _ _ => rfl))) (jo_of je_int) (nomark _)) (je_one (je_cmp (o_eq rfl (hu64 hr)) (jo_of (je_rv (jr_callC C_measure hr (by decide) rfl rfl rfl (takes_of rfl rfl rfl rfl) (ja_cons (jo_var (pv 0)) ja_nil)))) (jo_of je_int) (nomark _))))))))
theorem sc_is_lot : FnScope N_is_lot p_is_lot (defScope s_is_lot) := ⟨rfl, rfl, rfl, by decide +kernel, rfl, by decide +kernel, by decide +kernel⟩
theorem ok_is_lot {f : Addr} {fd : FuncData} (F : Fun K "is_lot" "is_lot" s_is_lot f fd) (T : Txt K mg cn) (C_are_integers : Cl P w (gOf K mg cn) base 2 "are_integers" p_are_integers (d_are_integers fu)) : FnOk P w K mg base (L2.CX P w) 3 f fd p_is_lot (spD (gOf K mg cn) (d_is_lot fu)) := by
  refine fnD_ok (g := gOf K mg cn) (N := N_is_lot) (ps := p_is_lot) (body := b_is_lot fu) F sc_is_lot (by decide) fun cdv A outer s H E T0 hr hio => ?_
  unfold b_is_lot
  exact (jss_cons (js_if (jt_w (jw_or (jt_not (jt_tru rfl (jo_of (je_rv (jr_callC C_are_integers hr (by decide) rfl rfl rfl (takes_of rfl rfl rfl rfl) (ja_cons (jo_var (pv 0)) ja_nil)))) (fun _ => rfl))) (jw_or1 (jt_not (jt_tru rfl (jo_of (je_rv (jr_cb (o_all rfl) (fun _ _ hc h => pe_callB hc rfl T.n_all rfl h) (ja_cons (jo_of (je_rv (jr_lc rfl sc_is_lot.nd (ji_seq rfl (je_of (jo_var (pv 0)))) (blkOk_by (own := [("each", 2)]) (N := N_is_lot) (sc := defScope s_is_lot) (by decide +kernel)) rfl (fun _ _ _ _ _ => (jg_name (i := 2) (pg_name (i := 2) sc_is_lot.nd rfl (by first | exact Or.inl rfl | exact Or.inr rfl)) (hio 2 (by decide)) (fun _ h => by cases h; decide))) (fun _ _ _ _ _ => jts_nil) (fun _ _ _ _ _ => (je_chain (o_le) (o_lt) (jo_of je_int) (jo_var (pv 2)) (jo_var (pv 1))))))) ja_nil)))) (fun _ => rfl)))))) (jss_one (js_ret (jr_of je_bl))) jss_nil)
    (jss_one (js_ret (jr_cb (o_all rfl) (fun _ _ hc h => pe_callB hc rfl T.n_all rfl h) (ja_cons (jo_of (je_rv (jr_lc rfl sc_is_lot.nd (ji_zip rfl rfl T.n_zip (jo_var (pv 0)) (jo_of (je_rv (jr_slice rfl (jo_var (pv 0)) (jp_some je_int) jp_none)))) (blkOk_by (own := [("one", 3), ("other", 4)]) (N := N_is_lot) (sc := defScope s_is_lot) (by decide +kernel)) rfl (fun _ _ _ _ _ => (jg_tup (n := 2) rfl rfl (jgs_cons (jg_name (i := 3) (pg_name (i := 3) sc_is_lot.nd rfl (by first | exact Or.inl rfl | exact Or.inr rfl)) (hio 3 (by decide)) (fun _ h => by cases h; decide)) (jgs_cons (jg_name (i := 4) (pg_name (i := 4) sc_is_lot.nd rfl (by first | exact Or.inl rfl | exact Or.inr rfl)) (hio 4 (by decide)) (fun _ h => by cases h; decide)) jgs_nil)))) (fun _ _ _ _ _ => jts_nil) (fun _ _ _ _ _ => (je_cmp (o_lt) (jo_var (pv 3)) (jo_var (pv 4)) (nomark _)))))) ja_nil)))))
theorem sc_need_number : FnScope N_need_number p_need_number (defScope s_need_number) := ⟨rfl, rfl, rfl, by decide +kernel, rfl, by decide +kernel, by decide +kernel⟩
theorem ok_need_number {f : Addr} {fd : FuncData} (F : Fun K "need_number" "need_number" s_need_number f fd) (T : Txt K mg cn) (C_is_within : Cl P w (gOf K mg cn) base 2 "is_within" p_is_within (d_is_within fu)) : FnOk P w K mg base (L2.CX P w) 3 f fd p_need_number (spD (gOf K mg cn) (d_need_number fu)) := by
  refine fnD_ok (g := gOf K mg cn) (N := N_need_number) (ps := p_need_number) (body := b_need_number fu) F sc_need_number (by decide) fun cdv A outer s H E T0 hr hio => ?_
  unfold b_need_number
  exact (jss_one (js_if (jt_not (jt_tru rfl (jo_of (je_rv (jr_callC C_is_within hr (by decide) rfl rfl rfl (takes_of rfl rfl rfl rfl) (ja_cons (jo_var (pv 0)) (ja_cons (jo_var (pv 2)) (ja_cons (jo_var (pv 3)) ja_nil)))))) (fun _ => rfl))) (jss_one (T.BadNumber.raise hr (takes_of rfl rfl rfl rfl) (ja_cons (jo_var (pv 1)) ja_nil))) jss_nil))
theorem sc_need_numbers : FnScope N_need_numbers p_need_numbers (defScope s_need_numbers) := ⟨rfl, rfl, rfl, by decide +kernel, rfl, by decide +kernel, by decide +kernel⟩
theorem ok_need_numbers {f : Addr} {fd : FuncData} (F : Fun K "need_numbers" "need_numbers" s_need_numbers f fd) (T : Txt K mg cn) (C_are_integers : Cl P w (gOf K mg cn) base 2 "are_integers" p_are_integers (d_are_integers fu)) : FnOk P w K mg base (L2.CX P w) 3 f fd p_need_numbers (spD (gOf K mg cn) (d_need_numbers fu)) := by
  refine fnD_ok (g := gOf K mg cn) (N := N_need_numbers) (ps := p_need_numbers) (body := b_need_numbers fu) F sc_need_numbers (by decide) fun cdv A outer s H E T0 hr hio => ?_
  unfold b_need_numbers
  exact (jss_one (js_if (jt_not (jt_tru rfl (jo_of (je_rv (jr_callC C_are_integers hr (by decide) rfl rfl rfl (takes_of rfl rfl rfl rfl) (ja_cons (jo_var (pv 0)) ja_nil)))) (fun _ => rfl))) (jss_one (T.BadNumber.raise hr (takes_of rfl rfl rfl rfl) (ja_cons (jo_var (pv 1)) ja_nil))) jss_nil))
theorem sc_need_ratio : FnScope N_need_ratio p_need_ratio (defScope s_need_ratio) := ⟨rfl, rfl, rfl, by decide +kernel, rfl, by decide +kernel, by decide +kernel⟩
theorem ok_need_ratio {f : Addr} {fd : FuncData} (F : Fun K "need_ratio" "need_ratio" s_need_ratio f fd) (T : Txt K mg cn) (C_is_ratio : Cl P w (gOf K mg cn) base 3 "is_ratio" p_is_ratio (d_is_ratio fu)) : FnOk P w K mg base (L2.CX P w) 4 f fd p_need_ratio (spD (gOf K mg cn) (d_need_ratio fu)) := by
  refine fnD_ok (g := gOf K mg cn) (N := N_need_ratio) (ps := p_need_ratio) (body := b_need_ratio fu) F sc_need_ratio (by decide) fun cdv A outer s H E T0 hr hio => ?_
  unfold b_need_ratio
  exact (jss_one (js_if (jt_not (jt_tru rfl (jo_of (je_rv (jr_callC C_is_ratio hr (by decide) rfl rfl rfl (takes_of rfl rfl rfl rfl) (ja_cons (jo_var (pv 0)) ja_nil)))) (fun _ => rfl))) (jss_one (T.BadRatio.raise hr (takes_of rfl rfl rfl rfl) (ja_cons (jo_var (pv 1)) ja_nil))) jss_nil))
theorem sc_common_divisor : FnScope N_common_divisor p_common_divisor (defScope s_common_divisor) := ⟨rfl, rfl, rfl, by decide +kernel, rfl, by decide +kernel, by decide +kernel⟩
theorem ok_common_divisor {f : Addr} {fd : FuncData} (F : Fun K "common_divisor" "common_divisor" s_common_divisor f fd) (T : Txt K mg cn) (C_measure : Cl P w (gOf K mg cn) base 1 "measure" p_measure (d_measure fu)) (C_need_numbers : Cl P w (gOf K mg cn) base 3 "need_numbers" p_need_numbers (d_need_numbers fu)) : FnOk P w K mg base (L2.CX P w) 4 f fd p_common_divisor (spD (gOf K mg cn) (d_common_divisor fu)) := by
  refine fnD_ok (g := gOf K mg cn) (N := N_common_divisor) (ps := p_common_divisor) (body := b_common_divisor fu) F sc_common_divisor (by decide) fun cdv A outer s H E T0 hr hio => ?_
  unfold b_common_divisor
  exact (jss_cons (js_expr (je_rv (jr_callC C_need_numbers hr (by decide) rfl rfl rfl (takes_of rfl rfl rfl rfl) (ja_cons (jo_var (pv 0)) (ja_cons (jo_of je_str) ja_nil)))) rfl)
    (jss_one (js_ret (jr_callC C_measure hr (by decide) rfl rfl rfl (takes_of rfl rfl rfl rfl) (ja_cons (jo_var (pv 0)) ja_nil)))))
theorem sc_in_lowest : FnScope N_in_lowest p_in_lowest (defScope s_in_lowest) := ⟨rfl, rfl, rfl, by decide +kernel, rfl, by decide +kernel, by decide +kernel⟩
theorem ok_in_lowest {f : Addr} {fd : FuncData} (F : Fun K "in_lowest" "in_lowest" s_in_lowest f fd) (T : Txt K mg cn) (C_measure : Cl P w (gOf K mg cn) base 1 "measure" p_measure (d_measure fu)) : FnOk P w K mg base (L2.CX P w) 2 f fd p_in_lowest (spD (gOf K mg cn) (d_in_lowest fu)) := by
  refine fnD_ok (g := gOf K mg cn) (N := N_in_lowest) (ps := p_in_lowest) (body := b_in_lowest fu) F sc_in_lowest (by decide) fun cdv A outer s H E T0 hr hio => ?_
  unfold b_in_lowest
  exact (jss_cons (js_set (i := 2) (fun _ h => ps_set (i := 2) sc_in_lowest.nd rfl (by first | exact Or.inl rfl | exact Or.inr rfl) h) (hio 2 (by decide)) (jr_of (je_if (jt_cmp (o_gt) (jo_var (pv 1)) (jo_of je_int) (nomark _)) (je_rv (jr_callC C_measure hr (by decide) rfl rfl rfl (takes_of rfl rfl rfl rfl) (ja_cons (jo_of (je_rv (jr_lst (ja_cons (jo_var (pv 0)) (ja_cons (jo_var (pv 1)) ja_nil))))) ja_nil))) (je_un o_neg (jo_of (je_rv (jr_callC C_measure hr (by decide) rfl rfl rfl (takes_of rfl rfl rfl rfl) (ja_cons (jo_of (je_rv (jr_lst (ja_cons (jo_var (pv 0)) (ja_cons (jo_var (pv 1)) ja_nil))))) ja_nil))))))))
    (jss_one (js_ret (jr_of (je_tup (ja_cons (jo_of (je_bin o_fdv (jo_var (pv 0)) (jo_var (pv 2)))) (ja_cons (jo_of (je_bin o_fdv (jo_var (pv 1)) (jo_var (pv 2)))) ja_nil)))))))
theorem sc_lowest : FnScope N_lowest p_lowest (defScope s_lowest) := ⟨rfl, rfl, rfl, by decide +kernel, rfl, by decide +kernel, by decide +kernel⟩
theorem ok_lowest {f : Addr} {fd : FuncData} (F : Fun K "lowest" "lowest" s_lowest f fd) (T : Txt K mg cn) (C_need_number : Cl P w (gOf K mg cn) base 3 "need_number" p_need_number (d_need_number fu)) (C_in_lowest : Cl P w (gOf K mg cn) base 2 "in_lowest" p_in_lowest (d_in_lowest fu)) : FnOk P w K mg base (L2.CX P w) 4 f fd p_lowest (spD (gOf K mg cn) (d_lowest fu)) := by
  refine fnD_ok (g := gOf K mg cn) (N := N_lowest) (ps := p_lowest) (body := b_lowest fu) F sc_lowest (by decide) fun cdv A outer s H E T0 hr hio => ?_
  unfold b_lowest
  exact (jss_cons (js_expr (je_rv (jr_callC C_need_number hr (by decide) rfl rfl rfl (takes_of rfl rfl rfl rfl) (ja_cons (jo_var (pv 0)) (ja_cons (jo_of je_str) (ja_cons (jo_of je_non) (ja_cons (jo_of je_non) ja_nil)))))) rfl)
    (jss_cons (js_expr (je_rv (jr_callC C_need_number hr (by decide) rfl rfl rfl (takes_of rfl rfl rfl rfl) (ja_cons (jo_var (pv 1)) (ja_cons (jo_of je_str) (ja_cons (jo_of je_non) (ja_cons (jo_of je_non) ja_nil)))))) rfl)
    (jss_cons (js_if (jt_cmp (o_eq rfl (hu64 hr)) (jo_var (pv 1)) (jo_of je_int) (nomark _)) (jss_one (T.BadNumber.raise hr (takes_of rfl rfl rfl rfl) (ja_cons (jo_of je_str) ja_nil))) jss_nil)
    (jss_one (js_ret (jr_callC C_in_lowest hr (by decide) rfl rfl rfl (takes_of rfl rfl rfl rfl) (ja_cons (jo_var (pv 0)) (ja_cons (jo_var (pv 1)) ja_nil))))))))
theorem sc_difference : FnScope N_difference p_difference (defScope s_difference) := ⟨rfl, rfl, rfl, by decide +kernel, rfl, by decide +kernel, by decide +kernel⟩
theorem ok_difference {f : Addr} {fd : FuncData} (F : Fun K "difference" "difference" s_difference f fd) (T : Txt K mg cn) : FnOk P w K mg base (L2.CX P w) 1 f fd p_difference (spD (gOf K mg cn) (d_difference fu)) := by
  refine fnD_ok (g := gOf K mg cn) (N := N_difference) (ps := p_difference) (body := b_difference fu) F sc_difference (by decide) fun cdv A outer s H E T0 hr hio => ?_
  unfold b_difference
  exact (jss_one (js_ret (jr_of (je_bin o_sub (jo_of (je_bin o_mul (jo_of (je_ix rfl (jo_var (pv 0)) (jo_of je_int) (fun _ _ => rfl))) (jo_of (je_ix rfl (jo_var (pv 1)) (jo_of je_int) (fun _ _ => rfl))))) (jo_of (je_bin o_mul (jo_of (je_ix rfl (jo_var (pv 1)) (jo_of je_int) (fun _ _ => rfl))) (jo_of (je_ix rfl (jo_var (pv 0)) (jo_of je_int) (fun _ _ => rfl)))))))))
theorem sc_compared : FnScope N_compared p_compared (defScope s_compared) := ⟨rfl, rfl, rfl, by decide +kernel, rfl, by decide +kernel, by decide +kernel⟩
theorem ok_compared {f : Addr} {fd : FuncData} (F : Fun K "compared" "compared" s_compared f fd) (T : Txt K mg cn) (C_need_ratio : Cl P w (gOf K mg cn) base 4 "need_ratio" p_need_ratio (d_need_ratio fu)) (C_difference : Cl P w (gOf K mg cn) base 1 "difference" p_difference (d_difference fu)) : FnOk P w K mg base (L2.CX P w) 5 f fd p_compared (spD (gOf K mg cn) (d_compared fu)) := by
  refine fnD_ok (g := gOf K mg cn) (N := N_compared) (ps := p_compared) (body := b_compared fu) F sc_compared (by decide) fun cdv A outer s H E T0 hr hio => ?_
  unfold b_compared
  exact (jss_cons (js_expr (je_rv (jr_callC C_need_ratio hr (by decide) rfl rfl rfl (takes_of rfl rfl rfl rfl) (ja_cons (jo_var (pv 0)) (ja_cons (jo_of je_str) ja_nil)))) rfl)
    (jss_cons (js_expr (je_rv (jr_callC C_need_ratio hr (by decide) rfl rfl rfl (takes_of rfl rfl rfl rfl) (ja_cons (jo_var (pv 1)) (ja_cons (jo_of je_str) ja_nil)))) rfl)
    (jss_cons (js_set (i := 2) (fun _ h => ps_set (i := 2) sc_compared.nd rfl (by first | exact Or.inl rfl | exact Or.inr rfl) h) (hio 2 (by decide)) (jr_callC C_difference hr (by decide) rfl rfl rfl (takes_of rfl rfl rfl rfl) (ja_cons (jo_var (pv 0)) (ja_cons (jo_var (pv 1)) ja_nil))))
    (jss_one (js_ret (jr_of (je_bin o_subB (jo_of (je_cmp (o_gt) (jo_var (pv 2)) (jo_of je_int) (nomark _))) (jo_of (je_cmp (o_lt) (jo_var (pv 2)) (jo_of je_int) (nomark _))))))))))
theorem sc__law_bag : FnScope N__law_bag p__law_bag (defScope s__law_bag) := ⟨rfl, rfl, rfl, by decide +kernel, rfl, by decide +kernel, by decide +kernel⟩
theorem ok__law_bag {f : Addr} {fd : FuncData} (F : Fun K "_law_bag" "_law_bag" s__law_bag f fd) (T : Txt K mg cn) : FnOk P w K mg base (L2.CX P w) 1 f fd p__law_bag (spD (gOf K mg cn) (d__law_bag fu)) := by
  refine fnD_ok (g := gOf K mg cn) (N := N__law_bag) (ps := p__law_bag) (body := b__law_bag fu) F sc__law_bag (by decide) fun cdv A outer s H E T0 hr hio => ?_
  unfold b__law_bag
  exact (jss_cons (js_set (i := 1) (fun _ h => ps_set (i := 1) sc__law_bag.nd rfl (by first | exact Or.inl rfl | exact Or.inr rfl) h) (hio 1 (by decide)) (jr_of je_int))
    (jss_cons (js_for (passes_of rfl) rfl (ji_seq rfl (je_rv (jr_slice rfl (jo_var (pv 0)) jp_none (jp_some je_int)))) (jg_name (i := 2) (pg_name (i := 2) sc__law_bag.nd rfl (by first | exact Or.inl rfl | exact Or.inr rfl)) (hio 2 (by decide)) (fun _ h => by cases h)) (jss_one (js_set (i := 1) (fun _ h => ps_set (i := 1) sc__law_bag.nd rfl (by first | exact Or.inl rfl | exact Or.inr rfl) h) (hio 1 (by decide)) (jr_of (je_bin o_add (jo_of (je_bin o_mul (jo_var (pv 1)) (jo_of je_int))) (jo_of (je_bin o_mod (jo_of (je_bin o_add (jo_of (je_bin o_mul (jo_of je_int) (jo_of (je_rv (jr_cb (o_abs) (fun _ _ hc h => pe_callB hc rfl T.n_abs rfl h) (ja_cons (jo_of (je_rv (jr_cb (o_int) (fun _ _ hc h => pe_callTy hc rfl T.n_int rfl h) (ja_cons (jo_var (pv 2)) ja_nil)))) ja_nil)))))) (jo_of (je_rv (jr_cb (o_int) (fun _ _ hc h => pe_callTy hc rfl T.n_int rfl h) (ja_cons (jo_of (je_cmp (o_lt) (jo_var (pv 2)) (jo_of je_int) (nomark _))) ja_nil)))))) (jo_of (je_bin o_powB (jo_of (je_bin o_pow (jo_of je_int) (jo_of je_int))) (jo_of je_int))))))))))
    (jss_one (js_ret (jr_lst (ja_cons (jo_var (pv 1)) (ja_cons (jo_of je_int) (ja_cons (jo_of (je_bin o_mod (jo_of (je_rv (jr_cb (o_int) (fun _ _ hc h => pe_callTy hc rfl T.n_int rfl h) (ja_cons (jo_var (pv 1)) ja_nil)))) (jo_of je_int))) ja_nil))))))))
theorem sc__law_pull : FnScope N__law_pull p__law_pull (defScope s__law_pull) := ⟨rfl, rfl, rfl, by decide +kernel, rfl, by decide +kernel, by decide +kernel⟩
theorem ok__law_pull {f : Addr} {fd : FuncData} (F : Fun K "_law_pull" "_law_pull" s__law_pull f fd) (T : Txt K mg cn) : FnOk P w K mg base (L2.CX P w) 1 f fd p__law_pull (spD (gOf K mg cn) (d__law_pull fu)) := by
  refine fnD_ok (g := gOf K mg cn) (N := N__law_pull) (ps := p__law_pull) (body := b__law_pull fu) F sc__law_pull (by decide) fun cdv A outer s H E T0 hr hio => ?_
  unfold b__law_pull
  exact (jss_cons (js_if (jt_cmp (o_eq rfl (hu64 hr)) (jo_of (je_ix rfl (jo_var (pv 0)) (jo_of je_int) (fun _ _ => rfl))) (jo_of je_int) (nomark _)) (jss_cons (js_seti (k := 0) (fun _ _ h h2 => ps_asg h (pg_sub (pv 0) h2 set_list)) je_int (je_bin o_add (jo_of (je_ix rfl (jo_var (pv 0)) (jo_of je_int) (fun _ _ => rfl))) (jo_of je_int)))
    (jss_one (js_seti (k := 0) (fun _ _ h h2 => ps_asg h (pg_sub (pv 0) h2 set_list)) je_int (je_bin o_pow (jo_of (je_bin o_add (jo_of (je_bin o_add (jo_of (je_bin o_mul (jo_of (je_ix rfl (jo_var (pv 0)) (jo_of je_int) (fun _ _ => rfl))) (jo_of (je_bin o_add (jo_of (je_bin o_mul (jo_of je_int) (jo_of (je_ix rfl (jo_var (pv 0)) (jo_of je_int) (fun _ _ => rfl))))) (jo_of je_int))))) (jo_of (je_bin o_mul (jo_of je_int) (jo_of (je_ix rfl (jo_var (pv 0)) (jo_of je_int) (fun _ _ => rfl))))))) (jo_of je_int))) (jo_of je_int))))) jss_nil)
    (jss_cons (js_set (i := 2) (fun _ h => ps_set (i := 2) sc__law_pull.nd rfl (by first | exact Or.inl rfl | exact Or.inr rfl) h) (hio 2 (by decide)) (jr_of (je_bin o_mod (jo_of (je_rv (jr_cb (o_int) (fun _ _ hc h => pe_callTy hc rfl T.n_int rfl h) (ja_cons (jo_of (je_ix rfl (jo_var (pv 0)) (jo_of je_int) (fun _ _ => rfl))) ja_nil)))) (jo_var (pv 1)))))
    (jss_cons (js_seti (k := 0) (fun _ _ h h2 => ps_asg h (pg_sub (pv 0) h2 set_list)) je_int (je_bin o_div (jo_of (je_rv (jr_cb (o_int) (fun _ _ hc h => pe_callTy hc rfl T.n_int rfl h) (ja_cons (jo_of (je_ix rfl (jo_var (pv 0)) (jo_of je_int) (fun _ _ => rfl))) ja_nil)))) (jo_var (pv 1))))
    (jss_one (js_ret (jr_of (je_of (jo_var (pv 2)))))))))
theorem sc__law_take : FnScope N__law_take p__law_take (defScope s__law_take) := ⟨rfl, rfl, rfl, by decide +kernel, rfl, by decide +kernel, by decide +kernel⟩
theorem ok__law_take {f : Addr} {fd : FuncData} (F : Fun K "_law_take" "_law_take" s__law_take f fd) (T : Txt K mg cn) (C__law_pull : Cl P w (gOf K mg cn) base 1 "_law_pull" p__law_pull (d__law_pull fu)) : FnOk P w K mg base (L2.CX P w) 2 f fd p__law_take (spD (gOf K mg cn) (d__law_take fu)) := by
  refine fnD_ok (g := gOf K mg cn) (N := N__law_take) (ps := p__law_take) (body := b__law_take fu) F sc__law_take (by decide) fun cdv A outer s H E T0 hr hio => ?_
  unfold b__law_take
  exact (jss_one (js_ret (jr_of (je_ix rfl (jo_var (pv 1)) (jo_of (je_rv (jr_callC C__law_pull hr (by decide) rfl rfl rfl (takes_of rfl rfl rfl rfl) (ja_cons (jo_var (pv 0)) (ja_cons (jo_of (je_rv (jr_cb (o_len rfl) (fun _ _ hc h => pe_callB hc rfl T.n_len rfl h) (ja_cons (jo_var (pv 1)) ja_nil)))) ja_nil))))) (fun _ _ => rfl)))))
theorem sc__law_integer : FnScope N__law_integer p__law_integer (defScope s__law_integer) := ⟨rfl, rfl, rfl, by decide +kernel, rfl, by decide +kernel, by decide +kernel⟩
theorem ok__law_integer {f : Addr} {fd : FuncData} (F : Fun K "_law_integer" "_law_integer" s__law_integer f fd) (T : Txt K mg cn) (C__law_pull : Cl P w (gOf K mg cn) base 1 "_law_pull" p__law_pull (d__law_pull fu)) (C__law_take : Cl P w (gOf K mg cn) base 2 "_law_take" p__law_take (d__law_take fu)) : FnOk P w K mg base (L2.CX P w) 3 f fd p__law_integer (spD (gOf K mg cn) (d__law_integer fu)) := by
  refine fnD_ok (g := gOf K mg cn) (N := N__law_integer) (ps := p__law_integer) (body := b__law_integer fu) F sc__law_integer (by decide) fun cdv A outer s H E T0 hr hio => ?_
  unfold b__law_integer
  exact (jss_cons (js_par2 (i := 1) (j := 2) (fun _ h => ps_par (i := 1) (j := 2) rfl sc__law_integer.nd rfl rfl (by decide) rfl rfl h rfl) (hio 1 (by decide)) (hio 2 (by decide)) (ja_cons (jo_of (je_bin o_sub (jo_of (je_rv (jr_callC C__law_pull hr (by decide) rfl rfl rfl (takes_of rfl rfl rfl rfl) (ja_cons (jo_var (pv 0)) (ja_cons (jo_of je_int) ja_nil))))) (jo_of je_int))) (ja_cons (jo_of (je_bin o_sub (jo_of (je_rv (jr_callC C__law_pull hr (by decide) rfl rfl rfl (takes_of rfl rfl rfl rfl) (ja_cons (jo_var (pv 0)) (ja_cons (jo_of (je_bin o_pow (jo_of je_int) (jo_of je_int))) ja_nil))))) (jo_of (je_bin o_mul (jo_of je_int) (jo_of (je_bin o_pow (jo_of je_int) (jo_of je_int))))))) ja_nil)))
    (jss_one (js_ret (jr_callC C__law_take hr (by decide) rfl rfl rfl (takes_of rfl rfl rfl rfl) (ja_cons (jo_var (pv 0)) (ja_cons (jo_of (je_rv (jr_lst (ja_cons (jo_var (pv 1)) (ja_cons (jo_var (pv 1)) (ja_cons (jo_var (pv 2)) (ja_cons (jo_of je_int) (ja_cons (jo_of je_int) (ja_cons (jo_of (je_un o_neg (jo_of je_int))) ja_nil))))))))) ja_nil))))))
theorem sc__law_value : FnScope N__law_value p__law_value (defScope s__law_value) := ⟨rfl, rfl, rfl, by decide +kernel, rfl, by decide +kernel, by decide +kernel⟩
theorem ok__law_value {f : Addr} {fd : FuncData} (F : Fun K "_law_value" "_law_value" s__law_value f fd) (T : Txt K mg cn) (C__law_take : Cl P w (gOf K mg cn) base 2 "_law_take" p__law_take (d__law_take fu)) (C__law_integer : Cl P w (gOf K mg cn) base 3 "_law_integer" p__law_integer (d__law_integer fu)) : FnOk P w K mg base (L2.CX P w) 4 f fd p__law_value (spD (gOf K mg cn) (d__law_value fu)) := by
  refine fnD_ok (g := gOf K mg cn) (N := N__law_value) (ps := p__law_value) (body := b__law_value fu) F sc__law_value (by decide) fun cdv A outer s H E T0 hr hio => ?_
  unfold b__law_value
  exact (jss_cons (js_set (i := 1) (fun _ h => ps_set (i := 1) sc__law_value.nd rfl (by first | exact Or.inl rfl | exact Or.inr rfl) h) (hio 1 (by decide)) (jr_callC C__law_integer hr (by decide) rfl rfl rfl (takes_of rfl rfl rfl rfl) (ja_cons (jo_var (pv 0)) ja_nil)))
    (jss_one (js_ret (jr_callC C__law_take hr (by decide) rfl rfl rfl (takes_of rfl rfl rfl rfl) (ja_cons (jo_var (pv 0)) (ja_cons (jo_of (je_rv (jr_lst (ja_cons (jo_of je_non) (ja_cons (jo_of je_bl) (ja_cons (jo_of je_bl) (ja_cons (jo_of (je_rv (jr_cb (o_str) (fun _ _ hc h => pe_callTy hc rfl T.n_str rfl h) (ja_cons (jo_var (pv 1)) ja_nil)))) (ja_cons (jo_of je_str) (ja_cons (jo_of (je_rv (jr_lst (ja_cons (jo_var (pv 1)) ja_nil)))) (ja_cons (jo_of (je_tup (ja_cons (jo_var (pv 1)) ja_nil))) (ja_cons (jo_of je_dct0) (ja_cons (jo_of (je_dctV (k := (.inr "a")) pe_str (pv 1))) (ja_cons (jo_of (je_rv (jr_lst (ja_cons (jo_var (pv 1)) (ja_cons (jo_of je_bl) ja_nil))))) (ja_cons (jo_of (je_tup (ja_cons (jo_of je_non) ja_nil))) (ja_cons (jo_of (je_rv (jr_lst (ja_cons (jo_of (je_rv (jr_lst (ja_cons (jo_var (pv 1)) ja_nil)))) ja_nil)))) ja_nil))))))))))))))) ja_nil))))))
theorem sc__law_same : FnScope N__law_same p__law_same (defScope s__law_same) := ⟨rfl, rfl, rfl, by decide +kernel, rfl, by decide +kernel, by decide +kernel⟩
theorem ok__law_same {f : Addr} {fd : FuncData} (F : Fun K "_law_same" "_law_same" s__law_same f fd) (T : Txt K mg cn) : FnOk P w K mg base (L2.CX P w) 1 f fd p__law_same (spD (gOf K mg cn) (d__law_same fu)) := by
  refine fnD_ok (g := gOf K mg cn) (N := N__law_same) (ps := p__law_same) (body := b__law_same fu) F sc__law_same (by decide) fun cdv A outer s H E T0 hr hio => ?_
  unfold b__law_same
  exact (jss_one (js_ret (jr_of (je_and (je_isiB rfl (fun _ => rfl) isi_bl (ClsV.ty "bool") rfl T.n_isinstance (pe_bty rfl T.n_bool rfl) (jo_var (pv 0))) (je_one (je_cmp (o_eq rfl (hu64 hr)) (jo_var (pv 0)) (jo_var (pv 1)) (nomark _)))))))
theorem sc__law_integers_right : FnScope N__law_integers_right p__law_integers_right (defScope s__law_integers_right) := ⟨rfl, rfl, rfl, by decide +kernel, rfl, by decide +kernel, by decide +kernel⟩
theorem ok__law_integers_right {f : Addr} {fd : FuncData} (F : Fun K "_law_integers_right" "_law_integers_right" s__law_integers_right f fd) (T : Txt K mg cn) (C_is_integer : Cl P w (gOf K mg cn) base 1 "is_integer" p_is_integer (d_is_integer fu)) (R_is_within : ClR P w (gOf K mg cn) base 2 "is_within" p_is_within (d_is_within fu)) (C_is_within : Cl P w (gOf K mg cn) base 2 "is_within" p_is_within (d_is_within fu)) (C_are_integers : Cl P w (gOf K mg cn) base 2 "are_integers" p_are_integers (d_are_integers fu)) (C__law_pull : Cl P w (gOf K mg cn) base 1 "_law_pull" p__law_pull (d__law_pull fu)) (C__law_integer : Cl P w (gOf K mg cn) base 3 "_law_integer" p__law_integer (d__law_integer fu)) (C__law_value : Cl P w (gOf K mg cn) base 4 "_law_value" p__law_value (d__law_value fu)) (C__law_same : Cl P w (gOf K mg cn) base 1 "_law_same" p__law_same (d__law_same fu)) : FnOk P w K mg base (L2.CX P w) 5 f fd p__law_integers_right (spD (gOf K mg cn) (d__law_integers_right fu)) := by
  refine fnD_ok (g := gOf K mg cn) (N := N__law_integers_right) (ps := p__law_integers_right) (body := b__law_integers_right fu) F sc__law_integers_right (by decide) fun cdv A outer s H E T0 hr hio => ?_
  unfold b__law_integers_right
  exact (jss_cons (js_par2 (i := 1) (j := 2) (fun _ h => ps_par (i := 1) (j := 2) rfl sc__law_integers_right.nd rfl rfl (by decide) rfl rfl h rfl) (hio 1 (by decide)) (hio 2 (by decide)) (ja_cons (jo_of (je_rv (jr_callC C__law_integer hr (by decide) rfl rfl rfl (takes_of rfl rfl rfl rfl) (ja_cons (jo_var (pv 0)) ja_nil)))) (ja_cons (jo_of (je_rv (jr_callC C__law_value hr (by decide) rfl rfl rfl (takes_of rfl rfl rfl rfl) (ja_cons (jo_var (pv 0)) ja_nil)))) ja_nil)))
    (jss_cons (js_if (jt_w (jw_or (jt_not (jt_tru rfl (jo_of (je_rv (jr_callC C__law_same hr (by decide) rfl rfl rfl (takes_of rfl rfl rfl rfl) (ja_cons (jo_of (je_rv (jr_callK C_is_integer hr (by decide) rfl rfl rfl (takes_of rfl rfl rfl rfl) (jk_cons (jo_var (pv 1)) jk_nil)))) (ja_cons (jo_of je_bl) ja_nil))))) (fun _ => rfl))) (jw_or (jt_not (jt_tru rfl (jo_of (je_rv (jr_callC C__law_same hr (by decide) rfl rfl rfl (takes_of rfl rfl rfl rfl) (ja_cons (jo_of (je_rv (jr_callC C_is_integer hr (by decide) rfl rfl rfl (takes_of rfl rfl rfl rfl) (ja_cons (jo_var (pv 2)) ja_nil)))) (ja_cons (jo_of je_bl) ja_nil))))) (fun _ => rfl))) (jw_or1 (jt_not (jt_tru rfl (jo_of (je_rv (jr_callC C__law_same hr (by decide) rfl rfl rfl (takes_of rfl rfl rfl rfl) (ja_cons (jo_of (je_rv (jr_callC C_is_within hr (by decide) rfl rfl rfl (takes_of rfl rfl rfl rfl) (ja_cons (jo_var (pv 2)) (ja_cons (jo_of je_non) (ja_cons (jo_of je_non) ja_nil)))))) (ja_cons (jo_of je_bl) ja_nil))))) (fun _ => rfl))))))) (jss_one (js_ret (jr_of je_bl))) jss_nil)
    (jss_cons (js_par2 (i := 3) (j := 4) (fun _ h => ps_par (i := 3) (j := 4) rfl sc__law_integers_right.nd rfl rfl (by decide) rfl rfl h rfl) (hio 3 (by decide)) (hio 4 (by decide)) (ja_cons (jo_of (je_bin o_sub (jo_of (je_bin o_add (jo_var (pv 1)) (jo_of (je_rv (jr_callC C__law_pull hr (by decide) rfl rfl rfl (takes_of rfl rfl rfl rfl) (ja_cons (jo_var (pv 0)) (ja_cons (jo_of je_int) ja_nil))))))) (jo_of je_int))) (ja_cons (jo_of (je_bin o_sub (jo_of (je_bin o_add (jo_var (pv 1)) (jo_of (je_rv (jr_callC C__law_pull hr (by decide) rfl rfl rfl (takes_of rfl rfl rfl rfl) (ja_cons (jo_var (pv 0)) (ja_cons (jo_of je_int) ja_nil))))))) (jo_of je_int))) ja_nil)))
    (jss_cons (js_for (passes_of rfl) rfl (ji_seq rfl (je_tup (ja_cons (jo_of (je_tup (ja_cons (jo_var (pv 3)) (ja_cons (jo_var (pv 4)) ja_nil)))) (ja_cons (jo_of (je_tup (ja_cons (jo_of je_non) (ja_cons (jo_var (pv 4)) ja_nil)))) (ja_cons (jo_of (je_tup (ja_cons (jo_var (pv 3)) (ja_cons (jo_of je_non) ja_nil)))) (ja_cons (jo_of (je_tup (ja_cons (jo_of je_non) (ja_cons (jo_of je_non) ja_nil)))) ja_nil)))))) (jg_tup (n := 2) rfl rfl (jgs_cons (jg_name (i := 5) (pg_name (i := 5) sc__law_integers_right.nd rfl (by first | exact Or.inl rfl | exact Or.inr rfl)) (hio 5 (by decide)) (fun _ h => by cases h)) (jgs_cons (jg_name (i := 6) (pg_name (i := 6) sc__law_integers_right.nd rfl (by first | exact Or.inl rfl | exact Or.inr rfl)) (hio 6 (by decide)) (fun _ h => by cases h)) jgs_nil))) (jss_cons (js_set (i := 7) (fun _ h => ps_set (i := 7) sc__law_integers_right.nd rfl (by first | exact Or.inl rfl | exact Or.inr rfl) h) (hio 7 (by decide)) (jr_of (je_and (je_or (je_cmp (o_isN) (jo_var (pv 5)) (jo_of je_non) (nomark _)) (je_one (je_cmp (o_le) (jo_var (pv 5)) (jo_var (pv 1)) (nomark _)))) (je_one (je_or (je_cmp (o_isN) (jo_var (pv 6)) (jo_of je_non) (nomark _)) (je_one (je_cmp (o_le) (jo_var (pv 1)) (jo_var (pv 6)) (nomark _))))))))
    (jss_one (js_if (jt_w (jw_or (jt_not (jt_tru rfl (jo_of (je_rv (jr_callC C__law_same hr (by decide) rfl rfl rfl (takes_of rfl rfl rfl rfl) (ja_cons (jo_of (je_rv (jr_callC C_is_within hr (by decide) rfl rfl rfl (takes_of rfl rfl rfl rfl) (ja_cons (jo_var (pv 1)) (ja_cons (jo_var (pv 5)) (ja_cons (jo_var (pv 6)) ja_nil)))))) (ja_cons (jo_var (pv 7)) ja_nil))))) (fun _ => rfl))) (jw_or1 (jt_not (jt_tru rfl (jo_of (je_rv (jr_callC C__law_same hr (by decide) rfl rfl rfl (takes_of rfl rfl rfl rfl) (ja_cons (jo_of (je_rv (jr_callKR R_is_within hr (by decide) rfl rfl rfl (takes_of rfl rfl rfl rfl) (jk_cons (jo_var (pv 6)) (jk_cons (jo_var (pv 5)) (jk_cons (jo_var (pv 1)) jk_nil)))))) (ja_cons (jo_var (pv 7)) ja_nil))))) (fun _ => rfl)))))) (jss_one (js_ret (jr_of je_bl))) jss_nil))))
    (jss_cons (js_setLc rfl sc__law_integers_right.nd rfl rfl rfl (ji_range1 rfl T.n_range (ja_cons (jo_of (je_rv (jr_callC C__law_pull hr (by decide) rfl rfl rfl (takes_of rfl rfl rfl rfl) (ja_cons (jo_var (pv 0)) (ja_cons (jo_of je_int) ja_nil))))) ja_nil)) (blkOk_by (own := [("_law_turn", 9)]) (N := N__law_integers_right) (sc := defScope s__law_integers_right) (by decide +kernel)) rfl (fun _ _ _ _ _ => (jg_name (i := 9) (pg_name (i := 9) sc__law_integers_right.nd rfl (by first | exact Or.inl rfl | exact Or.inr rfl)) (hio 9 (by decide)) (fun _ h => by cases h; decide))) (fun _ _ _ _ _ => jts_nil) (fun _ _ _ _ _ => (je_rv (jr_callC C__law_integer hr (by decide) rfl rfl rfl takes0 (ja_cons (jo_var (pv 0)) ja_nil)))) (hio 8 (by decide)))
    (jss_cons (js_set (i := 10) (fun _ h => ps_set (i := 10) sc__law_integers_right.nd rfl (by first | exact Or.inl rfl | exact Or.inr rfl) h) (hio 10 (by decide)) (jr_callC C__law_pull hr (by decide) rfl rfl rfl (takes_of rfl rfl rfl rfl) (ja_cons (jo_var (pv 0)) (ja_cons (jo_of (je_bin o_add (jo_of (je_rv (jr_cb (o_len rfl) (fun _ _ hc h => pe_callB hc rfl T.n_len rfl h) (ja_cons (jo_varF (pv 8) (hio 8 (by decide))) ja_nil)))) (jo_of je_int))) ja_nil))))
    (jss_cons (js_if (jt_w (jw_or (jt_not (jt_tru rfl (jo_of (je_rv (jr_callC C__law_same hr (by decide) rfl rfl rfl (takes_of rfl rfl rfl rfl) (ja_cons (jo_of (je_rv (jr_callC C_are_integers hr (by decide) rfl rfl rfl (takes_of rfl rfl rfl rfl) (ja_cons (jo_varF (pv 8) (hio 8 (by decide))) ja_nil)))) (ja_cons (jo_of je_bl) ja_nil))))) (fun _ => rfl))) (jw_or1 (jt_not (jt_tru rfl (jo_of (je_rv (jr_callC C__law_same hr (by decide) rfl rfl rfl (takes_of rfl rfl rfl rfl) (ja_cons (jo_of (je_rv (jr_callK C_are_integers hr (by decide) rfl rfl rfl (takes_of rfl rfl rfl rfl) (jk_cons (jo_of (je_rv (jr_cb (o_tuple rfl) (fun _ _ hc h => pe_callTy hc rfl T.n_tuple rfl h) (ja_cons (jo_varF (pv 8) (hio 8 (by decide))) ja_nil)))) jk_nil)))) (ja_cons (jo_of je_bl) ja_nil))))) (fun _ => rfl)))))) (jss_one (js_ret (jr_of je_bl))) jss_nil)
    (jss_one (js_ret (jr_of (je_and (je_rv (jr_callC C__law_same hr (by decide) rfl rfl rfl (takes_of rfl rfl rfl rfl) (ja_cons (jo_of (je_rv (jr_callC C_are_integers hr (by decide) rfl rfl rfl (takes_of rfl rfl rfl rfl) (ja_cons (jo_of (je_rv (jr_bin o_cat (jo_of (je_rv (jr_bin o_cat (jo_of (je_rv (jr_slice rfl (jo_varF (pv 8) (hio 8 (by decide))) jp_none (jp_some (je_of (jo_var (pv 10))))))) (jo_of (je_rv (jr_lst (ja_cons (jo_var (pv 2)) ja_nil))))))) (jo_of (je_rv (jr_slice rfl (jo_varF (pv 8) (hio 8 (by decide))) (jp_some (je_of (jo_var (pv 10)))) jp_none)))))) ja_nil)))) (ja_cons (jo_of je_bl) ja_nil)))) (je_and (je_rv (jr_callC C__law_same hr (by decide) rfl rfl rfl (takes_of rfl rfl rfl rfl) (ja_cons (jo_of (je_rv (jr_callC C_are_integers hr (by decide) rfl rfl rfl (takes_of rfl rfl rfl rfl) (ja_cons (jo_of (je_dctC (k := (.inl 0)) (v := .int 1) pe_int pe_int)) ja_nil)))) (ja_cons (jo_of je_bl) ja_nil)))) (je_one (je_rv (jr_callC C__law_same hr (by decide) rfl rfl rfl (takes_of rfl rfl rfl rfl) (ja_cons (jo_of (je_rv (jr_callC C_are_integers hr (by decide) rfl rfl rfl (takes_of rfl rfl rfl rfl) (ja_cons (jo_of je_str) ja_nil)))) (ja_cons (jo_of je_bl) ja_nil)))))))))))))))))
theorem sc__law_names_right : FnScope N__law_names_right p__law_names_right (defScope s__law_names_right) := ⟨rfl, rfl, rfl, by decide +kernel, rfl, by decide +kernel, by decide +kernel⟩
theorem ok__law_names_right {f : Addr} {fd : FuncData} (F : Fun K "_law_names_right" "_law_names_right" s__law_names_right f fd) (T : Txt K mg cn) (C_is_name : Cl P w (gOf K mg cn) base 1 "is_name" p_is_name (d_is_name fu)) (C__law_pull : Cl P w (gOf K mg cn) base 1 "_law_pull" p__law_pull (d__law_pull fu)) (C__law_take : Cl P w (gOf K mg cn) base 2 "_law_take" p__law_take (d__law_take fu)) (C__law_value : Cl P w (gOf K mg cn) base 4 "_law_value" p__law_value (d__law_value fu)) (C__law_same : Cl P w (gOf K mg cn) base 1 "_law_same" p__law_same (d__law_same fu)) : FnOk P w K mg base (L2.CX P w) 5 f fd p__law_names_right (spD (gOf K mg cn) (d__law_names_right fu)) := by
  refine fnD_ok (g := gOf K mg cn) (N := N__law_names_right) (ps := p__law_names_right) (body := b__law_names_right fu) F sc__law_names_right (by decide) fun cdv A outer s H E T0 hr hio => ?_
  unfold b__law_names_right
  exact (jss_cons (js_asg (fun _ _ h h2 => ps_asg h h2) (je_tup (ja_cons (jo_of je_str) (ja_cons (jo_of je_str) ja_nil))) (jg_tup (n := 2) rfl rfl (jgs_cons (jg_name (i := 1) (pg_name (i := 1) sc__law_names_right.nd rfl (by first | exact Or.inl rfl | exact Or.inr rfl)) (hio 1 (by decide)) (fun _ h => by cases h)) (jgs_cons (jg_name (i := 2) (pg_name (i := 2) sc__law_names_right.nd rfl (by first | exact Or.inl rfl | exact Or.inr rfl)) (hio 2 (by decide)) (fun _ h => by cases h)) jgs_nil))))
    (jss_cons (js_set (i := 3) (fun _ h => ps_set (i := 3) sc__law_names_right.nd rfl (by first | exact Or.inl rfl | exact Or.inr rfl) h) (hio 3 (by decide)) (jr_callC C__law_take hr (by decide) rfl rfl rfl (takes_of rfl rfl rfl rfl) (ja_cons (jo_var (pv 0)) (ja_cons (jo_of (je_rv (jr_cb (o_listS rfl) (fun _ _ hc h => pe_callTy hc rfl T.n_list rfl h) (ja_cons (jo_var (pv 1)) ja_nil)))) ja_nil))))
    (jss_cons (js_for (passes_of rfl) rfl (ji_range1 rfl T.n_range (ja_cons (jo_of (je_rv (jr_callC C__law_pull hr (by decide) rfl rfl rfl (takes_of rfl rfl rfl rfl) (ja_cons (jo_var (pv 0)) (ja_cons (jo_of je_int) ja_nil))))) ja_nil)) (jg_name (i := 4) (pg_name (i := 4) sc__law_names_right.nd rfl (by first | exact Or.inl rfl | exact Or.inr rfl)) (hio 4 (by decide)) (fun _ h => by cases h)) (jss_one (js_set (i := 3) (fun _ h => ps_set (i := 3) sc__law_names_right.nd rfl (by first | exact Or.inl rfl | exact Or.inr rfl) h) (hio 3 (by decide)) (jr_of (je_bin o_addX (jo_var (pv 3)) (jo_of (je_rv (jr_callC C__law_take hr (by decide) rfl rfl rfl (takes_of rfl rfl rfl rfl) (ja_cons (jo_var (pv 0)) (ja_cons (jo_of (je_rv (jr_cb (o_listS rfl) (fun _ _ hc h => pe_callTy hc rfl T.n_list rfl h) (ja_cons (jo_var (pv 2)) ja_nil)))) ja_nil))))))))))
    (jss_cons (js_par2 (i := 5) (j := 6) (fun _ h => ps_par (i := 5) (j := 6) rfl sc__law_names_right.nd rfl rfl (by decide) rfl rfl h rfl) (hio 5 (by decide)) (hio 6 (by decide)) (ja_cons (jo_of (je_rv (jr_callC C__law_pull hr (by decide) rfl rfl rfl (takes_of rfl rfl rfl rfl) (ja_cons (jo_var (pv 0)) (ja_cons (jo_of (je_bin o_addX (jo_of (je_rv (jr_cb (o_len rfl) (fun _ _ hc h => pe_callB hc rfl T.n_len rfl h) (ja_cons (jo_var (pv 3)) ja_nil)))) (jo_of je_int))) ja_nil))))) (ja_cons (jo_of (je_rv (jr_callC C__law_take hr (by decide) rfl rfl rfl (takes_of rfl rfl rfl rfl) (ja_cons (jo_var (pv 0)) (ja_cons (jo_of (je_rv (jr_lst (ja_cons (jo_of je_str) (ja_cons (jo_of je_str) (ja_cons (jo_of je_str) (ja_cons (jo_of je_str) (ja_cons (jo_of je_str) (ja_cons (jo_of je_str) (ja_cons (jo_of je_str) (ja_cons (jo_of je_str) (ja_cons (jo_of je_str) (ja_cons (jo_of je_str) (ja_cons (jo_of je_str) ja_nil)))))))))))))) ja_nil))))) ja_nil)))
    (jss_cons (js_if (jt_w (jw_or (jt_not (jt_tru rfl (jo_of (je_rv (jr_callC C__law_same hr (by decide) rfl rfl rfl (takes_of rfl rfl rfl rfl) (ja_cons (jo_of (je_rv (jr_callK C_is_name hr (by decide) rfl rfl rfl (takes_of rfl rfl rfl rfl) (jk_cons (jo_var (pv 3)) jk_nil)))) (ja_cons (jo_of je_bl) ja_nil))))) (fun _ => rfl))) (jw_or1 (jt_not (jt_tru rfl (jo_of (je_rv (jr_callC C__law_same hr (by decide) rfl rfl rfl (takes_of rfl rfl rfl rfl) (ja_cons (jo_of (je_rv (jr_callC C_is_name hr (by decide) rfl rfl rfl (takes_of rfl rfl rfl rfl) (ja_cons (jo_of (je_bin o_addX (jo_of (je_bin o_addX (jo_of (je_rv (jr_of (je_sliceS (jo_var (pv 3)) jp_none (jp_some (je_of (jo_var (pv 5)))))))) (jo_var (pv 6)))) (jo_of (je_rv (jr_of (je_sliceS (jo_var (pv 3)) (jp_some (je_of (jo_var (pv 5)))) jp_none)))))) ja_nil)))) (ja_cons (jo_of je_bl) ja_nil))))) (fun _ => rfl)))))) (jss_one (js_ret (jr_of je_bl))) jss_nil)
    (jss_cons (js_if (jt_w (jw_or (jt_not (jt_tru rfl (jo_of (je_rv (jr_callC C__law_same hr (by decide) rfl rfl rfl (takes_of rfl rfl rfl rfl) (ja_cons (jo_of (je_rv (jr_callC C_is_name hr (by decide) rfl rfl rfl (takes_of rfl rfl rfl rfl) (ja_cons (jo_of (je_bin o_addX (jo_of je_str) (jo_of (je_rv (jr_of (je_sliceS (jo_var (pv 3)) jp_none (jp_some je_int))))))) ja_nil)))) (ja_cons (jo_of je_bl) ja_nil))))) (fun _ => rfl))) (jw_or1 (jt_not (jt_tru rfl (jo_of (je_rv (jr_callC C__law_same hr (by decide) rfl rfl rfl (takes_of rfl rfl rfl rfl) (ja_cons (jo_of (je_rv (jr_callC C_is_name hr (by decide) rfl rfl rfl (takes_of rfl rfl rfl rfl) (ja_cons (jo_of (je_bin o_addX (jo_var (pv 3)) (jo_of (je_bin o_repS (jo_of je_str) (jo_of (je_bin o_sub (jo_of je_int) (jo_of (je_rv (jr_cb (o_len rfl) (fun _ _ hc h => pe_callB hc rfl T.n_len rfl h) (ja_cons (jo_var (pv 3)) ja_nil)))))))))) ja_nil)))) (ja_cons (jo_of je_bl) ja_nil))))) (fun _ => rfl)))))) (jss_one (js_ret (jr_of je_bl))) jss_nil)
    (jss_one (js_ret (jr_of (je_and (je_rv (jr_callC C__law_same hr (by decide) rfl rfl rfl (takes_of rfl rfl rfl rfl) (ja_cons (jo_of (je_rv (jr_callC C_is_name hr (by decide) rfl rfl rfl (takes_of rfl rfl rfl rfl) (ja_cons (jo_of (je_bin o_addX (jo_var (pv 3)) (jo_of (je_bin o_repS (jo_of je_str) (jo_of (je_bin o_sub (jo_of je_int) (jo_of (je_rv (jr_cb (o_len rfl) (fun _ _ hc h => pe_callB hc rfl T.n_len rfl h) (ja_cons (jo_var (pv 3)) ja_nil)))))))))) ja_nil)))) (ja_cons (jo_of je_bl) ja_nil)))) (je_and (je_not (je_rv (jr_callC C_is_name hr (by decide) rfl rfl rfl (takes_of rfl rfl rfl rfl) (ja_cons (jo_of je_str) ja_nil)))) (je_one (je_not (je_rv (jr_callC C_is_name hr (by decide) rfl rfl rfl (takes_of rfl rfl rfl rfl) (ja_cons (jo_of (je_rv (jr_callC C__law_value hr (by decide) rfl rfl rfl (takes_of rfl rfl rfl rfl) (ja_cons (jo_var (pv 0)) ja_nil)))) ja_nil))))))))))))))))
theorem sc__law_lots_right : FnScope N__law_lots_right p__law_lots_right (defScope s__law_lots_right) := ⟨rfl, rfl, rfl, by decide +kernel, rfl, by decide +kernel, by decide +kernel⟩
theorem ok__law_lots_right {f : Addr} {fd : FuncData} (F : Fun K "_law_lots_right" "_law_lots_right" s__law_lots_right f fd) (T : Txt K mg cn) (C_is_lot : Cl P w (gOf K mg cn) base 3 "is_lot" p_is_lot (d_is_lot fu)) (C__law_pull : Cl P w (gOf K mg cn) base 1 "_law_pull" p__law_pull (d__law_pull fu)) (C__law_take : Cl P w (gOf K mg cn) base 2 "_law_take" p__law_take (d__law_take fu)) (C__law_same : Cl P w (gOf K mg cn) base 1 "_law_same" p__law_same (d__law_same fu)) : FnOk P w K mg base (L2.CX P w) 4 f fd p__law_lots_right (spD (gOf K mg cn) (d__law_lots_right fu)) := by
  refine fnD_ok (g := gOf K mg cn) (N := N__law_lots_right) (ps := p__law_lots_right) (body := b__law_lots_right fu) F sc__law_lots_right (by decide) fun cdv A outer s H E T0 hr hio => ?_
  unfold b__law_lots_right
  exact (jss_cons (js_set (i := 1) (fun _ h => ps_set (i := 1) sc__law_lots_right.nd rfl (by first | exact Or.inl rfl | exact Or.inr rfl) h) (hio 1 (by decide)) (jr_callC C__law_pull hr (by decide) rfl rfl rfl (takes_of rfl rfl rfl rfl) (ja_cons (jo_var (pv 0)) (ja_cons (jo_of je_int) ja_nil))))
    (jss_cons (js_setLc rfl sc__law_lots_right.nd rfl rfl rfl (ji_range1 rfl T.n_range (ja_cons (jo_var (pv 1)) ja_nil)) (blkOk_by (own := [("_law_number", 3)]) (N := N__law_lots_right) (sc := defScope s__law_lots_right) (by decide +kernel)) rfl (fun _ _ _ _ _ => (jg_name (i := 3) (pg_name (i := 3) sc__law_lots_right.nd rfl (by first | exact Or.inl rfl | exact Or.inr rfl)) (hio 3 (by decide)) (fun _ h => by cases h; decide))) (fun _ _ _ _ _ => (jts_one (jt_cmp (o_eq rfl (hu64 hr)) (jo_of (je_rv (jr_callC C__law_pull hr (by decide) rfl rfl rfl takes0 (ja_cons (jo_var (pv 0)) (ja_cons (jo_of je_int) ja_nil))))) (jo_of je_int) (nomark _)))) (fun _ _ _ _ _ => (je_of (jo_var (pv 3)))) (hio 2 (by decide)))
    (jss_cons (js_if (jt_w (jw_or (jt_not (jt_tru rfl (jo_of (je_rv (jr_callC C__law_same hr (by decide) rfl rfl rfl (takes_of rfl rfl rfl rfl) (ja_cons (jo_of (je_rv (jr_callK C_is_lot hr (by decide) rfl rfl rfl (takes_of rfl rfl rfl rfl) (jk_cons (jo_varF (pv 2) (hio 2 (by decide))) (jk_cons (jo_var (pv 1)) jk_nil))))) (ja_cons (jo_of je_bl) ja_nil))))) (fun _ => rfl))) (jw_or1 (jt_not (jt_tru rfl (jo_of (je_rv (jr_callC C__law_same hr (by decide) rfl rfl rfl (takes_of rfl rfl rfl rfl) (ja_cons (jo_of (je_rv (jr_callC C_is_lot hr (by decide) rfl rfl rfl (takes_of rfl rfl rfl rfl) (ja_cons (jo_of (je_rv (jr_cb (o_tuple rfl) (fun _ _ hc h => pe_callTy hc rfl T.n_tuple rfl h) (ja_cons (jo_varF (pv 2) (hio 2 (by decide))) ja_nil)))) (ja_cons (jo_of (je_bin o_add (jo_var (pv 1)) (jo_of (je_rv (jr_callC C__law_pull hr (by decide) rfl rfl rfl (takes_of rfl rfl rfl rfl) (ja_cons (jo_var (pv 0)) (ja_cons (jo_of je_int) ja_nil))))))) ja_nil))))) (ja_cons (jo_of je_bl) ja_nil))))) (fun _ => rfl)))))) (jss_one (js_ret (jr_of je_bl))) jss_nil)
    (jss_cons (js_if (jt_w (jw_and (jt_cmp (o_ne rfl (hu64 hr)) (jo_varF (pv 2) (hio 2 (by decide))) (jo_of (je_rv (jr_lst ja_nil))) (nomark _)) (jw_and1 (jt_w (jw_or (jt_tru rfl (jo_of (je_rv (jr_callC C_is_lot hr (by decide) rfl rfl rfl (takes_of rfl rfl rfl rfl) (ja_cons (jo_varF (pv 2) (hio 2 (by decide))) (ja_cons (jo_of (je_ix rfl (jo_varF (pv 2) (hio 2 (by decide))) (jo_of (je_un o_neg (jo_of je_int))) (fun _ _ => rfl))) ja_nil))))) (fun _ => rfl)) (jw_or (jt_tru rfl (jo_of (je_rv (jr_callC C_is_lot hr (by decide) rfl rfl rfl (takes_of rfl rfl rfl rfl) (ja_cons (jo_of (je_rv (jr_bin o_cat (jo_varF (pv 2) (hio 2 (by decide))) (jo_of (je_rv (jr_slice rfl (jo_varF (pv 2) (hio 2 (by decide))) (jp_some (je_un o_neg (jo_of je_int))) jp_none)))))) (ja_cons (jo_var (pv 1)) ja_nil))))) (fun _ => rfl)) (jw_or (jt_tru rfl (jo_of (je_rv (jr_callC C_is_lot hr (by decide) rfl rfl rfl (takes_of rfl rfl rfl rfl) (ja_cons (jo_of (je_rv (jr_bin o_cat (jo_of (je_rv (jr_slice rfl (jo_varF (pv 2) (hio 2 (by decide))) jp_none (jp_some (je_un o_neg (jo_of je_int)))))) (jo_of (je_rv (jr_lst (ja_cons (jo_of (je_un o_neg (jo_of je_int))) ja_nil))))))) (ja_cons (jo_var (pv 1)) ja_nil))))) (fun _ => rfl)) (jw_or1 (jt_tru rfl (jo_of (je_rv (jr_callC C_is_lot hr (by decide) rfl rfl rfl (takes_of rfl rfl rfl rfl) (ja_cons (jo_of (je_rv (jr_bin o_cat (jo_of (je_rv (jr_slice rfl (jo_varF (pv 2) (hio 2 (by decide))) jp_none (jp_some (je_un o_neg (jo_of je_int)))))) (jo_of (je_rv (jr_lst (ja_cons (jo_of je_str) ja_nil))))))) (ja_cons (jo_var (pv 1)) ja_nil))))) (fun _ => rfl)))))))))) (jss_one (js_ret (jr_of je_bl))) jss_nil)
    (jss_cons (js_if (jt_w (jw_and (jt_cmp (o_gt) (jo_of (je_rv (jr_cb (o_len rfl) (fun _ _ hc h => pe_callB hc rfl T.n_len rfl h) (ja_cons (jo_varF (pv 2) (hio 2 (by decide))) ja_nil)))) (jo_of je_int) (nomark _)) (jw_and1 (jt_w (jw_or (jt_tru rfl (jo_of (je_rv (jr_callC C_is_lot hr (by decide) rfl rfl rfl (takes_of rfl rfl rfl rfl) (ja_cons (jo_of (je_rv (jr_rev rfl (jo_varF (pv 2) (hio 2 (by decide)))))) (ja_cons (jo_var (pv 1)) ja_nil))))) (fun _ => rfl)) (jw_or1 (jt_tru rfl (jo_of (je_rv (jr_callC C_is_lot hr (by decide) rfl rfl rfl (takes_of rfl rfl rfl rfl) (ja_cons (jo_of (je_rv (jr_bin o_cat (jo_of (je_rv (jr_lst (ja_cons (jo_of (je_ix rfl (jo_varF (pv 2) (hio 2 (by decide))) (jo_of je_int) (fun _ _ => rfl))) (ja_cons (jo_of (je_ix rfl (jo_varF (pv 2) (hio 2 (by decide))) (jo_of je_int) (fun _ _ => rfl))) ja_nil))))) (jo_of (je_rv (jr_slice rfl (jo_varF (pv 2) (hio 2 (by decide))) (jp_some je_int) jp_none)))))) (ja_cons (jo_var (pv 1)) ja_nil))))) (fun _ => rfl)))))))) (jss_one (js_ret (jr_of je_bl))) jss_nil)
    (jss_cons (js_set (i := 4) (fun _ h => ps_set (i := 4) sc__law_lots_right.nd rfl (by first | exact Or.inl rfl | exact Or.inr rfl) h) (hio 4 (by decide)) (jr_callC C__law_take hr (by decide) rfl rfl rfl (takes_of rfl rfl rfl rfl) (ja_cons (jo_var (pv 0)) (ja_cons (jo_of (je_rv (jr_lst (ja_cons (jo_of je_non) (ja_cons (jo_of je_int) (ja_cons (jo_of je_str) (ja_cons (jo_of (je_dctC (k := (.inl 0)) (v := .int 1) pe_int pe_int)) (ja_cons (jo_of (je_rv (jr_lst (ja_cons (jo_of je_bl) ja_nil)))) (ja_cons (jo_of (je_rv (jr_lst (ja_cons (jo_of je_bl) (ja_cons (jo_of je_int) ja_nil))))) (ja_cons (jo_of (je_rv (jr_lst (ja_cons (jo_of je_non) ja_nil)))) (ja_cons (jo_of (je_rv (jr_lst (ja_cons (jo_of (je_rv (jr_lst (ja_cons (jo_of je_int) ja_nil)))) ja_nil)))) (ja_cons (jo_of (je_tup (ja_cons (jo_of je_int) (ja_cons (jo_of je_int) ja_nil)))) (ja_cons (jo_of (je_rv (jr_lst (ja_cons (jo_of je_int) (ja_cons (jo_of je_int) ja_nil))))) (ja_cons (jo_of (je_rv (jr_lst (ja_cons (jo_of (je_un o_neg (jo_of je_int))) ja_nil)))) (ja_cons (jo_of (je_rv (jr_lst (ja_cons (jo_of je_int) ja_nil)))) ja_nil))))))))))))))) ja_nil))))
    (jss_one (js_ret (jr_of (je_and (je_rv (jr_callC C__law_same hr (by decide) rfl rfl rfl (takes_of rfl rfl rfl rfl) (ja_cons (jo_of (je_rv (jr_callC C_is_lot hr (by decide) rfl rfl rfl (takes_of rfl rfl rfl rfl) (ja_cons (jo_var (pv 4)) (ja_cons (jo_of je_int) ja_nil))))) (ja_cons (jo_of je_bl) ja_nil)))) (je_and (je_rv (jr_callC C__law_same hr (by decide) rfl rfl rfl (takes_of rfl rfl rfl rfl) (ja_cons (jo_of (je_rv (jr_callC C_is_lot hr (by decide) rfl rfl rfl (takes_of rfl rfl rfl rfl) (ja_cons (jo_of (je_tup ja_nil)) (ja_cons (jo_of je_int) ja_nil))))) (ja_cons (jo_of je_bl) ja_nil)))) (je_one (je_rv (jr_callC C__law_same hr (by decide) rfl rfl rfl (takes_of rfl rfl rfl rfl) (ja_cons (jo_of (je_rv (jr_callC C_is_lot hr (by decide) rfl rfl rfl (takes_of rfl rfl rfl rfl) (ja_cons (jo_of (je_rv (jr_lst (ja_cons (jo_of je_int) ja_nil)))) (ja_cons (jo_of je_int) ja_nil))))) (ja_cons (jo_of je_bl) ja_nil))))))))))))))))
theorem sc__law_divides : FnScope N__law_divides p__law_divides (defScope s__law_divides) := ⟨rfl, rfl, rfl, by decide +kernel, rfl, by decide +kernel, by decide +kernel⟩
theorem ok__law_divides {f : Addr} {fd : FuncData} (F : Fun K "_law_divides" "_law_divides" s__law_divides f fd) (T : Txt K mg cn) : FnOk P w K mg base (L2.CX P w) 1 f fd p__law_divides (spD (gOf K mg cn) (d__law_divides fu)) := by
  refine fnD_ok (g := gOf K mg cn) (N := N__law_divides) (ps := p__law_divides) (body := b__law_divides fu) F sc__law_divides (by decide) fun cdv A outer s H E T0 hr hio => ?_
  unfold b__law_divides
  exact (jss_one (js_ret (jr_of (je_cmp (o_eq rfl (hu64 hr)) (jo_of (je_rv (jr_lc rfl sc__law_divides.nd (ji_seq rfl (je_of (jo_var (pv 1)))) (blkOk_by (own := [("_law_number", 2)]) (N := N__law_divides) (sc := defScope s__law_divides) (by decide +kernel)) rfl (fun _ _ _ _ _ => (jg_name (i := 2) (pg_name (i := 2) sc__law_divides.nd rfl (by first | exact Or.inl rfl | exact Or.inr rfl)) (hio 2 (by decide)) (fun _ h => by cases h; decide))) (fun _ _ _ _ _ => (jts_one (jt_cmp (o_ne rfl (hu64 hr)) (jo_of (je_bin o_mul (jo_of (je_bin o_div (jo_var (pv 2)) (jo_var (pv 0)))) (jo_var (pv 0)))) (jo_var (pv 2)) (nomark _)))) (fun _ _ _ _ _ => (je_of (jo_var (pv 2))))))) (jo_of (je_rv (jr_lst ja_nil))) (nomark _)))))
theorem sc__law_measure : FnScope N__law_measure p__law_measure (defScope s__law_measure) := ⟨rfl, rfl, rfl, by decide +kernel, rfl, by decide +kernel, by decide +kernel⟩
theorem ok__law_measure {f : Addr} {fd : FuncData} (F : Fun K "_law_measure" "_law_measure" s__law_measure f fd) (T : Txt K mg cn) (C__law_divides : Cl P w (gOf K mg cn) base 1 "_law_divides" p__law_divides (d__law_divides fu)) : FnOk P w K mg base (L2.CX P w) 2 f fd p__law_measure (spD (gOf K mg cn) (d__law_measure fu)) := by
  refine fnD_ok (g := gOf K mg cn) (N := N__law_measure) (ps := p__law_measure) (body := b__law_measure fu) F sc__law_measure (by decide) fun cdv A outer s H E T0 hr hio => ?_
  unfold b__law_measure
  exact (jss_cons (js_set (i := 1) (fun _ h => ps_set (i := 1) sc__law_measure.nd rfl (by first | exact Or.inl rfl | exact Or.inr rfl) h) (hio 1 (by decide)) (jr_cb (o_max1 rfl) (fun _ _ hc h => pe_callB hc rfl T.n_max rfl h) (ja_cons (jo_of (je_rv (jr_bin o_cat (jo_of (je_rv (jr_lc rfl sc__law_measure.nd (ji_seq rfl (je_of (jo_var (pv 0)))) (blkOk_by (own := [("_law_number", 2)]) (N := N__law_measure) (sc := defScope s__law_measure) (by decide +kernel)) rfl (fun _ _ _ _ _ => (jg_name (i := 2) (pg_name (i := 2) sc__law_measure.nd rfl (by first | exact Or.inl rfl | exact Or.inr rfl)) (hio 2 (by decide)) (fun _ h => by cases h; decide))) (fun _ _ _ _ _ => jts_nil) (fun _ _ _ _ _ => (je_rv (jr_cb (o_abs) (fun _ _ hc h => pe_callB hc rfl T.n_abs rfl h) (ja_cons (jo_var (pv 2)) ja_nil))))))) (jo_of (je_rv (jr_lst (ja_cons (jo_of je_int) ja_nil))))))) ja_nil)))
    (jss_one (js_ret (jr_cb (o_max1 rfl) (fun _ _ hc h => pe_callB hc rfl T.n_max rfl h) (ja_cons (jo_of (je_rv (jr_bin o_cat (jo_of (je_rv (jr_lc rfl sc__law_measure.nd (ji_range2 rfl T.n_range (ja_cons (jo_of je_int) (ja_cons (jo_of (je_bin o_add (jo_var (pv 1)) (jo_of je_int))) ja_nil))) (blkOk_by (own := [("_law_part_here", 3)]) (N := N__law_measure) (sc := defScope s__law_measure) (by decide +kernel)) rfl (fun _ _ _ _ _ => (jg_name (i := 3) (pg_name (i := 3) sc__law_measure.nd rfl (by first | exact Or.inl rfl | exact Or.inr rfl)) (hio 3 (by decide)) (fun _ h => by cases h; decide))) (fun _ _ _ _ _ => (jts_one (jt_tru rfl (jo_of (je_rv (jr_callC C__law_divides hr (by decide) rfl rfl rfl takes0 (ja_cons (jo_var (pv 3)) (ja_cons (jo_var (pv 0)) ja_nil))))) (fun _ => rfl)))) (fun _ _ _ _ _ => (je_of (jo_var (pv 3))))))) (jo_of (je_rv (jr_lst (ja_cons (jo_of je_int) ja_nil))))))) ja_nil)))))
theorem sc__law_divisors_right : FnScope N__law_divisors_right p__law_divisors_right (defScope s__law_divisors_right) := ⟨rfl, rfl, rfl, by decide +kernel, rfl, by decide +kernel, by decide +kernel⟩
theorem ok__law_divisors_right {f : Addr} {fd : FuncData} (F : Fun K "_law_divisors_right" "_law_divisors_right" s__law_divisors_right f fd) (T : Txt K mg cn) (C_is_integer : Cl P w (gOf K mg cn) base 1 "is_integer" p_is_integer (d_is_integer fu)) (C_common_divisor : Cl P w (gOf K mg cn) base 4 "common_divisor" p_common_divisor (d_common_divisor fu)) (C__law_pull : Cl P w (gOf K mg cn) base 1 "_law_pull" p__law_pull (d__law_pull fu)) (C__law_measure : Cl P w (gOf K mg cn) base 2 "_law_measure" p__law_measure (d__law_measure fu)) : FnOk P w K mg base (L2.CX P w) 5 f fd p__law_divisors_right (spD (gOf K mg cn) (d__law_divisors_right fu)) := by
  refine fnD_ok (g := gOf K mg cn) (N := N__law_divisors_right) (ps := p__law_divisors_right) (body := b__law_divisors_right fu) F sc__law_divisors_right (by decide) fun cdv A outer s H E T0 hr hio => ?_
  unfold b__law_divisors_right
  exact (jss_cons (js_set (i := 1) (fun _ h => ps_set (i := 1) sc__law_divisors_right.nd rfl (by first | exact Or.inl rfl | exact Or.inr rfl) h) (hio 1 (by decide)) (jr_callC C__law_pull hr (by decide) rfl rfl rfl (takes_of rfl rfl rfl rfl) (ja_cons (jo_var (pv 0)) (ja_cons (jo_of je_int) ja_nil))))
    (jss_cons (js_setLc rfl sc__law_divisors_right.nd rfl rfl rfl (ji_range1 rfl T.n_range (ja_cons (jo_of (je_rv (jr_callC C__law_pull hr (by decide) rfl rfl rfl (takes_of rfl rfl rfl rfl) (ja_cons (jo_var (pv 0)) (ja_cons (jo_of je_int) ja_nil))))) ja_nil)) (blkOk_by (own := [("_law_turn", 3)]) (N := N__law_divisors_right) (sc := defScope s__law_divisors_right) (by decide +kernel)) rfl (fun _ _ _ _ _ => (jg_name (i := 3) (pg_name (i := 3) sc__law_divisors_right.nd rfl (by first | exact Or.inl rfl | exact Or.inr rfl)) (hio 3 (by decide)) (fun _ h => by cases h; decide))) (fun _ _ _ _ _ => jts_nil) (fun _ _ _ _ _ => (je_bin o_mul (jo_of (je_bin o_sub (jo_of (je_rv (jr_callC C__law_pull hr (by decide) rfl rfl rfl takes0 (ja_cons (jo_var (pv 0)) (ja_cons (jo_of je_int) ja_nil))))) (jo_of je_int))) (jo_var (pv 1)))) (hio 2 (by decide)))
    (jss_cons (js_par2 (i := 4) (j := 5) (fun _ h => ps_par (i := 4) (j := 5) rfl sc__law_divisors_right.nd rfl rfl (by decide) rfl rfl h rfl) (hio 4 (by decide)) (hio 5 (by decide)) (ja_cons (jo_of (je_rv (jr_callK C_common_divisor hr (by decide) rfl rfl rfl (takes_of rfl rfl rfl rfl) (jk_cons (jo_varF (pv 2) (hio 2 (by decide))) jk_nil)))) (ja_cons (jo_of (je_rv (jr_callC C__law_measure hr (by decide) rfl rfl rfl (takes_of rfl rfl rfl rfl) (ja_cons (jo_varF (pv 2) (hio 2 (by decide))) ja_nil)))) ja_nil)))
    (jss_cons (js_if (jt_w (jw_or (jt_cmp (o_ne rfl (hu64 hr)) (jo_var (pv 4)) (jo_var (pv 5)) (nomark _)) (jw_or (jt_cmp (o_ne rfl (hu64 hr)) (jo_of (je_rv (jr_callC C_common_divisor hr (by decide) rfl rfl rfl (takes_of rfl rfl rfl rfl) (ja_cons (jo_of (je_rv (jr_cb (o_tuple rfl) (fun _ _ hc h => pe_callTy hc rfl T.n_tuple rfl h) (ja_cons (jo_of (je_rv (jr_rev rfl (jo_varF (pv 2) (hio 2 (by decide)))))) ja_nil)))) ja_nil)))) (jo_var (pv 5)) (nomark _)) (jw_or1 (jt_not (jt_tru rfl (jo_of (je_rv (jr_callC C_is_integer hr (by decide) rfl rfl rfl (takes_of rfl rfl rfl rfl) (ja_cons (jo_var (pv 4)) ja_nil)))) (fun _ => rfl))))))) (jss_one (js_ret (jr_of je_bl))) jss_nil)
    (jss_cons (js_set (i := 6) (fun _ h => ps_set (i := 6) sc__law_divisors_right.nd rfl (by first | exact Or.inl rfl | exact Or.inr rfl) h) (hio 6 (by decide)) (jr_of (je_bin o_add (jo_of (je_bin o_pow (jo_of je_int) (jo_of je_int))) (jo_of (je_rv (jr_callC C__law_pull hr (by decide) rfl rfl rfl (takes_of rfl rfl rfl rfl) (ja_cons (jo_var (pv 0)) (ja_cons (jo_of (je_bin o_pow (jo_of je_int) (jo_of je_int))) ja_nil))))))))
    (jss_one (js_ret (jr_of (je_and (je_cmp (o_eq rfl (hu64 hr)) (jo_of (je_rv (jr_callC C_common_divisor hr (by decide) rfl rfl rfl (takes_of rfl rfl rfl rfl) (ja_cons (jo_of (je_rv (jr_lc rfl sc__law_divisors_right.nd (ji_seq rfl (je_of (jo_varF (pv 2) (hio 2 (by decide))))) (blkOk_by (own := [("_law_number", 7)]) (N := N__law_divisors_right) (sc := defScope s__law_divisors_right) (by decide +kernel)) rfl (fun _ _ _ _ _ => (jg_name (i := 7) (pg_name (i := 7) sc__law_divisors_right.nd rfl (by first | exact Or.inl rfl | exact Or.inr rfl)) (hio 7 (by decide)) (fun _ h => by cases h; decide))) (fun _ _ _ _ _ => jts_nil) (fun _ _ _ _ _ => (je_bin o_mul (jo_var (pv 6)) (jo_var (pv 7))))))) ja_nil)))) (jo_of (je_bin o_mul (jo_var (pv 6)) (jo_var (pv 5)))) (nomark _)) (je_and (je_cmp (o_eq rfl (hu64 hr)) (jo_of (je_rv (jr_callC C_common_divisor hr (by decide) rfl rfl rfl (takes_of rfl rfl rfl rfl) (ja_cons (jo_of (je_tup ja_nil)) ja_nil)))) (jo_of je_int) (nomark _)) (je_one (je_cmp (o_eq rfl (hu64 hr)) (jo_of (je_rv (jr_callC C_common_divisor hr (by decide) rfl rfl rfl (takes_of rfl rfl rfl rfl) (ja_cons (jo_of (je_rv (jr_lst (ja_cons (jo_of (je_un o_neg (jo_of je_int))) ja_nil)))) ja_nil)))) (jo_of je_int) (nomark _)))))))))))))
theorem sc__law_ratios_right : FnScope N__law_ratios_right p__law_ratios_right (defScope s__law_ratios_right) := ⟨rfl, rfl, rfl, by decide +kernel, rfl, by decide +kernel, by decide +kernel⟩
theorem ok__law_ratios_right {f : Addr} {fd : FuncData} (F : Fun K "_law_ratios_right" "_law_ratios_right" s__law_ratios_right f fd) (T : Txt K mg cn) (C_is_ratio : Cl P w (gOf K mg cn) base 3 "is_ratio" p_is_ratio (d_is_ratio fu)) (C_lowest : Cl P w (gOf K mg cn) base 4 "lowest" p_lowest (d_lowest fu)) (C__law_pull : Cl P w (gOf K mg cn) base 1 "_law_pull" p__law_pull (d__law_pull fu)) (C__law_take : Cl P w (gOf K mg cn) base 2 "_law_take" p__law_take (d__law_take fu)) (C__law_same : Cl P w (gOf K mg cn) base 1 "_law_same" p__law_same (d__law_same fu)) (C__law_measure : Cl P w (gOf K mg cn) base 2 "_law_measure" p__law_measure (d__law_measure fu)) : FnOk P w K mg base (L2.CX P w) 5 f fd p__law_ratios_right (spD (gOf K mg cn) (d__law_ratios_right fu)) := by
  refine fnD_ok (g := gOf K mg cn) (N := N__law_ratios_right) (ps := p__law_ratios_right) (body := b__law_ratios_right fu) F sc__law_ratios_right (by decide) fun cdv A outer s H E T0 hr hio => ?_
  unfold b__law_ratios_right
  exact (jss_cons (js_par3 (i := 1) (j := 2) (l := 3) (fun _ h => ps_par3 (i := 1) (j := 2) (l := 3) rfl sc__law_ratios_right.nd rfl rfl rfl (by decide) (by decide) (by decide) rfl rfl rfl h rfl) (hio 1 (by decide)) (hio 2 (by decide)) (hio 3 (by decide)) (ja_cons (jo_of (je_rv (jr_callC C__law_pull hr (by decide) rfl rfl rfl (takes_of rfl rfl rfl rfl) (ja_cons (jo_var (pv 0)) (ja_cons (jo_of je_int) ja_nil))))) (ja_cons (jo_of (je_bin o_sub (jo_of (je_rv (jr_callC C__law_pull hr (by decide) rfl rfl rfl (takes_of rfl rfl rfl rfl) (ja_cons (jo_var (pv 0)) (ja_cons (jo_of je_int) ja_nil))))) (jo_of je_int))) (ja_cons (jo_of (je_bin o_sub (jo_of (je_rv (jr_callC C__law_pull hr (by decide) rfl rfl rfl (takes_of rfl rfl rfl rfl) (ja_cons (jo_var (pv 0)) (ja_cons (jo_of je_int) ja_nil))))) (jo_of je_int))) ja_nil))))
    (jss_cons (js_par2 (i := 2) (j := 3) (fun _ h => ps_par (i := 2) (j := 3) rfl sc__law_ratios_right.nd rfl rfl (by decide) rfl rfl h rfl) (hio 2 (by decide)) (hio 3 (by decide)) (ja_cons (jo_of (je_bin o_mul (jo_var (pv 2)) (jo_var (pv 1)))) (ja_cons (jo_of (je_bin o_mul (jo_var (pv 3)) (jo_var (pv 1)))) ja_nil)))
    (jss_cons (js_set (i := 4) (fun _ h => ps_set (i := 4) sc__law_ratios_right.nd rfl (by first | exact Or.inl rfl | exact Or.inr rfl) h) (hio 4 (by decide)) (jr_of (je_and (je_cmp (o_gt) (jo_var (pv 3)) (jo_of je_int) (nomark _)) (je_one (je_cmp (o_eq rfl (hu64 hr)) (jo_of (je_rv (jr_callC C__law_measure hr (by decide) rfl rfl rfl (takes_of rfl rfl rfl rfl) (ja_cons (jo_of (je_rv (jr_lst (ja_cons (jo_var (pv 2)) (ja_cons (jo_var (pv 3)) ja_nil))))) ja_nil)))) (jo_of je_int) (nomark _))))))
    (jss_cons (js_if (jt_w (jw_or (jt_not (jt_tru rfl (jo_of (je_rv (jr_callC C__law_same hr (by decide) rfl rfl rfl (takes_of rfl rfl rfl rfl) (ja_cons (jo_of (je_rv (jr_callC C_is_ratio hr (by decide) rfl rfl rfl (takes_of rfl rfl rfl rfl) (ja_cons (jo_of (je_tup (ja_cons (jo_var (pv 2)) (ja_cons (jo_var (pv 3)) ja_nil)))) ja_nil)))) (ja_cons (jo_var (pv 4)) ja_nil))))) (fun _ => rfl))) (jw_or1 (jt_not (jt_tru rfl (jo_of (je_rv (jr_callC C__law_same hr (by decide) rfl rfl rfl (takes_of rfl rfl rfl rfl) (ja_cons (jo_of (je_rv (jr_callK C_is_ratio hr (by decide) rfl rfl rfl (takes_of rfl rfl rfl rfl) (jk_cons (jo_of (je_rv (jr_lst (ja_cons (jo_var (pv 2)) (ja_cons (jo_var (pv 3)) ja_nil))))) jk_nil)))) (ja_cons (jo_var (pv 4)) ja_nil))))) (fun _ => rfl)))))) (jss_one (js_ret (jr_of je_bl))) jss_nil)
    (jss_cons (js_if (jt_cmp (o_ne rfl (hu64 hr)) (jo_var (pv 3)) (jo_of je_int) (nomark _)) (jss_cons (js_set (i := 5) (fun _ h => ps_set (i := 5) sc__law_ratios_right.nd rfl (by first | exact Or.inl rfl | exact Or.inr rfl) h) (hio 5 (by decide)) (jr_callK C_lowest hr (by decide) rfl rfl rfl (takes_of rfl rfl rfl rfl) (jk_cons (jo_var (pv 2)) (jk_cons (jo_var (pv 3)) jk_nil))))
    (jss_one (js_if (jt_w (jw_or (jt_not (jt_tru rfl (jo_of (je_isiB rfl (fun _ => rfl) isi_tup (ClsV.ty "tuple") rfl T.n_isinstance (pe_bty rfl T.n_tuple rfl) (jo_var (pv 5)))) (fun _ => rfl))) (jw_or (jt_not (jt_tru rfl (jo_of (je_rv (jr_callC C_is_ratio hr (by decide) rfl rfl rfl (takes_of rfl rfl rfl rfl) (ja_cons (jo_var (pv 5)) ja_nil)))) (fun _ => rfl))) (jw_or1 (jt_cmp (o_ne rfl (hu64 hr)) (jo_of (je_bin o_mul (jo_of (je_ix rfl (jo_var (pv 5)) (jo_of je_int) (fun _ _ => rfl))) (jo_var (pv 3)))) (jo_of (je_bin o_mul (jo_of (je_ix rfl (jo_var (pv 5)) (jo_of je_int) (fun _ _ => rfl))) (jo_var (pv 2)))) (nomark _)))))) (jss_one (js_ret (jr_of je_bl))) jss_nil))) jss_nil)
    (jss_cons (js_set (i := 6) (fun _ h => ps_set (i := 6) sc__law_ratios_right.nd rfl (by first | exact Or.inl rfl | exact Or.inr rfl) h) (hio 6 (by decide)) (jr_callC C__law_take hr (by decide) rfl rfl rfl (takes_of rfl rfl rfl rfl) (ja_cons (jo_var (pv 0)) (ja_cons (jo_of (je_rv (jr_lst (ja_cons (jo_of (je_tup (ja_cons (jo_of je_int) (ja_cons (jo_of je_bl) ja_nil)))) (ja_cons (jo_of (je_tup (ja_cons (jo_of je_bl) (ja_cons (jo_of je_int) ja_nil)))) (ja_cons (jo_of (je_tup (ja_cons (jo_of je_int) ja_nil))) (ja_cons (jo_of (je_tup (ja_cons (jo_of je_int) (ja_cons (jo_of je_int) (ja_cons (jo_of je_int) ja_nil))))) (ja_cons (jo_of je_str) (ja_cons (jo_of je_non) (ja_cons (jo_of (je_tup (ja_cons (jo_of je_int) (ja_cons (jo_of je_int) ja_nil)))) (ja_cons (jo_of (je_tup (ja_cons (jo_of je_int) (ja_cons (jo_of je_int) ja_nil)))) (ja_cons (jo_of (je_tup (ja_cons (jo_of je_int) (ja_cons (jo_of (je_un o_neg (jo_of je_int))) ja_nil)))) (ja_cons (jo_of (je_dctC (k := (.inl 1)) (v := .int 2) pe_int pe_int)) (ja_cons (jo_of (je_tup (ja_cons (jo_of je_int) (ja_cons (jo_of je_non) ja_nil)))) (ja_cons (jo_of (je_tup ja_nil)) ja_nil))))))))))))))) ja_nil))))
    (jss_one (js_ret (jr_of (je_and (je_rv (jr_callC C__law_same hr (by decide) rfl rfl rfl (takes_of rfl rfl rfl rfl) (ja_cons (jo_of (je_rv (jr_callC C_is_ratio hr (by decide) rfl rfl rfl (takes_of rfl rfl rfl rfl) (ja_cons (jo_var (pv 6)) ja_nil)))) (ja_cons (jo_of je_bl) ja_nil)))) (je_and (je_rv (jr_callC C_is_ratio hr (by decide) rfl rfl rfl (takes_of rfl rfl rfl rfl) (ja_cons (jo_of (je_tup (ja_cons (jo_of je_int) (ja_cons (jo_of je_int) ja_nil)))) ja_nil))) (je_one (je_rv (jr_callC C_is_ratio hr (by decide) rfl rfl rfl (takes_of rfl rfl rfl rfl) (ja_cons (jo_of (je_tup (ja_cons (jo_of (je_un o_neg (jo_of je_int))) (ja_cons (jo_of (je_bin o_pow (jo_of je_int) (jo_of je_int))) ja_nil)))) ja_nil)))))))))))))))
theorem sc__law_compared_right : FnScope N__law_compared_right p__law_compared_right (defScope s__law_compared_right) := ⟨rfl, rfl, rfl, by decide +kernel, rfl, by decide +kernel, by decide +kernel⟩
theorem ok__law_compared_right {f : Addr} {fd : FuncData} (F : Fun K "_law_compared_right" "_law_compared_right" s__law_compared_right f fd) (T : Txt K mg cn) (C_is_integer : Cl P w (gOf K mg cn) base 1 "is_integer" p_is_integer (d_is_integer fu)) (C_lowest : Cl P w (gOf K mg cn) base 4 "lowest" p_lowest (d_lowest fu)) (C_compared : Cl P w (gOf K mg cn) base 5 "compared" p_compared (d_compared fu)) (C__law_pull : Cl P w (gOf K mg cn) base 1 "_law_pull" p__law_pull (d__law_pull fu)) (C__law_take : Cl P w (gOf K mg cn) base 2 "_law_take" p__law_take (d__law_take fu)) : FnOk P w K mg base (L2.CX P w) 6 f fd p__law_compared_right (spD (gOf K mg cn) (d__law_compared_right fu)) := by
  refine fnD_ok (g := gOf K mg cn) (N := N__law_compared_right) (ps := p__law_compared_right) (body := b__law_compared_right fu) F sc__law_compared_right (by decide) fun cdv A outer s H E T0 hr hio => ?_
  unfold b__law_compared_right
  exact (jss_cons (js_set (i := 1) (fun _ h => ps_set (i := 1) sc__law_compared_right.nd rfl (by first | exact Or.inl rfl | exact Or.inr rfl) h) (hio 1 (by decide)) (jr_callC C__law_take hr (by decide) rfl rfl rfl (takes_of rfl rfl rfl rfl) (ja_cons (jo_var (pv 0)) (ja_cons (jo_of (je_rv (jr_lst (ja_cons (jo_of je_int) (ja_cons (jo_of je_int) (ja_cons (jo_of (je_bin o_pow (jo_of je_int) (jo_of je_int))) ja_nil)))))) ja_nil))))
    (jss_cons (js_set (i := 2) (fun _ h => ps_set (i := 2) sc__law_compared_right.nd rfl (by first | exact Or.inl rfl | exact Or.inr rfl) h) (hio 2 (by decide)) (jr_callC C_lowest hr (by decide) rfl rfl rfl (takes_of rfl rfl rfl rfl) (ja_cons (jo_of (je_bin o_add (jo_of (je_bin o_sub (jo_of (je_rv (jr_callC C__law_pull hr (by decide) rfl rfl rfl (takes_of rfl rfl rfl rfl) (ja_cons (jo_var (pv 0)) (ja_cons (jo_of je_int) ja_nil))))) (jo_of je_int))) (jo_var (pv 1)))) (ja_cons (jo_of (je_bin o_add (jo_of je_int) (jo_of (je_rv (jr_callC C__law_pull hr (by decide) rfl rfl rfl (takes_of rfl rfl rfl rfl) (ja_cons (jo_var (pv 0)) (ja_cons (jo_of je_int) ja_nil))))))) ja_nil))))
    (jss_cons (js_set (i := 3) (fun _ h => ps_set (i := 3) sc__law_compared_right.nd rfl (by first | exact Or.inl rfl | exact Or.inr rfl) h) (hio 3 (by decide)) (jr_callC C_lowest hr (by decide) rfl rfl rfl (takes_of rfl rfl rfl rfl) (ja_cons (jo_of (je_bin o_add (jo_of (je_bin o_sub (jo_of (je_rv (jr_callC C__law_pull hr (by decide) rfl rfl rfl (takes_of rfl rfl rfl rfl) (ja_cons (jo_var (pv 0)) (ja_cons (jo_of je_int) ja_nil))))) (jo_of je_int))) (jo_var (pv 1)))) (ja_cons (jo_of (je_bin o_add (jo_of je_int) (jo_of (je_rv (jr_callC C__law_pull hr (by decide) rfl rfl rfl (takes_of rfl rfl rfl rfl) (ja_cons (jo_var (pv 0)) (ja_cons (jo_of je_int) ja_nil))))))) ja_nil))))
    (jss_cons (js_set (i := 4) (fun _ h => ps_set (i := 4) sc__law_compared_right.nd rfl (by first | exact Or.inl rfl | exact Or.inr rfl) h) (hio 4 (by decide)) (jr_callC C_lowest hr (by decide) rfl rfl rfl (takes_of rfl rfl rfl rfl) (ja_cons (jo_of (je_bin o_add (jo_of (je_bin o_mul (jo_of (je_ix rfl (jo_var (pv 2)) (jo_of je_int) (fun _ _ => rfl))) (jo_of (je_bin o_pow (jo_of je_int) (jo_of je_int))))) (jo_of je_int))) (ja_cons (jo_of (je_bin o_mul (jo_of (je_ix rfl (jo_var (pv 2)) (jo_of je_int) (fun _ _ => rfl))) (jo_of (je_bin o_pow (jo_of je_int) (jo_of je_int))))) ja_nil))))
    (jss_cons (js_for (passes_of rfl) rfl (ji_seq rfl (je_tup (ja_cons (jo_of (je_tup (ja_cons (jo_var (pv 2)) (ja_cons (jo_var (pv 3)) ja_nil)))) (ja_cons (jo_of (je_tup (ja_cons (jo_var (pv 2)) (ja_cons (jo_var (pv 4)) ja_nil)))) (ja_cons (jo_of (je_tup (ja_cons (jo_var (pv 4)) (ja_cons (jo_var (pv 2)) ja_nil)))) (ja_cons (jo_of (je_tup (ja_cons (jo_var (pv 2)) (ja_cons (jo_var (pv 2)) ja_nil)))) ja_nil)))))) (jg_tup (n := 2) rfl rfl (jgs_cons (jg_name (i := 5) (pg_name (i := 5) sc__law_compared_right.nd rfl (by first | exact Or.inl rfl | exact Or.inr rfl)) (hio 5 (by decide)) (fun _ h => by cases h)) (jgs_cons (jg_name (i := 6) (pg_name (i := 6) sc__law_compared_right.nd rfl (by first | exact Or.inl rfl | exact Or.inr rfl)) (hio 6 (by decide)) (fun _ h => by cases h)) jgs_nil))) (jss_cons (js_par2 (i := 7) (j := 8) (fun _ h => ps_par (i := 7) (j := 8) rfl sc__law_compared_right.nd rfl rfl (by decide) rfl rfl h rfl) (hio 7 (by decide)) (hio 8 (by decide)) (ja_cons (jo_of (je_bin o_mul (jo_of (je_ix rfl (jo_var (pv 5)) (jo_of je_int) (fun _ _ => rfl))) (jo_of (je_ix rfl (jo_var (pv 6)) (jo_of je_int) (fun _ _ => rfl))))) (ja_cons (jo_of (je_bin o_mul (jo_of (je_ix rfl (jo_var (pv 6)) (jo_of je_int) (fun _ _ => rfl))) (jo_of (je_ix rfl (jo_var (pv 5)) (jo_of je_int) (fun _ _ => rfl))))) ja_nil)))
    (jss_cons (js_set (i := 9) (fun _ h => ps_set (i := 9) sc__law_compared_right.nd rfl (by first | exact Or.inl rfl | exact Or.inr rfl) h) (hio 9 (by decide)) (jr_callK C_compared hr (by decide) rfl rfl rfl (takes_of rfl rfl rfl rfl) (jk_cons (jo_var (pv 5)) (jk_cons (jo_of (je_rv (jr_cb (o_list rfl) (fun _ _ hc h => pe_callTy hc rfl T.n_list rfl h) (ja_cons (jo_var (pv 6)) ja_nil)))) jk_nil))))
    (jss_one (js_if (jt_w (jw_or (jt_not (jt_tru rfl (jo_of (je_rv (jr_callC C_is_integer hr (by decide) rfl rfl rfl (takes_of rfl rfl rfl rfl) (ja_cons (jo_var (pv 9)) ja_nil)))) (fun _ => rfl))) (jw_or1 (jt_cmp (o_ne rfl (hu64 hr)) (jo_var (pv 9)) (jo_of (je_if (jt_cmp (o_eq rfl (hu64 hr)) (jo_var (pv 7)) (jo_var (pv 8)) (nomark _)) je_int (je_if (jt_cmp (o_gt) (jo_var (pv 7)) (jo_var (pv 8)) (nomark _)) je_int (je_un o_neg (jo_of je_int))))) (nomark _))))) (jss_one (js_ret (jr_of je_bl))) jss_nil)))))
    (jss_one (js_ret (jr_of je_bl))))))))
theorem sc__law_twice_right : FnScope N__law_twice_right p__law_twice_right (defScope s__law_twice_right) := ⟨rfl, rfl, rfl, by decide +kernel, rfl, by decide +kernel, by decide +kernel⟩
theorem ok__law_twice_right {f : Addr} {fd : FuncData} (F : Fun K "_law_twice_right" "_law_twice_right" s__law_twice_right f fd) (T : Txt K mg cn) (C_first_twice : Cl P w (gOf K mg cn) base 1 "first_twice" p_first_twice (d_first_twice fu)) (C__law_pull : Cl P w (gOf K mg cn) base 1 "_law_pull" p__law_pull (d__law_pull fu)) : FnOk P w K mg base (L2.CX P w) 2 f fd p__law_twice_right (spD (gOf K mg cn) (d__law_twice_right fu)) := by
  refine fnD_ok (g := gOf K mg cn) (N := N__law_twice_right) (ps := p__law_twice_right) (body := b__law_twice_right fu) F sc__law_twice_right (by decide) fun cdv A outer s H E T0 hr hio => ?_
  unfold b__law_twice_right
  exact (jss_cons (js_set (i := 1) (fun _ h => ps_set (i := 1) sc__law_twice_right.nd rfl (by first | exact Or.inl rfl | exact Or.inr rfl) h) (hio 1 (by decide)) (jr_lc rfl sc__law_twice_right.nd (ji_range1 rfl T.n_range (ja_cons (jo_of (je_rv (jr_callC C__law_pull hr (by decide) rfl rfl rfl (takes_of rfl rfl rfl rfl) (ja_cons (jo_var (pv 0)) (ja_cons (jo_of je_int) ja_nil))))) ja_nil)) (blkOk_by (own := [("_law_turn", 2)]) (N := N__law_twice_right) (sc := defScope s__law_twice_right) (by decide +kernel)) rfl (fun _ _ _ _ _ => (jg_name (i := 2) (pg_name (i := 2) sc__law_twice_right.nd rfl (by first | exact Or.inl rfl | exact Or.inr rfl)) (hio 2 (by decide)) (fun _ h => by cases h; decide))) (fun _ _ _ _ _ => jts_nil) (fun _ _ _ _ _ => (je_rv (jr_callC C__law_pull hr (by decide) rfl rfl rfl takes0 (ja_cons (jo_var (pv 0)) (ja_cons (jo_of je_int) ja_nil)))))))
    (jss_cons (js_setLc rfl sc__law_twice_right.nd rfl rfl rfl (ji_enum rfl rfl T.n_enumerate (jo_varF (pv 1) (hio 1 (by decide)))) (blkOk_by (own := [("_law_at", 5), ("_law_each", 4)]) (N := N__law_twice_right) (sc := defScope s__law_twice_right) (by decide +kernel)) rfl (fun _ _ _ _ _ => (jg_tup (n := 2) rfl rfl (jgs_cons (jg_name (i := 5) (pg_name (i := 5) sc__law_twice_right.nd rfl (by first | exact Or.inl rfl | exact Or.inr rfl)) (hio 5 (by decide)) (fun _ h => by cases h; decide)) (jgs_cons (jg_name (i := 4) (pg_name (i := 4) sc__law_twice_right.nd rfl (by first | exact Or.inl rfl | exact Or.inr rfl)) (hio 4 (by decide)) (fun _ h => by cases h; decide)) jgs_nil)))) (fun _ _ _ _ _ => (jts_one (jt_cmp (OpD.or o_inS (o_inL rfl (hu65 hr))) (jo_var (pv 4)) (jo_of (je_rv (jr_slice rfl (jo_varF (pv 1) (hio 1 (by decide))) jp_none (jp_some (je_of (jo_var (pv 5))))))) rfl))) (fun _ _ _ _ _ => (je_of (jo_var (pv 4)))) (hio 3 (by decide)))
    (jss_cons (js_if (jt_cmp (o_ne rfl (hu64 hr)) (jo_of (je_rv (jr_callK C_first_twice hr (by decide) rfl rfl rfl (takes_of rfl rfl rfl rfl) (jk_cons (jo_varF (pv 1) (hio 1 (by decide))) jk_nil)))) (jo_of (je_if (jt_cmp (o_ne rfl (hu64 hr)) (jo_varF (pv 3) (hio 3 (by decide))) (jo_of (je_rv (jr_lst ja_nil))) (nomark _)) (je_ix rfl (jo_varF (pv 3) (hio 3 (by decide))) (jo_of je_int) (fun _ _ => rfl)) je_non)) (nomark _)) (jss_one (js_ret (jr_of je_bl))) jss_nil)
    (jss_cons (js_setLc rfl sc__law_twice_right.nd rfl rfl rfl (ji_seq rfl (je_of (jo_varF (pv 1) (hio 1 (by decide))))) (blkOk_by (own := [("_law_each", 4)]) (N := N__law_twice_right) (sc := defScope s__law_twice_right) (by decide +kernel)) rfl (fun _ _ _ _ _ => (jg_name (i := 4) (pg_name (i := 4) sc__law_twice_right.nd rfl (by first | exact Or.inl rfl | exact Or.inr rfl)) (hio 4 (by decide)) (fun _ h => by cases h; decide))) (fun _ _ _ _ _ => jts_nil) (fun _ _ _ _ _ => (je_bin o_addX (jo_of je_str) (jo_of (je_rv (jr_cb (o_str) (fun _ _ hc h => pe_callTy hc rfl T.n_str rfl h) (ja_cons (jo_var (pv 4)) ja_nil)))))) (hio 6 (by decide)))
    (jss_one (js_ret (jr_of (je_cmp (o_eq rfl (hu64 hr)) (jo_of (je_rv (jr_callC C_first_twice hr (by decide) rfl rfl rfl (takes_of rfl rfl rfl rfl) (ja_cons (jo_of (je_rv (jr_cb (o_tuple rfl) (fun _ _ hc h => pe_callTy hc rfl T.n_tuple rfl h) (ja_cons (jo_varF (pv 6) (hio 6 (by decide))) ja_nil)))) ja_nil)))) (jo_of (je_if (jt_cmp (o_ne rfl (hu64 hr)) (jo_varF (pv 3) (hio 3 (by decide))) (jo_of (je_rv (jr_lst ja_nil))) (nomark _)) (je_ix rfl (jo_varF (pv 6) (hio 6 (by decide))) (jo_of (je_place rfl (hu65 hr) (jo_varF (pv 1) (hio 1 (by decide))) (jo_of (je_ix rfl (jo_varF (pv 3) (hio 3 (by decide))) (jo_of je_int) (fun _ _ => rfl))))) (fun _ _ => rfl)) je_non)) (nomark _)))))))))
theorem sc_law : FnScope N_law p_law (defScope s_law) := ⟨rfl, rfl, rfl, by decide +kernel, rfl, by decide +kernel, by decide +kernel⟩
/-- what the text says of _law_part -/
structure PartA (K : PySem.W.Frag) (mg : Str → Option Value) (cn : Nat → Addr) : Prop where
  P : ∃ CT : Addr, PartT K mg CT (cn 102) (cn 101) ∧ ErrT K CT (cn 102) (cn 101) (cn 101) false true ∧ ErrT K CT (cn 102) (cn 101) (cn 102) true false
  fn : ∃ (ga : Addr) (dV kV doc pm cdv ct oc : Value) (an od : Option Addr) (osl : Array (Option Value)), mg "_law_part" = some (.ref ga) ∧ PySem.W.keepIn K (.ref ga) = true ∧
    K.lookup ga = some ⟨oc, od, .func (PySem.W.fnOf "_law_part" "_law_part" (defArgs s_part) (defBody s_part) (defScope s_part) dV kV doc pm an cdv ct), osl⟩ ∧ PySem.W.codeIn K cdv "_law_part" = true ∧
    L2.Binds K (PySem.W.fnOf "_law_part" "_law_part" (defArgs s_part) (defBody s_part) (defScope s_part) dV kV doc pm an cdv ct) ["_law_ask"] []
/-- the law's promise, of the function that its body computes -/
def spLawF (K : PySem.W.Frag) (Pt : Addr) (fu : Nat) : Sp := fun vs H Q _ => ∃ (a : Addr) (ns : List Int), vs = [.ref a] ∧ SqL K H a (ns.map V.int) ∧ H Pt = some (.tbl #[]) ∧ (∃ s', b_law fu (.v (.arg (ns.map D.int)) :: List.replicate (N_law.length - 1) .no) = .rt (.v (.bl true)) s') ∧ ∀ H', Q (.bl true) H'
theorem dens_ints {g : TW.G} {B : Hp} : ∀ ns : List Int, Dens g B (ns.map D.int) (ns.map V.int)
  | [] => rfl
  | n :: ns => ⟨.int n, _, rfl, rfl, dens_ints ns⟩
theorem ok_law {f cL Pt : Addr} {oc kV dc pm ct : Value} {od an : Option Addr} {sl : Array (Option Value)} (lk : K.lookup f = some ⟨oc, od, .func (PySem.W.fnOf "law" "law" (defArgs s_law) (defBody s_law) (defScope s_law) .none kV dc pm an (.ref cL) ct), sl⟩) (hcd : PySem.W.codeIn K (.ref cL) "law" = true)
    (TB : LamX.TabB base mg cL Pt) (T : Txt K mg cn) (PA : PartA K mg cn) (C_common_divisor : Cl P w (gOf K mg cn) base 4 "common_divisor" p_common_divisor (d_common_divisor fu)) (C_lowest : Cl P w (gOf K mg cn) base 4 "lowest" p_lowest (d_lowest fu)) (C_compared : Cl P w (gOf K mg cn) base 5 "compared" p_compared (d_compared fu)) (C__law_bag : Cl P w (gOf K mg cn) base 1 "_law_bag" p__law_bag (d__law_bag fu)) (C__law_take : Cl P w (gOf K mg cn) base 2 "_law_take" p__law_take (d__law_take fu)) (C__law_value : Cl P w (gOf K mg cn) base 4 "_law_value" p__law_value (d__law_value fu)) (C__law_integers_right : Cl P w (gOf K mg cn) base 5 "_law_integers_right" p__law_integers_right (d__law_integers_right fu)) (C__law_names_right : Cl P w (gOf K mg cn) base 5 "_law_names_right" p__law_names_right (d__law_names_right fu)) (C__law_lots_right : Cl P w (gOf K mg cn) base 4 "_law_lots_right" p__law_lots_right (d__law_lots_right fu)) (C__law_divisors_right : Cl P w (gOf K mg cn) base 5 "_law_divisors_right" p__law_divisors_right (d__law_divisors_right fu)) (C__law_ratios_right : Cl P w (gOf K mg cn) base 5 "_law_ratios_right" p__law_ratios_right (d__law_ratios_right fu)) (C__law_compared_right : Cl P w (gOf K mg cn) base 6 "_law_compared_right" p__law_compared_right (d__law_compared_right fu)) (C__law_twice_right : Cl P w (gOf K mg cn) base 2 "_law_twice_right" p__law_twice_right (d__law_twice_right fu)) :
    FnOk P w K mg base (L2.CX P w) 8 f (PySem.W.fnOf "law" "law" (defArgs s_law) (defBody s_law) (defScope s_law) .none kV dc pm an (.ref cL) ct) ["_law_script"] (spLawF K Pt fu) := by
  refine fn_of lk hcd sc_law (fun vs H Q E h => by obtain ⟨a, ns, rfl, _⟩ := h; rfl) fun A outer s H vs Q E hr h => ?_
  obtain ⟨a, ns, rfl, hS, hT, ⟨s', e⟩, q⟩ := h
  obtain ⟨CT, PT, EN, ER⟩ := PA.P
  obtain ⟨ga, dV, kV', doc, pm', cdv', ct', oc', an', od', osl', gm, gk, gl, gc, gb⟩ := PA.fn
  have body : JSts (cxOf (L2.CX P w) P w K mg base N_law "law" (defScope s_law) f (.ref cL) A outer s H E) (gOf K mg cn) [(Pt, (envOfC "law" (defScope s_law) s.heap.objs.size f (.ref cL)).qual ++ "<lambda>")] (defBody s_law) (b_law fu) := by
    unfold b_law
    exact (jsts_cons (jst_of [1] fun T0 hio => (js_set (i := 1) (fun _ h => ps_set (i := 1) sc_law.nd rfl (by first | exact Or.inl rfl | exact Or.inr rfl) h) (hio 1 (by decide)) (jr_callC C__law_bag hr (by decide) rfl rfl rfl takes0 (ja_cons (jo_var (pv 0)) ja_nil))))
    (jsts_cons (jst_of [2] fun T0 hio => (js_for (passes_of rfl) rfl (ji_range1 rfl T.n_range (ja_cons (jo_of je_int) ja_nil)) (jg_name (i := 2) (pg_name (i := 2) sc_law.nd rfl (by first | exact Or.inl rfl | exact Or.inr rfl)) (hio 2 (by decide)) (fun _ h => by cases h)) (jss_cons (js_if (jt_w (jw_or (jt_not (jt_tru rfl (jo_of (je_rv (jr_callC C__law_integers_right hr (by decide) rfl rfl rfl takes0 (ja_cons (jo_var (pv 1)) ja_nil)))) (fun _ => rfl))) (jw_or (jt_not (jt_tru rfl (jo_of (je_rv (jr_callC C__law_names_right hr (by decide) rfl rfl rfl takes0 (ja_cons (jo_var (pv 1)) ja_nil)))) (fun _ => rfl))) (jw_or (jt_not (jt_tru rfl (jo_of (je_rv (jr_callC C__law_ratios_right hr (by decide) rfl rfl rfl takes0 (ja_cons (jo_var (pv 1)) ja_nil)))) (fun _ => rfl))) (jw_or1 (jt_not (jt_tru rfl (jo_of (je_rv (jr_callC C__law_twice_right hr (by decide) rfl rfl rfl takes0 (ja_cons (jo_var (pv 1)) ja_nil)))) (fun _ => rfl)))))))) (jss_one (js_ret (jr_of je_bl))) jss_nil)
    (jss_one (js_if (jt_w (jw_or (jt_not (jt_tru rfl (jo_of (je_rv (jr_callC C__law_divisors_right hr (by decide) rfl rfl rfl takes0 (ja_cons (jo_var (pv 1)) ja_nil)))) (fun _ => rfl))) (jw_or (jt_not (jt_tru rfl (jo_of (je_rv (jr_callC C__law_lots_right hr (by decide) rfl rfl rfl takes0 (ja_cons (jo_var (pv 1)) ja_nil)))) (fun _ => rfl))) (jw_or1 (jt_not (jt_tru rfl (jo_of (je_rv (jr_callC C__law_compared_right hr (by decide) rfl rfl rfl takes0 (ja_cons (jo_var (pv 1)) ja_nil)))) (fun _ => rfl))))))) (jss_one (js_ret (jr_of je_bl))) jss_nil)))))
    (jsts_cons (jst_of [3, 4] fun T0 hio => (js_asg (fun _ _ h h2 => ps_asg h h2) (je_tup (ja_cons (jo_of (je_rv (jr_callC C__law_value hr (by decide) rfl rfl rfl takes0 (ja_cons (jo_var (pv 1)) ja_nil)))) (ja_cons (jo_of (je_rv (jr_callC C__law_value hr (by decide) rfl rfl rfl takes0 (ja_cons (jo_var (pv 1)) ja_nil)))) ja_nil))) (jg_tup (n := 2) rfl rfl (jgs_cons (jg_name (i := 3) (pg_name (i := 3) sc_law.nd rfl (by first | exact Or.inl rfl | exact Or.inr rfl)) (hio 3 (by decide)) (fun _ h => by cases h)) (jgs_cons (jg_name (i := 4) (pg_name (i := 4) sc_law.nd rfl (by first | exact Or.inl rfl | exact Or.inr rfl)) (hio 4 (by decide)) (fun _ h => by cases h)) jgs_nil)))))
    (jsts_cons (jst_of [5] fun T0 hio => (js_set (i := 5) (fun _ h => ps_set (i := 5) sc_law.nd rfl (by first | exact Or.inl rfl | exact Or.inr rfl) h) (hio 5 (by decide)) (jr_callC C__law_take hr (by decide) rfl rfl rfl takes0 (ja_cons (jo_var (pv 1)) (ja_cons (jo_of (je_rv (jr_lst (ja_cons (jo_of je_non) (ja_cons (jo_of je_int) (ja_cons (jo_of je_str) (ja_cons (jo_of (je_rv (jr_lst (ja_cons (jo_of je_non) ja_nil)))) (ja_cons (jo_of (je_rv (jr_lst (ja_cons (jo_of je_bl) ja_nil)))) (ja_cons (jo_of (je_rv (jr_lst (ja_cons (jo_of je_int) (ja_cons (jo_of je_str) ja_nil))))) (ja_cons (jo_of je_dct0) (ja_cons (jo_of (je_tup (ja_cons (jo_of je_int) (ja_cons (jo_of (je_tup (ja_cons (jo_of je_int) ja_nil))) ja_nil)))) ja_nil))))))))))) ja_nil)))))
    (jsts_cons (jst_of [6] fun T0 hio => (js_set (i := 6) (fun _ h => ps_set (i := 6) sc_law.nd rfl (by first | exact Or.inl rfl | exact Or.inr rfl) h) (hio 6 (by decide)) (jr_callC C__law_take hr (by decide) rfl rfl rfl takes0 (ja_cons (jo_var (pv 1)) (ja_cons (jo_of (je_rv (jr_lst (ja_cons (jo_of je_non) (ja_cons (jo_of je_int) (ja_cons (jo_of (je_tup (ja_cons (jo_of je_int) (ja_cons (jo_of je_int) ja_nil)))) (ja_cons (jo_of (je_tup (ja_cons (jo_of je_int) (ja_cons (jo_of je_int) ja_nil)))) (ja_cons (jo_of (je_tup (ja_cons (jo_of je_int) (ja_cons (jo_of (je_un o_neg (jo_of je_int))) ja_nil)))) (ja_cons (jo_of je_str) (ja_cons (jo_of (je_tup (ja_cons (jo_of je_bl) (ja_cons (jo_of je_int) ja_nil)))) (ja_cons (jo_of (je_rv (jr_lst (ja_cons (jo_of je_int) ja_nil)))) (ja_cons (jo_of (je_tup (ja_cons (jo_of je_int) (ja_cons (jo_of je_int) ja_nil)))) ja_nil)))))))))))) ja_nil)))))
    (jsts_cons (jst_set1 (i := 7) (fun _ h => ps_set (i := 7) sc_law.nd rfl (by first | exact Or.inl rfl | exact Or.inr rfl) h) (jet_part rfl PT EN ER rfl rfl rfl gm gk gl gc gb TB rfl List.mem_cons_self (fun p hp _ => by cases List.mem_singleton.mp hp; rfl) (hr.mono (by decide)) (LamX.lamS_by (sc := defScope s_law) (by decide +kernel)) rfl (fun _ _ _ _ _ => rfl) (k := 5) (fun A outer s H E f c hr T0 => (jr_callC C_common_divisor hr (by decide) rfl rfl rfl (takes_of rfl rfl rfl rfl) (ja_cons (jo_var (pv 5)) ja_nil)))))
    (jsts_cons (jst_app (k := 7) (pv 7) (jet_part rfl PT EN ER rfl rfl rfl gm gk gl gc gb TB rfl List.mem_cons_self (fun p hp _ => by cases List.mem_singleton.mp hp; rfl) (hr.mono (by decide)) (LamX.lamS_by (sc := defScope s_law) (by decide +kernel)) rfl (fun _ _ _ _ _ => rfl) (k := 5) (fun A outer s H E f c hr T0 => (jr_callC C_lowest hr (by decide) rfl rfl rfl (takes_of rfl rfl rfl rfl) (ja_cons (jo_var (pv 3)) (ja_cons (jo_of je_int) ja_nil))))))
    (jsts_cons (jst_app (k := 7) (pv 7) (jet_part rfl PT EN ER rfl rfl rfl gm gk gl gc gb TB rfl List.mem_cons_self (fun p hp _ => by cases List.mem_singleton.mp hp; rfl) (hr.mono (by decide)) (LamX.lamS_by (sc := defScope s_law) (by decide +kernel)) rfl (fun _ _ _ _ _ => rfl) (k := 5) (fun A outer s H E f c hr T0 => (jr_callC C_lowest hr (by decide) rfl rfl rfl (takes_of rfl rfl rfl rfl) (ja_cons (jo_of je_int) (ja_cons (jo_var (pv 4)) ja_nil))))))
    (jsts_cons (jst_app (k := 7) (pv 7) (jet_part rfl PT EN ER rfl rfl rfl gm gk gl gc gb TB rfl List.mem_cons_self (fun p hp _ => by cases List.mem_singleton.mp hp; rfl) (hr.mono (by decide)) (LamX.lamS_by (sc := defScope s_law) (by decide +kernel)) rfl (fun _ _ _ _ _ => rfl) (k := 5) (fun A outer s H E f c hr T0 => (jr_callC C_lowest hr (by decide) rfl rfl rfl (takes_of rfl rfl rfl rfl) (ja_cons (jo_of je_int) (ja_cons (jo_of je_int) ja_nil))))))
    (jsts_cons (jst_app (k := 7) (pv 7) (jet_part rfl PT EN ER rfl rfl rfl gm gk gl gc gb TB rfl List.mem_cons_self (fun p hp _ => by cases List.mem_singleton.mp hp; rfl) (hr.mono (by decide)) (LamX.lamS_by (sc := defScope s_law) (by decide +kernel)) rfl (fun _ _ _ _ _ => rfl) (k := 5) (fun A outer s H E f c hr T0 => (jr_callC C_lowest hr (by decide) rfl rfl rfl (takes_of rfl rfl rfl rfl) (ja_cons (jo_of je_int) (ja_cons (jo_of (je_un o_neg (jo_of je_int))) ja_nil))))))
    (jsts_cons (jst_app (k := 7) (pv 7) (jet_part rfl PT EN ER rfl rfl rfl gm gk gl gc gb TB rfl List.mem_cons_self (fun p hp _ => by cases List.mem_singleton.mp hp; rfl) (hr.mono (by decide)) (LamX.lamS_by (sc := defScope s_law) (by decide +kernel)) rfl (fun _ _ _ _ _ => rfl) (k := 5) (fun A outer s H E f c hr T0 => (jr_callC C_compared hr (by decide) rfl rfl rfl (takes_of rfl rfl rfl rfl) (ja_cons (jo_var (pv 6)) (ja_cons (jo_of je_non) ja_nil))))))
    (jsts_cons (jst_app (k := 7) (pv 7) (jet_part rfl PT EN ER rfl rfl rfl gm gk gl gc gb TB rfl List.mem_cons_self (fun p hp _ => by cases List.mem_singleton.mp hp; rfl) (hr.mono (by decide)) (LamX.lamS_by (sc := defScope s_law) (by decide +kernel)) rfl (fun _ _ _ _ _ => rfl) (k := 5) (fun A outer s H E f c hr T0 => (jr_callC C_compared hr (by decide) rfl rfl rfl (takes_of rfl rfl rfl rfl) (ja_cons (jo_of (je_tup (ja_cons (jo_of je_int) (ja_cons (jo_of je_int) ja_nil)))) (ja_cons (jo_var (pv 6)) ja_nil))))))
    (jsts_one (jst_of [] fun T0 hio => (js_ret (jr_of (je_and (je_cmp (o_eq rfl (hu64 hr)) (jo_var (pv 7)) (jo_of (je_rv (jr_lst (ja_cons (jo_of je_str) (ja_cons (jo_of je_str) (ja_cons (jo_of je_str) (ja_cons (jo_of je_str) (ja_cons (jo_of je_non) (ja_cons (jo_of (je_tup (ja_cons (jo_of je_str) (ja_cons (jo_of je_str) ja_nil)))) (ja_cons (jo_of (je_tup (ja_cons (jo_of je_str) (ja_cons (jo_of je_str) ja_nil)))) ja_nil)))))))))) (nomark _)) (je_one (je_cmp (o_eq rfl (hu64 hr)) (jo_of (je_rv (jr_callC C_lowest hr (by decide) rfl rfl rfl takes0 (ja_cons (jo_of je_int) (ja_cons (jo_of (je_un o_neg (jo_of je_int))) ja_nil))))) (jo_of (je_tup (ja_cons (jo_of je_int) (ja_cons (jo_of je_int) ja_nil)))) (nomark _))))))))))))))))))))
  refine ⟨_, body, H, _, _, Rel.start (N := N_law) (as := [.v (.arg (ns.map D.int))]) (Evl.Ex.refl H) ⟨rfl, fun i x v h1 h2 => ?_, fun i j x y a' h1 _ h3 => ?_⟩ (Nat.le_of_ble_eq_true rfl), ?_, ?_⟩
  · match i, h1, h2 with
    | 0, h1, h2 => cases h1; cases h2; exact ⟨_, rfl, a, _, rfl, hS, dens_ints ns⟩
    | i + 1, h1, h2 => simp at h1
  · match i, h1 with
    | 0, h1 => cases h1; cases h3
    | i + 1, h1 => simp at h1
  · intro p hp
    rw [List.mem_singleton.mp hp]
    exact LamX.TabS.nil hT
  · show PostT _ _ (b_law fu (.v (.arg (ns.map D.int)) :: List.replicate (N_law.length - 1) .no)) _
    rw [e]
    intro v σ' B' H' T' _ hv
    cases hv
    exact q H'

end
end K01

set_option linter.all false
set_option autoImplicit false
set_option maxRecDepth 100000
set_option maxHeartbeats 4000000
namespace K01
open PySem TW L2
/-! ## the toolkit -/
theorem ms_k {α : Type} {fa : M α} {k : α → MS} {a : α} {s s' : S} (h : fa s = .ok a s') : ms fa k s = k a s' := by unfold ms; rw [h]
theorem mb_k {α β : Type} {fa : M α} {k : α → M β} {a : α} {s s' : S} (h : fa s = .ok a s') : mbind fa k s = k a s' := by unfold mbind; rw [h]
theorem seq_nx {f k : MS} {s s' : S} (h : f s = .nx s') : mseq f k s = k s' := by unfold mseq; rw [h]
theorem seq_rt {f k : MS} {s s' : S} {r : Rv} (h : f s = .rt r s') : mseq f k s = .rt r s' := by unfold mseq; rw [h]
theorem forD_ok {tm : D → S → Option S} {bd : MS} (P : Nat → S → Prop) : ∀ (ds : List D) (i : Nat) (s : S), P i s → (∀ j d s, ds[j]? = some d → P (i + j) s → ∃ s0 s', tm d s = some s0 ∧ bd s0 = .nx s' ∧ P (i + j + 1) s') → ∃ s', forD tm bd ds s = .nx s' ∧ P (i + ds.length) s'
  | [], i, s, h, _ => ⟨s, rfl, h⟩
  | d :: r, i, s, h, st => by
    obtain ⟨s0, s1, e1, e2, h1⟩ := st 0 d s rfl h
    obtain ⟨s', e3, h3⟩ := forD_ok P r (i + 1) s1 h1 fun j d' s2 hj h2 => by
      have := st (j + 1) d' s2 (by simpa using hj) (by rw [show i + (j + 1) = i + 1 + j by omega]; exact h2)
      rwa [show i + (j + 1) + 1 = i + 1 + j + 1 by omega] at this
    refine ⟨s', ?_, by rw [show i + (d :: r).length = i + 1 + r.length by simp; omega]; exact h3⟩
    unfold forD
    rw [e1]; dsimp only; rw [e2]; exact e3
theorem for_ok {fi : M (List D)} {tm : D → S → Option S} {bd : MS} {ds : List D} {s s0 : S} (P : Nat → S → Prop) (hi : fi s = .ok ds s0) (h0 : P 0 s0) (st : ∀ j d s, ds[j]? = some d → P j s → ∃ s0 s', tm d s = some s0 ∧ bd s0 = .nx s' ∧ P (j + 1) s') : ∃ s', mfor fi tm bd s = .nx s' ∧ P ds.length s' := by
  obtain ⟨s', e, h⟩ := forD_ok P ds 0 s0 h0 fun j d s hj h => by
    rw [Nat.zero_add] at h ⊢; exact st j d s hj h
  refine ⟨s', ?_, by rwa [Nat.zero_add] at h⟩
  unfold mfor
  rw [ms_k hi]; exact e
/-- a while whose measure falls -/
theorem while_ok {ft : M Bool} {bd : MS} (P : S → Prop) (mu : S → Nat) : ∀ (n : Nat) (s : S), P s → mu s < n → (∀ s, P s → (∃ s', ft s = .ok false s') ∨ ∃ s1 s2, ft s = .ok true s1 ∧ bd s1 = .nx s2 ∧ P s2 ∧ mu s2 < mu s) →
    ∃ s' s0, whileD ft bd n s = .nx s' ∧ P s0 ∧ ft s0 = .ok false s'
  | 0, s, _, h, _ => absurd h (Nat.not_lt_zero _)
  | n + 1, s, hp, h, st => by
    rcases st s hp with ⟨s', e⟩ | ⟨s1, s2, e1, e2, h2, m2⟩
    · exact ⟨s', s, by unfold whileD; rw [e], hp, e⟩
    · obtain ⟨s', s0, e3, h3, h4⟩ := while_ok P mu n s2 h2 (by omega) st
      exact ⟨s', s0, by unfold whileD; rw [e1]; dsimp only; rw [e2]; exact e3, h3, h4⟩
/-! ### a call whose arguments are data -/
def dd : Opd → S → Option D
  | .d x, _ => some x
  | .s k, s => match s[k]? with
    | some (.v d) => some d
    | _ => none
theorem comp_ok {vs : List Nat} {tm : D → S → Option S} {tt : M Bool} {te : M D} (P : Nat → List D → S → Prop) : ∀ (ds : List D) (i : Nat) (acc : List D) (s : S), P i acc s → acc.length + ds.length ≤ 16000000 →
    (∀ j d acc s, ds[j]? = some d → P (i + j) acc s → ∃ s1 b s2, tm d s = some s1 ∧ tt s1 = .ok b s2 ∧ ((b = false ∧ plainS s2 vs = true ∧ P (i + j + 1) acc (wipeS s2 vs)) ∨ ∃ y s3, b = true ∧ te s2 = .ok y s3 ∧ plainS s3 vs = true ∧ P (i + j + 1) (acc ++ [y]) (wipeS s3 vs))) →
    ∃ acc' s', compD vs tm tt te ds acc s = .ok acc' s' ∧ P (i + ds.length) acc' s' ∧ acc'.length ≤ acc.length + ds.length
  | [], i, acc, s, h, _, _ => ⟨acc, s, rfl, h, Nat.le_refl _⟩
  | d :: r, i, acc, s, h, hl, st => by
    have hl' : acc.length + (r.length + 1) ≤ 16000000 := by simpa using hl
    obtain ⟨s1, b, s2, e1, e2, h2⟩ := st 0 d acc s rfl h
    have st' : ∀ j d' acc' s', r[j]? = some d' → P (i + 1 + j) acc' s' → ∃ s1 b s2, tm d' s' = some s1 ∧ tt s1 = .ok b s2 ∧ ((b = false ∧ plainS s2 vs = true ∧ P (i + 1 + j + 1) acc' (wipeS s2 vs)) ∨ ∃ y s3, b = true ∧ te s2 = .ok y s3 ∧ plainS s3 vs = true ∧ P (i + 1 + j + 1) (acc' ++ [y]) (wipeS s3 vs)) := fun j d' acc' s' hj hp => by
      have := st (j + 1) d' acc' s' (by simpa using hj) (by rw [show i + (j + 1) = i + 1 + j by omega]; exact hp)
      rwa [show i + (j + 1) + 1 = i + 1 + j + 1 by omega] at this
    rcases h2 with ⟨rfl, hp, h3⟩ | ⟨y, s3, rfl, e3, hp, h3⟩
    · obtain ⟨acc', s', e4, h4, h5⟩ := comp_ok P r (i + 1) acc _ h3 (by omega) st'
      refine ⟨acc', s', ?_, by rw [show i + (d :: r).length = i + 1 + r.length by simp; omega]; exact h4, by simp only [List.length_cons]; omega⟩
      unfold compD; rw [e1]; dsimp only; rw [e2]; dsimp only; rw [if_pos hp]; exact e4
    · obtain ⟨acc', s', e4, h4, h5⟩ := comp_ok P r (i + 1) (acc ++ [y]) _ h3 (by simp only [List.length_append, List.length_singleton]; omega) st'
      refine ⟨acc', s', ?_, by rw [show i + (d :: r).length = i + 1 + r.length by simp; omega]; exact h4, by simp only [List.length_append, List.length_cons, List.length_nil] at h5 ⊢; omega⟩
      unfold compD; rw [e1]; dsimp only; rw [e2]; dsimp only; rw [e3]; dsimp only; rw [if_pos (by rw [Bool.and_eq_true]; exact ⟨decide_eq_true (by omega), hp⟩)]; exact e4
/-! ### data equal -/
abbrev I (p : List Int) : List D := p.map D.int
theorem toPys_I : ∀ p : List Int, toPys (I p) = some (p.map PyData.int)
  | [] => rfl
  | a :: p => by
    show (match toPy (.int a), toPys (I p) with | some x, some xs => some (x :: xs) | _, _ => none) = _
    rw [toPys_I p]; rfl
theorem lay_I : ∀ p : List Int, PyData.canLayAll0 (p.map PyData.int) = true
  | [] => by unfold PyData.canLayAll0; rfl
  | a :: p => by
    rw [List.map_cons]; unfold PyData.canLayAll0; rw [lay_I p]; unfold PyData.canLay0; rfl
theorem depth_I : ∀ p : List Int, PyData.depthAll (p.map PyData.int) = 0
  | [] => by unfold PyData.depthAll; rfl
  | a :: p => by rw [List.map_cons]; unfold PyData.depthAll; rw [depth_I p]; unfold PyData.depth; rfl
theorem sh_int (i : Int) : SeqAt.shaped (.int i) = true := by unfold SeqAt.shaped PyData.canLay0 PyData.depth; rfl
theorem sh_lst (p : List Int) : SeqAt.shaped (.list (p.map PyData.int)) = true := by
  unfold SeqAt.shaped PyData.canLay0 PyData.depth; rw [lay_I, depth_I]; rfl
theorem sh_tup (p : List Int) : SeqAt.shaped (.tuple (p.map PyData.int)) = true := by
  unfold SeqAt.shaped PyData.canLay0 PyData.depth; rw [lay_I, depth_I]; rfl
theorem eqP_int (i j : Int) : eqP (.int i) (.int j) = some (decide (i = j)) := by
  unfold eqP toPy; dsimp only; rw [sh_int, sh_int]; simp [PyData.eqv]; rfl
theorem dEq_int (i j : Int) : dEq (.int i) (.int j) = some (.bl (decide (i = j))) := by unfold dEq; rw [eqP_int]; rfl
theorem dNe_int (i j : Int) : dNe (.int i) (.int j) = some (.bl (!decide (i = j))) := by unfold dNe; rw [eqP_int]; rfl
theorem eqP_lst (p : List Int) : eqP (.lst (I p)) (.lst []) = some p.isEmpty := by
  unfold eqP
  have e1 : toPy (.lst (I p)) = some (.list (p.map PyData.int)) := by show (toPys (I p)).map PyData.list = _; rw [toPys_I]; rfl
  have e2 : toPy (.lst []) = some (.list (([] : List Int).map PyData.int)) := rfl
  rw [e1, e2]; dsimp only; rw [sh_lst, sh_lst]
  cases p <;> simp [PyData.eqv, PyData.eqvAll]
theorem eqP_tup (p : List Int) : eqP (.tup (I p)) (.tup []) = some p.isEmpty := by
  unfold eqP
  have e1 : toPy (.tup (I p)) = some (.tuple (p.map PyData.int)) := by show (toPys (I p)).map PyData.tuple = _; rw [toPys_I]; rfl
  have e2 : toPy (.tup []) = some (.tuple (([] : List Int).map PyData.int)) := rfl
  rw [e1, e2]; dsimp only; rw [sh_tup, sh_tup]
  cases p <;> simp [PyData.eqv, PyData.eqvAll]
theorem dNe_lst (p : List Int) : dNe (.lst (I p)) (.lst []) = some (.bl (!p.isEmpty)) := by unfold dNe; rw [eqP_lst]; rfl
theorem dEq_tup (p : List Int) : dEq (.tup (I p)) (.tup []) = some (.bl p.isEmpty) := by unfold dEq; rw [eqP_tup]; rfl
theorem atI_I (p : List Int) (i : Int) : atI (I p) i = (atI p i).map D.int := by
  unfold atI
  rw [List.length_map]
  cases ixN p.length i with
  | none => rfl
  | some j => simp
theorem atI_nat' {α : Type} {p : List α} {j : Nat} (h : j < p.length) : atI p (j : Int) = some p[j] := by
  unfold atI ixN
  rw [if_pos (by omega), if_pos (by omega)]
  simp [h]
theorem ixN_nat {n j : Nat} (h : j < n) : ixN n (j : Int) = some j := by
  unfold ixN; rw [if_pos (by omega), if_pos (by omega)]; simp
theorem atI_m1 {p : List Int} (h : p ≠ []) : atI p (-1) = some (p.getLastD 0) := by
  have hl : 0 < p.length := List.length_pos_iff.mpr h
  unfold atI ixN
  rw [if_neg (by omega), if_pos (by omega)]
  have e : ((-1 : Int) + p.length).toNat = p.length - 1 := by omega
  rw [e]
  show p[p.length - 1]? = _
  rw [List.getLastD_eq_getLast?, List.getLast?_eq_getElem?]
  rw [List.getElem?_eq_getElem (by omega)]; rfl
/-! ### bits -/
def bd (k : Nat) (x : Int) : Prop := x.natAbs < 2 ^ k
def bdl (k : Nat) (p : List Int) : Prop := ∀ x ∈ p, bd k x
theorem bd.mono {j k : Nat} {x : Int} (h : bd j x) (hk : j ≤ k) : bd k x := Nat.lt_of_lt_of_le h (Nat.pow_le_pow_right (by decide) hk)
theorem bdl.mono {j k : Nat} {p : List Int} (h : bdl j p) (hk : j ≤ k) : bdl k p := fun x hx => (h x hx).mono hk
theorem bd.add {j k : Nat} {x y : Int} (h : bd j x) (h' : bd k y) {m : Nat} (hj : j + 1 ≤ m) (hk : k + 1 ≤ m) : bd m (x + y) := by
  have h1 : x.natAbs < 2 ^ (m - 1) := h.mono (by omega)
  have h2 : y.natAbs < 2 ^ (m - 1) := h'.mono (by omega)
  have e : 2 ^ m = 2 ^ (m - 1) + 2 ^ (m - 1) := by
    conv => lhs; rw [show m = (m - 1) + 1 by omega, Nat.pow_succ]
    omega
  unfold bd
  rw [e]; omega
theorem bd.mul {j k : Nat} {x y : Int} (h : bd j x) (h' : bd k y) : bd (j + k) (x * y) := by
  unfold bd
  rw [Int.natAbs_mul, Nat.pow_add]
  exact Nat.mul_lt_mul'' h h'
theorem bd.log {k : Nat} {x : Int} (h : bd k x) : x.natAbs.log2 ≤ k := by
  by_cases hx : x.natAbs = 0
  · rw [hx]; simp
  · exact Nat.le_of_lt ((Nat.log2_lt hx).mpr h)
theorem bd.cMul {j k : Nat} {x y : Int} (h : bd j x) (h' : bd k y) (hk : j + k < 134217000) : cMul x y = true := by
  have := h.log; have := h'.log
  exact decide_eq_true (by omega)
theorem I_len (q : List Int) : (I q).length = q.length := List.length_map _
theorem atI_In {q : List Int} {j : Nat} (h : j < q.length) : atI (I q) (j : Int) = some (D.int q[j]) := by rw [atI_I, atI_nat' h]; rfl
theorem I_set (q : List Int) (j : Nat) (z : Int) : (I q).set j (.int z) = I (q.set j z) := by
  show (q.map D.int).set j (D.int z) = (q.set j z).map D.int
  rw [List.map_set]
theorem rangeD_get {lo : Int} {n j : Nat} {d : D} (h : (rangeD lo n)[j]? = some d) : j < n ∧ d = .int (lo + (j : Nat)) := by
  unfold rangeD at h
  rw [List.getElem?_map] at h
  by_cases hj : j < n
  · rw [List.getElem?_range hj] at h; cases h; exact ⟨hj, rfl⟩
  · rw [List.getElem?_eq_none (by simpa using hj)] at h; cases h
theorem all_true : ∀ n : Nat, ((List.replicate n true).all id) = true
  | 0 => rfl
  | n + 1 => by rw [List.replicate_succ, List.all_cons, all_true n]; rfl
theorem blsD_rep : ∀ n : Nat, blsD (List.replicate n (D.bl true)) = some (List.replicate n true)
  | 0 => rfl
  | n + 1 => by
    rw [List.replicate_succ]
    unfold blsD
    rw [blsD_rep n]; rfl
theorem I_at {p : List Int} {j : Nat} {d : D} (h : (I p)[j]? = some d) : ∃ z, p[j]? = some z ∧ d = .int z := by
  rw [List.getElem?_map] at h
  cases hq : p[j]? with
  | none => rw [hq] at h; cases h
  | some z => rw [hq] at h; cases h; exact ⟨z, rfl, rfl⟩

theorem mod_small (a : Int) {m : Int} (hm : 0 < m) : 0 ≤ a % m ∧ a % m < m := ⟨Int.emod_nonneg _ (by omega), Int.emod_lt_of_pos _ hm⟩
/-! ## is_integer, _law_same, is_within -/
def isI : D → Bool
  | .int _ => true
  | _ => false
/-- data that may be asked -/
def plainD : D → Bool
  | .obj _ _ => false
  | .exc _ _ _ _ => false
  | _ => true
theorem ev_is_integer (fu : Nat) {d : D} (h : plainD d = true) : d_is_integer fu [.v d] = .ret (.v (.bl (isI d))) [.v d] := by
  cases d <;> first | (simp [plainD] at h; done) | simp [d_is_integer, b_is_integer, fnD, ms, mseq, mbind, mret, mopt, mbad, mvar, res, strong, strongs, ress, mun, mbin, mbinR, mcb, mcons, mcond, mif, mandV, morV, mnotV, tob, truD, mfld, fldD, putO, mputf, stSet, stSetP, mfrz, mlst, mtup, mslice, mpart, intD, dSl, on1, on2, lenD, absD, TW.intOf, TW.listOf, TW.tupOf, dInt2, dCmp2, dNeg, dIx, dIsN, dNotN, D.isNon, dupFree, argsOf, argOf, Sl.some?, putBack, Opd.isS, Sl.own, Rv.sl, Rv.d, mwalk, walkD, itemsD, mrng, rng1, rng2, rng3, tgName, tgTup, tgCons, tgNil, masg, mpar2, stPar2, isiD, dTy, isiInt, isiBl, isiLst, isiTup, isiObj, or2, nm, mvarF, mchain, mop2, dAddX, dAddS, mrev, lstD, mrevA, mpar3, stPar3, List.findIdx?_cons, List.findIdx?_nil, isI, Ty]
theorem ev_same (fu : Nat) (b c : Bool) : d__law_same fu [.v (.bl b), .v (.bl c)] = .ret (.v (.bl (b == c))) [.v (.bl b), .v (.bl c)] := by
  have e : dEq (.bl b) (.bl c) = some (.bl (b == c)) := by
    cases b <;> cases c <;> rfl
  simp [d__law_same, b__law_same, fnD, ms, mseq, mbind, mret, mopt, mbad, mvar, res, strong, strongs, ress, mun, mbin, mbinR, mcb, mcons, mcond, mif, mandV, morV, mnotV, tob, truD, mfld, fldD, putO, mputf, stSet, stSetP, mfrz, mlst, mtup, mslice, mpart, intD, dSl, on1, on2, lenD, absD, TW.intOf, TW.listOf, TW.tupOf, dInt2, dCmp2, dNeg, dIx, dIsN, dNotN, D.isNon, dupFree, argsOf, argOf, Sl.some?, putBack, Opd.isS, Sl.own, Rv.sl, Rv.d, mwalk, walkD, itemsD, mrng, rng1, rng2, rng3, tgName, tgTup, tgCons, tgNil, masg, mpar2, stPar2, isiD, dTy, isiInt, isiBl, isiLst, isiTup, isiObj, or2, nm, mvarF, mchain, mop2, dAddX, dAddS, mrev, lstD, mrevA, mpar3, stPar3, List.findIdx?_cons, List.findIdx?_nil, e]
/-- a bound: None or an integer -/
def bnd (o : Option Int) : D := match o with
  | none => .non
  | some i => .int i
def inB (z : Int) (lo hi : Option Int) : Bool := (match lo with | none => true | some l => decide (l ≤ z)) && (match hi with | none => true | some l => decide (z ≤ l))
theorem ev_within_no (fu : Nat) {d lo hi : D} (h : plainD d = true) (hi' : isI d = false) : d_is_within fu [.v d, .v lo, .v hi] = .ret (.v (.bl false)) [.v d, .v lo, .v hi] := by
  have e := ev_is_integer fu h
  rw [hi'] at e
  simp [d_is_within, b_is_within, mcall, fnD, ms, mseq, mbind, mret, mopt, mbad, mvar, res, strong, strongs, ress, mun, mbin, mbinR, mcb, mcons, mcond, mif, mandV, morV, mnotV, tob, truD, mfld, fldD, putO, mputf, stSet, stSetP, mfrz, mlst, mtup, mslice, mpart, intD, dSl, on1, on2, lenD, absD, TW.intOf, TW.listOf, TW.tupOf, dInt2, dCmp2, dNeg, dIx, dIsN, dNotN, D.isNon, dupFree, argsOf, argOf, Sl.some?, putBack, Opd.isS, Sl.own, Rv.sl, Rv.d, mwalk, walkD, itemsD, mrng, rng1, rng2, rng3, tgName, tgTup, tgCons, tgNil, masg, mpar2, stPar2, isiD, dTy, isiInt, isiBl, isiLst, isiTup, isiObj, or2, nm, mvarF, mchain, mop2, dAddX, dAddS, mrev, lstD, mrevA, mpar3, stPar3, List.findIdx?_cons, List.findIdx?_nil, e]
theorem ev_within (fu : Nat) (z : Int) (lo hi : Option Int) : d_is_within fu [.v (.int z), .v (bnd lo), .v (bnd hi)] = .ret (.v (.bl (inB z lo hi))) [.v (.int z), .v (bnd lo), .v (bnd hi)] := by
  have e := ev_is_integer fu (d := .int z) rfl
  cases lo with
  | none =>
    cases hi with
    | none => simp [d_is_within, b_is_within, mcall, fnD, ms, mseq, mbind, mret, mopt, mbad, mvar, res, strong, strongs, ress, mun, mbin, mbinR, mcb, mcons, mcond, mif, mandV, morV, mnotV, tob, truD, mfld, fldD, putO, mputf, stSet, stSetP, mfrz, mlst, mtup, mslice, mpart, intD, dSl, on1, on2, lenD, absD, TW.intOf, TW.listOf, TW.tupOf, dInt2, dCmp2, dNeg, dIx, dIsN, dNotN, D.isNon, dupFree, argsOf, argOf, Sl.some?, putBack, Opd.isS, Sl.own, Rv.sl, Rv.d, mwalk, walkD, itemsD, mrng, rng1, rng2, rng3, tgName, tgTup, tgCons, tgNil, masg, mpar2, stPar2, isiD, dTy, isiInt, isiBl, isiLst, isiTup, isiObj, or2, nm, mvarF, mchain, mop2, dAddX, dAddS, mrev, lstD, mrevA, mpar3, stPar3, List.findIdx?_cons, List.findIdx?_nil, e, bnd, inB, isI]
    | some h => simp [d_is_within, b_is_within, mcall, fnD, ms, mseq, mbind, mret, mopt, mbad, mvar, res, strong, strongs, ress, mun, mbin, mbinR, mcb, mcons, mcond, mif, mandV, morV, mnotV, tob, truD, mfld, fldD, putO, mputf, stSet, stSetP, mfrz, mlst, mtup, mslice, mpart, intD, dSl, on1, on2, lenD, absD, TW.intOf, TW.listOf, TW.tupOf, dInt2, dCmp2, dNeg, dIx, dIsN, dNotN, D.isNon, dupFree, argsOf, argOf, Sl.some?, putBack, Opd.isS, Sl.own, Rv.sl, Rv.d, mwalk, walkD, itemsD, mrng, rng1, rng2, rng3, tgName, tgTup, tgCons, tgNil, masg, mpar2, stPar2, isiD, dTy, isiInt, isiBl, isiLst, isiTup, isiObj, or2, nm, mvarF, mchain, mop2, dAddX, dAddS, mrev, lstD, mrevA, mpar3, stPar3, List.findIdx?_cons, List.findIdx?_nil, e, bnd, inB, isI]
  | some l =>
    cases hi with
    | none => by_cases h1 : l ≤ z <;> simp [d_is_within, b_is_within, mcall, fnD, ms, mseq, mbind, mret, mopt, mbad, mvar, res, strong, strongs, ress, mun, mbin, mbinR, mcb, mcons, mcond, mif, mandV, morV, mnotV, tob, truD, mfld, fldD, putO, mputf, stSet, stSetP, mfrz, mlst, mtup, mslice, mpart, intD, dSl, on1, on2, lenD, absD, TW.intOf, TW.listOf, TW.tupOf, dInt2, dCmp2, dNeg, dIx, dIsN, dNotN, D.isNon, dupFree, argsOf, argOf, Sl.some?, putBack, Opd.isS, Sl.own, Rv.sl, Rv.d, mwalk, walkD, itemsD, mrng, rng1, rng2, rng3, tgName, tgTup, tgCons, tgNil, masg, mpar2, stPar2, isiD, dTy, isiInt, isiBl, isiLst, isiTup, isiObj, or2, nm, mvarF, mchain, mop2, dAddX, dAddS, mrev, lstD, mrevA, mpar3, stPar3, List.findIdx?_cons, List.findIdx?_nil, e, bnd, inB, isI, h1]
    | some h => by_cases h1 : l ≤ z <;> simp [d_is_within, b_is_within, mcall, fnD, ms, mseq, mbind, mret, mopt, mbad, mvar, res, strong, strongs, ress, mun, mbin, mbinR, mcb, mcons, mcond, mif, mandV, morV, mnotV, tob, truD, mfld, fldD, putO, mputf, stSet, stSetP, mfrz, mlst, mtup, mslice, mpart, intD, dSl, on1, on2, lenD, absD, TW.intOf, TW.listOf, TW.tupOf, dInt2, dCmp2, dNeg, dIx, dIsN, dNotN, D.isNon, dupFree, argsOf, argOf, Sl.some?, putBack, Opd.isS, Sl.own, Rv.sl, Rv.d, mwalk, walkD, itemsD, mrng, rng1, rng2, rng3, tgName, tgTup, tgCons, tgNil, masg, mpar2, stPar2, isiD, dTy, isiInt, isiBl, isiLst, isiTup, isiObj, or2, nm, mvarF, mchain, mop2, dAddX, dAddS, mrev, lstD, mrevA, mpar3, stPar3, List.findIdx?_cons, List.findIdx?_nil, e, bnd, inB, isI, h1]
end K01

set_option linter.all false
set_option autoImplicit false
set_option maxRecDepth 100000
set_option maxHeartbeats 4000000
namespace K01
open PySem TW L2
/-! ## the bag -/
def Bg (K : Nat) (b : List D) : Prop := ∃ n c m : Int, b = I [n, c, m] ∧ 0 ≤ c ∧ c ≤ (K : Int) ∧ 0 ≤ m ∧ m < 998244353
theorem Bg.mono {K K' : Nat} {b : List D} (h : Bg K b) (hk : K ≤ K') : Bg K' b := by
  obtain ⟨n, c, m, e, h1, h2, h3⟩ := h
  exact ⟨n, c, m, e, h1, by omega, h3⟩
theorem pull_ok (fu : Nat) {K : Nat} {b : List D} {k : Int} (h : Bg K b) (hK : K < 1000000) (hk : 0 < k) (hl : k.natAbs.log2 < 9000) :
    ∃ d b', d__law_pull fu [.l b, .v (.int k)] = .ret (.v (.int d)) [.l b', .v (.int k)] ∧ 0 ≤ d ∧ d < k ∧ Bg (K + 1) b' := by
  obtain ⟨n, c, m, rfl, h1, h2, h3, h4⟩ := h
  have hm : 0 ≤ m * (2 * (c + 1) + 1) := Int.mul_nonneg h3 (by omega)
  have hm2 : m * (2 * (c + 1) + 1) ≤ 998244353 * 3000000 := Int.mul_le_mul (by omega) (by omega) (by omega) (by omega)
  have hA : cMul m (2 * (c + 1) + 1) = true := by
    have b1 : bd 30 m := by unfold bd; omega
    have b2 : bd 30 (2 * (c + 1) + 1) := by unfold bd; omega
    exact b1.cMul b2 (by omega)
  have hB : cMul 2 (c + 1) = true := by
    have b1 : bd 30 (2 : Int) := by unfold bd; omega
    have b2 : bd 30 (c + 1) := by unfold bd; omega
    exact b1.cMul b2 (by omega)
  have hC : cMul 91529 (c + 1) = true := by
    have b1 : bd 30 (91529 : Int) := by unfold bd; omega
    have b2 : bd 30 (c + 1) := by unfold bd; omega
    exact b1.cMul b2 (by omega)
  have hP : (m * (2 * (c + 1) + 1) + 91529 * (c + 1) + 43).natAbs < 2 ^ 64 := by omega
  have e0 := dEq_int n 0
  have hh := mod_small n hk
  have hA' := of_decide_eq_true hA
  have hB' := of_decide_eq_true hB
  have hC' := of_decide_eq_true hC
  by_cases hn : n = 0
  · subst hn
    have hg := mod_small ((m * (2 * (c + 1) + 1) + 91529 * (c + 1) + 43) ^ 3) hk
    refine ⟨(m * (2 * (c + 1) + 1) + 91529 * (c + 1) + 43) ^ 3 % k, I [(m * (2 * (c + 1) + 1) + 91529 * (c + 1) + 43) ^ 3 / k, c + 1, m], ?_, hg.1, hg.2, ⟨_, _, _, rfl, by omega, by omega, h3, h4⟩⟩
    simp [d__law_pull, b__law_pull, mcall, fnD, ms, mseq, mbind, mret, mopt, mbad, mvar, res, strong, strongs, ress, mun, mbin, mbinR, mcb, mcons, mcond, mif, mandV, morV, mnotV, tob, truD, mfld, fldD, putO, mputf, stSet, stSetP, mfrz, mlst, mtup, mslice, mpart, intD, dSl, on1, on2, lenD, absD, TW.intOf, TW.listOf, TW.tupOf, dInt2, dCmp2, dNeg, dIx, dIsN, dNotN, D.isNon, dupFree, argsOf, argOf, Sl.some?, putBack, Opd.isS, Sl.own, Rv.sl, Rv.d, mwalk, walkD, itemsD, mrng, rng1, rng2, rng3, tgName, tgTup, tgCons, tgNil, masg, mpar2, stPar2, isiD, dTy, isiInt, isiBl, isiLst, isiTup, isiObj, or2, nm, mvarF, mchain, mop2, dAddX, dAddS, mrev, lstD, mrevA, mpar3, stPar3, List.findIdx?_cons, List.findIdx?_nil, e0, hA, hB, hC, hA', hB', hC', hP, mseti, hk, hl, atI, ixN]
  · refine ⟨n % k, I [n / k, c, m], ?_, hh.1, hh.2, ⟨_, _, _, rfl, h1, by omega, h3, h4⟩⟩
    simp [d__law_pull, b__law_pull, mcall, fnD, ms, mseq, mbind, mret, mopt, mbad, mvar, res, strong, strongs, ress, mun, mbin, mbinR, mcb, mcons, mcond, mif, mandV, morV, mnotV, tob, truD, mfld, fldD, putO, mputf, stSet, stSetP, mfrz, mlst, mtup, mslice, mpart, intD, dSl, on1, on2, lenD, absD, TW.intOf, TW.listOf, TW.tupOf, dInt2, dCmp2, dNeg, dIx, dIsN, dNotN, D.isNon, dupFree, argsOf, argOf, Sl.some?, putBack, Opd.isS, Sl.own, Rv.sl, Rv.d, mwalk, walkD, itemsD, mrng, rng1, rng2, rng3, tgName, tgTup, tgCons, tgNil, masg, mpar2, stPar2, isiD, dTy, isiInt, isiBl, isiLst, isiTup, isiObj, or2, nm, mvarF, mchain, mop2, dAddX, dAddS, mrev, lstD, mrevA, mpar3, stPar3, List.findIdx?_cons, List.findIdx?_nil, e0, hn, mseti, hk, hl, atI, ixN]
end K01

set_option linter.all false
set_option autoImplicit false
set_option maxRecDepth 100000
set_option maxHeartbeats 4000000
namespace K01
open PySem TW L2
theorem log2_small {x : Int} {k : Nat} (h : bd k x) (hk : k < 9000) : x.natAbs.log2 < 9000 := by have := h.log; omega
theorem bd30 {x : Int} (h : x.natAbs < 1073741824) : bd 30 x := by unfold bd; omega
/-- one of some things -/
theorem take_ok (fu : Nat) {K : Nat} {b ds : List D} (h : Bg K b) (hK : K < 1000000) (hd : ds ≠ []) (hl : ds.length < 1000000) :
    ∃ x b', x ∈ ds ∧ d__law_take fu [.l b, .v (.lst ds)] = .ret (.v x) [.l b', .v (.lst ds)] ∧ Bg (K + 1) b' := by
  have hp : 0 < ds.length := List.length_pos_iff.mpr hd
  obtain ⟨d, b', e, h1, h2, h3⟩ := pull_ok fu (k := (ds.length : Int)) h hK (by omega) (log2_small (bd30 (by omega)) (by omega))
  obtain ⟨j, rfl⟩ := Int.eq_ofNat_of_zero_le h1
  have hj : j < ds.length := by omega
  refine ⟨ds[j], b', List.getElem_mem hj, ?_, h3⟩
  have ea := atI_nat' hj
  simp [d__law_take, b__law_take, mcall, fnD, ms, mseq, mbind, mret, mopt, mbad, mvar, res, strong, strongs, ress, mun, mbin, mbinR, mcb, mcons, mcond, mif, mandV, morV, mnotV, tob, truD, mfld, fldD, putO, mputf, stSet, stSetP, mfrz, mlst, mtup, mslice, mpart, intD, dSl, on1, on2, lenD, absD, TW.intOf, TW.listOf, TW.tupOf, dInt2, dCmp2, dNeg, dIx, dIsN, dNotN, D.isNon, dupFree, argsOf, argOf, Sl.some?, putBack, Opd.isS, Sl.own, Rv.sl, Rv.d, mwalk, walkD, itemsD, mrng, rng1, rng2, rng3, tgName, tgTup, tgCons, tgNil, masg, mpar2, stPar2, isiD, dTy, isiInt, isiBl, isiLst, isiTup, isiObj, or2, nm, mvarF, mchain, mop2, dAddX, dAddS, mrev, lstD, mrevA, mpar3, stPar3, List.findIdx?_cons, List.findIdx?_nil, e, ea]
/-- a drawn integer -/
def sm (z : Int) : Prop := z.natAbs ≤ 10 ^ 28
theorem integer_ok (fu : Nat) {K : Nat} {b : List D} (h : Bg K b) (hK : K < 999000) :
    ∃ z b', d__law_integer fu [.l b] = .ret (.v (.int z)) [.l b'] ∧ sm z ∧ Bg (K + 3) b' := by
  obtain ⟨d1, b1, e1, h1, h2, hb1⟩ := pull_ok fu (k := 60) h (by omega) (by omega) (log2_small (bd30 (by decide)) (by omega))
  obtain ⟨d2, b2, e2, h3, h4, hb2⟩ := pull_ok fu (k := 10000000000000000000000000000) hb1 (by omega) (by decide) (log2_small (k := 100) (by unfold bd; decide) (by omega))
  obtain ⟨x, b3, hx, e3, hb3⟩ := take_ok fu (ds := [.int (d1 - 30), .int (d1 - 30), .int (d2 - 5000000000000000000000000000), .int 0, .int 1, .int (-1)]) hb2 (by omega) (by simp) (by simp)
  have hz : ∃ z, x = .int z ∧ sm z := by
    have q1 : sm (d1 - 30) := by unfold sm; omega
    have q2 : sm (d2 - 5000000000000000000000000000) := by unfold sm; omega
    simp only [List.mem_cons, List.not_mem_nil, or_false] at hx
    rcases hx with rfl | rfl | rfl | rfl | rfl | rfl
    · exact ⟨_, rfl, q1⟩
    · exact ⟨_, rfl, q1⟩
    · exact ⟨_, rfl, q2⟩
    · exact ⟨_, rfl, by unfold sm; decide⟩
    · exact ⟨_, rfl, by unfold sm; decide⟩
    · exact ⟨_, rfl, by unfold sm; decide⟩
  obtain ⟨z, rfl, hz⟩ := hz
  refine ⟨z, b3, ?_, hz, hb3⟩
  have c1 : cMul 5 1000000000000000000000000000 = true := by decide +kernel
  have c2 := of_decide_eq_true c1
  simp [d__law_integer, b__law_integer, mcall, fnD, ms, mseq, mbind, mret, mopt, mbad, mvar, res, strong, strongs, ress, mun, mbin, mbinR, mcb, mcons, mcond, mif, mandV, morV, mnotV, tob, truD, mfld, fldD, putO, mputf, stSet, stSetP, mfrz, mlst, mtup, mslice, mpart, intD, dSl, on1, on2, lenD, absD, TW.intOf, TW.listOf, TW.tupOf, dInt2, dCmp2, dNeg, dIx, dIsN, dNotN, D.isNon, dupFree, argsOf, argOf, Sl.some?, putBack, Opd.isS, Sl.own, Rv.sl, Rv.d, mwalk, walkD, itemsD, mrng, rng1, rng2, rng3, tgName, tgTup, tgCons, tgNil, masg, mpar2, stPar2, isiD, dTy, isiInt, isiBl, isiLst, isiTup, isiObj, or2, nm, mvarF, mchain, mop2, dAddX, dAddS, mrev, lstD, mrevA, mpar3, stPar3, List.findIdx?_cons, List.findIdx?_nil, e1, e2, e3, c1, c2]
end K01

set_option linter.all false
set_option autoImplicit false
set_option maxRecDepth 100000
set_option maxHeartbeats 4000000
namespace K01
open PySem TW L2
/-- values of any kind that are no integer -/
def oddL (z : Int) : List D := [.non, .bl true, .bl false, .str (Str.ofString z.repr), .str (Str.ofString ""), .lst [.int z], .tup [.int z], .dct, .dct, .lst [.int z, .bl true], .tup [.non], .lst [.lst [.int z]]]
def OddV (d : D) : Prop := ∃ z, sm z ∧ d ∈ oddL z
theorem sm.bd {z : Int} (h : sm z) : bd 100 z := by unfold sm at h; unfold K01.bd; omega
theorem value_ok (fu : Nat) {K : Nat} {b : List D} (h : Bg K b) (hK : K < 998000) :
    ∃ d b', d__law_value fu [.l b] = .ret (.v d) [.l b'] ∧ OddV d ∧ Bg (K + 4) b' := by
  obtain ⟨z, b1, e1, hz, hb1⟩ := integer_ok fu h (by omega)
  obtain ⟨x, b2, hx, e2, hb2⟩ := take_ok fu (ds := oddL z) hb1 (by omega) (by simp [oddL]) (by simp [oddL])
  refine ⟨x, b2, ?_, ⟨z, hz, hx⟩, hb2⟩
  have hl : z.natAbs.log2 < 1920 := by have := hz.bd.log; omega
  unfold oddL at e2
  simp [d__law_value, b__law_value, mcall, fnD, ms, mseq, mbind, mret, mopt, mbad, mvar, res, strong, strongs, ress, mun, mbin, mbinR, mcb, mcons, mcond, mif, mandV, morV, mnotV, tob, truD, mfld, fldD, putO, mputf, stSet, stSetP, mfrz, mlst, mtup, mslice, mpart, intD, dSl, on1, on2, lenD, absD, TW.intOf, TW.listOf, TW.tupOf, dInt2, dCmp2, dNeg, dIx, dIsN, dNotN, D.isNon, dupFree, argsOf, argOf, Sl.some?, putBack, Opd.isS, Sl.own, Rv.sl, Rv.d, mwalk, walkD, itemsD, mrng, rng1, rng2, rng3, tgName, tgTup, tgCons, tgNil, masg, mpar2, stPar2, isiD, dTy, isiInt, isiBl, isiLst, isiTup, isiObj, or2, nm, mvarF, mchain, mop2, dAddX, dAddS, mrev, lstD, mrevA, mpar3, stPar3, List.findIdx?_cons, List.findIdx?_nil, e1, e2, strOf, hl]
theorem OddV.plain {d : D} (h : OddV d) : plainD d = true ∧ isI d = false := by
  obtain ⟨z, _, hx⟩ := h
  simp only [oddL, List.mem_cons, List.not_mem_nil, or_false] at hx
  rcases hx with rfl | rfl | rfl | rfl | rfl | rfl | rfl | rfl | rfl | rfl | rfl | rfl <;> exact ⟨rfl, rfl⟩
/-! ## the bag is laid -/
theorem bag_step (fu : Nat) {ns : List Int} {z n : Int} {x : Sl} {i : Nat} (hz : bd 1048577 z) (h0 : 0 ≤ n) (hn : n < 2 ^ (1000 + 21 * i)) (hi : i ≤ 63) :
    ∃ n', lb__law_bag_1 fu [.v (.arg (I ns)), .v (.int n), .v (.int z)] = .nx [.v (.arg (I ns)), .v (.int n'), .v (.int z)] ∧ 0 ≤ n' ∧ n' < 2 ^ (1000 + 21 * (i + 1)) := by
  have hbn : bd (1000 + 21 * i) n := by
    unfold bd
    have : ((n.natAbs : Nat) : Int) = n := Int.natAbs_of_nonneg h0
    have h2 : ((n.natAbs : Nat) : Int) < ((2 ^ (1000 + 21 * i) : Nat) : Int) := by rw [this]; push_cast; exact hn
    exact_mod_cast h2
  have c1 : cMul n 1000639 = true := hbn.cMul (k := 30) (bd30 (by decide)) (by omega)
  have hza : bd 1048577 ((z.natAbs : Nat) : Int) := by unfold bd; rw [Int.natAbs_natCast]; exact hz
  have c2 : cMul 2 ((z.natAbs : Nat) : Int) = true := (bd30 (x := 2) (by decide)).cMul hza (by omega)
  have d1 : n.natAbs.log2 + Nat.log2 1000639 < 134217000 := of_decide_eq_true c1
  have d2 : Nat.log2 2 + z.natAbs.log2 < 134217000 := of_decide_eq_true c2
  have cp : cPowB 1000000000000000000000000000000000000000000000000000000000000 5 = true := by decide +kernel
  have cp1 := of_decide_eq_true (Bool.and_eq_true_iff.mp cp).2
  have hm := mod_small (2 * (z.natAbs : Int) + if z < 0 then 1 else 0) (m := (10 ^ 60) ^ 5) (by decide)
  have hp : (2 : Int) ^ (1000 + 21 * (i + 1)) = 2 ^ (1000 + 21 * i) * 2097152 := by rw [show 1000 + 21 * (i + 1) = 1000 + 21 * i + 21 by omega, Int.pow_add]; rfl
  have hq : ((10 : Int) ^ 60) ^ 5 ≤ 2 ^ (1000 + 21 * i) := by
    have h1 : ((10 : Int) ^ 60) ^ 5 ≤ 2 ^ 1000 := by decide +kernel
    have h2 : (2 : Int) ^ 1000 ≤ 2 ^ (1000 + 21 * i) := by
      rw [Int.pow_add]
      have h3 : (1 : Int) ≤ 2 ^ (21 * i) := by
        have : 0 < (2 : Nat) ^ (21 * i) := Nat.pow_pos (by decide)
        have h4 : (1 : Nat) ≤ 2 ^ (21 * i) := this
        exact_mod_cast h4
      have h5 : (0 : Int) ≤ 2 ^ 1000 := by decide +kernel
      calc (2 : Int) ^ 1000 = 2 ^ 1000 * 1 := by rw [Int.mul_one]
        _ ≤ 2 ^ 1000 * 2 ^ (21 * i) := Int.mul_le_mul_of_nonneg_left h3 h5
    omega
  refine ⟨n * 1000639 + (2 * (z.natAbs : Int) + if z < 0 then 1 else 0) % (10 ^ 60) ^ 5, ?_, by omega, by omega⟩
  by_cases hzn : z < 0
  · have ez : ((z.natAbs : Nat) : Int) = -z := by omega
    rw [ez]
    simp [lb__law_bag_1, fnD, ms, mseq, mbind, mret, mopt, mbad, mvar, res, strong, strongs, ress, mun, mbin, mbinR, mcb, mcons, mcond, mif, mandV, morV, mnotV, tob, truD, mfld, fldD, putO, mputf, stSet, stSetP, mfrz, mlst, mtup, mslice, mpart, intD, dSl, on1, on2, lenD, absD, TW.intOf, TW.listOf, TW.tupOf, dInt2, dCmp2, dNeg, dIx, dIsN, dNotN, D.isNon, dupFree, argsOf, argOf, Sl.some?, putBack, Opd.isS, Sl.own, Rv.sl, Rv.d, mwalk, walkD, itemsD, mrng, rng1, rng2, rng3, tgName, tgTup, tgCons, tgNil, masg, mpar2, stPar2, isiD, dTy, isiInt, isiBl, isiLst, isiTup, isiObj, or2, nm, mvarF, mchain, mop2, dAddX, dAddS, mrev, lstD, mrevA, mpar3, stPar3, List.findIdx?_cons, List.findIdx?_nil, d1, d2, cp, cp1, hzn, absD, TW.intOf]
  · have ez : ((z.natAbs : Nat) : Int) = z := by omega
    rw [ez]
    simp [lb__law_bag_1, fnD, ms, mseq, mbind, mret, mopt, mbad, mvar, res, strong, strongs, ress, mun, mbin, mbinR, mcb, mcons, mcond, mif, mandV, morV, mnotV, tob, truD, mfld, fldD, putO, mputf, stSet, stSetP, mfrz, mlst, mtup, mslice, mpart, intD, dSl, on1, on2, lenD, absD, TW.intOf, TW.listOf, TW.tupOf, dInt2, dCmp2, dNeg, dIx, dIsN, dNotN, D.isNon, dupFree, argsOf, argOf, Sl.some?, putBack, Opd.isS, Sl.own, Rv.sl, Rv.d, mwalk, walkD, itemsD, mrng, rng1, rng2, rng3, tgName, tgTup, tgCons, tgNil, masg, mpar2, stPar2, isiD, dTy, isiInt, isiBl, isiLst, isiTup, isiObj, or2, nm, mvarF, mchain, mop2, dAddX, dAddS, mrev, lstD, mrevA, mpar3, stPar3, List.findIdx?_cons, List.findIdx?_nil, d1, d2, cp, cp1, hzn, absD, TW.intOf]
theorem cutD_I (p : List Int) (lo hi : Option Int) : cutD (I p) lo hi = I (cutD p lo hi) := by unfold cutD; rw [List.length_map, ← List.map_drop, ← List.map_take]
theorem cutD_len {α : Type} (p : List α) (lo hi : Option Int) : (cutD p lo hi).length ≤ p.length := by unfold cutD; rw [List.length_take, List.length_drop]; omega
theorem mem_cutD {α : Type} {p : List α} {lo hi : Option Int} {x : α} (h : x ∈ cutD p lo hi) : x ∈ p := by unfold cutD at h; exact List.mem_of_mem_drop (List.mem_of_mem_take h)
theorem bits_bd {z : Int} (h : Builtin.Int.intBits z ≤ 1048576) : bd 1048577 z := by
  unfold Builtin.Int.intBits at h
  unfold bd
  by_cases h0 : z.natAbs = 0
  · rw [h0]; exact Nat.pow_pos (by decide)
  · rw [if_neg (by simpa using h0)] at h
    exact Nat.lt_of_lt_of_le ((Nat.log2_lt h0).mp (by omega : z.natAbs.log2 < 1048576)) (Nat.pow_le_pow_right (by decide) (by omega))
theorem bag_ok (fu : Nat) {ns : List Int} (hl : ns.length ≤ 63) (hb : ∀ z ∈ ns, Builtin.Int.intBits z ≤ 1048576) :
    ∃ b, d__law_bag fu [.v (.arg (I ns))] = .ret (.l b) [.v (.arg (I ns))] ∧ Bg 0 b := by
  have hcl := cutD_len ns none (some 40)
  have hi : li__law_bag_1 fu [.v (.arg (I ns)), .v (.int 137), .no] = .ok (I (cutD ns none (some 40))) [.v (.arg (I ns)), .v (.int 137), .no] := by
    have e := cutD_I ns none (some 40)
    simp [li__law_bag_1, fnD, ms, mseq, mbind, mret, mopt, mbad, mvar, res, strong, strongs, ress, mun, mbin, mbinR, mcb, mcons, mcond, mif, mandV, morV, mnotV, tob, truD, mfld, fldD, putO, mputf, stSet, stSetP, mfrz, mlst, mtup, mslice, mpart, intD, dSl, on1, on2, lenD, absD, TW.intOf, TW.listOf, TW.tupOf, dInt2, dCmp2, dNeg, dIx, dIsN, dNotN, D.isNon, dupFree, argsOf, argOf, Sl.some?, putBack, Opd.isS, Sl.own, Rv.sl, Rv.d, mwalk, walkD, itemsD, mrng, rng1, rng2, rng3, tgName, tgTup, tgCons, tgNil, masg, mpar2, stPar2, isiD, dTy, isiInt, isiBl, isiLst, isiTup, isiObj, or2, nm, mvarF, mchain, mop2, dAddX, dAddS, mrev, lstD, mrevA, mpar3, stPar3, List.findIdx?_cons, List.findIdx?_nil, e]
  obtain ⟨s', es, n, x, rfl, h0, hn⟩ := for_ok (fi := li__law_bag_1 fu) (tm := tgName 2) (bd := lb__law_bag_1 fu) (fun i s => ∃ n x, s = [.v (.arg (I ns)), .v (.int n), x] ∧ (x.own = false) ∧ (0 : Int) ≤ n ∧ n < 2 ^ (1000 + 21 * i)) hi ⟨137, .no, rfl, rfl, by omega, by decide +kernel⟩ fun j d s hj hP => by
    obtain ⟨n, x, rfl, hx, h0, hn⟩ := hP
    obtain ⟨z, hz, rfl⟩ := I_at hj
    have hjl := (List.getElem?_eq_some_iff.mp hj).1
    rw [I_len] at hjl
    obtain ⟨n', e, h1, h2⟩ := bag_step fu (ns := ns) (x := .no) (i := j) (bits_bd (hb z (mem_cutD (List.mem_of_getElem? hz)))) h0 hn (by omega)
    refine ⟨_, _, ?_, e, n', _, rfl, rfl, h1, h2⟩
    simp [tgName, hx]
  have el : l__law_bag_1 fu [.v (.arg (I ns)), .v (.int 137), .no] = .nx [.v (.arg (I ns)), .v (.int n), x] := es
  have hm := mod_small n (m := 998244353) (by decide)
  refine ⟨I [n, 0, n % 998244353], ?_, n, 0, n % 998244353, rfl, by omega, by omega, hm.1, hm.2⟩
  simp [d__law_bag, b__law_bag, fnD, ms, mseq, mbind, mret, mopt, mbad, mvar, res, strong, strongs, ress, mun, mbin, mbinR, mcb, mcons, mcond, mif, mandV, morV, mnotV, tob, truD, mfld, fldD, putO, mputf, stSet, stSetP, mfrz, mlst, mtup, mslice, mpart, intD, dSl, on1, on2, lenD, absD, TW.intOf, TW.listOf, TW.tupOf, dInt2, dCmp2, dNeg, dIx, dIsN, dNotN, D.isNon, dupFree, argsOf, argOf, Sl.some?, putBack, Opd.isS, Sl.own, Rv.sl, Rv.d, mwalk, walkD, itemsD, mrng, rng1, rng2, rng3, tgName, tgTup, tgCons, tgNil, masg, mpar2, stPar2, isiD, dTy, isiInt, isiBl, isiLst, isiTup, isiObj, or2, nm, mvarF, mchain, mop2, dAddX, dAddS, mrev, lstD, mrevA, mpar3, stPar3, List.findIdx?_cons, List.findIdx?_nil, el, TW.intOf]
end K01

set_option linter.all false
set_option autoImplicit false
set_option maxRecDepth 100000
set_option maxHeartbeats 4000000
namespace K01
open PySem TW L2
/-! ## are_integers -/
def okD : D → Bool
  | .lst ds => decide (ds.length ≤ 1000000) && ds.all plainD
  | .tup ds => decide (ds.length ≤ 1000000) && ds.all plainD
  | .arg _ => false
  | d => plainD d
def allI : D → Bool
  | .lst ds => ds.all isI
  | .tup ds => ds.all isI
  | _ => false
theorem blsD_map : ∀ bs : List Bool, blsD (bs.map D.bl) = some bs
  | [] => rfl
  | b :: bs => by rw [List.map_cons]; unfold blsD; rw [blsD_map bs]; rfl
theorem all_bls (bs : List Bool) : onBls (fun bs => bs.all id) (.lst (bs.map D.bl)) = some (.v (.bl (bs.all id))) := by
  unfold onBls; dsimp only; rw [blsD_map]; rfl
theorem ev_c_are (fu : Nat) {d : D} {ds : List D} (h : d = .lst ds ∨ d = .tup ds) (hl : ds.length ≤ 1000000) (hp : ds.all plainD = true) : c_are_integers_1 fu [.v d, .no] = .ok (.l ((ds.map isI).map D.bl)) [.v d, .no] := by
  have hm : ci_are_integers_1 fu [.v d, .no] = .ok ds [.v d, .no] := by
    rcases h with rfl | rfl <;> rfl
  obtain ⟨acc, s', e, ⟨hs, ha⟩, _⟩ := comp_ok (vs := [1]) (tm := tgName 1) (tt := ct_are_integers_1 fu) (te := ce_are_integers_1 fu) (fun i acc s => s = [.v d, .no] ∧ acc = ((ds.take i).map isI).map D.bl) ds 0 [] [.v d, .no] ⟨rfl, rfl⟩ (by simp; omega) fun j x acc s hj hP => by
    obtain ⟨rfl, rfl⟩ := hP
    have hx := List.all_eq_true.mp hp x (List.mem_of_getElem? hj)
    refine ⟨[.v d, .v x], true, _, rfl, rfl, .inr ⟨.bl (isI x), [.v d, .v x], rfl, ?_, rfl, rfl, ?_⟩⟩
    · have e := ev_is_integer fu hx
      simp [ce_are_integers_1, mcall, e, fnD, ms, mseq, mbind, mret, mopt, mbad, mvar, res, strong, strongs, ress, mun, mbin, mbinR, mcb, mcons, mcond, mif, mandV, morV, mnotV, tob, truD, mfld, fldD, putO, mputf, stSet, stSetP, mfrz, mlst, mtup, mslice, mpart, intD, dSl, on1, on2, lenD, absD, TW.intOf, TW.listOf, TW.tupOf, dInt2, dCmp2, dNeg, dIx, dIsN, dNotN, D.isNon, dupFree, argsOf, argOf, Sl.some?, putBack, Opd.isS, Sl.own, Rv.sl, Rv.d, mwalk, walkD, itemsD, mrng, rng1, rng2, rng3, tgName, tgTup, tgCons, tgNil, masg, mpar2, stPar2, isiD, dTy, isiInt, isiBl, isiLst, isiTup, isiObj, or2, nm, mvarF, mchain, mop2, dAddX, dAddS, mrev, lstD, mrevA, mpar3, stPar3, List.findIdx?_cons, List.findIdx?_nil]
    · rw [Nat.zero_add, List.take_succ, hj]; simp
  subst hs; subst ha
  unfold c_are_integers_1 mlc; rw [mb_k hm]
  rw [if_pos (by rfl)]
  have e' : compD [1] (tgName 1) (ct_are_integers_1 fu) (ce_are_integers_1 fu) ds [] (wipeS [.v d, .no] [1]) = .ok (((ds.take (0 + ds.length)).map isI).map D.bl) [.v d, .no] := e
  rw [e', Nat.zero_add, List.take_length]; rfl
theorem all_map (ds : List D) : (ds.map isI).all id = ds.all isI := by rw [List.all_map]; rfl
theorem ev_are_integers (fu : Nat) {d : D} (h : okD d = true) : d_are_integers fu [.v d] = .ret (.v (.bl (allI d))) [.v d] := by
  cases d with
  | lst ds =>
    obtain ⟨h1, h2⟩ := Bool.and_eq_true_iff.mp h
    have hc := ev_c_are fu (.inl rfl) (of_decide_eq_true h1) h2
    have hb := all_bls (ds.map isI)
    rw [all_map] at hb
    generalize (ds.map isI).map D.bl = w at *
    simp [d_are_integers, b_are_integers, fnD, ms, mseq, mbind, mret, mopt, mbad, mvar, res, strong, strongs, ress, mun, mbin, mbinR, mcb, mcons, mcond, mif, mandV, morV, mnotV, tob, truD, mfld, fldD, putO, mputf, stSet, stSetP, mfrz, mlst, mtup, mslice, mpart, intD, dSl, on1, on2, lenD, absD, TW.intOf, TW.listOf, TW.tupOf, dInt2, dCmp2, dNeg, dIx, dIsN, dNotN, D.isNon, dupFree, argsOf, argOf, Sl.some?, putBack, Opd.isS, Sl.own, Rv.sl, Rv.d, mwalk, walkD, itemsD, mrng, rng1, rng2, rng3, tgName, tgTup, tgCons, tgNil, masg, mpar2, stPar2, isiD, dTy, isiInt, isiBl, isiLst, isiTup, isiObj, or2, nm, mvarF, mchain, mop2, dAddX, dAddS, mrev, lstD, mrevA, mpar3, stPar3, List.findIdx?_cons, List.findIdx?_nil, hc, hb, allI, Ty]
  | tup ds =>
    obtain ⟨h1, h2⟩ := Bool.and_eq_true_iff.mp h
    have hc := ev_c_are fu (.inr rfl) (of_decide_eq_true h1) h2
    have hb := all_bls (ds.map isI)
    rw [all_map] at hb
    generalize (ds.map isI).map D.bl = w at *
    simp [d_are_integers, b_are_integers, fnD, ms, mseq, mbind, mret, mopt, mbad, mvar, res, strong, strongs, ress, mun, mbin, mbinR, mcb, mcons, mcond, mif, mandV, morV, mnotV, tob, truD, mfld, fldD, putO, mputf, stSet, stSetP, mfrz, mlst, mtup, mslice, mpart, intD, dSl, on1, on2, lenD, absD, TW.intOf, TW.listOf, TW.tupOf, dInt2, dCmp2, dNeg, dIx, dIsN, dNotN, D.isNon, dupFree, argsOf, argOf, Sl.some?, putBack, Opd.isS, Sl.own, Rv.sl, Rv.d, mwalk, walkD, itemsD, mrng, rng1, rng2, rng3, tgName, tgTup, tgCons, tgNil, masg, mpar2, stPar2, isiD, dTy, isiInt, isiBl, isiLst, isiTup, isiObj, or2, nm, mvarF, mchain, mop2, dAddX, dAddS, mrev, lstD, mrevA, mpar3, stPar3, List.findIdx?_cons, List.findIdx?_nil, hc, hb, allI, Ty]
  | arg ds => cases h
  | obj c ds => simp [okD, plainD] at h
  | exc a x c ds => simp [okD, plainD] at h
  | _ => simp [d_are_integers, b_are_integers, fnD, ms, mseq, mbind, mret, mopt, mbad, mvar, res, strong, strongs, ress, mun, mbin, mbinR, mcb, mcons, mcond, mif, mandV, morV, mnotV, tob, truD, mfld, fldD, putO, mputf, stSet, stSetP, mfrz, mlst, mtup, mslice, mpart, intD, dSl, on1, on2, lenD, absD, TW.intOf, TW.listOf, TW.tupOf, dInt2, dCmp2, dNeg, dIx, dIsN, dNotN, D.isNon, dupFree, argsOf, argOf, Sl.some?, putBack, Opd.isS, Sl.own, Rv.sl, Rv.d, mwalk, walkD, itemsD, mrng, rng1, rng2, rng3, tgName, tgTup, tgCons, tgNil, masg, mpar2, stPar2, isiD, dTy, isiInt, isiBl, isiLst, isiTup, isiObj, or2, nm, mvarF, mchain, mop2, dAddX, dAddS, mrev, lstD, mrevA, mpar3, stPar3, List.findIdx?_cons, List.findIdx?_nil, allI, Ty]
/-! ## measure -/
def rowD (d : D) (p : List Int) : Prop := d = .lst (I p) ∨ d = .tup (I p)
def gcdL (p : List Int) : Nat := p.foldl (fun a z => Nat.gcd a z.natAbs) 0
theorem ev_lt_measure (fu : Nat) (d v : D) (a : Sl) (g : Int) (x y : Int) : lt_measure_1 fu [.v d, .v (.int g), a, .v (.int x), .v (.int y)] = .ok (!decide (y = 0)) [.v d, .v (.int g), a, .v (.int x), .v (.int y)] := by
  simp [lt_measure_1, fnD, ms, mseq, mbind, mret, mopt, mbad, mvar, res, strong, strongs, ress, mun, mbin, mbinR, mcb, mcons, mcond, mif, mandV, morV, mnotV, tob, truD, mfld, fldD, putO, mputf, stSet, stSetP, mfrz, mlst, mtup, mslice, mpart, intD, dSl, on1, on2, lenD, absD, TW.intOf, TW.listOf, TW.tupOf, dInt2, dCmp2, dNeg, dIx, dIsN, dNotN, D.isNon, dupFree, argsOf, argOf, Sl.some?, putBack, Opd.isS, Sl.own, Rv.sl, Rv.d, mwalk, walkD, itemsD, mrng, rng1, rng2, rng3, tgName, tgTup, tgCons, tgNil, masg, mpar2, stPar2, isiD, dTy, isiInt, isiBl, isiLst, isiTup, isiObj, or2, nm, mvarF, mchain, mop2, dAddX, dAddS, mrev, lstD, mrevA, mpar3, stPar3, List.findIdx?_cons, List.findIdx?_nil, dNe_int]
theorem ev_lb_measure (fu : Nat) (d : D) (a : Sl) (g : Int) (x y : Int) (hy : 0 < y) : lb_measure_1 fu [.v d, .v (.int g), a, .v (.int x), .v (.int y)] = .nx [.v d, .v (.int g), a, .v (.int y), .v (.int (x % y))] := by
  simp [lb_measure_1, fnD, ms, mseq, mbind, mret, mopt, mbad, mvar, res, strong, strongs, ress, mun, mbin, mbinR, mcb, mcons, mcond, mif, mandV, morV, mnotV, tob, truD, mfld, fldD, putO, mputf, stSet, stSetP, mfrz, mlst, mtup, mslice, mpart, intD, dSl, on1, on2, lenD, absD, TW.intOf, TW.listOf, TW.tupOf, dInt2, dCmp2, dNeg, dIx, dIsN, dNotN, D.isNon, dupFree, argsOf, argOf, Sl.some?, putBack, Opd.isS, Sl.own, Rv.sl, Rv.d, mwalk, walkD, itemsD, mrng, rng1, rng2, rng3, tgName, tgTup, tgCons, tgNil, masg, mpar2, stPar2, isiD, dTy, isiInt, isiBl, isiLst, isiTup, isiObj, or2, nm, mvarF, mchain, mop2, dAddX, dAddS, mrev, lstD, mrevA, mpar3, stPar3, List.findIdx?_cons, List.findIdx?_nil, hy]
theorem ev_l_measure (fu : Nat) (d : D) (a : Sl) (g : Int) {x y : Nat} (hf : y < fu) : l_measure_1 fu [.v d, .v (.int g), a, .v (.int (x : Nat)), .v (.int (y : Nat))] = .nx [.v d, .v (.int g), a, .v (.int (Nat.gcd x y : Nat)), .v (.int 0)] := by
  obtain ⟨s', s0, e, ⟨x', y', rfl, hg⟩, h2⟩ := while_ok (ft := lt_measure_1 fu) (bd := lb_measure_1 fu) (fun s => ∃ x' y' : Nat, s = [.v d, .v (.int g), a, .v (.int (x' : Nat)), .v (.int (y' : Nat))] ∧ Nat.gcd x' y' = Nat.gcd x y) (fun s => match s with | [_, _, _, _, .v (.int z)] => z.natAbs | _ => 0) fu [.v d, .v (.int g), a, .v (.int (x : Nat)), .v (.int (y : Nat))] ⟨x, y, rfl, rfl⟩ (by simpa using hf) fun s hs => by
    obtain ⟨x', y', rfl, hg⟩ := hs
    have et := ev_lt_measure fu d d a g x' y'
    by_cases hy : y' = 0
    · subst hy; exact .inl ⟨_, et⟩
    · rw [decide_eq_false (by omega)] at et
      have hp : 0 < y' := Nat.pos_of_ne_zero hy
      refine .inr ⟨_, _, et, ev_lb_measure fu d a g x' y' (by omega), ⟨y', x' % y', by rw [← Int.natCast_emod], ?_⟩, ?_⟩
      · rw [← hg, Nat.gcd_comm x' y', Nat.gcd_rec y' x', Nat.gcd_comm]
      · show (((x' : Int) % (y' : Int))).natAbs < ((y' : Int)).natAbs
        rw [← Int.natCast_emod, Int.natAbs_natCast, Int.natAbs_natCast]
        exact Nat.mod_lt _ hp
  rw [ev_lt_measure fu d d] at h2
  injection h2 with h3 h4
  have hy : y' = 0 := by
    by_cases z : (y' : Int) = 0
    · omega
    · rw [decide_eq_false z] at h3; cases h3
  subst hy
  rw [Nat.gcd_zero_right] at hg
  subst hg
  subst h4
  exact e
end K01

set_option linter.all false
set_option autoImplicit false
set_option maxRecDepth 100000
set_option maxHeartbeats 4000000
namespace K01
open PySem TW L2
theorem absN (z : Int) : (if z < 0 then -z else z) = ((z.natAbs : Nat) : Int) := by by_cases h : z < 0 <;> simp [h] <;> omega
theorem ev_lb_measure2 (fu : Nat) (d : D) (a b : Sl) {g : Nat} {z : Int} (ha : a.own = false) (hb : b.own = false) (hf : z.natAbs < fu) : lb_measure_2 fu [.v d, .v (.int (g : Nat)), .v (.int z), a, b] = .nx [.v d, .v (.int (Nat.gcd g z.natAbs : Nat)), .v (.int z), .v (.int (Nat.gcd g z.natAbs : Nat)), .v (.int 0)] := by
  have e := ev_l_measure fu d (.v (.int z)) (g : Nat) (x := g) (y := z.natAbs) hf
  simp [lb_measure_2, fnD, ms, mseq, mbind, mret, mopt, mbad, mvar, res, strong, strongs, ress, mun, mbin, mbinR, mcb, mcons, mcond, mif, mandV, morV, mnotV, tob, truD, mfld, fldD, putO, mputf, stSet, stSetP, mfrz, mlst, mtup, mslice, mpart, intD, dSl, on1, on2, lenD, absD, TW.intOf, TW.listOf, TW.tupOf, dInt2, dCmp2, dNeg, dIx, dIsN, dNotN, D.isNon, dupFree, argsOf, argOf, Sl.some?, putBack, Opd.isS, Sl.own, Rv.sl, Rv.d, mwalk, walkD, itemsD, mrng, rng1, rng2, rng3, tgName, tgTup, tgCons, tgNil, masg, mpar2, stPar2, isiD, dTy, isiInt, isiBl, isiLst, isiTup, isiObj, or2, nm, mvarF, mchain, mop2, dAddX, dAddS, mrev, lstD, mrevA, mpar3, stPar3, List.findIdx?_cons, List.findIdx?_nil, absN, e, ha, hb]
theorem gcdL_snoc (p : List Int) (z : Int) : gcdL (p ++ [z]) = Nat.gcd (gcdL p) z.natAbs := by unfold gcdL; rw [List.foldl_append]; rfl
theorem ev_measure (fu : Nat) {d : D} {p : List Int} (h : rowD d p) (hf : ∀ z ∈ p, z.natAbs < fu) : d_measure fu [.v d] = .ret (.v (.int (gcdL p : Nat))) [.v d] := by
  have hi : li_measure_2 fu [.v d, .v (.int 0), .no, .no, .no] = .ok (I p) [.v d, .v (.int 0), .no, .no, .no] := by
    rcases h with rfl | rfl <;> simp [li_measure_2, fnD, ms, mseq, mbind, mret, mopt, mbad, mvar, res, strong, strongs, ress, mun, mbin, mbinR, mcb, mcons, mcond, mif, mandV, morV, mnotV, tob, truD, mfld, fldD, putO, mputf, stSet, stSetP, mfrz, mlst, mtup, mslice, mpart, intD, dSl, on1, on2, lenD, absD, TW.intOf, TW.listOf, TW.tupOf, dInt2, dCmp2, dNeg, dIx, dIsN, dNotN, D.isNon, dupFree, argsOf, argOf, Sl.some?, putBack, Opd.isS, Sl.own, Rv.sl, Rv.d, mwalk, walkD, itemsD, mrng, rng1, rng2, rng3, tgName, tgTup, tgCons, tgNil, masg, mpar2, stPar2, isiD, dTy, isiInt, isiBl, isiLst, isiTup, isiObj, or2, nm, mvarF, mchain, mop2, dAddX, dAddS, mrev, lstD, mrevA, mpar3, stPar3, List.findIdx?_cons, List.findIdx?_nil]
  obtain ⟨s', es, x, a, b, rfl, _⟩ := for_ok (fi := li_measure_2 fu) (tm := tgName 2) (bd := lb_measure_2 fu) (fun i s => ∃ x a b, s = [.v d, .v (.int (gcdL (p.take i) : Nat)), x, a, b] ∧ x.own = false ∧ a.own = false ∧ b.own = false) hi ⟨.no, .no, .no, rfl, rfl, rfl, rfl⟩ fun j d' s hj hP => by
    obtain ⟨x, a, b, rfl, hx, ha, hb⟩ := hP
    obtain ⟨z, hz, rfl⟩ := I_at hj
    refine ⟨[.v d, .v (.int (gcdL (p.take j) : Nat)), .v (.int z), a, b], _, by simp [tgName, hx], ev_lb_measure2 fu d a b ha hb (hf z (List.mem_of_getElem? hz)), .v (.int z), .v (.int (Nat.gcd (gcdL (p.take j)) z.natAbs : Nat)), .v (.int 0), ?_, rfl, rfl, rfl⟩
    rw [List.take_succ, hz, show (some z).toList = [z] from rfl, gcdL_snoc]
  rw [I_len, List.take_length] at es
  have el : l_measure_2 fu [.v d, .v (.int 0), .no, .no, .no] = .nx [.v d, .v (.int (gcdL p : Nat)), x, a, b] := es
  rcases h with rfl | rfl <;> simp [d_measure, b_measure, fnD, ms, mseq, mbind, mret, mopt, mbad, mvar, res, strong, strongs, ress, mun, mbin, mbinR, mcb, mcons, mcond, mif, mandV, morV, mnotV, tob, truD, mfld, fldD, putO, mputf, stSet, stSetP, mfrz, mlst, mtup, mslice, mpart, intD, dSl, on1, on2, lenD, absD, TW.intOf, TW.listOf, TW.tupOf, dInt2, dCmp2, dNeg, dIx, dIsN, dNotN, D.isNon, dupFree, argsOf, argOf, Sl.some?, putBack, Opd.isS, Sl.own, Rv.sl, Rv.d, mwalk, walkD, itemsD, mrng, rng1, rng2, rng3, tgName, tgTup, tgCons, tgNil, masg, mpar2, stPar2, isiD, dTy, isiInt, isiBl, isiLst, isiTup, isiObj, or2, nm, mvarF, mchain, mop2, dAddX, dAddS, mrev, lstD, mrevA, mpar3, stPar3, List.findIdx?_cons, List.findIdx?_nil, el]
theorem all_isI (p : List Int) : (I p).all isI = true := by
  rw [List.all_eq_true]; intro x hx; obtain ⟨z, _, rfl⟩ := List.mem_map.mp hx; rfl
theorem all_plain (p : List Int) : (I p).all plainD = true := by
  rw [List.all_eq_true]; intro x hx; obtain ⟨z, _, rfl⟩ := List.mem_map.mp hx; rfl
theorem row_ok {d : D} {p : List Int} (h : rowD d p) (hl : p.length ≤ 1000000) : okD d = true ∧ allI d = true := by
  rcases h with rfl | rfl
  · exact ⟨by unfold okD; dsimp only; rw [I_len, decide_eq_true hl, all_plain]; rfl, all_isI p⟩
  · exact ⟨by unfold okD; dsimp only; rw [I_len, decide_eq_true hl, all_plain]; rfl, all_isI p⟩
theorem allI_row {ds : List D} (h : ds.all isI = true) : ∃ p, ds = I p := by
  induction ds with
  | nil => exact ⟨[], rfl⟩
  | cons d r ih =>
    rw [List.all_cons, Bool.and_eq_true] at h
    obtain ⟨p, rfl⟩ := ih h.2
    cases d <;> first | (cases h.1; done) | exact ⟨_ :: p, rfl⟩
theorem allI_D {d : D} (h : allI d = true) : ∃ p, rowD d p := by
  cases d with
  | lst ds => obtain ⟨p, rfl⟩ := allI_row h; exact ⟨p, .inl rfl⟩
  | tup ds => obtain ⟨p, rfl⟩ := allI_row h; exact ⟨p, .inr rfl⟩
  | _ => cases h
/-! ## is_ratio -/
def ratB : List Int → Bool
  | [a, b] => decide (0 < b) && decide (gcdL [a, b] = 1)
  | _ => false
theorem ev_ratio_no (fu : Nat) {d : D} (h : okD d = true) (hn : allI d = false) : d_is_ratio fu [.v d] = .ret (.v (.bl false)) [.v d] := by
  have e := ev_are_integers fu h
  rw [hn] at e
  simp [d_is_ratio, b_is_ratio, mcall, fnD, ms, mseq, mbind, mret, mopt, mbad, mvar, res, strong, strongs, ress, mun, mbin, mbinR, mcb, mcons, mcond, mif, mandV, morV, mnotV, tob, truD, mfld, fldD, putO, mputf, stSet, stSetP, mfrz, mlst, mtup, mslice, mpart, intD, dSl, on1, on2, lenD, absD, TW.intOf, TW.listOf, TW.tupOf, dInt2, dCmp2, dNeg, dIx, dIsN, dNotN, D.isNon, dupFree, argsOf, argOf, Sl.some?, putBack, Opd.isS, Sl.own, Rv.sl, Rv.d, mwalk, walkD, itemsD, mrng, rng1, rng2, rng3, tgName, tgTup, tgCons, tgNil, masg, mpar2, stPar2, isiD, dTy, isiInt, isiBl, isiLst, isiTup, isiObj, or2, nm, mvarF, mchain, mop2, dAddX, dAddS, mrev, lstD, mrevA, mpar3, stPar3, List.findIdx?_cons, List.findIdx?_nil, e]
theorem ev_ratio (fu : Nat) {d : D} {p : List Int} (h : rowD d p) (hl : p.length ≤ 1000000) (hf : ∀ z ∈ p, z.natAbs < fu) : d_is_ratio fu [.v d] = .ret (.v (.bl (ratB p))) [.v d] := by
  obtain ⟨h1, h2⟩ := row_ok h hl
  have e := ev_are_integers fu h1
  rw [h2] at e
  have em := ev_measure fu h hf
  by_cases hc : p.length = 2
  · obtain ⟨a, b, rfl⟩ : ∃ a b, p = [a, b] := by
      match p, hc with
      | [a, b], _ => exact ⟨a, b, rfl⟩
    have eg : decide ((gcdL [a, b] : Int) = 1) = decide (gcdL [a, b] = 1) := by
      by_cases q : gcdL [a, b] = 1
      · rw [q]; rfl
      · rw [decide_eq_false q, decide_eq_false (by omega)]
    rcases h with rfl | rfl
    · simp only [I, List.map_cons, List.map_nil] at e em ⊢
      by_cases hb : 0 < b <;> simp [d_is_ratio, b_is_ratio, mcall, fnD, ms, mseq, mbind, mret, mopt, mbad, mvar, res, strong, strongs, ress, mun, mbin, mbinR, mcb, mcons, mcond, mif, mandV, morV, mnotV, tob, truD, mfld, fldD, putO, mputf, stSet, stSetP, mfrz, mlst, mtup, mslice, mpart, intD, dSl, on1, on2, lenD, absD, TW.intOf, TW.listOf, TW.tupOf, dInt2, dCmp2, dNeg, dIx, dIsN, dNotN, D.isNon, dupFree, argsOf, argOf, Sl.some?, putBack, Opd.isS, Sl.own, Rv.sl, Rv.d, mwalk, walkD, itemsD, mrng, rng1, rng2, rng3, tgName, tgTup, tgCons, tgNil, masg, mpar2, stPar2, isiD, dTy, isiInt, isiBl, isiLst, isiTup, isiObj, or2, nm, mvarF, mchain, mop2, dAddX, dAddS, mrev, lstD, mrevA, mpar3, stPar3, List.findIdx?_cons, List.findIdx?_nil, e, em, dNe_int, dEq_int, atI, ixN, hb, ratB, eg]
    · simp only [I, List.map_cons, List.map_nil] at e em ⊢
      by_cases hb : 0 < b <;> simp [d_is_ratio, b_is_ratio, mcall, fnD, ms, mseq, mbind, mret, mopt, mbad, mvar, res, strong, strongs, ress, mun, mbin, mbinR, mcb, mcons, mcond, mif, mandV, morV, mnotV, tob, truD, mfld, fldD, putO, mputf, stSet, stSetP, mfrz, mlst, mtup, mslice, mpart, intD, dSl, on1, on2, lenD, absD, TW.intOf, TW.listOf, TW.tupOf, dInt2, dCmp2, dNeg, dIx, dIsN, dNotN, D.isNon, dupFree, argsOf, argOf, Sl.some?, putBack, Opd.isS, Sl.own, Rv.sl, Rv.d, mwalk, walkD, itemsD, mrng, rng1, rng2, rng3, tgName, tgTup, tgCons, tgNil, masg, mpar2, stPar2, isiD, dTy, isiInt, isiBl, isiLst, isiTup, isiObj, or2, nm, mvarF, mchain, mop2, dAddX, dAddS, mrev, lstD, mrevA, mpar3, stPar3, List.findIdx?_cons, List.findIdx?_nil, e, em, dNe_int, dEq_int, atI, ixN, hb, ratB, eg]
  · have hr : ratB p = false := by
      match p, hc with
      | [], _ => rfl
      | [_], _ => rfl
      | [_, _], hc => exact absurd rfl hc
      | _ :: _ :: _ :: _, _ => rfl
    rw [hr]
    have hc' : ¬ (p.length : Int) = 2 := by omega
    rcases h with rfl | rfl <;> simp [d_is_ratio, b_is_ratio, mcall, fnD, ms, mseq, mbind, mret, mopt, mbad, mvar, res, strong, strongs, ress, mun, mbin, mbinR, mcb, mcons, mcond, mif, mandV, morV, mnotV, tob, truD, mfld, fldD, putO, mputf, stSet, stSetP, mfrz, mlst, mtup, mslice, mpart, intD, dSl, on1, on2, lenD, absD, TW.intOf, TW.listOf, TW.tupOf, dInt2, dCmp2, dNeg, dIx, dIsN, dNotN, D.isNon, dupFree, argsOf, argOf, Sl.some?, putBack, Opd.isS, Sl.own, Rv.sl, Rv.d, mwalk, walkD, itemsD, mrng, rng1, rng2, rng3, tgName, tgTup, tgCons, tgNil, masg, mpar2, stPar2, isiD, dTy, isiInt, isiBl, isiLst, isiTup, isiObj, or2, nm, mvarF, mchain, mop2, dAddX, dAddS, mrev, lstD, mrevA, mpar3, stPar3, List.findIdx?_cons, List.findIdx?_nil, e, em, dNe_int, dEq_int, hc']
end K01

set_option linter.all false
set_option autoImplicit false
set_option maxRecDepth 100000
set_option maxHeartbeats 4000000
namespace K01
open PySem TW L2
open PyProof.Rows (b2i)
theorem ev_need_int (fu : Nat) (z : Int) (x : Str) : d_need_number fu [.v (.int z), .v (.str x), .v .non, .v .non] = .ret (.v .non) [.v (.int z), .v (.str x), .v .non, .v .non] := by
  have e := ev_within fu z none none
  simp only [bnd, inB, Bool.and_self] at e
  simp [d_need_number, b_need_number, mcall, fnD, ms, mseq, mbind, mret, mopt, mbad, mvar, res, strong, strongs, ress, mun, mbin, mbinR, mcb, mcons, mcond, mif, mandV, morV, mnotV, tob, truD, mfld, fldD, putO, mputf, stSet, stSetP, mfrz, mlst, mtup, mslice, mpart, intD, dSl, on1, on2, lenD, absD, TW.intOf, TW.listOf, TW.tupOf, dInt2, dCmp2, dNeg, dIx, dIsN, dNotN, D.isNon, dupFree, argsOf, argOf, Sl.some?, putBack, Opd.isS, Sl.own, Rv.sl, Rv.d, mwalk, walkD, itemsD, mrng, rng1, rng2, rng3, tgName, tgTup, tgCons, tgNil, masg, mpar2, stPar2, isiD, dTy, isiInt, isiBl, isiLst, isiTup, isiObj, or2, nm, mvarF, mchain, mop2, dAddX, dAddS, mrev, lstD, mrevA, mpar3, stPar3, List.findIdx?_cons, List.findIdx?_nil, e, mraise]
theorem ev_need_odd (fu : Nat) {d : D} (x : Str) (h : plainD d = true) (hi : isI d = false) : d_need_number fu [.v d, .v (.str x), .v .non, .v .non] = .ex 101 [.str x] [.v d, .v (.str x), .v .non, .v .non] := by
  have e := ev_within_no fu (lo := .non) (hi := .non) h hi
  simp [d_need_number, b_need_number, mcall, fnD, ms, mseq, mbind, mret, mopt, mbad, mvar, res, strong, strongs, ress, mun, mbin, mbinR, mcb, mcons, mcond, mif, mandV, morV, mnotV, tob, truD, mfld, fldD, putO, mputf, stSet, stSetP, mfrz, mlst, mtup, mslice, mpart, intD, dSl, on1, on2, lenD, absD, TW.intOf, TW.listOf, TW.tupOf, dInt2, dCmp2, dNeg, dIx, dIsN, dNotN, D.isNon, dupFree, argsOf, argOf, Sl.some?, putBack, Opd.isS, Sl.own, Rv.sl, Rv.d, mwalk, walkD, itemsD, mrng, rng1, rng2, rng3, tgName, tgTup, tgCons, tgNil, masg, mpar2, stPar2, isiD, dTy, isiInt, isiBl, isiLst, isiTup, isiObj, or2, nm, mvarF, mchain, mop2, dAddX, dAddS, mrev, lstD, mrevA, mpar3, stPar3, List.findIdx?_cons, List.findIdx?_nil, e, mraise]
theorem ev_needs (fu : Nat) {d : D} (x : Str) (h : okD d = true) (hi : allI d = true) : d_need_numbers fu [.v d, .v (.str x)] = .ret (.v .non) [.v d, .v (.str x)] := by
  have e := ev_are_integers fu h
  rw [hi] at e
  simp [d_need_numbers, b_need_numbers, mcall, fnD, ms, mseq, mbind, mret, mopt, mbad, mvar, res, strong, strongs, ress, mun, mbin, mbinR, mcb, mcons, mcond, mif, mandV, morV, mnotV, tob, truD, mfld, fldD, putO, mputf, stSet, stSetP, mfrz, mlst, mtup, mslice, mpart, intD, dSl, on1, on2, lenD, absD, TW.intOf, TW.listOf, TW.tupOf, dInt2, dCmp2, dNeg, dIx, dIsN, dNotN, D.isNon, dupFree, argsOf, argOf, Sl.some?, putBack, Opd.isS, Sl.own, Rv.sl, Rv.d, mwalk, walkD, itemsD, mrng, rng1, rng2, rng3, tgName, tgTup, tgCons, tgNil, masg, mpar2, stPar2, isiD, dTy, isiInt, isiBl, isiLst, isiTup, isiObj, or2, nm, mvarF, mchain, mop2, dAddX, dAddS, mrev, lstD, mrevA, mpar3, stPar3, List.findIdx?_cons, List.findIdx?_nil, e, mraise]
theorem ev_needs_odd (fu : Nat) {d : D} (x : Str) (h : okD d = true) (hi : allI d = false) : d_need_numbers fu [.v d, .v (.str x)] = .ex 101 [.str x] [.v d, .v (.str x)] := by
  have e := ev_are_integers fu h
  rw [hi] at e
  simp [d_need_numbers, b_need_numbers, mcall, fnD, ms, mseq, mbind, mret, mopt, mbad, mvar, res, strong, strongs, ress, mun, mbin, mbinR, mcb, mcons, mcond, mif, mandV, morV, mnotV, tob, truD, mfld, fldD, putO, mputf, stSet, stSetP, mfrz, mlst, mtup, mslice, mpart, intD, dSl, on1, on2, lenD, absD, TW.intOf, TW.listOf, TW.tupOf, dInt2, dCmp2, dNeg, dIx, dIsN, dNotN, D.isNon, dupFree, argsOf, argOf, Sl.some?, putBack, Opd.isS, Sl.own, Rv.sl, Rv.d, mwalk, walkD, itemsD, mrng, rng1, rng2, rng3, tgName, tgTup, tgCons, tgNil, masg, mpar2, stPar2, isiD, dTy, isiInt, isiBl, isiLst, isiTup, isiObj, or2, nm, mvarF, mchain, mop2, dAddX, dAddS, mrev, lstD, mrevA, mpar3, stPar3, List.findIdx?_cons, List.findIdx?_nil, e, mraise]
theorem ev_divisor (fu : Nat) {d : D} {p : List Int} (h : rowD d p) (hl : p.length ≤ 1000000) (hf : ∀ z ∈ p, z.natAbs < fu) : d_common_divisor fu [.v d] = .ret (.v (.int (gcdL p : Nat))) [.v d] := by
  obtain ⟨h1, h2⟩ := row_ok h hl
  have e := ev_needs fu "values" h1 h2
  have em := ev_measure fu h hf
  simp [d_common_divisor, b_common_divisor, mcall, fnD, ms, mseq, mbind, mret, mopt, mbad, mvar, res, strong, strongs, ress, mun, mbin, mbinR, mcb, mcons, mcond, mif, mandV, morV, mnotV, tob, truD, mfld, fldD, putO, mputf, stSet, stSetP, mfrz, mlst, mtup, mslice, mpart, intD, dSl, on1, on2, lenD, absD, TW.intOf, TW.listOf, TW.tupOf, dInt2, dCmp2, dNeg, dIx, dIsN, dNotN, D.isNon, dupFree, argsOf, argOf, Sl.some?, putBack, Opd.isS, Sl.own, Rv.sl, Rv.d, mwalk, walkD, itemsD, mrng, rng1, rng2, rng3, tgName, tgTup, tgCons, tgNil, masg, mpar2, stPar2, isiD, dTy, isiInt, isiBl, isiLst, isiTup, isiObj, or2, nm, mvarF, mchain, mop2, dAddX, dAddS, mrev, lstD, mrevA, mpar3, stPar3, List.findIdx?_cons, List.findIdx?_nil, e, em]
theorem ev_divisor_odd (fu : Nat) {d : D} (h : okD d = true) (hi : allI d = false) : d_common_divisor fu [.v d] = .ex 101 [.str "values"] [.v d] := by
  have e := ev_needs_odd fu "values" h hi
  simp [d_common_divisor, b_common_divisor, mcall, fnD, ms, mseq, mbind, mret, mopt, mbad, mvar, res, strong, strongs, ress, mun, mbin, mbinR, mcb, mcons, mcond, mif, mandV, morV, mnotV, tob, truD, mfld, fldD, putO, mputf, stSet, stSetP, mfrz, mlst, mtup, mslice, mpart, intD, dSl, on1, on2, lenD, absD, TW.intOf, TW.listOf, TW.tupOf, dInt2, dCmp2, dNeg, dIx, dIsN, dNotN, D.isNon, dupFree, argsOf, argOf, Sl.some?, putBack, Opd.isS, Sl.own, Rv.sl, Rv.d, mwalk, walkD, itemsD, mrng, rng1, rng2, rng3, tgName, tgTup, tgCons, tgNil, masg, mpar2, stPar2, isiD, dTy, isiInt, isiBl, isiLst, isiTup, isiObj, or2, nm, mvarF, mchain, mop2, dAddX, dAddS, mrev, lstD, mrevA, mpar3, stPar3, List.findIdx?_cons, List.findIdx?_nil, e]
/-! ## lowest -/
def sharedI (a b : Int) : Int := if 0 < b then (gcdL [a, b] : Int) else -(gcdL [a, b] : Int)
def lowA (a b : Int) : Int := a.fdiv (sharedI a b)
def lowB (a b : Int) : Int := b.fdiv (sharedI a b)
theorem gcd2 (a b : Int) : gcdL [a, b] = Nat.gcd a.natAbs b.natAbs := by unfold gcdL; simp
theorem ev_in_lowest (fu : Nat) {a b : Int} (hb : b ≠ 0) (ha : a.natAbs < fu) (hbf : b.natAbs < fu) (hl : b.natAbs.log2 < 9000) : d_in_lowest fu [.v (.int a), .v (.int b)] = .ret (.v (.tup [.int (lowA a b), .int (lowB a b)])) [.v (.int a), .v (.int b)] := by
  have em := ev_measure fu (d := .lst (I [a, b])) (p := [a, b]) (.inl rfl) (by simp [ha, hbf])
  have hg0 : gcdL [a, b] ≠ 0 := by rw [gcd2]; intro z; have := Nat.eq_zero_of_gcd_eq_zero_right z; omega
  have hgl : (gcdL [a, b]).log2 < 9000 := by
    have h1 : gcdL [a, b] ≤ b.natAbs := by rw [gcd2]; exact Nat.gcd_le_right _ (by omega)
    have h2 : b.natAbs < 2 ^ 9000 := (Nat.log2_lt (by omega)).mp hl
    exact (Nat.log2_lt hg0).mpr (Nat.lt_of_le_of_lt h1 h2)
  simp only [I, List.map_cons, List.map_nil] at em
  have hs : sharedI a b = if 0 < b then (gcdL [a, b] : Int) else -(gcdL [a, b] : Int) := rfl
  generalize gcdL [a, b] = g at *
  by_cases hp : 0 < b
  · rw [if_pos hp] at hs
    simp [d_in_lowest, b_in_lowest, mcall, fnD, ms, mseq, mbind, mret, mopt, mbad, mvar, res, strong, strongs, ress, mun, mbin, mbinR, mcb, mcons, mcond, mif, mandV, morV, mnotV, tob, truD, mfld, fldD, putO, mputf, stSet, stSetP, mfrz, mlst, mtup, mslice, mpart, intD, dSl, on1, on2, lenD, absD, TW.intOf, TW.listOf, TW.tupOf, dInt2, dCmp2, dNeg, dIx, dIsN, dNotN, D.isNon, dupFree, argsOf, argOf, Sl.some?, putBack, Opd.isS, Sl.own, Rv.sl, Rv.d, mwalk, walkD, itemsD, mrng, rng1, rng2, rng3, tgName, tgTup, tgCons, tgNil, masg, mpar2, stPar2, isiD, dTy, isiInt, isiBl, isiLst, isiTup, isiObj, or2, nm, mvarF, mchain, mop2, dAddX, dAddS, mrev, lstD, mrevA, mpar3, stPar3, List.findIdx?_cons, List.findIdx?_nil, em, hp, lowA, lowB, hs, hg0, hgl]
  · rw [if_neg hp] at hs
    simp [d_in_lowest, b_in_lowest, mcall, fnD, ms, mseq, mbind, mret, mopt, mbad, mvar, res, strong, strongs, ress, mun, mbin, mbinR, mcb, mcons, mcond, mif, mandV, morV, mnotV, tob, truD, mfld, fldD, putO, mputf, stSet, stSetP, mfrz, mlst, mtup, mslice, mpart, intD, dSl, on1, on2, lenD, absD, TW.intOf, TW.listOf, TW.tupOf, dInt2, dCmp2, dNeg, dIx, dIsN, dNotN, D.isNon, dupFree, argsOf, argOf, Sl.some?, putBack, Opd.isS, Sl.own, Rv.sl, Rv.d, mwalk, walkD, itemsD, mrng, rng1, rng2, rng3, tgName, tgTup, tgCons, tgNil, masg, mpar2, stPar2, isiD, dTy, isiInt, isiBl, isiLst, isiTup, isiObj, or2, nm, mvarF, mchain, mop2, dAddX, dAddS, mrev, lstD, mrevA, mpar3, stPar3, List.findIdx?_cons, List.findIdx?_nil, em, hp, lowA, lowB, hs, hg0, hgl]
theorem ev_lowest (fu : Nat) {a b : Int} (hb : b ≠ 0) (ha : a.natAbs < fu) (hbf : b.natAbs < fu) (hl : b.natAbs.log2 < 9000) : d_lowest fu [.v (.int a), .v (.int b)] = .ret (.v (.tup [.int (lowA a b), .int (lowB a b)])) [.v (.int a), .v (.int b)] := by
  have e1 := ev_need_int fu a "number"
  have e2 := ev_need_int fu b "by"
  have e3 := ev_in_lowest fu hb ha hbf hl
  simp [d_lowest, b_lowest, mcall, fnD, ms, mseq, mbind, mret, mopt, mbad, mvar, res, strong, strongs, ress, mun, mbin, mbinR, mcb, mcons, mcond, mif, mandV, morV, mnotV, tob, truD, mfld, fldD, putO, mputf, stSet, stSetP, mfrz, mlst, mtup, mslice, mpart, intD, dSl, on1, on2, lenD, absD, TW.intOf, TW.listOf, TW.tupOf, dInt2, dCmp2, dNeg, dIx, dIsN, dNotN, D.isNon, dupFree, argsOf, argOf, Sl.some?, putBack, Opd.isS, Sl.own, Rv.sl, Rv.d, mwalk, walkD, itemsD, mrng, rng1, rng2, rng3, tgName, tgTup, tgCons, tgNil, masg, mpar2, stPar2, isiD, dTy, isiInt, isiBl, isiLst, isiTup, isiObj, or2, nm, mvarF, mchain, mop2, dAddX, dAddS, mrev, lstD, mrevA, mpar3, stPar3, List.findIdx?_cons, List.findIdx?_nil, e1, e2, e3, dEq_int, hb, mraise]
theorem ev_lowest_n (fu : Nat) {d : D} (b : D) (h : plainD d = true) (hi : isI d = false) : d_lowest fu [.v d, .v b] = .ex 101 [.str "number"] [.v d, .v b] := by
  have e1 := ev_need_odd fu "number" h hi
  simp [d_lowest, b_lowest, mcall, fnD, ms, mseq, mbind, mret, mopt, mbad, mvar, res, strong, strongs, ress, mun, mbin, mbinR, mcb, mcons, mcond, mif, mandV, morV, mnotV, tob, truD, mfld, fldD, putO, mputf, stSet, stSetP, mfrz, mlst, mtup, mslice, mpart, intD, dSl, on1, on2, lenD, absD, TW.intOf, TW.listOf, TW.tupOf, dInt2, dCmp2, dNeg, dIx, dIsN, dNotN, D.isNon, dupFree, argsOf, argOf, Sl.some?, putBack, Opd.isS, Sl.own, Rv.sl, Rv.d, mwalk, walkD, itemsD, mrng, rng1, rng2, rng3, tgName, tgTup, tgCons, tgNil, masg, mpar2, stPar2, isiD, dTy, isiInt, isiBl, isiLst, isiTup, isiObj, or2, nm, mvarF, mchain, mop2, dAddX, dAddS, mrev, lstD, mrevA, mpar3, stPar3, List.findIdx?_cons, List.findIdx?_nil, e1]
theorem ev_lowest_b (fu : Nat) (a : Int) {d : D} (h : plainD d = true) (hi : isI d = false) : d_lowest fu [.v (.int a), .v d] = .ex 101 [.str "by"] [.v (.int a), .v d] := by
  have e1 := ev_need_int fu a "number"
  have e2 := ev_need_odd fu "by" h hi
  simp [d_lowest, b_lowest, mcall, fnD, ms, mseq, mbind, mret, mopt, mbad, mvar, res, strong, strongs, ress, mun, mbin, mbinR, mcb, mcons, mcond, mif, mandV, morV, mnotV, tob, truD, mfld, fldD, putO, mputf, stSet, stSetP, mfrz, mlst, mtup, mslice, mpart, intD, dSl, on1, on2, lenD, absD, TW.intOf, TW.listOf, TW.tupOf, dInt2, dCmp2, dNeg, dIx, dIsN, dNotN, D.isNon, dupFree, argsOf, argOf, Sl.some?, putBack, Opd.isS, Sl.own, Rv.sl, Rv.d, mwalk, walkD, itemsD, mrng, rng1, rng2, rng3, tgName, tgTup, tgCons, tgNil, masg, mpar2, stPar2, isiD, dTy, isiInt, isiBl, isiLst, isiTup, isiObj, or2, nm, mvarF, mchain, mop2, dAddX, dAddS, mrev, lstD, mrevA, mpar3, stPar3, List.findIdx?_cons, List.findIdx?_nil, e1, e2]
theorem ev_lowest_0 (fu : Nat) (a : Int) : d_lowest fu [.v (.int a), .v (.int 0)] = .ex 101 [.str "by"] [.v (.int a), .v (.int 0)] := by
  have e1 := ev_need_int fu a "number"
  have e2 := ev_need_int fu 0 "by"
  simp [d_lowest, b_lowest, mcall, fnD, ms, mseq, mbind, mret, mopt, mbad, mvar, res, strong, strongs, ress, mun, mbin, mbinR, mcb, mcons, mcond, mif, mandV, morV, mnotV, tob, truD, mfld, fldD, putO, mputf, stSet, stSetP, mfrz, mlst, mtup, mslice, mpart, intD, dSl, on1, on2, lenD, absD, TW.intOf, TW.listOf, TW.tupOf, dInt2, dCmp2, dNeg, dIx, dIsN, dNotN, D.isNon, dupFree, argsOf, argOf, Sl.some?, putBack, Opd.isS, Sl.own, Rv.sl, Rv.d, mwalk, walkD, itemsD, mrng, rng1, rng2, rng3, tgName, tgTup, tgCons, tgNil, masg, mpar2, stPar2, isiD, dTy, isiInt, isiBl, isiLst, isiTup, isiObj, or2, nm, mvarF, mchain, mop2, dAddX, dAddS, mrev, lstD, mrevA, mpar3, stPar3, List.findIdx?_cons, List.findIdx?_nil, e1, e2, dEq_int, mraise]
/-! ## compared -/
theorem ev_need_ratio (fu : Nat) {d : D} {p : List Int} (x : Str) (h : rowD d p) (hl : p.length ≤ 1000000) (hf : ∀ z ∈ p, z.natAbs < fu) (hr : ratB p = true) : d_need_ratio fu [.v d, .v (.str x)] = .ret (.v .non) [.v d, .v (.str x)] := by
  have e := ev_ratio fu h hl hf
  rw [hr] at e
  simp [d_need_ratio, b_need_ratio, mcall, fnD, ms, mseq, mbind, mret, mopt, mbad, mvar, res, strong, strongs, ress, mun, mbin, mbinR, mcb, mcons, mcond, mif, mandV, morV, mnotV, tob, truD, mfld, fldD, putO, mputf, stSet, stSetP, mfrz, mlst, mtup, mslice, mpart, intD, dSl, on1, on2, lenD, absD, TW.intOf, TW.listOf, TW.tupOf, dInt2, dCmp2, dNeg, dIx, dIsN, dNotN, D.isNon, dupFree, argsOf, argOf, Sl.some?, putBack, Opd.isS, Sl.own, Rv.sl, Rv.d, mwalk, walkD, itemsD, mrng, rng1, rng2, rng3, tgName, tgTup, tgCons, tgNil, masg, mpar2, stPar2, isiD, dTy, isiInt, isiBl, isiLst, isiTup, isiObj, or2, nm, mvarF, mchain, mop2, dAddX, dAddS, mrev, lstD, mrevA, mpar3, stPar3, List.findIdx?_cons, List.findIdx?_nil, e, mraise]
theorem ev_need_ratio_no (fu : Nat) {d : D} (x : Str) (e : d_is_ratio fu [.v d] = .ret (.v (.bl false)) [.v d]) : d_need_ratio fu [.v d, .v (.str x)] = .ex 102 [.str x] [.v d, .v (.str x)] := by
  simp [d_need_ratio, b_need_ratio, mcall, fnD, ms, mseq, mbind, mret, mopt, mbad, mvar, res, strong, strongs, ress, mun, mbin, mbinR, mcb, mcons, mcond, mif, mandV, morV, mnotV, tob, truD, mfld, fldD, putO, mputf, stSet, stSetP, mfrz, mlst, mtup, mslice, mpart, intD, dSl, on1, on2, lenD, absD, TW.intOf, TW.listOf, TW.tupOf, dInt2, dCmp2, dNeg, dIx, dIsN, dNotN, D.isNon, dupFree, argsOf, argOf, Sl.some?, putBack, Opd.isS, Sl.own, Rv.sl, Rv.d, mwalk, walkD, itemsD, mrng, rng1, rng2, rng3, tgName, tgTup, tgCons, tgNil, masg, mpar2, stPar2, isiD, dTy, isiInt, isiBl, isiLst, isiTup, isiObj, or2, nm, mvarF, mchain, mop2, dAddX, dAddS, mrev, lstD, mrevA, mpar3, stPar3, List.findIdx?_cons, List.findIdx?_nil, e, mraise]
theorem ev_compared_1 (fu : Nat) {d : D} (d2 : D) (e : d_is_ratio fu [.v d] = .ret (.v (.bl false)) [.v d]) : d_compared fu [.v d, .v d2] = .ex 102 [.str "one"] [.v d, .v d2] := by
  have e1 := ev_need_ratio_no fu "one" e
  simp [d_compared, b_compared, mcall, fnD, ms, mseq, mbind, mret, mopt, mbad, mvar, res, strong, strongs, ress, mun, mbin, mbinR, mcb, mcons, mcond, mif, mandV, morV, mnotV, tob, truD, mfld, fldD, putO, mputf, stSet, stSetP, mfrz, mlst, mtup, mslice, mpart, intD, dSl, on1, on2, lenD, absD, TW.intOf, TW.listOf, TW.tupOf, dInt2, dCmp2, dNeg, dIx, dIsN, dNotN, D.isNon, dupFree, argsOf, argOf, Sl.some?, putBack, Opd.isS, Sl.own, Rv.sl, Rv.d, mwalk, walkD, itemsD, mrng, rng1, rng2, rng3, tgName, tgTup, tgCons, tgNil, masg, mpar2, stPar2, isiD, dTy, isiInt, isiBl, isiLst, isiTup, isiObj, or2, nm, mvarF, mchain, mop2, dAddX, dAddS, mrev, lstD, mrevA, mpar3, stPar3, List.findIdx?_cons, List.findIdx?_nil, e1]
theorem ev_compared_2 (fu : Nat) {d d2 : D} {p : List Int} (h : rowD d p) (hl : p.length ≤ 1000000) (hf : ∀ z ∈ p, z.natAbs < fu) (hr : ratB p = true) (e : d_is_ratio fu [.v d2] = .ret (.v (.bl false)) [.v d2]) : d_compared fu [.v d, .v d2] = .ex 102 [.str "other"] [.v d, .v d2] := by
  have e1 := ev_need_ratio fu "one" h hl hf hr
  have e2 := ev_need_ratio_no fu "other" e
  simp [d_compared, b_compared, mcall, fnD, ms, mseq, mbind, mret, mopt, mbad, mvar, res, strong, strongs, ress, mun, mbin, mbinR, mcb, mcons, mcond, mif, mandV, morV, mnotV, tob, truD, mfld, fldD, putO, mputf, stSet, stSetP, mfrz, mlst, mtup, mslice, mpart, intD, dSl, on1, on2, lenD, absD, TW.intOf, TW.listOf, TW.tupOf, dInt2, dCmp2, dNeg, dIx, dIsN, dNotN, D.isNon, dupFree, argsOf, argOf, Sl.some?, putBack, Opd.isS, Sl.own, Rv.sl, Rv.d, mwalk, walkD, itemsD, mrng, rng1, rng2, rng3, tgName, tgTup, tgCons, tgNil, masg, mpar2, stPar2, isiD, dTy, isiInt, isiBl, isiLst, isiTup, isiObj, or2, nm, mvarF, mchain, mop2, dAddX, dAddS, mrev, lstD, mrevA, mpar3, stPar3, List.findIdx?_cons, List.findIdx?_nil, e1, e2]
def cmpI (x y : Int) : Int := if x = y then 0 else if y < x then 1 else -1
theorem ev_compared (fu : Nat) {d1 d2 : D} {a1 b1 a2 b2 : Int} (h1 : rowD d1 [a1, b1]) (h2 : rowD d2 [a2, b2]) (hf : ∀ z ∈ [a1, b1, a2, b2], z.natAbs < fu) (hr1 : ratB [a1, b1] = true) (hr2 : ratB [a2, b2] = true) (hbd : ∀ z ∈ [a1, b1, a2, b2], bd 1000 z) :
    d_compared fu [.v d1, .v d2] = .ret (.v (.int (cmpI (a1 * b2) (a2 * b1)))) [.v d1, .v d2] := by
  have e1 := ev_need_ratio fu "one" h1 (by simp) (fun z hz => hf z (by simp at hz ⊢; omega)) hr1
  have e2 := ev_need_ratio fu "other" h2 (by simp) (fun z hz => hf z (by simp at hz ⊢; omega)) hr2
  have c1 : cMul a1 b2 = true := (hbd a1 (by simp)).cMul (hbd b2 (by simp)) (by omega)
  have c2 : cMul a2 b1 = true := (hbd a2 (by simp)).cMul (hbd b1 (by simp)) (by omega)
  have k1 := of_decide_eq_true c1
  have k2 := of_decide_eq_true c2
  have e3 : d_difference fu [.v d1, .v d2] = .ret (.v (.int (a1 * b2 - a2 * b1))) [.v d1, .v d2] := by
    rcases h1 with rfl | rfl <;> rcases h2 with rfl | rfl <;> simp [d_difference, b_difference, fnD, ms, mseq, mbind, mret, mopt, mbad, mvar, res, strong, strongs, ress, mun, mbin, mbinR, mcb, mcons, mcond, mif, mandV, morV, mnotV, tob, truD, mfld, fldD, putO, mputf, stSet, stSetP, mfrz, mlst, mtup, mslice, mpart, intD, dSl, on1, on2, lenD, absD, TW.intOf, TW.listOf, TW.tupOf, dInt2, dCmp2, dNeg, dIx, dIsN, dNotN, D.isNon, dupFree, argsOf, argOf, Sl.some?, putBack, Opd.isS, Sl.own, Rv.sl, Rv.d, mwalk, walkD, itemsD, mrng, rng1, rng2, rng3, tgName, tgTup, tgCons, tgNil, masg, mpar2, stPar2, isiD, dTy, isiInt, isiBl, isiLst, isiTup, isiObj, or2, nm, mvarF, mchain, mop2, dAddX, dAddS, mrev, lstD, mrevA, mpar3, stPar3, List.findIdx?_cons, List.findIdx?_nil, k1, k2, atI, ixN]
  have ec : b2i (decide (0 < a1 * b2 - a2 * b1)) - b2i (decide (a1 * b2 - a2 * b1 < 0)) = cmpI (a1 * b2) (a2 * b1) := by
    unfold cmpI
    generalize a1 * b2 = x
    generalize a2 * b1 = y
    rcases Int.lt_trichotomy x y with h | h | h
    · rw [decide_eq_false (by omega), decide_eq_true (by omega), if_neg (by omega), if_neg (by omega)]; rfl
    · rw [decide_eq_false (by omega), decide_eq_false (by omega), if_pos h]; rfl
    · rw [decide_eq_true (by omega), decide_eq_false (by omega), if_neg (by omega), if_pos h]; rfl
  generalize a1 * b2 - a2 * b1 = w at *
  simp [d_compared, b_compared, mcall, fnD, ms, mseq, mbind, mret, mopt, mbad, mvar, res, strong, strongs, ress, mun, mbin, mbinR, mcb, mcons, mcond, mif, mandV, morV, mnotV, tob, truD, mfld, fldD, putO, mputf, stSet, stSetP, mfrz, mlst, mtup, mslice, mpart, intD, dSl, on1, on2, lenD, absD, TW.intOf, TW.listOf, TW.tupOf, dInt2, dCmp2, dNeg, dIx, dIsN, dNotN, D.isNon, dupFree, argsOf, argOf, Sl.some?, putBack, Opd.isS, Sl.own, Rv.sl, Rv.d, mwalk, walkD, itemsD, mrng, rng1, rng2, rng3, tgName, tgTup, tgCons, tgNil, masg, mpar2, stPar2, isiD, dTy, isiInt, isiBl, isiLst, isiTup, isiObj, or2, nm, mvarF, mchain, mop2, dAddX, dAddS, mrev, lstD, mrevA, mpar3, stPar3, List.findIdx?_cons, List.findIdx?_nil, e1, e2, e3, dSubB, ec]
end K01

set_option linter.all false
set_option autoImplicit false
set_option maxRecDepth 100000
set_option maxHeartbeats 4000000
namespace K01
open PySem TW L2
theorem p5 {K : Nat} {b : List D} (fu : Nat) (h : Bg K b) (hK : K < 1000000) (k : Int) (hk : 0 < k := by decide) (hs : k.natAbs < 1073741824 := by decide) :
    ∃ d b', d__law_pull fu [.l b, .v (.int k)] = .ret (.v (.int d)) [.l b', .v (.int k)] ∧ 0 ≤ d ∧ d < k ∧ Bg (K + 1) b' :=
  pull_ok fu h hK hk (log2_small (bd30 hs) (by omega))
theorem ir_1 (fu : Nat) {K : Nat} {b : List D} (h : Bg K b) (hK : K < 900000) : ∃ z d b', st__law_integers_right_1 fu [.l b, .no, .no, .no, .no, .no, .no, .no, .no, .no, .no] = .nx [.l b', .v (.int z), .v d, .no, .no, .no, .no, .no, .no, .no, .no] ∧ sm z ∧ OddV d ∧ Bg (K + 7) b' := by
  obtain ⟨z, b1, e1, hz, h1⟩ := integer_ok fu h (by omega)
  obtain ⟨d, b2, e2, hd, h2⟩ := value_ok fu h1 (by omega)
  refine ⟨z, d, b2, ?_, hz, hd, h2⟩
  simp [st__law_integers_right_1, mcall, fnD, ms, mseq, mbind, mret, mopt, mbad, mvar, res, strong, strongs, ress, mun, mbin, mbinR, mcb, mcons, mcond, mif, mandV, morV, mnotV, tob, truD, mfld, fldD, putO, mputf, stSet, stSetP, mfrz, mlst, mtup, mslice, mpart, intD, dSl, on1, on2, lenD, absD, TW.intOf, TW.listOf, TW.tupOf, dInt2, dCmp2, dNeg, dIx, dIsN, dNotN, D.isNon, dupFree, argsOf, argOf, Sl.some?, putBack, Opd.isS, Sl.own, Rv.sl, Rv.d, mwalk, walkD, itemsD, mrng, rng1, rng2, rng3, tgName, tgTup, tgCons, tgNil, masg, mpar2, stPar2, isiD, dTy, isiInt, isiBl, isiLst, isiTup, isiObj, or2, nm, mvarF, mchain, mop2, dAddX, dAddS, mrev, lstD, mrevA, mpar3, stPar3, List.findIdx?_cons, List.findIdx?_nil, e1, e2]
theorem ir_2 (fu : Nat) (b : List D) (z : Int) {d : D} (hd : OddV d) : st__law_integers_right_2 fu [.l b, .v (.int z), .v d, .no, .no, .no, .no, .no, .no, .no, .no] = .nx [.l b, .v (.int z), .v d, .no, .no, .no, .no, .no, .no, .no, .no] := by
  have e1 := ev_is_integer fu (d := .int z) rfl
  have e2 := ev_is_integer fu hd.plain.1
  have e3 := ev_within_no fu (lo := .non) (hi := .non) hd.plain.1 hd.plain.2
  have e4 := ev_same fu true true
  have e5 := ev_same fu false false
  rw [hd.plain.2] at e2
  simp [st__law_integers_right_2, mcall, fnD, ms, mseq, mbind, mret, mopt, mbad, mvar, res, strong, strongs, ress, mun, mbin, mbinR, mcb, mcons, mcond, mif, mandV, morV, mnotV, tob, truD, mfld, fldD, putO, mputf, stSet, stSetP, mfrz, mlst, mtup, mslice, mpart, intD, dSl, on1, on2, lenD, absD, TW.intOf, TW.listOf, TW.tupOf, dInt2, dCmp2, dNeg, dIx, dIsN, dNotN, D.isNon, dupFree, argsOf, argOf, Sl.some?, putBack, Opd.isS, Sl.own, Rv.sl, Rv.d, mwalk, walkD, itemsD, mrng, rng1, rng2, rng3, tgName, tgTup, tgCons, tgNil, masg, mpar2, stPar2, isiD, dTy, isiInt, isiBl, isiLst, isiTup, isiObj, or2, nm, mvarF, mchain, mop2, dAddX, dAddS, mrev, lstD, mrevA, mpar3, stPar3, List.findIdx?_cons, List.findIdx?_nil, e1, e2, e3, e4, e5, isI]
theorem ir_3 (fu : Nat) {K : Nat} {b : List D} (h : Bg K b) (hK : K < 900000) (z : Int) (d : D) : ∃ lo hi b', st__law_integers_right_3 fu [.l b, .v (.int z), .v d, .no, .no, .no, .no, .no, .no, .no, .no] = .nx [.l b', .v (.int z), .v d, .v (.int lo), .v (.int hi), .no, .no, .no, .no, .no, .no] ∧ Bg (K + 2) b' := by
  obtain ⟨d1, b1, e1, _, _, h1⟩ := p5 fu h (by omega) 5
  obtain ⟨d2, b2, e2, _, _, h2⟩ := p5 fu h1 (by omega) 5
  refine ⟨z + d1 - 2, z + d2 - 2, b2, ?_, h2⟩
  simp [st__law_integers_right_3, mcall, fnD, ms, mseq, mbind, mret, mopt, mbad, mvar, res, strong, strongs, ress, mun, mbin, mbinR, mcb, mcons, mcond, mif, mandV, morV, mnotV, tob, truD, mfld, fldD, putO, mputf, stSet, stSetP, mfrz, mlst, mtup, mslice, mpart, intD, dSl, on1, on2, lenD, absD, TW.intOf, TW.listOf, TW.tupOf, dInt2, dCmp2, dNeg, dIx, dIsN, dNotN, D.isNon, dupFree, argsOf, argOf, Sl.some?, putBack, Opd.isS, Sl.own, Rv.sl, Rv.d, mwalk, walkD, itemsD, mrng, rng1, rng2, rng3, tgName, tgTup, tgCons, tgNil, masg, mpar2, stPar2, isiD, dTy, isiInt, isiBl, isiLst, isiTup, isiObj, or2, nm, mvarF, mchain, mop2, dAddX, dAddS, mrev, lstD, mrevA, mpar3, stPar3, List.findIdx?_cons, List.findIdx?_nil, e1, e2]
theorem ir_lb (fu : Nat) (b : List D) (z : Int) (d : D) (a3 a4 a7 : Sl) (o1 o2 : Option Int) (h7 : a7.own = false) (h3 : a3.own = false) (h4 : a4.own = false) : lb__law_integers_right_1 fu [.l b, .v (.int z), .v d, a3, a4, .v (bnd o1), .v (bnd o2), a7, .no, .no, .no] = .nx [.l b, .v (.int z), .v d, a3, a4, .v (bnd o1), .v (bnd o2), .v (.bl (inB z o1 o2)), .no, .no, .no] := by
  have e1 := ev_within fu z o1 o2
  have e2 := ev_same fu (inB z o1 o2) (inB z o1 o2)
  have ed : (mandV (morV (mbin dIsN (mvar 5) (mbind (mret D.non) fun d => mret (Opd.d d))) (mbin dLe (mvar 5) (mvar 1))) (morV (mbin dIsN (mvar 6) (mbind (mret D.non) fun d => mret (Opd.d d))) (mbin dLe (mvar 1) (mvar 6)))) [.l b, .v (.int z), .v d, a3, a4, .v (bnd o1), .v (bnd o2), a7, .no, .no, .no] = .ok (.bl (inB z o1 o2)) [.l b, .v (.int z), .v d, a3, a4, .v (bnd o1), .v (bnd o2), a7, .no, .no, .no] := by
    cases o1 with
    | none =>
      cases o2 with
      | none => simp [fnD, ms, mseq, mbind, mret, mopt, mbad, mvar, res, strong, strongs, ress, mun, mbin, mbinR, mcb, mcons, mcond, mif, mandV, morV, mnotV, tob, truD, mfld, fldD, putO, mputf, stSet, stSetP, mfrz, mlst, mtup, mslice, mpart, intD, dSl, on1, on2, lenD, absD, TW.intOf, TW.listOf, TW.tupOf, dInt2, dCmp2, dNeg, dIx, dIsN, dNotN, D.isNon, dupFree, argsOf, argOf, Sl.some?, putBack, Opd.isS, Sl.own, Rv.sl, Rv.d, mwalk, walkD, itemsD, mrng, rng1, rng2, rng3, tgName, tgTup, tgCons, tgNil, masg, mpar2, stPar2, isiD, dTy, isiInt, isiBl, isiLst, isiTup, isiObj, or2, nm, mvarF, mchain, mop2, dAddX, dAddS, mrev, lstD, mrevA, mpar3, stPar3, List.findIdx?_cons, List.findIdx?_nil, bnd, inB]
      | some h => simp [fnD, ms, mseq, mbind, mret, mopt, mbad, mvar, res, strong, strongs, ress, mun, mbin, mbinR, mcb, mcons, mcond, mif, mandV, morV, mnotV, tob, truD, mfld, fldD, putO, mputf, stSet, stSetP, mfrz, mlst, mtup, mslice, mpart, intD, dSl, on1, on2, lenD, absD, TW.intOf, TW.listOf, TW.tupOf, dInt2, dCmp2, dNeg, dIx, dIsN, dNotN, D.isNon, dupFree, argsOf, argOf, Sl.some?, putBack, Opd.isS, Sl.own, Rv.sl, Rv.d, mwalk, walkD, itemsD, mrng, rng1, rng2, rng3, tgName, tgTup, tgCons, tgNil, masg, mpar2, stPar2, isiD, dTy, isiInt, isiBl, isiLst, isiTup, isiObj, or2, nm, mvarF, mchain, mop2, dAddX, dAddS, mrev, lstD, mrevA, mpar3, stPar3, List.findIdx?_cons, List.findIdx?_nil, bnd, inB]
    | some l =>
      cases o2 with
      | none => by_cases h1 : l ≤ z <;> simp [fnD, ms, mseq, mbind, mret, mopt, mbad, mvar, res, strong, strongs, ress, mun, mbin, mbinR, mcb, mcons, mcond, mif, mandV, morV, mnotV, tob, truD, mfld, fldD, putO, mputf, stSet, stSetP, mfrz, mlst, mtup, mslice, mpart, intD, dSl, on1, on2, lenD, absD, TW.intOf, TW.listOf, TW.tupOf, dInt2, dCmp2, dNeg, dIx, dIsN, dNotN, D.isNon, dupFree, argsOf, argOf, Sl.some?, putBack, Opd.isS, Sl.own, Rv.sl, Rv.d, mwalk, walkD, itemsD, mrng, rng1, rng2, rng3, tgName, tgTup, tgCons, tgNil, masg, mpar2, stPar2, isiD, dTy, isiInt, isiBl, isiLst, isiTup, isiObj, or2, nm, mvarF, mchain, mop2, dAddX, dAddS, mrev, lstD, mrevA, mpar3, stPar3, List.findIdx?_cons, List.findIdx?_nil, bnd, inB, h1]
      | some h => by_cases h1 : l ≤ z <;> simp [fnD, ms, mseq, mbind, mret, mopt, mbad, mvar, res, strong, strongs, ress, mun, mbin, mbinR, mcb, mcons, mcond, mif, mandV, morV, mnotV, tob, truD, mfld, fldD, putO, mputf, stSet, stSetP, mfrz, mlst, mtup, mslice, mpart, intD, dSl, on1, on2, lenD, absD, TW.intOf, TW.listOf, TW.tupOf, dInt2, dCmp2, dNeg, dIx, dIsN, dNotN, D.isNon, dupFree, argsOf, argOf, Sl.some?, putBack, Opd.isS, Sl.own, Rv.sl, Rv.d, mwalk, walkD, itemsD, mrng, rng1, rng2, rng3, tgName, tgTup, tgCons, tgNil, masg, mpar2, stPar2, isiD, dTy, isiInt, isiBl, isiLst, isiTup, isiObj, or2, nm, mvarF, mchain, mop2, dAddX, dAddS, mrev, lstD, mrevA, mpar3, stPar3, List.findIdx?_cons, List.findIdx?_nil, bnd, inB, h1]
  rw [beq_self_eq_true] at e2
  generalize inB z o1 o2 = v at *
  unfold lb__law_integers_right_1
  generalize (mandV (morV (mbin dIsN (mvar 5) (mbind (mret D.non) fun d => mret (Opd.d d))) (mbin dLe (mvar 5) (mvar 1))) (morV (mbin dIsN (mvar 6) (mbind (mret D.non) fun d => mret (Opd.d d))) (mbin dLe (mvar 1) (mvar 6)))) = F at *
  cases a3 <;> cases a4 <;> cases a7 <;> first | (cases h3; done) | (cases h4; done) | (cases h7; done) | simp [mcall, fnD, ms, mseq, mbind, mret, mopt, mbad, mvar, res, strong, strongs, ress, mun, mbin, mbinR, mcb, mcons, mcond, mif, mandV, morV, mnotV, tob, truD, mfld, fldD, putO, mputf, stSet, stSetP, mfrz, mlst, mtup, mslice, mpart, intD, dSl, on1, on2, lenD, absD, TW.intOf, TW.listOf, TW.tupOf, dInt2, dCmp2, dNeg, dIx, dIsN, dNotN, D.isNon, dupFree, argsOf, argOf, Sl.some?, putBack, Opd.isS, Sl.own, Rv.sl, Rv.d, mwalk, walkD, itemsD, mrng, rng1, rng2, rng3, tgName, tgTup, tgCons, tgNil, masg, mpar2, stPar2, isiD, dTy, isiInt, isiBl, isiLst, isiTup, isiObj, or2, nm, mvarF, mchain, mop2, dAddX, dAddS, mrev, lstD, mrevA, mpar3, stPar3, List.findIdx?_cons, List.findIdx?_nil, ed, e1, e2]
theorem ir_l (fu : Nat) (b : List D) (z : Int) (d : D) (lo hi : Int) : ∃ a5 a6 a7, l__law_integers_right_1 fu [.l b, .v (.int z), .v d, .v (.int lo), .v (.int hi), .no, .no, .no, .no, .no, .no] = .nx [.l b, .v (.int z), .v d, .v (.int lo), .v (.int hi), .v a5, .v a6, .v a7, .no, .no, .no] := by
  have hi' : li__law_integers_right_1 fu [.l b, .v (.int z), .v d, .v (.int lo), .v (.int hi), .no, .no, .no, .no, .no, .no] = .ok [.tup [.int lo, .int hi], .tup [.non, .int hi], .tup [.int lo, .non], .tup [.non, .non]] [.l b, .v (.int z), .v d, .v (.int lo), .v (.int hi), .no, .no, .no, .no, .no, .no] := by
    simp [li__law_integers_right_1, fnD, ms, mseq, mbind, mret, mopt, mbad, mvar, res, strong, strongs, ress, mun, mbin, mbinR, mcb, mcons, mcond, mif, mandV, morV, mnotV, tob, truD, mfld, fldD, putO, mputf, stSet, stSetP, mfrz, mlst, mtup, mslice, mpart, intD, dSl, on1, on2, lenD, absD, TW.intOf, TW.listOf, TW.tupOf, dInt2, dCmp2, dNeg, dIx, dIsN, dNotN, D.isNon, dupFree, argsOf, argOf, Sl.some?, putBack, Opd.isS, Sl.own, Rv.sl, Rv.d, mwalk, walkD, itemsD, mrng, rng1, rng2, rng3, tgName, tgTup, tgCons, tgNil, masg, mpar2, stPar2, isiD, dTy, isiInt, isiBl, isiLst, isiTup, isiObj, or2, nm, mvarF, mchain, mop2, dAddX, dAddS, mrev, lstD, mrevA, mpar3, stPar3, List.findIdx?_cons, List.findIdx?_nil]
  have e1 := ir_lb fu b z d (.v (.int lo)) (.v (.int hi)) .no (some lo) (some hi) rfl rfl rfl
  have e2 := ir_lb fu b z d (.v (.int lo)) (.v (.int hi)) (.v (.bl (inB z (some lo) (some hi)))) none (some hi) rfl rfl rfl
  have e3 := ir_lb fu b z d (.v (.int lo)) (.v (.int hi)) (.v (.bl (inB z none (some hi)))) (some lo) none rfl rfl rfl
  have e4 := ir_lb fu b z d (.v (.int lo)) (.v (.int hi)) (.v (.bl (inB z (some lo) none))) none none rfl rfl rfl
  simp only [bnd] at e1 e2 e3 e4
  refine ⟨.non, .non, .bl (inB z none none), ?_⟩
  unfold l__law_integers_right_1 mfor
  rw [ms_k hi']
  simp [forD, tgTup, tgCons, tgName, tgNil, itemsD, e1, e2, e3, e4]
end K01

set_option linter.all false
set_option autoImplicit false
set_option maxRecDepth 100000
set_option maxHeartbeats 4000000
namespace K01
open PySem TW L2
theorem okR_ok' {n : Int} (h0 : 0 ≤ n) (h : n < 1000000) : okR n = true := Nat.ble_eq_true_of_le (by omega)
theorem ir_row (fu : Nat) {K : Nat} {b : List D} (h : Bg K b) (hK : K < 900000) (z : Int) (d a3 a4 a5 a6 a7 : D) : ∃ q b', c__law_integers_right_2 fu [.l b, .v (.int z), .v d, .v a3, .v a4, .v a5, .v a6, .v a7, .no, .no, .no] = .ok (.l (I q)) [.l b', .v (.int z), .v d, .v a3, .v a4, .v a5, .v a6, .v a7, .no, .no, .no] ∧ q.length ≤ 10 ∧ Bg (K + 20) b' := by
  obtain ⟨n, b1, e1, h1, h2, hb⟩ := p5 fu h (by omega) 4
  have hm : ci__law_integers_right_2 fu [.l b, .v (.int z), .v d, .v a3, .v a4, .v a5, .v a6, .v a7, .no, .no, .no] = .ok (rangeD 0 n.toNat) [.l b1, .v (.int z), .v d, .v a3, .v a4, .v a5, .v a6, .v a7, .no, .no, .no] := by
    have er := okR_ok' h1 (by omega)
    simp [ci__law_integers_right_2, mcall, fnD, ms, mseq, mbind, mret, mopt, mbad, mvar, res, strong, strongs, ress, mun, mbin, mbinR, mcb, mcons, mcond, mif, mandV, morV, mnotV, tob, truD, mfld, fldD, putO, mputf, stSet, stSetP, mfrz, mlst, mtup, mslice, mpart, intD, dSl, on1, on2, lenD, absD, TW.intOf, TW.listOf, TW.tupOf, dInt2, dCmp2, dNeg, dIx, dIsN, dNotN, D.isNon, dupFree, argsOf, argOf, Sl.some?, putBack, Opd.isS, Sl.own, Rv.sl, Rv.d, mwalk, walkD, itemsD, mrng, rng1, rng2, rng3, tgName, tgTup, tgCons, tgNil, masg, mpar2, stPar2, isiD, dTy, isiInt, isiBl, isiLst, isiTup, isiObj, or2, nm, mvarF, mchain, mop2, dAddX, dAddS, mrev, lstD, mrevA, mpar3, stPar3, List.findIdx?_cons, List.findIdx?_nil, e1, er]
  obtain ⟨acc, s', e, ⟨q, b2, rfl, rfl, hq, hb2⟩, _⟩ := comp_ok (vs := [9]) (tm := tgName 9) (tt := ct__law_integers_right_2 fu) (te := ce__law_integers_right_2 fu) (fun i acc s => ∃ q b', acc = I q ∧ s = [.l b', .v (.int z), .v d, .v a3, .v a4, .v a5, .v a6, .v a7, .no, .no, .no] ∧ q.length ≤ i ∧ Bg (K + 1 + 3 * i) b') (rangeD 0 n.toNat) 0 [] [.l b1, .v (.int z), .v d, .v a3, .v a4, .v a5, .v a6, .v a7, .no, .no, .no] ⟨[], b1, rfl, rfl, by simp, hb⟩ (by simp [rangeD]; omega) fun j x acc s hj hP => by
    obtain ⟨q, b', rfl, rfl, hq, hb'⟩ := hP
    obtain ⟨hjn, rfl⟩ := rangeD_get hj
    obtain ⟨y, b2, e2, hy, hb2⟩ := integer_ok fu hb' (by omega)
    refine ⟨[.l b', .v (.int z), .v d, .v a3, .v a4, .v a5, .v a6, .v a7, .no, .v (.int (0 + (j : Nat))), .no], true, _, rfl, rfl, .inr ⟨.int y, [.l b2, .v (.int z), .v d, .v a3, .v a4, .v a5, .v a6, .v a7, .no, .v (.int (0 + (j : Nat))), .no], rfl, ?_, rfl, q ++ [y], b2, ?_, rfl, ?_, hb2.mono (by omega)⟩⟩
    · simp [ce__law_integers_right_2, mcall, fnD, ms, mseq, mbind, mret, mopt, mbad, mvar, res, strong, strongs, ress, mun, mbin, mbinR, mcb, mcons, mcond, mif, mandV, morV, mnotV, tob, truD, mfld, fldD, putO, mputf, stSet, stSetP, mfrz, mlst, mtup, mslice, mpart, intD, dSl, on1, on2, lenD, absD, TW.intOf, TW.listOf, TW.tupOf, dInt2, dCmp2, dNeg, dIx, dIsN, dNotN, D.isNon, dupFree, argsOf, argOf, Sl.some?, putBack, Opd.isS, Sl.own, Rv.sl, Rv.d, mwalk, walkD, itemsD, mrng, rng1, rng2, rng3, tgName, tgTup, tgCons, tgNil, masg, mpar2, stPar2, isiD, dTy, isiInt, isiBl, isiLst, isiTup, isiObj, or2, nm, mvarF, mchain, mop2, dAddX, dAddS, mrev, lstD, mrevA, mpar3, stPar3, List.findIdx?_cons, List.findIdx?_nil, e2]
    · simp [I]
    · rw [List.length_append]; simp; omega
  have hr : (rangeD 0 n.toNat).length = n.toNat := by simp [rangeD]
  rw [hr] at hq hb2
  refine ⟨q, b2, ?_, by omega, hb2.mono (by omega)⟩
  unfold c__law_integers_right_2 mlc; rw [mb_k hm]
  rw [if_pos (by rfl)]
  have e' : compD [9] (tgName 9) (ct__law_integers_right_2 fu) (ce__law_integers_right_2 fu) (rangeD 0 n.toNat) [] (wipeS [.l b1, .v (.int z), .v d, .v a3, .v a4, .v a5, .v a6, .v a7, .no, .no, .no] [9]) = .ok (I q) [.l b2, .v (.int z), .v d, .v a3, .v a4, .v a5, .v a6, .v a7, .no, .no, .no] := e
  rw [e']; rfl
theorem odd_mid {A B : List Int} {d : D} (h : plainD d = true) (hi : isI d = false) (hl : A.length + B.length < 900000) : okD (.lst (I A ++ [d] ++ I B)) = true ∧ allI (.lst (I A ++ [d] ++ I B)) = false := by
  constructor
  · unfold okD
    dsimp only
    rw [Bool.and_eq_true, decide_eq_true_eq, List.all_append, List.all_append, all_plain, all_plain]
    refine ⟨?_, by simp [h]⟩
    rw [List.length_append, List.length_append, I_len, I_len]; simp; omega
  · unfold allI
    dsimp only
    rw [List.all_append, List.all_append]
    simp [hi]
theorem ir_8 (fu : Nat) (b : List D) (z : Int) {d : D} (hd : OddV d) (a3 a4 a5 a6 a7 : D) (q : List Int) (hq : q.length ≤ 10) (k : Int) : st__law_integers_right_8 fu [.l b, .v (.int z), .v d, .v a3, .v a4, .v a5, .v a6, .v a7, .v (.lst (I q)), .no, .v (.int k)] = .rt (.v (.bl true)) [.l b, .v (.int z), .v d, .v a3, .v a4, .v a5, .v a6, .v a7, .v (.lst (I q)), .no, .v (.int k)] := by
  have c1 := cutD_I q none (some k)
  have c2 := cutD_I q (some k) none
  have l1 := cutD_len q none (some k)
  have l2 := cutD_len q (some k) none
  obtain ⟨o1, o2⟩ := odd_mid (A := cutD q none (some k)) (B := cutD q (some k) none) hd.plain.1 hd.plain.2 (by omega)
  have e1 := ev_are_integers fu o1
  rw [o2] at e1
  have e2 := ev_are_integers fu (d := .dct) rfl
  have e3 := ev_are_integers fu (d := .str "12") rfl
  have e4 := ev_same fu false false
  simp only [allI] at e2 e3
  generalize cutD q none (some k) = A at *
  generalize cutD q (some k) none = B at *
  have n1 : (I A).length + 1 ≤ 16000000 := by rw [I_len]; omega
  have n2 : (I A).length + 1 + (I B).length ≤ 16000000 := by rw [I_len, I_len]; omega
  generalize I A = A' at *
  generalize I B = B' at *
  generalize I q = q' at *
  simp only [List.append_assoc, List.cons_append, List.nil_append] at e1
  simp [st__law_integers_right_8, mcall, fnD, ms, mseq, mbind, mret, mopt, mbad, mvar, res, strong, strongs, ress, mun, mbin, mbinR, mcb, mcons, mcond, mif, mandV, morV, mnotV, tob, truD, mfld, fldD, putO, mputf, stSet, stSetP, mfrz, mlst, mtup, mslice, mpart, intD, dSl, on1, on2, lenD, absD, TW.intOf, TW.listOf, TW.tupOf, dInt2, dCmp2, dNeg, dIx, dIsN, dNotN, D.isNon, dupFree, argsOf, argOf, Sl.some?, putBack, Opd.isS, Sl.own, Rv.sl, Rv.d, mwalk, walkD, itemsD, mrng, rng1, rng2, rng3, tgName, tgTup, tgCons, tgNil, masg, mpar2, stPar2, isiD, dTy, isiInt, isiBl, isiLst, isiTup, isiObj, or2, nm, mvarF, mchain, mop2, dAddX, dAddS, mrev, lstD, mrevA, mpar3, stPar3, List.findIdx?_cons, List.findIdx?_nil, dCat, c1, c2, n1, n2, e1, e2, e3, e4]
theorem ir_6 (fu : Nat) {K : Nat} {b : List D} (h : Bg K b) (hK : K < 900000) (z : Int) (d a3 a4 a5 a6 a7 : D) (q : List Int) (hq : q.length ≤ 10) : ∃ k b', st__law_integers_right_6 fu [.l b, .v (.int z), .v d, .v a3, .v a4, .v a5, .v a6, .v a7, .l (I q), .no, .no] = .nx [.l b', .v (.int z), .v d, .v a3, .v a4, .v a5, .v a6, .v a7, .v (.lst (I q)), .no, .v (.int k)] ∧ Bg (K + 1) b' := by
  obtain ⟨k, b1, e1, h1, h2, hb⟩ := pull_ok fu (k := ((I q).length : Int) + 1) h (by omega) (by omega) (log2_small (bd30 (by rw [I_len]; omega)) (by omega))
  refine ⟨k, b1, ?_, hb⟩
  generalize I q = q' at *
  simp [st__law_integers_right_6, mcall, fnD, ms, mseq, mbind, mret, mopt, mbad, mvar, res, strong, strongs, ress, mun, mbin, mbinR, mcb, mcons, mcond, mif, mandV, morV, mnotV, tob, truD, mfld, fldD, putO, mputf, stSet, stSetP, mfrz, mlst, mtup, mslice, mpart, intD, dSl, on1, on2, lenD, absD, TW.intOf, TW.listOf, TW.tupOf, dInt2, dCmp2, dNeg, dIx, dIsN, dNotN, D.isNon, dupFree, argsOf, argOf, Sl.some?, putBack, Opd.isS, Sl.own, Rv.sl, Rv.d, mwalk, walkD, itemsD, mrng, rng1, rng2, rng3, tgName, tgTup, tgCons, tgNil, masg, mpar2, stPar2, isiD, dTy, isiInt, isiBl, isiLst, isiTup, isiObj, or2, nm, mvarF, mchain, mop2, dAddX, dAddS, mrev, lstD, mrevA, mpar3, stPar3, List.findIdx?_cons, List.findIdx?_nil, e1]
theorem ir_7 (fu : Nat) (b : List D) (z : Int) (d a3 a4 a5 a6 a7 : D) (q : List Int) (hq : q.length ≤ 10) (k : Int) : st__law_integers_right_7 fu [.l b, .v (.int z), .v d, .v a3, .v a4, .v a5, .v a6, .v a7, .v (.lst (I q)), .no, .v (.int k)] = .nx [.l b, .v (.int z), .v d, .v a3, .v a4, .v a5, .v a6, .v a7, .v (.lst (I q)), .no, .v (.int k)] := by
  obtain ⟨x1, x2⟩ := row_ok (d := .lst (I q)) (p := q) (.inl rfl) (by omega)
  obtain ⟨y1, y2⟩ := row_ok (d := .tup (I q)) (p := q) (.inr rfl) (by omega)
  have e1 := ev_are_integers fu x1
  have e2 := ev_are_integers fu y1
  rw [x2] at e1
  rw [y2] at e2
  have e4 := ev_same fu true true
  generalize I q = q' at *
  simp [st__law_integers_right_7, mcall, fnD, ms, mseq, mbind, mret, mopt, mbad, mvar, res, strong, strongs, ress, mun, mbin, mbinR, mcb, mcons, mcond, mif, mandV, morV, mnotV, tob, truD, mfld, fldD, putO, mputf, stSet, stSetP, mfrz, mlst, mtup, mslice, mpart, intD, dSl, on1, on2, lenD, absD, TW.intOf, TW.listOf, TW.tupOf, dInt2, dCmp2, dNeg, dIx, dIsN, dNotN, D.isNon, dupFree, argsOf, argOf, Sl.some?, putBack, Opd.isS, Sl.own, Rv.sl, Rv.d, mwalk, walkD, itemsD, mrng, rng1, rng2, rng3, tgName, tgTup, tgCons, tgNil, masg, mpar2, stPar2, isiD, dTy, isiInt, isiBl, isiLst, isiTup, isiObj, or2, nm, mvarF, mchain, mop2, dAddX, dAddS, mrev, lstD, mrevA, mpar3, stPar3, List.findIdx?_cons, List.findIdx?_nil, e1, e2, e4]
theorem integers_right (fu : Nat) {K : Nat} {b : List D} (h : Bg K b) (hK : K < 800000) : ∃ b', d__law_integers_right fu [.l b] = .ret (.v (.bl true)) [.l b'] ∧ Bg (K + 30) b' := by
  obtain ⟨z, d, b1, s1, hz, hd, hb1⟩ := ir_1 fu h (by omega)
  have s2 := ir_2 fu b1 z hd
  obtain ⟨lo, hi, b3, s3, hb3⟩ := ir_3 fu hb1 (by omega) z d
  obtain ⟨a5, a6, a7, s4⟩ := ir_l fu b3 z d lo hi
  obtain ⟨q, b5, s5, hq, hb5⟩ := ir_row fu hb3 (by omega) z d (.int lo) (.int hi) a5 a6 a7
  obtain ⟨k, b6, s6, hb6⟩ := ir_6 fu hb5 (by omega) z d (.int lo) (.int hi) a5 a6 a7 q hq
  have s7 := ir_7 fu b6 z d (.int lo) (.int hi) a5 a6 a7 q hq k
  have s8 := ir_8 fu b6 z hd (.int lo) (.int hi) a5 a6 a7 q hq k
  refine ⟨b6, ?_, hb6.mono (by omega)⟩
  generalize I q = q' at *
  have t5 : st__law_integers_right_5 fu [.l b3, .v (.int z), .v d, .v (.int lo), .v (.int hi), .v a5, .v a6, .v a7, .no, .no, .no] = .nx [.l b5, .v (.int z), .v d, .v (.int lo), .v (.int hi), .v a5, .v a6, .v a7, .l q', .no, .no] := by
    simp [st__law_integers_right_5, fnD, ms, mseq, mbind, mret, mopt, mbad, mvar, res, strong, strongs, ress, mun, mbin, mbinR, mcb, mcons, mcond, mif, mandV, morV, mnotV, tob, truD, mfld, fldD, putO, mputf, stSet, stSetP, mfrz, mlst, mtup, mslice, mpart, intD, dSl, on1, on2, lenD, absD, TW.intOf, TW.listOf, TW.tupOf, dInt2, dCmp2, dNeg, dIx, dIsN, dNotN, D.isNon, dupFree, argsOf, argOf, Sl.some?, putBack, Opd.isS, Sl.own, Rv.sl, Rv.d, mwalk, walkD, itemsD, mrng, rng1, rng2, rng3, tgName, tgTup, tgCons, tgNil, masg, mpar2, stPar2, isiD, dTy, isiInt, isiBl, isiLst, isiTup, isiObj, or2, nm, mvarF, mchain, mop2, dAddX, dAddS, mrev, lstD, mrevA, mpar3, stPar3, List.findIdx?_cons, List.findIdx?_nil, s5]
  simp [d__law_integers_right, b__law_integers_right, fnD, mseq, s1, s2, s3, s4, t5, s6, s7, s8]
end K01

set_option linter.all false
set_option autoImplicit false
set_option maxRecDepth 100000
set_option maxHeartbeats 4000000
namespace K01
open PySem TW L2
/-! ## texts as rows of signs -/
def st (l : List Nat) : Str := ⟨l.toArray⟩
theorem st_len (l : List Nat) : (st l).length = l.length := by show l.toArray.size = _; simp
theorem st_list (l : List Nat) : (st l).cps.toList = l := rfl
theorem st_app (a b : List Nat) : st a ++ st b = st (a ++ b) := by
  show Str.mk (a.toArray ++ b.toArray) = Str.mk (a ++ b).toArray
  simp
theorem st_cut (l : List Nat) (lo hi : Option Int) : cutS (st l) lo hi = st (cutD l lo hi) := by
  unfold cutS cutD
  rw [st_len, st_list]; rfl
theorem st_items (l : List Nat) : strItems (st l) = l.map fun c => .str (st [c]) := rfl
theorem st_of (s : String) : Str.ofString s = st (s.toList.map Char.toNat) := Str.ofString_eq_toList s
theorem st_rep (c : Nat) : ∀ n : Nat, strRep (st [c]) n = st (List.replicate n c)
  | n => by
    have key : ∀ (n : Nat) (acc : Array Nat), (List.replicate n (st [c]).cps).foldl (· ++ ·) acc = (acc.toList ++ List.replicate n c).toArray := by
      intro n
      induction n with
      | zero => intro acc; simp
      | succ n ih =>
        intro acc
        rw [List.replicate_succ, List.foldl_cons, ih]
        simp [st, List.replicate_succ]
    unfold strRep st
    rw [show (⟨[c].toArray⟩ : Str).cps = (st [c]).cps from rfl, key]
    simp
def LET : List Nat := [97, 98, 99, 100, 101, 102, 103, 104, 105, 106, 107, 108, 109, 110, 111, 112, 113, 114, 115, 116, 117, 118, 119, 120, 121, 122]
def DIG : List Nat := [48, 49, 50, 51, 52, 53, 54, 55, 56, 57]
theorem s_let : Str.ofString "abcdefghijklmnopqrstuvwxyz" = st LET := by decide +kernel
theorem s_dig : Str.ofString "0123456789" = st DIG := by decide +kernel
theorem s_sgn : Str.ofString "abcdefghijklmnopqrstuvwxyz0123456789" = st (LET ++ DIG) := by decide +kernel
theorem dIn_st (c : Nat) (z : List Nat) : dOr dInS dInL (.str (st [c])) (.str (st z)) = some (.bl (decide (c ∈ z))) := rfl
theorem lenD_st {l : List Nat} (h : l.length ≤ 100000) : lenD (.str (st l)) = some (.v (.int l.length)) := by
  unfold lenD; dsimp only; rw [st_len, if_pos h]
theorem dAdd_st {a b : List Nat} (h : a.length + b.length ≤ 100000) : dAddX (.str (st a)) (.str (st b)) = some (.str (st (a ++ b))) := by
  unfold dAddX dAddS; dsimp only; rw [st_len, st_len, if_pos h, st_app]
theorem dIx_st {c : Nat} {l : List Nat} (h : (c :: l).length ≤ 100000) : dIx (.str (st (c :: l))) (.int 0) = some (.str (st [c])) := by
  unfold dIx; dsimp only
  rw [st_len, if_pos h, st_list]
  have := atI_nat' (p := c :: l) (j := 0) (by simp)
  rw [show (0 : Int) = ((0 : Nat) : Int) from rfl, this]; rfl
/-! ## is_name -/
def nameB : List Nat → Bool
  | [] => false
  | c :: l => decide ((c :: l).length ≤ 12) && decide (c ∈ LET) && (c :: l).all fun k => decide (k ∈ LET ++ DIG)
theorem ev_ce_name (fu : Nat) (d : D) (c : Nat) : ce_is_name_1 fu [.v d, .v (.str (st [c]))] = .ok (.bl (decide (c ∈ LET ++ DIG))) [.v d, .v (.str (st [c]))] := by
  have e1 : dAddX (.str (st LET)) (.str (st DIG)) = some (.str (st (LET ++ DIG))) := dAdd_st (by decide)
  have e2 := dIn_st c (LET ++ DIG)
  generalize st (LET ++ DIG) = w at *
  generalize st [c] = w1 at *
  generalize decide (c ∈ LET ++ DIG) = w2 at *
  have s1 := s_let
  have s2 := s_dig
  simp [ce_is_name_1, fnD, ms, mseq, mbind, mret, mopt, mbad, mvar, res, strong, strongs, ress, mun, mbin, mbinR, mcb, mcons, mcond, mif, mandV, morV, mnotV, tob, truD, mfld, fldD, putO, mputf, stSet, stSetP, mfrz, mlst, mtup, mslice, mpart, intD, dSl, on1, on2, absD, TW.intOf, TW.listOf, TW.tupOf, dInt2, dCmp2, dNeg, dIsN, dNotN, D.isNon, dupFree, argsOf, argOf, Sl.some?, putBack, Opd.isS, Sl.own, Rv.sl, Rv.d, mwalk, walkD, itemsD, mrng, rng1, rng2, rng3, tgName, tgTup, tgCons, tgNil, masg, mpar2, stPar2, isiD, dTy, isiInt, isiBl, isiLst, isiTup, isiObj, or2, nm, mvarF, mchain, mop2, mrev, lstD, mrevA, mpar3, stPar3, List.findIdx?_cons, List.findIdx?_nil, s1, s2, e1, e2]
theorem ev_c_name (fu : Nat) (l : List Nat) (hl : l.length ≤ 100000) : c_is_name_1 fu [.v (.str (st l)), .no] = .ok (.l ((l.map fun c => decide (c ∈ LET ++ DIG)).map D.bl)) [.v (.str (st l)), .no] := by
  have hm : ci_is_name_1 fu [.v (.str (st l)), .no] = .ok (l.map fun c => .str (st [c])) [.v (.str (st l)), .no] := rfl
  obtain ⟨acc, s', e, ⟨hs, ha⟩, _⟩ := comp_ok (vs := [1]) (tm := tgName 1) (tt := ct_is_name_1 fu) (te := ce_is_name_1 fu) (fun i acc s => s = [.v (.str (st l)), .no] ∧ acc = ((l.take i).map fun c => decide (c ∈ LET ++ DIG)).map D.bl) (l.map fun c => D.str (st [c])) 0 [] [.v (.str (st l)), .no] ⟨rfl, rfl⟩ (by simp; omega) fun j x acc s hj hP => by
    obtain ⟨rfl, rfl⟩ := hP
    rw [List.getElem?_map] at hj
    cases hc : l[j]? with
    | none => rw [hc] at hj; cases hj
    | some c =>
      rw [hc] at hj; cases hj
      refine ⟨[.v (.str (st l)), .v (.str (st [c]))], true, _, rfl, rfl, .inr ⟨_, _, rfl, ev_ce_name fu _ c, rfl, rfl, ?_⟩⟩
      rw [Nat.zero_add, List.take_succ, hc]; simp
  subst hs; subst ha
  unfold c_is_name_1 mlc; rw [mb_k hm]
  rw [if_pos (by rfl)]
  have e' : compD [1] (tgName 1) (ct_is_name_1 fu) (ce_is_name_1 fu) (l.map fun c => D.str (st [c])) [] (wipeS [.v (.str (st l)), .no] [1]) = .ok (((l.take (0 + (l.map fun c => D.str (st [c])).length)).map fun c => decide (c ∈ LET ++ DIG)).map D.bl) [.v (.str (st l)), .no] := e
  rw [e', Nat.zero_add, List.length_map, List.take_length]; rfl
theorem ev_name (fu : Nat) (l : List Nat) (hl : l.length ≤ 100000) : d_is_name fu [.v (.str (st l))] = .ret (.v (.bl (nameB l))) [.v (.str (st l))] := by
  have el := lenD_st hl
  cases l with
  | nil =>
    generalize hw : st [] = w at *
    simp [d_is_name, b_is_name, fnD, ms, mseq, mbind, mret, mopt, mbad, mvar, res, strong, strongs, ress, mun, mbin, mbinR, mcb, mcons, mcond, mif, mandV, morV, mnotV, tob, truD, mfld, fldD, putO, mputf, stSet, stSetP, mfrz, mlst, mtup, mslice, mpart, intD, dSl, on1, on2, absD, TW.intOf, TW.listOf, TW.tupOf, dInt2, dCmp2, dNeg, dIsN, dNotN, D.isNon, dupFree, argsOf, argOf, Sl.some?, putBack, Opd.isS, Sl.own, Rv.sl, Rv.d, mwalk, walkD, itemsD, mrng, rng1, rng2, rng3, tgName, tgTup, tgCons, tgNil, masg, mpar2, stPar2, isiD, dTy, isiInt, isiBl, isiLst, isiTup, isiObj, or2, nm, mvarF, mchain, mop2, mrev, lstD, mrevA, mpar3, stPar3, List.findIdx?_cons, List.findIdx?_nil, el, isiStr, nameB]
  | cons c l =>
    have ei := dIx_st hl
    have ec := ev_c_name fu (c :: l) hl
    have en := dIn_st c LET
    have eb := all_bls ((c :: l).map fun c => decide (c ∈ LET ++ DIG))
    have s1 := s_let
    have hb : nameB (c :: l) = (decide ((c :: l).length ≤ 12) && decide (c ∈ LET) && ((c :: l).map fun c => decide (c ∈ LET ++ DIG)).all id) := by
      unfold nameB; rw [List.all_map]; rfl
    rw [hb]
    have h0 : 0 < (c :: l).length := by simp
    generalize ((c :: l).map fun c => decide (c ∈ LET ++ DIG)) = bs at *
    generalize hn : (c :: l).length = n at *
    generalize st (c :: l) = w at *
    generalize st [c] = w1 at *
    generalize bs.map D.bl = w2 at *
    generalize bs.all id = w3 at *
    generalize st LET = w4 at *
    by_cases h12 : n ≤ 12
    · have h12' : (n : Int) ≤ 12 := by omega
      by_cases hc : c ∈ LET
      · simp [d_is_name, b_is_name, fnD, ms, mseq, mbind, mret, mopt, mbad, mvar, res, strong, strongs, ress, mun, mbin, mbinR, mcb, mcons, mcond, mif, mandV, morV, mnotV, tob, truD, mfld, fldD, putO, mputf, stSet, stSetP, mfrz, mlst, mtup, mslice, mpart, intD, dSl, on1, on2, absD, TW.intOf, TW.listOf, TW.tupOf, dInt2, dCmp2, dNeg, dIsN, dNotN, D.isNon, dupFree, argsOf, argOf, Sl.some?, putBack, Opd.isS, Sl.own, Rv.sl, Rv.d, mwalk, walkD, itemsD, mrng, rng1, rng2, rng3, tgName, tgTup, tgCons, tgNil, masg, mpar2, stPar2, isiD, dTy, isiInt, isiBl, isiLst, isiTup, isiObj, or2, nm, mvarF, mchain, mop2, mrev, lstD, mrevA, mpar3, stPar3, List.findIdx?_cons, List.findIdx?_nil, el, ei, ec, en, eb, s1, hc, isiStr, h0, h12, h12']
      · simp [d_is_name, b_is_name, fnD, ms, mseq, mbind, mret, mopt, mbad, mvar, res, strong, strongs, ress, mun, mbin, mbinR, mcb, mcons, mcond, mif, mandV, morV, mnotV, tob, truD, mfld, fldD, putO, mputf, stSet, stSetP, mfrz, mlst, mtup, mslice, mpart, intD, dSl, on1, on2, absD, TW.intOf, TW.listOf, TW.tupOf, dInt2, dCmp2, dNeg, dIsN, dNotN, D.isNon, dupFree, argsOf, argOf, Sl.some?, putBack, Opd.isS, Sl.own, Rv.sl, Rv.d, mwalk, walkD, itemsD, mrng, rng1, rng2, rng3, tgName, tgTup, tgCons, tgNil, masg, mpar2, stPar2, isiD, dTy, isiInt, isiBl, isiLst, isiTup, isiObj, or2, nm, mvarF, mchain, mop2, mrev, lstD, mrevA, mpar3, stPar3, List.findIdx?_cons, List.findIdx?_nil, el, ei, ec, en, eb, s1, hc, isiStr, h0, h12, h12']
    · have h12' : ¬ (n : Int) ≤ 12 := by omega
      simp [d_is_name, b_is_name, fnD, ms, mseq, mbind, mret, mopt, mbad, mvar, res, strong, strongs, ress, mun, mbin, mbinR, mcb, mcons, mcond, mif, mandV, morV, mnotV, tob, truD, mfld, fldD, putO, mputf, stSet, stSetP, mfrz, mlst, mtup, mslice, mpart, intD, dSl, on1, on2, absD, TW.intOf, TW.listOf, TW.tupOf, dInt2, dCmp2, dNeg, dIsN, dNotN, D.isNon, dupFree, argsOf, argOf, Sl.some?, putBack, Opd.isS, Sl.own, Rv.sl, Rv.d, mwalk, walkD, itemsD, mrng, rng1, rng2, rng3, tgName, tgTup, tgCons, tgNil, masg, mpar2, stPar2, isiD, dTy, isiInt, isiBl, isiLst, isiTup, isiObj, or2, nm, mvarF, mchain, mop2, mrev, lstD, mrevA, mpar3, stPar3, List.findIdx?_cons, List.findIdx?_nil, el, isiStr, h0, h12, h12']
end K01

set_option linter.all false
set_option autoImplicit false
set_option maxRecDepth 100000
set_option maxHeartbeats 4000000
namespace K01
open PySem TW L2
theorem digit_nat {c : Char} (h : c.isDigit = true) : 48 ≤ c.toNat ∧ c.toNat ≤ 57 := by
  unfold Char.isDigit at h
  simp only [Bool.and_eq_true, decide_eq_true_eq, ge_iff_le] at h
  exact ⟨by simpa [UInt32.le_iff_toNat_le] using h.1, by simpa [UInt32.le_iff_toNat_le] using h.2⟩
theorem repr_nat (m : Nat) : ∃ c r, (Nat.repr m).toList.map Char.toNat = c :: r ∧ c ≤ 57 := by
  rw [Nat.toList_repr]
  have hd : ∀ ch ∈ Nat.toDigits 10 m, ch.isDigit = true := fun ch h => Nat.isDigit_of_mem_toDigits (by decide) (by decide) h
  cases hq : Nat.toDigits 10 m with
  | nil =>
    exfalso
    have := @Nat.toDigits_ne_nil m 10
    exact this hq
  | cons a r =>
    rw [hq] at hd
    exact ⟨a.toNat, r.map Char.toNat, rfl, (digit_nat (hd a (by simp))).2⟩
theorem repr_int (z : Int) : ∃ c r, z.repr.toList.map Char.toNat = c :: r ∧ c ≤ 57 := by
  cases z with
  | ofNat m => exact repr_nat m
  | negSucc m =>
    refine ⟨45, (Nat.repr (m + 1)).toList.map Char.toNat, ?_, by omega⟩
    show (("-" ++ Nat.repr (m + 1) : String)).toList.map Char.toNat = _
    rw [String.toList_append]; rfl
theorem repr_len {z : Int} (h : z.natAbs.log2 < 1920) : (z.repr.toList.map Char.toNat).length ≤ 100000 := by
  rw [List.length_map, String.length_toList]
  have := PySem.int_text_length_le (a := z) (k := 1920) (by omega) h
  have e : (toString z).length = z.repr.length := rfl
  omega
theorem small_let {c : Nat} (h : c ≤ 57) : ¬ c ∈ LET := by
  intro hc
  have : ∀ k ∈ LET, 57 < k := by decide
  have := this c hc
  omega
theorem nameB_cons (c : Nat) (l : List Nat) : nameB (c :: l) = (decide ((c :: l).length ≤ 12) && decide (c ∈ LET) && (c :: l).all fun k => decide (k ∈ LET ++ DIG)) := rfl
theorem name_repr {z : Int} : nameB (z.repr.toList.map Char.toNat) = false := by
  obtain ⟨c, r, e, h⟩ := repr_int z
  rw [e]
  rw [nameB_cons, decide_eq_false (small_let h), Bool.and_false, Bool.false_and]
theorem name_odd (fu : Nat) {d : D} (h : OddV d) : d_is_name fu [.v d] = .ret (.v (.bl false)) [.v d] := by
  obtain ⟨z, hz, hx⟩ := h
  simp only [oddL, List.mem_cons, List.not_mem_nil, or_false] at hx
  have e1 : d_is_name fu [.v (.str (Str.ofString z.repr))] = .ret (.v (.bl false)) [.v (.str (Str.ofString z.repr))] := by
    have hl : z.natAbs.log2 < 1920 := by have := hz.bd.log; omega
    have := ev_name fu _ (repr_len hl)
    rw [name_repr, ← st_of] at this
    exact this
  have e2 : d_is_name fu [.v (.str (Str.ofString ""))] = .ret (.v (.bl false)) [.v (.str (Str.ofString ""))] := by
    have := ev_name fu [] (by simp)
    exact this
  rcases hx with rfl | rfl | rfl | rfl | rfl | rfl | rfl | rfl | rfl | rfl | rfl | rfl
  · simp [d_is_name, b_is_name, fnD, ms, mseq, mbind, mret, mopt, mbad, mvar, res, strong, strongs, ress, mun, mbin, mbinR, mcb, mcons, mcond, mif, mandV, morV, mnotV, tob, truD, mfld, fldD, putO, mputf, stSet, stSetP, mfrz, mlst, mtup, mslice, mpart, intD, dSl, on1, on2, absD, TW.intOf, TW.listOf, TW.tupOf, dInt2, dCmp2, dNeg, dIsN, dNotN, D.isNon, dupFree, argsOf, argOf, Sl.some?, putBack, Opd.isS, Sl.own, Rv.sl, Rv.d, mwalk, walkD, itemsD, mrng, rng1, rng2, rng3, tgName, tgTup, tgCons, tgNil, masg, mpar2, stPar2, isiD, dTy, isiInt, isiBl, isiLst, isiTup, isiObj, or2, nm, mvarF, mchain, mop2, mrev, lstD, mrevA, mpar3, stPar3, List.findIdx?_cons, List.findIdx?_nil, isiStr]
  · simp [d_is_name, b_is_name, fnD, ms, mseq, mbind, mret, mopt, mbad, mvar, res, strong, strongs, ress, mun, mbin, mbinR, mcb, mcons, mcond, mif, mandV, morV, mnotV, tob, truD, mfld, fldD, putO, mputf, stSet, stSetP, mfrz, mlst, mtup, mslice, mpart, intD, dSl, on1, on2, absD, TW.intOf, TW.listOf, TW.tupOf, dInt2, dCmp2, dNeg, dIsN, dNotN, D.isNon, dupFree, argsOf, argOf, Sl.some?, putBack, Opd.isS, Sl.own, Rv.sl, Rv.d, mwalk, walkD, itemsD, mrng, rng1, rng2, rng3, tgName, tgTup, tgCons, tgNil, masg, mpar2, stPar2, isiD, dTy, isiInt, isiBl, isiLst, isiTup, isiObj, or2, nm, mvarF, mchain, mop2, mrev, lstD, mrevA, mpar3, stPar3, List.findIdx?_cons, List.findIdx?_nil, isiStr]
  · simp [d_is_name, b_is_name, fnD, ms, mseq, mbind, mret, mopt, mbad, mvar, res, strong, strongs, ress, mun, mbin, mbinR, mcb, mcons, mcond, mif, mandV, morV, mnotV, tob, truD, mfld, fldD, putO, mputf, stSet, stSetP, mfrz, mlst, mtup, mslice, mpart, intD, dSl, on1, on2, absD, TW.intOf, TW.listOf, TW.tupOf, dInt2, dCmp2, dNeg, dIsN, dNotN, D.isNon, dupFree, argsOf, argOf, Sl.some?, putBack, Opd.isS, Sl.own, Rv.sl, Rv.d, mwalk, walkD, itemsD, mrng, rng1, rng2, rng3, tgName, tgTup, tgCons, tgNil, masg, mpar2, stPar2, isiD, dTy, isiInt, isiBl, isiLst, isiTup, isiObj, or2, nm, mvarF, mchain, mop2, mrev, lstD, mrevA, mpar3, stPar3, List.findIdx?_cons, List.findIdx?_nil, isiStr]
  · exact e1
  · exact e2
  all_goals simp [d_is_name, b_is_name, fnD, ms, mseq, mbind, mret, mopt, mbad, mvar, res, strong, strongs, ress, mun, mbin, mbinR, mcb, mcons, mcond, mif, mandV, morV, mnotV, tob, truD, mfld, fldD, putO, mputf, stSet, stSetP, mfrz, mlst, mtup, mslice, mpart, intD, dSl, on1, on2, absD, TW.intOf, TW.listOf, TW.tupOf, dInt2, dCmp2, dNeg, dIsN, dNotN, D.isNon, dupFree, argsOf, argOf, Sl.some?, putBack, Opd.isS, Sl.own, Rv.sl, Rv.d, mwalk, walkD, itemsD, mrng, rng1, rng2, rng3, tgName, tgTup, tgCons, tgNil, masg, mpar2, stPar2, isiD, dTy, isiInt, isiBl, isiLst, isiTup, isiObj, or2, nm, mvarF, mchain, mop2, mrev, lstD, mrevA, mpar3, stPar3, List.findIdx?_cons, List.findIdx?_nil, isiStr]
/-! ## names_right -/
/-- a name so far -/
def Nm (k : Nat) (l : List Nat) : Prop := ∃ c r, l = c :: r ∧ c ∈ LET ∧ (∀ x ∈ l, x ∈ LET ++ DIG) ∧ l.length ≤ k
theorem Nm.name {k : Nat} {l : List Nat} (h : Nm k l) (hk : k ≤ 12) : nameB l = true := by
  obtain ⟨c, r, rfl, hc, ha, hl⟩ := h
  rw [nameB_cons, decide_eq_true hc, decide_eq_true (by omega), Bool.true_and, Bool.true_and, List.all_eq_true]
  exact fun x hx => decide_eq_true (ha x hx)
theorem name_bent {l : List Nat} {c : Nat} (hc : c ∈ l) (h : ¬ c ∈ LET ++ DIG) : nameB l = false := by
  cases l with
  | nil => rfl
  | cons a r =>
    have : ((a :: r).all fun k => decide (k ∈ LET ++ DIG)) = false := by
      rw [Bool.eq_false_iff]; intro hx
      exact h (of_decide_eq_true (List.all_eq_true.mp hx c hc))
    rw [nameB_cons, this, Bool.and_false]
theorem name_long {l : List Nat} (h : 12 < l.length) : nameB l = false := by
  cases l with
  | nil => rfl
  | cons a r => rw [nameB_cons, decide_eq_false (by omega), Bool.false_and, Bool.false_and]
end K01

set_option linter.all false
set_option autoImplicit false
set_option maxRecDepth 100000
set_option maxHeartbeats 4000000
namespace K01
open PySem TW L2
theorem lst_st {l : List Nat} (h : l.length ≤ 100000) : lstOfS (.str (st l)) = some (.l (l.map fun c => .str (st [c]))) := by
  unfold lstOfS; dsimp only; rw [st_len, if_pos h, st_items]
theorem sl_st {l : List Nat} (lo hi : Option Int) (h : l.length ≤ 100000) : dSlS (.str (st l)) lo hi = some (.str (st (cutD l lo hi))) := by
  unfold dSlS; dsimp only; rw [st_len, if_pos h, st_cut]
theorem s_z : Str.ofString "z" = st [122] := by decide +kernel
theorem rep_st {n : Int} (h0 : 0 ≤ n) (h : n ≤ 1000) : dRepS (.str (Str.ofString "z")) (.int n) = some (.str (st (List.replicate n.toNat 122))) := by
  rw [s_z]
  unfold dRepS; dsimp only
  rw [if_pos ⟨st_len _, h, by omega⟩]
  by_cases h1 : n < 1
  · rw [if_pos h1]
    have : n.toNat = 0 := by omega
    rw [this]; rfl
  · rw [if_neg h1]
    by_cases h2 : n = 1
    · subst h2; rfl
    · rw [if_neg h2, st_rep]
theorem nr_1 (fu : Nat) (b : List D) : st__law_names_right_1 fu [.l b, .no, .no, .no, .no, .no, .no] = .nx [.l b, .v (.str (st LET)), .v (.str (st (LET ++ DIG))), .no, .no, .no, .no] := by
  have e1 := s_let
  have e2 := s_sgn
  generalize st LET = w1 at *
  generalize st (LET ++ DIG) = w2 at *
  simp [st__law_names_right_1, fnD, ms, mseq, mbind, mret, mopt, mbad, mvar, res, strong, strongs, ress, mun, mbin, mbinR, mcb, mcons, mcond, mif, mandV, morV, mnotV, tob, truD, mfld, fldD, putO, mputf, stSet, stSetP, mfrz, mlst, mtup, mslice, mpart, intD, dSl, on1, on2, absD, TW.intOf, TW.listOf, TW.tupOf, dInt2, dCmp2, dNeg, dIsN, dNotN, D.isNon, dupFree, argsOf, argOf, Sl.some?, putBack, Opd.isS, Sl.own, Rv.sl, Rv.d, mwalk, walkD, itemsD, mrng, rng1, rng2, rng3, tgName, tgTup, tgCons, tgNil, masg, mpar2, stPar2, isiD, dTy, isiInt, isiBl, isiLst, isiTup, isiObj, or2, nm, mvarF, mchain, mop2, mrev, lstD, mrevA, mpar3, stPar3, List.findIdx?_cons, List.findIdx?_nil, e1, e2]
/-- one of the signs of a text -/
theorem sign_ok (fu : Nat) {K : Nat} {b : List D} {l : List Nat} (h : Bg K b) (hK : K < 900000) (hl : l ≠ []) (hn : l.length < 1000) : ∃ c b', c ∈ l ∧ d__law_take fu [.l b, .v (.lst (l.map fun c => .str (st [c])))] = .ret (.v (.str (st [c]))) [.l b', .v (.lst (l.map fun c => .str (st [c])))] ∧ Bg (K + 1) b' := by
  obtain ⟨x, b', hx, e, hb⟩ := take_ok fu (ds := l.map fun c => .str (st [c])) h (by omega) (by simpa using hl) (by rw [List.length_map]; omega)
  obtain ⟨c, hc, rfl⟩ := List.mem_map.mp hx
  exact ⟨c, b', hc, e, hb⟩
theorem nr_2 (fu : Nat) {K : Nat} {b : List D} (h : Bg K b) (hK : K < 900000) (d2 : D) : ∃ l b', st__law_names_right_2 fu [.l b, .v (.str (st LET)), .v d2, .no, .no, .no, .no] = .nx [.l b', .v (.str (st LET)), .v d2, .v (.str (st l)), .no, .no, .no] ∧ Nm 1 l ∧ Bg (K + 1) b' := by
  obtain ⟨c, b', hc, e, hb⟩ := sign_ok fu (l := LET) h hK (by decide) (by decide)
  refine ⟨[c], b', ?_, ⟨c, [], rfl, hc, by simpa using .inl hc, by simp⟩, hb⟩
  have e1 : lstOfS (.str (st LET)) = _ := lst_st (by decide)
  generalize (LET.map fun c => D.str (st [c])) = w at *
  generalize st LET = w1 at *
  generalize st [c] = w2 at *
  simp [st__law_names_right_2, mcall, fnD, ms, mseq, mbind, mret, mopt, mbad, mvar, res, strong, strongs, ress, mun, mbin, mbinR, mcb, mcons, mcond, mif, mandV, morV, mnotV, tob, truD, mfld, fldD, putO, mputf, stSet, stSetP, mfrz, mlst, mtup, mslice, mpart, intD, dSl, on1, on2, absD, TW.intOf, TW.listOf, TW.tupOf, dInt2, dCmp2, dNeg, dIsN, dNotN, D.isNon, dupFree, argsOf, argOf, Sl.some?, putBack, Opd.isS, Sl.own, Rv.sl, Rv.d, mwalk, walkD, itemsD, mrng, rng1, rng2, rng3, tgName, tgTup, tgCons, tgNil, masg, mpar2, stPar2, isiD, dTy, isiInt, isiBl, isiLst, isiTup, isiObj, or2, nm, mvarF, mchain, mop2, mrev, lstD, mrevA, mpar3, stPar3, List.findIdx?_cons, List.findIdx?_nil, e1, e]
theorem nr_lb (fu : Nat) {K : Nat} {b : List D} (h : Bg K b) (hK : K < 900000) (d1 d4 : D) {l : List Nat} {k : Nat} (hl : Nm k l) (hk : k < 1000) : ∃ l' b', lb__law_names_right_1 fu [.l b, .v d1, .v (.str (st (LET ++ DIG))), .v (.str (st l)), .v d4, .no, .no] = .nx [.l b', .v d1, .v (.str (st (LET ++ DIG))), .v (.str (st l')), .v d4, .no, .no] ∧ Nm (k + 1) l' ∧ Bg (K + 1) b' := by
  obtain ⟨c, b', hc, e, hb⟩ := sign_ok fu (l := LET ++ DIG) h hK (by decide) (by decide)
  obtain ⟨a, r, rfl, ha, hr, hn⟩ := hl
  refine ⟨(a :: r) ++ [c], b', ?_, ⟨a, r ++ [c], rfl, ha, fun x hx => ?_, by rw [List.length_append]; simp at hn ⊢; omega⟩, hb⟩
  · have e1 : lstOfS (.str (st (LET ++ DIG))) = _ := lst_st (by decide)
    have e2 : dAddX (.str (st (a :: r))) (.str (st [c])) = _ := dAdd_st (by simp at hn ⊢; omega)
    generalize ((LET ++ DIG).map fun c => D.str (st [c])) = w at *
    generalize st (LET ++ DIG) = w1 at *
    generalize st (a :: r ++ [c]) = w3 at *
    generalize st [c] = w2 at *
    generalize st (a :: r) = w4 at *
    simp [lb__law_names_right_1, mcall, fnD, ms, mseq, mbind, mret, mopt, mbad, mvar, res, strong, strongs, ress, mun, mbin, mbinR, mcb, mcons, mcond, mif, mandV, morV, mnotV, tob, truD, mfld, fldD, putO, mputf, stSet, stSetP, mfrz, mlst, mtup, mslice, mpart, intD, dSl, on1, on2, absD, TW.intOf, TW.listOf, TW.tupOf, dInt2, dCmp2, dNeg, dIsN, dNotN, D.isNon, dupFree, argsOf, argOf, Sl.some?, putBack, Opd.isS, Sl.own, Rv.sl, Rv.d, mwalk, walkD, itemsD, mrng, rng1, rng2, rng3, tgName, tgTup, tgCons, tgNil, masg, mpar2, stPar2, isiD, dTy, isiInt, isiBl, isiLst, isiTup, isiObj, or2, nm, mvarF, mchain, mop2, mrev, lstD, mrevA, mpar3, stPar3, List.findIdx?_cons, List.findIdx?_nil, e1, e2, e]
  · rcases List.mem_append.mp hx with h1 | h1
    · exact hr x h1
    · rw [List.mem_singleton.mp h1]; exact hc
theorem nr_l (fu : Nat) {K : Nat} {b : List D} (h : Bg K b) (hK : K < 800000) (d1 : D) {l : List Nat} (hl : Nm 1 l) : ∃ l' b' x, x.own = false ∧ l__law_names_right_1 fu [.l b, .v d1, .v (.str (st (LET ++ DIG))), .v (.str (st l)), .no, .no, .no] = .nx [.l b', .v d1, .v (.str (st (LET ++ DIG))), .v (.str (st l')), x, .no, .no] ∧ Nm 12 l' ∧ Bg (K + 20) b' := by
  obtain ⟨n, b1, e1, h1, h2, hb⟩ := p5 fu h (by omega) 12
  have hm : li__law_names_right_1 fu [.l b, .v d1, .v (.str (st (LET ++ DIG))), .v (.str (st l)), .no, .no, .no] = .ok (rangeD 0 n.toNat) [.l b1, .v d1, .v (.str (st (LET ++ DIG))), .v (.str (st l)), .no, .no, .no] := by
    have er := okR_ok' h1 (by omega)
    generalize st (LET ++ DIG) = w1 at *
    simp [li__law_names_right_1, mcall, fnD, ms, mseq, mbind, mret, mopt, mbad, mvar, res, strong, strongs, ress, mun, mbin, mbinR, mcb, mcons, mcond, mif, mandV, morV, mnotV, tob, truD, mfld, fldD, putO, mputf, stSet, stSetP, mfrz, mlst, mtup, mslice, mpart, intD, dSl, on1, on2, lenD, absD, TW.intOf, TW.listOf, TW.tupOf, dInt2, dCmp2, dNeg, dIx, dIsN, dNotN, D.isNon, dupFree, argsOf, argOf, Sl.some?, putBack, Opd.isS, Sl.own, Rv.sl, Rv.d, mwalk, walkD, itemsD, mrng, rng1, rng2, rng3, tgName, tgTup, tgCons, tgNil, masg, mpar2, stPar2, isiD, dTy, isiInt, isiBl, isiLst, isiTup, isiObj, or2, nm, mvarF, mchain, mop2, dAddX, dAddS, mrev, lstD, mrevA, mpar3, stPar3, List.findIdx?_cons, List.findIdx?_nil, e1, er]
  obtain ⟨s', es, l', b', x, rfl, hx, hl', hb'⟩ := for_ok (fi := li__law_names_right_1 fu) (tm := tgName 4) (bd := lb__law_names_right_1 fu) (fun i s => ∃ l' b' x, s = [.l b', .v d1, .v (.str (st (LET ++ DIG))), .v (.str (st l')), x, .no, .no] ∧ x.own = false ∧ Nm (1 + i) l' ∧ Bg (K + 1 + i) b') hm ⟨l, b1, .no, rfl, rfl, hl, hb⟩ fun j d s hj hP => by
    obtain ⟨l', b', x, rfl, hx, hl', hb'⟩ := hP
    obtain ⟨hjn, rfl⟩ := rangeD_get hj
    obtain ⟨l2, b2, e2, hl2, hb2⟩ := nr_lb fu hb' (by omega) d1 (.int (0 + (j : Nat))) hl' (by omega)
    exact ⟨_, _, by simp [tgName, hx]; rfl, by simpa using e2, l2, b2, _, rfl, rfl, hl2, hb2⟩
  have hr : (rangeD 0 n.toNat).length = n.toNat := by simp [rangeD]
  rw [hr] at hl' hb'
  refine ⟨l', b', x, hx, es, ?_, hb'.mono (by omega)⟩
  obtain ⟨c, r, e, i1, i2, i3⟩ := hl'
  exact ⟨c, r, e, i1, i2, by omega⟩
end K01

set_option linter.all false
set_option autoImplicit false
set_option maxRecDepth 100000
set_option maxHeartbeats 4000000
namespace K01
open PySem TW L2
def oddS : List D := [.str (Str.ofString "A"), .str (Str.ofString " "), .str (Str.ofString "_"), .str (Str.ofString "-"), .str (Str.ofString "."), .str (Str.ofString "\n"), .str (Str.ofString "Z"), .str (Str.ofString "#"), .str (Str.ofString "{"), .str (Str.ofString "/"), .str (Str.ofString ":")]
theorem odd_sign {x : D} (h : x ∈ oddS) : ∃ c, x = .str (st [c]) ∧ ¬ c ∈ LET ++ DIG := by
  have e : oddS = [65, 32, 95, 45, 46, 10, 90, 35, 123, 47, 58].map fun c => D.str (st [c]) := by
    have h1 : Str.ofString "A" = st [65] := by decide +kernel
    have h2 : Str.ofString " " = st [32] := by decide +kernel
    have h3 : Str.ofString "_" = st [95] := by decide +kernel
    have h4 : Str.ofString "-" = st [45] := by decide +kernel
    have h5 : Str.ofString "." = st [46] := by decide +kernel
    have h6 : Str.ofString "\n" = st [10] := by decide +kernel
    have h7 : Str.ofString "Z" = st [90] := by decide +kernel
    have h8 : Str.ofString "#" = st [35] := by decide +kernel
    have h9 : Str.ofString "{" = st [123] := by decide +kernel
    have h10 : Str.ofString "/" = st [47] := by decide +kernel
    have h11 : Str.ofString ":" = st [58] := by decide +kernel
    unfold oddS
    rw [h1, h2, h3, h4, h5, h6, h7, h8, h9, h10, h11]; rfl
  rw [e] at h
  obtain ⟨c, hc, rfl⟩ := List.mem_map.mp h
  have : ∀ k ∈ [65, 32, 95, 45, 46, 10, 90, 35, 123, 47, 58], ¬ k ∈ LET ++ DIG := by decide
  exact ⟨c, rfl, this c hc⟩
theorem nr_4 (fu : Nat) {K : Nat} {b : List D} (h : Bg K b) (hK : K < 800000) (d1 d2 : D) (x : Sl) (hx : x.own = false) {l : List Nat} (hl : l.length ≤ 12) : ∃ k c b', st__law_names_right_4 fu [.l b, .v d1, .v d2, .v (.str (st l)), x, .no, .no] = .nx [.l b', .v d1, .v d2, .v (.str (st l)), x, .v (.int k), .v (.str (st [c]))] ∧ (¬ c ∈ LET ++ DIG) ∧ Bg (K + 2) b' := by
  obtain ⟨k, b1, e1, h1, h2, hb⟩ := pull_ok fu (k := (l.length : Int) + 1) h (by omega) (by omega) (log2_small (bd30 (by omega)) (by omega))
  obtain ⟨y, b2, hy, e2, hb2⟩ := take_ok fu (ds := oddS) hb (by omega) (by simp [oddS]) (by simp [oddS])
  obtain ⟨c, rfl, hc⟩ := odd_sign hy
  refine ⟨k, c, b2, ?_, hc, hb2⟩
  have e3 : lenD (.str (st l)) = _ := lenD_st (by omega)
  have e4 : dAddX (.int (l.length : Int)) (.int 1) = some (.int ((l.length : Int) + 1)) := rfl
  unfold oddS at e2
  generalize st l = w at *
  generalize st [c] = w2 at *
  simp [st__law_names_right_4, mcall, fnD, ms, mseq, mbind, mret, mopt, mbad, mvar, res, strong, strongs, ress, mun, mbin, mbinR, mcb, mcons, mcond, mif, mandV, morV, mnotV, tob, truD, mfld, fldD, putO, mputf, stSet, stSetP, mfrz, mlst, mtup, mslice, mpart, intD, dSl, on1, on2, absD, TW.intOf, TW.listOf, TW.tupOf, dInt2, dCmp2, dNeg, dIsN, dNotN, D.isNon, dupFree, argsOf, argOf, Sl.some?, putBack, Opd.isS, Sl.own, Rv.sl, Rv.d, mwalk, walkD, itemsD, mrng, rng1, rng2, rng3, tgName, tgTup, tgCons, tgNil, masg, mpar2, stPar2, isiD, dTy, isiInt, isiBl, isiLst, isiTup, isiObj, or2, nm, mvarF, mchain, mop2, mrev, lstD, mrevA, mpar3, stPar3, List.findIdx?_cons, List.findIdx?_nil, e1, e2, e3, e4, hx]
theorem cut_mid {l : List Nat} {k : Int} {c : Nat} : c ∈ cutD l none (some k) ++ [c] ++ cutD l (some k) none := by simp
theorem nr_5 (fu : Nat) (b : List D) (d1 d2 : D) (x : Sl) (hx : x.own = false) {l : List Nat} (hl : Nm 12 l) (k : Int) (c : Nat) (hc : ¬ c ∈ LET ++ DIG) : st__law_names_right_5 fu [.l b, .v d1, .v d2, .v (.str (st l)), x, .v (.int k), .v (.str (st [c]))] = .nx [.l b, .v d1, .v d2, .v (.str (st l)), x, .v (.int k), .v (.str (st [c]))] := by
  have hn : l.length ≤ 12 := by obtain ⟨_, _, _, _, _, h⟩ := hl; exact h
  have l1 := cutD_len l none (some k)
  have l2 := cutD_len l (some k) none
  have a1 := sl_st none (some k) (show l.length ≤ 100000 by omega)
  have a2 := sl_st (some k) none (show l.length ≤ 100000 by omega)
  have a3 : dAddX (.str (st (cutD l none (some k)))) (.str (st [c])) = _ := dAdd_st (by simp; omega)
  have a4 : dAddX (.str (st (cutD l none (some k) ++ [c]))) (.str (st (cutD l (some k) none))) = _ := dAdd_st (by rw [List.length_append]; simp; omega)
  have e1 := ev_name fu l (by omega)
  rw [hl.name (Nat.le_refl _)] at e1
  have e2 := ev_name fu (cutD l none (some k) ++ [c] ++ cutD l (some k) none) (by rw [List.length_append, List.length_append]; simp; omega)
  rw [name_bent cut_mid hc] at e2
  have e3 := ev_same fu true true
  have e4 := ev_same fu false false
  generalize st (cutD l none (some k) ++ [c] ++ cutD l (some k) none) = w1 at *
  generalize st (cutD l none (some k) ++ [c]) = w2 at *
  generalize st (cutD l none (some k)) = w3 at *
  generalize st (cutD l (some k) none) = w4 at *
  generalize st l = w5 at *
  generalize st [c] = w6 at *
  cases x <;> first | (cases hx; done) | simp [st__law_names_right_5, mcall, fnD, ms, mseq, mbind, mret, mopt, mbad, mvar, res, strong, strongs, ress, mun, mbin, mbinR, mcb, mcons, mcond, mif, mandV, morV, mnotV, tob, truD, mfld, fldD, putO, mputf, stSet, stSetP, mfrz, mlst, mtup, mslice, mpart, intD, dSl, on1, on2, absD, TW.intOf, TW.listOf, TW.tupOf, dInt2, dCmp2, dNeg, dIsN, dNotN, D.isNon, dupFree, argsOf, argOf, Sl.some?, putBack, Opd.isS, Sl.own, Rv.sl, Rv.d, mwalk, walkD, itemsD, mrng, rng1, rng2, rng3, tgName, tgTup, tgCons, tgNil, masg, mpar2, stPar2, isiD, dTy, isiInt, isiBl, isiLst, isiTup, isiObj, or2, nm, mvarF, mchain, mop2, mrev, lstD, mrevA, mpar3, stPar3, List.findIdx?_cons, List.findIdx?_nil, msliceS, a1, a2, a3, a4, e1, e2, e3, e4]
theorem s_4 : Str.ofString "4" = st [52] := by decide +kernel
theorem nr_6 (fu : Nat) (b : List D) (d1 d2 : D) (x : Sl) (hx : x.own = false) {l : List Nat} (hl : Nm 12 l) (k c : D) : st__law_names_right_6 fu [.l b, .v d1, .v d2, .v (.str (st l)), x, .v k, .v c] = .nx [.l b, .v d1, .v d2, .v (.str (st l)), x, .v k, .v c] := by
  have hn : l.length ≤ 12 := by obtain ⟨_, _, _, _, _, h⟩ := hl; exact h
  have l1 := cutD_len l none (some 4)
  have a1 := sl_st none (some 4) (show l.length ≤ 100000 by omega)
  have a3 : dAddX (.str (st [52])) (.str (st (cutD l none (some 4)))) = _ := dAdd_st (by simp; omega)
  have e1 := ev_name fu ([52] ++ cutD l none (some 4)) (by simp; omega)
  have q1 : nameB ([52] ++ cutD l none (some 4)) = false := by
    rw [List.singleton_append, nameB_cons, decide_eq_false (small_let (by decide)), Bool.and_false, Bool.false_and]
  rw [q1] at e1
  have a5 : lenD (.str (st l)) = _ := lenD_st (by omega)
  have a6 := rep_st (n := 13 - (l.length : Int)) (by omega) (by omega)
  have a7 : dAddX (.str (st l)) (.str (st (List.replicate (13 - (l.length : Int)).toNat 122))) = _ := dAdd_st (by rw [List.length_replicate]; omega)
  have e2 := ev_name fu (l ++ List.replicate (13 - (l.length : Int)).toNat 122) (by rw [List.length_append, List.length_replicate]; omega)
  rw [name_long (by rw [List.length_append, List.length_replicate]; omega)] at e2
  have e4 := ev_same fu false false
  have s4 := s_4
  generalize st ([52] ++ cutD l none (some 4)) = w1 at *
  generalize st (cutD l none (some 4)) = w3 at *
  generalize st (l ++ List.replicate (13 - (l.length : Int)).toNat 122) = w4 at *
  generalize st (List.replicate (13 - (l.length : Int)).toNat 122) = w5 at *
  generalize st l = w6 at *
  generalize st [52] = w7 at *
  cases x <;> first | (cases hx; done) | simp [st__law_names_right_6, mcall, fnD, ms, mseq, mbind, mret, mopt, mbad, mvar, res, strong, strongs, ress, mun, mbin, mbinR, mcb, mcons, mcond, mif, mandV, morV, mnotV, tob, truD, mfld, fldD, putO, mputf, stSet, stSetP, mfrz, mlst, mtup, mslice, mpart, intD, dSl, on1, on2, absD, TW.intOf, TW.listOf, TW.tupOf, dInt2, dCmp2, dNeg, dIsN, dNotN, D.isNon, dupFree, argsOf, argOf, Sl.some?, putBack, Opd.isS, Sl.own, Rv.sl, Rv.d, mwalk, walkD, itemsD, mrng, rng1, rng2, rng3, tgName, tgTup, tgCons, tgNil, masg, mpar2, stPar2, isiD, dTy, isiInt, isiBl, isiLst, isiTup, isiObj, or2, nm, mvarF, mchain, mop2, mrev, lstD, mrevA, mpar3, stPar3, List.findIdx?_cons, List.findIdx?_nil, msliceS, s4, a1, a3, a5, a6, a7, e1, e2, e4]
theorem nr_7 (fu : Nat) {K : Nat} {b : List D} (h : Bg K b) (hK : K < 800000) (d1 d2 : D) (x : Sl) (hx : x.own = false) {l : List Nat} (hl : Nm 12 l) (k c : D) : ∃ b', st__law_names_right_7 fu [.l b, .v d1, .v d2, .v (.str (st l)), x, .v k, .v c] = .rt (.v (.bl true)) [.l b', .v d1, .v d2, .v (.str (st l)), x, .v k, .v c] ∧ Bg (K + 4) b' := by
  have hn : l.length ≤ 12 := by obtain ⟨_, _, _, _, _, h⟩ := hl; exact h
  obtain ⟨d, b', e0, hd, hb⟩ := value_ok fu h (by omega)
  refine ⟨b', ?_, hb⟩
  have e1 := name_odd fu hd
  have a5 : lenD (.str (st l)) = _ := lenD_st (by omega)
  have a6 := rep_st (n := 12 - (l.length : Int)) (by omega) (by omega)
  have a7 : dAddX (.str (st l)) (.str (st (List.replicate (12 - (l.length : Int)).toNat 122))) = _ := dAdd_st (by rw [List.length_replicate]; omega)
  have e2 := ev_name fu (l ++ List.replicate (12 - (l.length : Int)).toNat 122) (by rw [List.length_append, List.length_replicate]; omega)
  have q2 : nameB (l ++ List.replicate (12 - (l.length : Int)).toNat 122) = true := by
    obtain ⟨a, r, rfl, ha, hr, _⟩ := hl
    refine Nm.name (k := 12) ⟨a, r ++ List.replicate (12 - ((a :: r).length : Int)).toNat 122, rfl, ha, fun y hy => ?_, ?_⟩ (Nat.le_refl _)
    · rcases List.mem_append.mp hy with h1 | h1
      · exact hr y h1
      · rw [(List.mem_replicate.mp h1).2]; decide
    · rw [List.length_append, List.length_replicate]; omega
  rw [q2] at e2
  have e3 : d_is_name fu [.v (.str (Str.ofString ""))] = .ret (.v (.bl false)) [.v (.str (Str.ofString ""))] := ev_name fu [] (by simp)
  have e4 := ev_same fu true true
  generalize st (l ++ List.replicate (12 - (l.length : Int)).toNat 122) = w4 at *
  generalize st (List.replicate (12 - (l.length : Int)).toNat 122) = w5 at *
  generalize st l = w6 at *
  cases x <;> first | (cases hx; done) | simp [st__law_names_right_7, mcall, fnD, ms, mseq, mbind, mret, mopt, mbad, mvar, res, strong, strongs, ress, mun, mbin, mbinR, mcb, mcons, mcond, mif, mandV, morV, mnotV, tob, truD, mfld, fldD, putO, mputf, stSet, stSetP, mfrz, mlst, mtup, mslice, mpart, intD, dSl, on1, on2, absD, TW.intOf, TW.listOf, TW.tupOf, dInt2, dCmp2, dNeg, dIsN, dNotN, D.isNon, dupFree, argsOf, argOf, Sl.some?, putBack, Opd.isS, Sl.own, Rv.sl, Rv.d, mwalk, walkD, itemsD, mrng, rng1, rng2, rng3, tgName, tgTup, tgCons, tgNil, masg, mpar2, stPar2, isiD, dTy, isiInt, isiBl, isiLst, isiTup, isiObj, or2, nm, mvarF, mchain, mop2, mrev, lstD, mrevA, mpar3, stPar3, List.findIdx?_cons, List.findIdx?_nil, e0, a5, a6, a7, e1, e2, e3, e4]
theorem names_right (fu : Nat) {K : Nat} {b : List D} (h : Bg K b) (hK : K < 700000) : ∃ b', d__law_names_right fu [.l b] = .ret (.v (.bl true)) [.l b'] ∧ Bg (K + 30) b' := by
  have s1 := nr_1 fu b
  obtain ⟨l, b2, s2, hl, hb2⟩ := nr_2 fu h (by omega) (.str (st (LET ++ DIG)))
  obtain ⟨l3, b3, x, hx, s3, hl3, hb3⟩ := nr_l fu hb2 (by omega) (.str (st LET)) hl
  have hn : l3.length ≤ 12 := by obtain ⟨_, _, _, _, _, h⟩ := hl3; exact h
  obtain ⟨k, c, b4, s4, hc, hb4⟩ := nr_4 fu hb3 (by omega) (.str (st LET)) (.str (st (LET ++ DIG))) x hx hn
  have s5 := nr_5 fu b4 (.str (st LET)) (.str (st (LET ++ DIG))) x hx hl3 k c hc
  have s6 := nr_6 fu b4 (.str (st LET)) (.str (st (LET ++ DIG))) x hx hl3 (.int k) (.str (st [c]))
  obtain ⟨b7, s7, hb7⟩ := nr_7 fu hb4 (by omega) (.str (st LET)) (.str (st (LET ++ DIG))) x hx hl3 (.int k) (.str (st [c]))
  refine ⟨b7, ?_, hb7.mono (by omega)⟩
  generalize st LET = w1 at *
  generalize st (LET ++ DIG) = w2 at *
  simp [d__law_names_right, b__law_names_right, fnD, mseq, s1, s2, s3, s4, s5, s6, s7]
end K01

set_option linter.all false
set_option autoImplicit false
set_option maxRecDepth 100000
set_option maxHeartbeats 4000000
namespace K01
open PySem TW L2
/-! ## is_lot -/
def inR (m z : Int) : Bool := decide (0 ≤ z) && decide (z < m)
def prs (p : List Int) : List (Int × Int) := p.zip (p.drop 1)
def upB (p : List Int) : Bool := (prs p).all fun x => decide (x.1 < x.2)
def lotB (p : List Int) (m : Int) : Bool := p.all (inR m) && upB p
theorem cut_tail (p : List Int) : cutD p (some 1) none = p.drop 1 := by
  unfold cutD HT.sIx
  cases p with
  | nil => rfl
  | cons a r => simp
theorem zip_I : ∀ p q : List Int, zipW (I p) (I q) = (p.zip q).map fun x => D.tup [.int x.1, .int x.2]
  | [], q => by cases q <;> rfl
  | a :: p, [] => rfl
  | a :: p, b :: q => by
    show _ :: zipW (I p) (I q) = _
    rw [zip_I p q]; rfl
theorem ev_c_lot2 (fu : Nat) {d : D} {p : List Int} (h : rowD d p) (hl : p.length ≤ 1000000) (m : Int) : c_is_lot_2 fu [.v d, .v (.int m), .no, .no, .no] = .ok (.l ((p.map (inR m)).map D.bl)) [.v d, .v (.int m), .no, .no, .no] := by
  have hm : ci_is_lot_2 fu [.v d, .v (.int m), .no, .no, .no] = .ok (I p) [.v d, .v (.int m), .no, .no, .no] := by
    rcases h with rfl | rfl <;> rfl
  obtain ⟨acc, s', e, ⟨hs, ha⟩, _⟩ := comp_ok (vs := [2]) (tm := tgName 2) (tt := ct_is_lot_2 fu) (te := ce_is_lot_2 fu) (fun i acc s => s = [.v d, .v (.int m), .no, .no, .no] ∧ acc = ((p.take i).map (inR m)).map D.bl) (I p) 0 [] [.v d, .v (.int m), .no, .no, .no] ⟨rfl, rfl⟩ (by rw [I_len]; simp; omega) fun j x acc s hj hP => by
    obtain ⟨rfl, rfl⟩ := hP
    obtain ⟨z, hz, rfl⟩ := I_at hj
    refine ⟨[.v d, .v (.int m), .v (.int z), .no, .no], true, _, rfl, rfl, .inr ⟨.bl (inR m z), [.v d, .v (.int m), .v (.int z), .no, .no], rfl, ?_, rfl, rfl, ?_⟩⟩
    · unfold inR
      by_cases h0 : 0 ≤ z <;> simp [ce_is_lot_2, fnD, ms, mseq, mbind, mret, mopt, mbad, mvar, res, strong, strongs, ress, mun, mbin, mbinR, mcb, mcons, mcond, mif, mandV, morV, mnotV, tob, truD, mfld, fldD, putO, mputf, stSet, stSetP, mfrz, mlst, mtup, mslice, mpart, intD, dSl, on1, on2, lenD, absD, TW.intOf, TW.listOf, TW.tupOf, dInt2, dCmp2, dNeg, dIx, dIsN, dNotN, D.isNon, dupFree, argsOf, argOf, Sl.some?, putBack, Opd.isS, Sl.own, Rv.sl, Rv.d, mwalk, walkD, itemsD, mrng, rng1, rng2, rng3, tgName, tgTup, tgCons, tgNil, masg, mpar2, stPar2, isiD, dTy, isiInt, isiBl, isiLst, isiTup, isiObj, or2, nm, mvarF, mchain, mop2, dAddX, dAddS, mrev, lstD, mrevA, mpar3, stPar3, List.findIdx?_cons, List.findIdx?_nil, h0]
    · rw [Nat.zero_add, List.take_succ, hz]; simp
  subst hs; subst ha
  unfold c_is_lot_2 mlc; rw [mb_k hm]
  rw [if_pos (by rfl)]
  have e' : compD [2] (tgName 2) (ct_is_lot_2 fu) (ce_is_lot_2 fu) (I p) [] (wipeS [.v d, .v (.int m), .no, .no, .no] [2]) = .ok (((p.take (0 + (I p).length)).map (inR m)).map D.bl) [.v d, .v (.int m), .no, .no, .no] := e
  rw [e', Nat.zero_add, I_len, List.take_length]; rfl
theorem ev_c_lot1 (fu : Nat) {d : D} {p : List Int} (h : rowD d p) (hl : p.length ≤ 1000000) (m : Int) : c_is_lot_1 fu [.v d, .v (.int m), .no, .no, .no] = .ok (.l (((prs p).map fun x => decide (x.1 < x.2)).map D.bl)) [.v d, .v (.int m), .no, .no, .no] := by
  have hc := cutD_I p (some 1) none
  rw [cut_tail] at hc
  have hm : ci_is_lot_1 fu [.v d, .v (.int m), .no, .no, .no] = .ok ((prs p).map fun x => D.tup [.int x.1, .int x.2]) [.v d, .v (.int m), .no, .no, .no] := by
    have hz := zip_I p (p.drop 1)
    unfold prs
    generalize (p.zip (p.drop 1)).map _ = w at *
    generalize I (p.drop 1) = w1 at *
    rcases h with h | h <;> subst h <;> simp [ci_is_lot_1, mzip, zipD, fnD, ms, mseq, mbind, mret, mopt, mbad, mvar, res, strong, strongs, ress, mun, mbin, mbinR, mcb, mcons, mcond, mif, mandV, morV, mnotV, tob, truD, mfld, fldD, putO, mputf, stSet, stSetP, mfrz, mlst, mtup, mslice, mpart, intD, dSl, on1, on2, lenD, absD, TW.intOf, TW.listOf, TW.tupOf, dInt2, dCmp2, dNeg, dIx, dIsN, dNotN, D.isNon, dupFree, argsOf, argOf, Sl.some?, putBack, Opd.isS, Sl.own, Rv.sl, Rv.d, mwalk, walkD, itemsD, mrng, rng1, rng2, rng3, tgName, tgTup, tgCons, tgNil, masg, mpar2, stPar2, isiD, dTy, isiInt, isiBl, isiLst, isiTup, isiObj, or2, nm, mvarF, mchain, mop2, dAddX, dAddS, mrev, lstD, mrevA, mpar3, stPar3, List.findIdx?_cons, List.findIdx?_nil, hc, hz]
  have hlen : (prs p).length ≤ p.length := by unfold prs; rw [List.length_zip]; omega
  obtain ⟨acc, s', e, ⟨hs, ha⟩, _⟩ := comp_ok (vs := [3, 4]) (tm := tgTup 2 (tgCons (tgName 3) (tgCons (tgName 4) tgNil))) (tt := ct_is_lot_1 fu) (te := ce_is_lot_1 fu) (fun i acc s => s = [.v d, .v (.int m), .no, .no, .no] ∧ acc = (((prs p).take i).map fun x => decide (x.1 < x.2)).map D.bl) ((prs p).map fun x => D.tup [.int x.1, .int x.2]) 0 [] [.v d, .v (.int m), .no, .no, .no] ⟨rfl, rfl⟩ (by rw [List.length_map]; simp; omega) fun j x acc s hj hP => by
    obtain ⟨rfl, rfl⟩ := hP
    rw [List.getElem?_map] at hj
    cases hx : (prs p)[j]? with
    | none => rw [hx] at hj; cases hj
    | some y =>
      rw [hx] at hj; cases hj
      refine ⟨[.v d, .v (.int m), .no, .v (.int y.1), .v (.int y.2)], true, _, rfl, rfl, .inr ⟨.bl (decide (y.1 < y.2)), [.v d, .v (.int m), .no, .v (.int y.1), .v (.int y.2)], rfl, ?_, rfl, rfl, ?_⟩⟩
      · simp [ce_is_lot_1, fnD, ms, mseq, mbind, mret, mopt, mbad, mvar, res, strong, strongs, ress, mun, mbin, mbinR, mcb, mcons, mcond, mif, mandV, morV, mnotV, tob, truD, mfld, fldD, putO, mputf, stSet, stSetP, mfrz, mlst, mtup, mslice, mpart, intD, dSl, on1, on2, lenD, absD, TW.intOf, TW.listOf, TW.tupOf, dInt2, dCmp2, dNeg, dIx, dIsN, dNotN, D.isNon, dupFree, argsOf, argOf, Sl.some?, putBack, Opd.isS, Sl.own, Rv.sl, Rv.d, mwalk, walkD, itemsD, mrng, rng1, rng2, rng3, tgName, tgTup, tgCons, tgNil, masg, mpar2, stPar2, isiD, dTy, isiInt, isiBl, isiLst, isiTup, isiObj, or2, nm, mvarF, mchain, mop2, dAddX, dAddS, mrev, lstD, mrevA, mpar3, stPar3, List.findIdx?_cons, List.findIdx?_nil]
      · rw [Nat.zero_add, List.take_succ, hx]; simp
  subst hs; subst ha
  unfold c_is_lot_1 mlc; rw [mb_k hm]
  rw [if_pos (by rfl)]
  have e' : compD [3, 4] (tgTup 2 (tgCons (tgName 3) (tgCons (tgName 4) tgNil))) (ct_is_lot_1 fu) (ce_is_lot_1 fu) ((prs p).map fun x => D.tup [.int x.1, .int x.2]) [] (wipeS [.v d, .v (.int m), .no, .no, .no] [3, 4]) = .ok ((((prs p).take (0 + ((prs p).map fun x => D.tup [.int x.1, .int x.2]).length)).map fun x => decide (x.1 < x.2)).map D.bl) [.v d, .v (.int m), .no, .no, .no] := e
  rw [e', Nat.zero_add, List.length_map, List.take_length]; rfl
theorem ev_lot (fu : Nat) {d : D} {p : List Int} (h : rowD d p) (hl : p.length ≤ 1000000) (m : Int) : d_is_lot fu [.v d, .v (.int m)] = .ret (.v (.bl (lotB p m))) [.v d, .v (.int m)] := by
  obtain ⟨h1, h2⟩ := row_ok h hl
  have e := ev_are_integers fu h1
  rw [h2] at e
  have c2 := ev_c_lot2 fu h hl m
  have c1 := ev_c_lot1 fu h hl m
  have b2 := all_bls (p.map (inR m))
  have b1 := all_bls ((prs p).map fun x => decide (x.1 < x.2))
  have hb : lotB p m = ((p.map (inR m)).all id && ((prs p).map fun x => decide (x.1 < x.2)).all id) := by
    unfold lotB upB; rw [List.all_map, List.all_map]; rfl
  rw [hb]
  generalize p.map (inR m) = w1 at *
  generalize (prs p).map (fun x => decide (x.1 < x.2)) = w2 at *
  generalize w1.map D.bl = w3 at *
  generalize w2.map D.bl = w4 at *
  generalize w1.all id = w5 at *
  generalize w2.all id = w6 at *
  generalize I p = w7 at *
  cases w5 <;> simp [d_is_lot, b_is_lot, mcall, fnD, ms, mseq, mbind, mret, mopt, mbad, mvar, res, strong, strongs, ress, mun, mbin, mbinR, mcb, mcons, mcond, mif, mandV, morV, mnotV, tob, truD, mfld, fldD, putO, mputf, stSet, stSetP, mfrz, mlst, mtup, mslice, mpart, intD, dSl, on1, on2, lenD, absD, TW.intOf, TW.listOf, TW.tupOf, dInt2, dCmp2, dNeg, dIx, dIsN, dNotN, D.isNon, dupFree, argsOf, argOf, Sl.some?, putBack, Opd.isS, Sl.own, Rv.sl, Rv.d, mwalk, walkD, itemsD, mrng, rng1, rng2, rng3, tgName, tgTup, tgCons, tgNil, masg, mpar2, stPar2, isiD, dTy, isiInt, isiBl, isiLst, isiTup, isiObj, or2, nm, mvarF, mchain, mop2, dAddX, dAddS, mrev, lstD, mrevA, mpar3, stPar3, List.findIdx?_cons, List.findIdx?_nil, e, c1, c2, b1, b2]
theorem ev_lot_no (fu : Nat) {d m : D} (h : okD d = true) (hi : allI d = false) : d_is_lot fu [.v d, .v m] = .ret (.v (.bl false)) [.v d, .v m] := by
  have e := ev_are_integers fu h
  rw [hi] at e
  simp [d_is_lot, b_is_lot, mcall, fnD, ms, mseq, mbind, mret, mopt, mbad, mvar, res, strong, strongs, ress, mun, mbin, mbinR, mcb, mcons, mcond, mif, mandV, morV, mnotV, tob, truD, mfld, fldD, putO, mputf, stSet, stSetP, mfrz, mlst, mtup, mslice, mpart, intD, dSl, on1, on2, lenD, absD, TW.intOf, TW.listOf, TW.tupOf, dInt2, dCmp2, dNeg, dIx, dIsN, dNotN, D.isNon, dupFree, argsOf, argOf, Sl.some?, putBack, Opd.isS, Sl.own, Rv.sl, Rv.d, mwalk, walkD, itemsD, mrng, rng1, rng2, rng3, tgName, tgTup, tgCons, tgNil, masg, mpar2, stPar2, isiD, dTy, isiInt, isiBl, isiLst, isiTup, isiObj, or2, nm, mvarF, mchain, mop2, dAddX, dAddS, mrev, lstD, mrevA, mpar3, stPar3, List.findIdx?_cons, List.findIdx?_nil, e]
end K01

set_option linter.all false
set_option autoImplicit false
set_option maxRecDepth 100000
set_option maxHeartbeats 4000000
namespace K01
open PySem TW L2
theorem upB_cons2 (a b : Int) (r : List Int) : upB (a :: b :: r) = (decide (a < b) && upB (b :: r)) := rfl
theorem upB_iff : ∀ p : List Int, upB p = true ↔ p.Pairwise (· < ·)
  | [] => by simp [upB, prs]
  | [a] => by simp [upB, prs]
  | a :: b :: r => by
    have hp : (a :: b :: r).Pairwise (· < ·) ↔ (∀ c ∈ b :: r, a < c) ∧ (b :: r).Pairwise (· < ·) := List.pairwise_cons
    rw [upB_cons2, Bool.and_eq_true, decide_eq_true_eq, upB_iff (b :: r), hp]
    constructor
    · rintro ⟨h1, h2⟩
      refine ⟨fun c hc => ?_, h2⟩
      rcases List.mem_cons.mp hc with rfl | hc
      · exact h1
      · have := (List.pairwise_cons.mp h2).1 c hc; omega
    · rintro ⟨h1, h2⟩
      exact ⟨h1 b (by simp), h2⟩
theorem lotB_iff (p : List Int) (m : Int) : lotB p m = true ↔ (∀ z ∈ p, 0 ≤ z ∧ z < m) ∧ p.Pairwise (· < ·) := by
  unfold lotB
  rw [Bool.and_eq_true, upB_iff, List.all_eq_true]
  simp only [inR, Bool.and_eq_true, decide_eq_true_eq]
theorem lotB_no {p : List Int} {m : Int} (h : ¬ ((∀ z ∈ p, 0 ≤ z ∧ z < m) ∧ p.Pairwise (· < ·))) : lotB p m = false := by
  rw [Bool.eq_false_iff]; exact fun z => h ((lotB_iff p m).mp z)
theorem lotB_snoc {p : List Int} {m : Int} (h : lotB p m = true) (hm : 0 ≤ m) : lotB (p ++ [m]) (m + 1) = true := by
  rw [lotB_iff] at h ⊢
  refine ⟨fun z hz => ?_, ?_⟩
  · rcases List.mem_append.mp hz with h1 | h1
    · have := h.1 z h1; omega
    · rw [List.mem_singleton.mp h1]; omega
  · rw [List.pairwise_append]
    refine ⟨h.2, by simp, fun a ha b hb => ?_⟩
    rw [List.mem_singleton.mp hb]; exact (h.1 a ha).2
theorem lotB_mono {p : List Int} {m k : Int} (h : lotB p m = true) (hm : m ≤ k) : lotB p k = true := by
  rw [lotB_iff] at h ⊢
  exact ⟨fun z hz => by have := h.1 z hz; omega, h.2⟩
theorem lr_1 (fu : Nat) {K : Nat} {b : List D} (h : Bg K b) (hK : K < 900000) : ∃ m b', st__law_lots_right_1 fu [.l b, .no, .no, .no, .no] = .nx [.l b', .v (.int m), .no, .no, .no] ∧ 0 ≤ m ∧ m < 8 ∧ Bg (K + 1) b' := by
  obtain ⟨m, b1, e1, h1, h2, hb⟩ := p5 fu h (by omega) 8
  refine ⟨m, b1, ?_, h1, h2, hb⟩
  simp [st__law_lots_right_1, mcall, fnD, ms, mseq, mbind, mret, mopt, mbad, mvar, res, strong, strongs, ress, mun, mbin, mbinR, mcb, mcons, mcond, mif, mandV, morV, mnotV, tob, truD, mfld, fldD, putO, mputf, stSet, stSetP, mfrz, mlst, mtup, mslice, mpart, intD, dSl, on1, on2, lenD, absD, TW.intOf, TW.listOf, TW.tupOf, dInt2, dCmp2, dNeg, dIx, dIsN, dNotN, D.isNon, dupFree, argsOf, argOf, Sl.some?, putBack, Opd.isS, Sl.own, Rv.sl, Rv.d, mwalk, walkD, itemsD, mrng, rng1, rng2, rng3, tgName, tgTup, tgCons, tgNil, masg, mpar2, stPar2, isiD, dTy, isiInt, isiBl, isiLst, isiTup, isiObj, or2, nm, mvarF, mchain, mop2, dAddX, dAddS, mrev, lstD, mrevA, mpar3, stPar3, List.findIdx?_cons, List.findIdx?_nil, e1]
theorem lr_2 (fu : Nat) {K : Nat} {b : List D} (h : Bg K b) (hK : K < 900000) {m : Int} (h0 : 0 ≤ m) (h8 : m < 8) : ∃ p b', st__law_lots_right_2 fu [.l b, .v (.int m), .no, .no, .no] = .nx [.l b', .v (.int m), .l (I p), .no, .no] ∧ lotB p m = true ∧ p.length ≤ 8 ∧ Bg (K + 8) b' := by
  have hm : ci__law_lots_right_1 fu [.l b, .v (.int m), .no, .no, .no] = .ok (rangeD 0 m.toNat) [.l b, .v (.int m), .no, .no, .no] := by
    have er := okR_ok' h0 (by omega)
    simp [ci__law_lots_right_1, fnD, ms, mseq, mbind, mret, mopt, mbad, mvar, res, strong, strongs, ress, mun, mbin, mbinR, mcb, mcons, mcond, mif, mandV, morV, mnotV, tob, truD, mfld, fldD, putO, mputf, stSet, stSetP, mfrz, mlst, mtup, mslice, mpart, intD, dSl, on1, on2, lenD, absD, TW.intOf, TW.listOf, TW.tupOf, dInt2, dCmp2, dNeg, dIx, dIsN, dNotN, D.isNon, dupFree, argsOf, argOf, Sl.some?, putBack, Opd.isS, Sl.own, Rv.sl, Rv.d, mwalk, walkD, itemsD, mrng, rng1, rng2, rng3, tgName, tgTup, tgCons, tgNil, masg, mpar2, stPar2, isiD, dTy, isiInt, isiBl, isiLst, isiTup, isiObj, or2, nm, mvarF, mchain, mop2, dAddX, dAddS, mrev, lstD, mrevA, mpar3, stPar3, List.findIdx?_cons, List.findIdx?_nil, er]
  obtain ⟨acc, s', e, ⟨q, b2, rfl, rfl, hq, hn, hb2⟩, _⟩ := comp_ok (vs := [3]) (tm := tgName 3) (tt := ct__law_lots_right_1 fu) (te := ce__law_lots_right_1 fu) (fun i acc s => ∃ q b', acc = I q ∧ s = [.l b', .v (.int m), .no, .no, .no] ∧ lotB q (i : Nat) = true ∧ q.length ≤ i ∧ Bg (K + i) b') (rangeD 0 m.toNat) 0 [] [.l b, .v (.int m), .no, .no, .no] ⟨[], b, rfl, rfl, rfl, by simp, h⟩ (by simp [rangeD]; omega) fun j x acc s hj hP => by
    obtain ⟨q, b', rfl, rfl, hq, hn, hb'⟩ := hP
    obtain ⟨hjn, rfl⟩ := rangeD_get hj
    obtain ⟨y, b2, e2, hy1, hy2, hb2⟩ := p5 fu hb' (by omega) 2
    have e3 := dEq_int y 0
    rw [Nat.zero_add] at hq hn hb2 ⊢
    rw [show (0 : Int) + (j : Nat) = (j : Nat) by omega]
    by_cases hy : y = 0
    · subst hy
      refine ⟨[.l b', .v (.int m), .no, .v (.int (j : Nat)), .no], true, [.l b2, .v (.int m), .no, .v (.int (j : Nat)), .no], rfl, ?_, .inr ⟨.int (j : Nat), [.l b2, .v (.int m), .no, .v (.int (j : Nat)), .no], rfl, rfl, rfl, q ++ [((j : Nat) : Int)], b2, ?_, rfl, ?_, ?_, hb2⟩⟩
      · simp [ct__law_lots_right_1, mcall, fnD, ms, mseq, mbind, mret, mopt, mbad, mvar, res, strong, strongs, ress, mun, mbin, mbinR, mcb, mcons, mcond, mif, mandV, morV, mnotV, tob, truD, mfld, fldD, putO, mputf, stSet, stSetP, mfrz, mlst, mtup, mslice, mpart, intD, dSl, on1, on2, lenD, absD, TW.intOf, TW.listOf, TW.tupOf, dInt2, dCmp2, dNeg, dIx, dIsN, dNotN, D.isNon, dupFree, argsOf, argOf, Sl.some?, putBack, Opd.isS, Sl.own, Rv.sl, Rv.d, mwalk, walkD, itemsD, mrng, rng1, rng2, rng3, tgName, tgTup, tgCons, tgNil, masg, mpar2, stPar2, isiD, dTy, isiInt, isiBl, isiLst, isiTup, isiObj, or2, nm, mvarF, mchain, mop2, dAddX, dAddS, mrev, lstD, mrevA, mpar3, stPar3, List.findIdx?_cons, List.findIdx?_nil, e2, e3]
      · simp [I]
      · have := lotB_snoc hq (by omega)
        rw [show ((j + 1 : Nat) : Int) = (j : Int) + 1 by omega]; exact this
      · rw [List.length_append]; simp; omega
    · refine ⟨[.l b', .v (.int m), .no, .v (.int (j : Nat)), .no], false, [.l b2, .v (.int m), .no, .v (.int (j : Nat)), .no], rfl, ?_, .inl ⟨rfl, rfl, q, b2, rfl, rfl, lotB_mono hq (by omega), by omega, hb2⟩⟩
      simp [ct__law_lots_right_1, mcall, fnD, ms, mseq, mbind, mret, mopt, mbad, mvar, res, strong, strongs, ress, mun, mbin, mbinR, mcb, mcons, mcond, mif, mandV, morV, mnotV, tob, truD, mfld, fldD, putO, mputf, stSet, stSetP, mfrz, mlst, mtup, mslice, mpart, intD, dSl, on1, on2, lenD, absD, TW.intOf, TW.listOf, TW.tupOf, dInt2, dCmp2, dNeg, dIx, dIsN, dNotN, D.isNon, dupFree, argsOf, argOf, Sl.some?, putBack, Opd.isS, Sl.own, Rv.sl, Rv.d, mwalk, walkD, itemsD, mrng, rng1, rng2, rng3, tgName, tgTup, tgCons, tgNil, masg, mpar2, stPar2, isiD, dTy, isiInt, isiBl, isiLst, isiTup, isiObj, or2, nm, mvarF, mchain, mop2, dAddX, dAddS, mrev, lstD, mrevA, mpar3, stPar3, List.findIdx?_cons, List.findIdx?_nil, e2, e3, hy]
  have hr : (rangeD 0 m.toNat).length = m.toNat := by simp [rangeD]
  rw [hr, Nat.zero_add] at hq hn hb2
  rw [show ((m.toNat : Nat) : Int) = m by omega] at hq
  refine ⟨q, b2, ?_, hq, by omega, hb2.mono (by omega)⟩
  have ec : c__law_lots_right_1 fu [.l b, .v (.int m), .no, .no, .no] = .ok (.l (I q)) [.l b2, .v (.int m), .no, .no, .no] := by
    unfold c__law_lots_right_1 mlc; rw [mb_k hm]
    rw [if_pos (by rfl)]
    have e' : compD [3] (tgName 3) (ct__law_lots_right_1 fu) (ce__law_lots_right_1 fu) (rangeD 0 m.toNat) [] (wipeS [.l b, .v (.int m), .no, .no, .no] [3]) = .ok (I q) [.l b2, .v (.int m), .no, .no, .no] := e
    rw [e']; rfl
  generalize I q = w at *
  simp [st__law_lots_right_2, fnD, ms, mseq, mbind, mret, mopt, mbad, mvar, res, strong, strongs, ress, mun, mbin, mbinR, mcb, mcons, mcond, mif, mandV, morV, mnotV, tob, truD, mfld, fldD, putO, mputf, stSet, stSetP, mfrz, mlst, mtup, mslice, mpart, intD, dSl, on1, on2, lenD, absD, TW.intOf, TW.listOf, TW.tupOf, dInt2, dCmp2, dNeg, dIx, dIsN, dNotN, D.isNon, dupFree, argsOf, argOf, Sl.some?, putBack, Opd.isS, Sl.own, Rv.sl, Rv.d, mwalk, walkD, itemsD, mrng, rng1, rng2, rng3, tgName, tgTup, tgCons, tgNil, masg, mpar2, stPar2, isiD, dTy, isiInt, isiBl, isiLst, isiTup, isiObj, or2, nm, mvarF, mchain, mop2, dAddX, dAddS, mrev, lstD, mrevA, mpar3, stPar3, List.findIdx?_cons, List.findIdx?_nil, ec]
theorem lr_3 (fu : Nat) {K : Nat} {b : List D} (h : Bg K b) (hK : K < 900000) {m : Int} {p : List Int} (hp : lotB p m = true) (hl : p.length ≤ 8) : ∃ b', st__law_lots_right_3 fu [.l b, .v (.int m), .l (I p), .no, .no] = .nx [.l b', .v (.int m), .v (.lst (I p)), .no, .no] ∧ Bg (K + 1) b' := by
  obtain ⟨k, b1, e0, h1, h2, hb⟩ := p5 fu h (by omega) 9
  refine ⟨b1, ?_, hb⟩
  have e1 := ev_lot fu (d := .lst (I p)) (.inl rfl) (by omega) m
  have e2 := ev_lot fu (d := .tup (I p)) (.inr rfl) (by omega) (m + k)
  rw [hp] at e1
  rw [lotB_mono hp (by omega)] at e2
  have e4 := ev_same fu true true
  generalize I p = w at *
  simp [st__law_lots_right_3, mcall, fnD, ms, mseq, mbind, mret, mopt, mbad, mvar, res, strong, strongs, ress, mun, mbin, mbinR, mcb, mcons, mcond, mif, mandV, morV, mnotV, tob, truD, mfld, fldD, putO, mputf, stSet, stSetP, mfrz, mlst, mtup, mslice, mpart, intD, dSl, on1, on2, lenD, absD, TW.intOf, TW.listOf, TW.tupOf, dInt2, dCmp2, dNeg, dIx, dIsN, dNotN, D.isNon, dupFree, argsOf, argOf, Sl.some?, putBack, Opd.isS, Sl.own, Rv.sl, Rv.d, mwalk, walkD, itemsD, mrng, rng1, rng2, rng3, tgName, tgTup, tgCons, tgNil, masg, mpar2, stPar2, isiD, dTy, isiInt, isiBl, isiLst, isiTup, isiObj, or2, nm, mvarF, mchain, mop2, dAddX, dAddS, mrev, lstD, mrevA, mpar3, stPar3, List.findIdx?_cons, List.findIdx?_nil, e0, e1, e2, e4]
theorem cut_last (q : List Int) (z : Int) : cutD (q ++ [z]) (some (-1)) none = [z] := by
  unfold cutD HT.sIx
  have e : ((-1 : Int) + ((q ++ [z]).length : Int)).toNat = q.length := by rw [List.length_append]; simp; omega
  simp only [e]
  rw [if_pos (by omega), List.drop_left]
  simp
theorem cut_init (q : List Int) (z : Int) : cutD (q ++ [z]) none (some (-1)) = q := by
  unfold cutD HT.sIx
  have e : ((-1 : Int) + ((q ++ [z]).length : Int)).toNat = q.length := by rw [List.length_append]; simp; omega
  simp only [e]
  rw [if_pos (by omega)]
  simp
end K01

set_option linter.all false
set_option autoImplicit false
set_option maxRecDepth 100000
set_option maxHeartbeats 4000000
namespace K01
open PySem TW L2
theorem I_app (p q : List Int) : I p ++ I q = I (p ++ q) := (List.map_append).symm
theorem lr_4 (fu : Nat) (b : List D) {m : Int} {p : List Int} (hp : lotB p m = true) (hl : p.length ≤ 8) : st__law_lots_right_4 fu [.l b, .v (.int m), .v (.lst (I p)), .no, .no] = .nx [.l b, .v (.int m), .v (.lst (I p)), .no, .no] := by
  have en := dNe_lst p
  rcases List.eq_nil_or_concat p with rfl | ⟨q, z, rfl⟩
  · simp only [I, List.map_nil, List.isEmpty_nil] at en ⊢
    simp [st__law_lots_right_4, fnD, ms, mseq, mbind, mret, mopt, mbad, mvar, res, strong, strongs, ress, mun, mbin, mbinR, mcb, mcons, mcond, mif, mandV, morV, mnotV, tob, truD, mfld, fldD, putO, mputf, stSet, stSetP, mfrz, mlst, mtup, mslice, mpart, intD, dSl, on1, on2, lenD, absD, TW.intOf, TW.listOf, TW.tupOf, dInt2, dCmp2, dNeg, dIx, dIsN, dNotN, D.isNon, dupFree, argsOf, argOf, Sl.some?, putBack, Opd.isS, Sl.own, Rv.sl, Rv.d, mwalk, walkD, itemsD, mrng, rng1, rng2, rng3, tgName, tgTup, tgCons, tgNil, masg, mpar2, stPar2, isiD, dTy, isiInt, isiBl, isiLst, isiTup, isiObj, or2, nm, mvarF, mchain, mop2, dAddX, dAddS, mrev, lstD, mrevA, mpar3, stPar3, List.findIdx?_cons, List.findIdx?_nil, en]
  · rw [List.concat_eq_append] at *
    have hq : (q ++ [z]).isEmpty = false := by simp
    rw [hq] at en
    obtain ⟨i1, i2⟩ := (lotB_iff _ _).mp hp
    have hz : atI (I (q ++ [z])) (-1) = some (.int z) := by rw [atI_I, atI_m1 (by simp)]; simp
    have s1 : cutD (I (q ++ [z])) (some (-1)) none = I [z] := by rw [cutD_I, cut_last]
    have s2 : cutD (I (q ++ [z])) none (some (-1)) = I q := by rw [cutD_I, cut_init]
    have e1 := ev_lot fu (d := .lst (I (q ++ [z]))) (.inl rfl) (by omega) z
    rw [lotB_no (fun h => by have := (h.1 z (by simp)).2; omega)] at e1
    have e2 := ev_lot fu (d := .lst (I (q ++ [z] ++ [z]))) (p := q ++ [z] ++ [z]) (.inl rfl) (by simp at hl ⊢; omega) m
    rw [lotB_no (fun h => by have := (List.pairwise_append.mp h.2).2.2 z (by simp) z (by simp); omega)] at e2
    have e3 := ev_lot fu (d := .lst (I (q ++ [-1]))) (p := q ++ [-1]) (.inl rfl) (by simp at hl ⊢; omega) m
    rw [lotB_no (fun h => by have := (h.1 (-1) (by simp)).1; omega)] at e3
    have o4 := odd_mid (A := q) (B := []) (d := .str (Str.ofString "1")) rfl rfl (by simp at hl ⊢; omega)
    have e4 := ev_lot_no fu (m := .int m) o4.1 o4.2
    have a1 : I (q ++ [z]) ++ I [z] = I (q ++ [z] ++ [z]) := I_app _ _
    have a2 : I q ++ [.int (-1)] = I (q ++ [-1]) := I_app q [-1]
    have a3 : I q ++ [D.str (Str.ofString "1")] ++ I [] = I q ++ [D.str (Str.ofString "1")] := by simp
    rw [a3] at e4
    have n1 : (I (q ++ [z])).length + (I [z]).length ≤ 16000000 := by rw [I_len, I_len]; simp at hl ⊢; omega
    have n2 : (I q).length + 1 ≤ 16000000 := by rw [I_len]; simp at hl ⊢; omega
    generalize I (q ++ [z] ++ [z]) = w1 at *
    generalize I (q ++ [z]) = w2 at *
    generalize I [z] = w3 at *
    generalize I (q ++ [-1]) = w4 at *
    generalize I q = w5 at *
    simp [st__law_lots_right_4, mcall, fnD, ms, mseq, mbind, mret, mopt, mbad, mvar, res, strong, strongs, ress, mun, mbin, mbinR, mcb, mcons, mcond, mif, mandV, morV, mnotV, tob, truD, mfld, fldD, putO, mputf, stSet, stSetP, mfrz, mlst, mtup, mslice, mpart, intD, dSl, on1, on2, lenD, absD, TW.intOf, TW.listOf, TW.tupOf, dInt2, dCmp2, dNeg, dIx, dIsN, dNotN, D.isNon, dupFree, argsOf, argOf, Sl.some?, putBack, Opd.isS, Sl.own, Rv.sl, Rv.d, mwalk, walkD, itemsD, mrng, rng1, rng2, rng3, tgName, tgTup, tgCons, tgNil, masg, mpar2, stPar2, isiD, dTy, isiInt, isiBl, isiLst, isiTup, isiObj, or2, nm, mvarF, mchain, mop2, dAddX, dAddS, mrev, lstD, mrevA, mpar3, stPar3, List.findIdx?_cons, List.findIdx?_nil, dCat, en, hz, s1, s2, e1, e2, e3, e4, a1, a2, n1, n2]
theorem cut_2 (a b : Int) (r : List Int) : cutD (a :: b :: r) (some 2) none = r := by
  unfold cutD HT.sIx
  simp
theorem lr_5 (fu : Nat) (b : List D) {m : Int} {p : List Int} (hp : lotB p m = true) (hl : p.length ≤ 8) : st__law_lots_right_5 fu [.l b, .v (.int m), .v (.lst (I p)), .no, .no] = .nx [.l b, .v (.int m), .v (.lst (I p)), .no, .no] := by
  obtain ⟨i1, i2⟩ := (lotB_iff _ _).mp hp
  match p, hl, i2 with
  | [], hl, i2 => simp [st__law_lots_right_5, fnD, ms, mseq, mbind, mret, mopt, mbad, mvar, res, strong, strongs, ress, mun, mbin, mbinR, mcb, mcons, mcond, mif, mandV, morV, mnotV, tob, truD, mfld, fldD, putO, mputf, stSet, stSetP, mfrz, mlst, mtup, mslice, mpart, intD, dSl, on1, on2, lenD, absD, TW.intOf, TW.listOf, TW.tupOf, dInt2, dCmp2, dNeg, dIx, dIsN, dNotN, D.isNon, dupFree, argsOf, argOf, Sl.some?, putBack, Opd.isS, Sl.own, Rv.sl, Rv.d, mwalk, walkD, itemsD, mrng, rng1, rng2, rng3, tgName, tgTup, tgCons, tgNil, masg, mpar2, stPar2, isiD, dTy, isiInt, isiBl, isiLst, isiTup, isiObj, or2, nm, mvarF, mchain, mop2, dAddX, dAddS, mrev, lstD, mrevA, mpar3, stPar3, List.findIdx?_cons, List.findIdx?_nil]
  | [a], hl, i2 => simp [st__law_lots_right_5, fnD, ms, mseq, mbind, mret, mopt, mbad, mvar, res, strong, strongs, ress, mun, mbin, mbinR, mcb, mcons, mcond, mif, mandV, morV, mnotV, tob, truD, mfld, fldD, putO, mputf, stSet, stSetP, mfrz, mlst, mtup, mslice, mpart, intD, dSl, on1, on2, lenD, absD, TW.intOf, TW.listOf, TW.tupOf, dInt2, dCmp2, dNeg, dIx, dIsN, dNotN, D.isNon, dupFree, argsOf, argOf, Sl.some?, putBack, Opd.isS, Sl.own, Rv.sl, Rv.d, mwalk, walkD, itemsD, mrng, rng1, rng2, rng3, tgName, tgTup, tgCons, tgNil, masg, mpar2, stPar2, isiD, dTy, isiInt, isiBl, isiLst, isiTup, isiObj, or2, nm, mvarF, mchain, mop2, dAddX, dAddS, mrev, lstD, mrevA, mpar3, stPar3, List.findIdx?_cons, List.findIdx?_nil]
  | a :: c :: r, hl, i2 =>
    have hac : a < c := (List.pairwise_cons.mp i2).1 c (by simp)
    have e1 := ev_lot fu (d := .lst (I (a :: c :: r).reverse)) (p := (a :: c :: r).reverse) (.inl rfl) (by rw [List.length_reverse]; omega) m
    rw [lotB_no (fun h => by
      have h2 := h.2
      rw [List.pairwise_reverse] at h2
      have := (List.pairwise_cons.mp h2).1 c (by simp)
      omega)] at e1
    have er : I (a :: c :: r).reverse = (I (a :: c :: r)).reverse := List.map_reverse
    rw [er] at e1
    have e2 := ev_lot fu (d := .lst (I (c :: a :: r))) (p := c :: a :: r) (.inl rfl) (by simp at hl ⊢; omega) m
    rw [lotB_no (fun h => by have := (List.pairwise_cons.mp h.2).1 a (by simp); omega)] at e2
    have s1 : cutD (I (a :: c :: r)) (some 2) none = I r := by rw [cutD_I, cut_2]
    have x0 : atI (I (a :: c :: r)) 0 = some (.int a) := by rw [atI_I]; rw [show (0 : Int) = ((0 : Nat) : Int) from rfl, atI_nat' (by simp)]; rfl
    have x1 : atI (I (a :: c :: r)) 1 = some (.int c) := by rw [atI_I]; rw [show (1 : Int) = ((1 : Nat) : Int) from rfl, atI_nat' (by simp)]; rfl
    have n1 : (1 : Int) < ((I (a :: c :: r)).length : Int) := by rw [I_len]; simp; omega
    have n2 : 2 + (I r).length ≤ 16000000 := by rw [I_len]; simp at hl ⊢; omega
    have n2' : 1 + 1 + (I r).length ≤ 16000000 := by rw [I_len]; simp at hl ⊢; omega
    have e2' : I (c :: a :: r) = D.int c :: D.int a :: I r := rfl
    rw [e2'] at e2
    generalize I (a :: c :: r) = w1 at *
    generalize I r = w2 at *
    simp [st__law_lots_right_5, mcall, fnD, ms, mseq, mbind, mret, mopt, mbad, mvar, res, strong, strongs, ress, mun, mbin, mbinR, mcb, mcons, mcond, mif, mandV, morV, mnotV, tob, truD, mfld, fldD, putO, mputf, stSet, stSetP, mfrz, mlst, mtup, mslice, mpart, intD, dSl, on1, on2, lenD, absD, TW.intOf, TW.listOf, TW.tupOf, dInt2, dCmp2, dNeg, dIx, dIsN, dNotN, D.isNon, dupFree, argsOf, argOf, Sl.some?, putBack, Opd.isS, Sl.own, Rv.sl, Rv.d, mwalk, walkD, itemsD, mrng, rng1, rng2, rng3, tgName, tgTup, tgCons, tgNil, masg, mpar2, stPar2, isiD, dTy, isiInt, isiBl, isiLst, isiTup, isiObj, or2, nm, mvarF, mchain, mop2, dAddX, dAddS, mrev, lstD, mrevA, mpar3, stPar3, List.findIdx?_cons, List.findIdx?_nil, dCat, s1, x0, x1, e1, e2, n1, n2, n2']
def oddLot : List D := [.non, .int 0, .str (Str.ofString "01"), .dct, .lst [.bl true], .lst [.bl false, .int 1], .lst [.non], .lst [.lst [.int 0]], .tup [.int 0, .int 0], .lst [.int 1, .int 0], .lst [.int (-1)], .lst [.int 9]]
theorem lr_odd (fu : Nat) {x : D} (h : x ∈ oddLot) : d_is_lot fu [.v x, .v (.int 9)] = .ret (.v (.bl false)) [.v x, .v (.int 9)] := by
  simp only [oddLot, List.mem_cons, List.not_mem_nil, or_false] at h
  rcases h with rfl | rfl | rfl | rfl | rfl | rfl | rfl | rfl | rfl | rfl | rfl | rfl
  · exact ev_lot_no fu rfl rfl
  · exact ev_lot_no fu rfl rfl
  · exact ev_lot_no fu rfl rfl
  · exact ev_lot_no fu rfl rfl
  · exact ev_lot_no fu (by decide) (by decide)
  · exact ev_lot_no fu (by decide) (by decide)
  · exact ev_lot_no fu (by decide) (by decide)
  · exact ev_lot_no fu (by decide) (by decide)
  · exact ev_lot fu (p := [0, 0]) (.inr rfl) (by simp) 9
  · exact ev_lot fu (p := [1, 0]) (.inl rfl) (by simp) 9
  · exact ev_lot fu (p := [-1]) (.inl rfl) (by simp) 9
  · exact ev_lot fu (p := [9]) (.inl rfl) (by simp) 9
theorem lr_6 (fu : Nat) {K : Nat} {b : List D} (h : Bg K b) (hK : K < 900000) (m w : D) : ∃ x b', st__law_lots_right_6 fu [.l b, .v m, .v w, .no, .no] = .nx [.l b', .v m, .v w, .no, .v x] ∧ x ∈ oddLot ∧ Bg (K + 1) b' := by
  obtain ⟨x, b2, hx, e2, hb2⟩ := take_ok fu (ds := oddLot) h (by omega) (by simp [oddLot]) (by simp [oddLot])
  refine ⟨x, b2, ?_, hx, hb2⟩
  unfold oddLot at e2
  simp [st__law_lots_right_6, mcall, fnD, ms, mseq, mbind, mret, mopt, mbad, mvar, res, strong, strongs, ress, mun, mbin, mbinR, mcb, mcons, mcond, mif, mandV, morV, mnotV, tob, truD, mfld, fldD, putO, mputf, stSet, stSetP, mfrz, mlst, mtup, mslice, mpart, intD, dSl, on1, on2, lenD, absD, TW.intOf, TW.listOf, TW.tupOf, dInt2, dCmp2, dNeg, dIx, dIsN, dNotN, D.isNon, dupFree, argsOf, argOf, Sl.some?, putBack, Opd.isS, Sl.own, Rv.sl, Rv.d, mwalk, walkD, itemsD, mrng, rng1, rng2, rng3, tgName, tgTup, tgCons, tgNil, masg, mpar2, stPar2, isiD, dTy, isiInt, isiBl, isiLst, isiTup, isiObj, or2, nm, mvarF, mchain, mop2, dAddX, dAddS, mrev, lstD, mrevA, mpar3, stPar3, List.findIdx?_cons, List.findIdx?_nil, e2]
theorem lr_7 (fu : Nat) (b : List D) (m w : D) {x : D} (hx : x ∈ oddLot) : st__law_lots_right_7 fu [.l b, .v m, .v w, .no, .v x] = .rt (.v (.bl true)) [.l b, .v m, .v w, .no, .v x] := by
  have e1 := lr_odd fu hx
  have e2 : d_is_lot fu [.v (.tup []), .v (.int 0)] = .ret (.v (.bl true)) [.v (.tup []), .v (.int 0)] := ev_lot fu (p := []) (.inr rfl) (by simp) 0
  have e3 : d_is_lot fu [.v (.lst [.int 0]), .v (.int 0)] = .ret (.v (.bl false)) [.v (.lst [.int 0]), .v (.int 0)] := ev_lot fu (p := [0]) (.inl rfl) (by simp) 0
  have e4 := ev_same fu true true
  have e5 := ev_same fu false false
  simp [st__law_lots_right_7, mcall, fnD, ms, mseq, mbind, mret, mopt, mbad, mvar, res, strong, strongs, ress, mun, mbin, mbinR, mcb, mcons, mcond, mif, mandV, morV, mnotV, tob, truD, mfld, fldD, putO, mputf, stSet, stSetP, mfrz, mlst, mtup, mslice, mpart, intD, dSl, on1, on2, lenD, absD, TW.intOf, TW.listOf, TW.tupOf, dInt2, dCmp2, dNeg, dIx, dIsN, dNotN, D.isNon, dupFree, argsOf, argOf, Sl.some?, putBack, Opd.isS, Sl.own, Rv.sl, Rv.d, mwalk, walkD, itemsD, mrng, rng1, rng2, rng3, tgName, tgTup, tgCons, tgNil, masg, mpar2, stPar2, isiD, dTy, isiInt, isiBl, isiLst, isiTup, isiObj, or2, nm, mvarF, mchain, mop2, dAddX, dAddS, mrev, lstD, mrevA, mpar3, stPar3, List.findIdx?_cons, List.findIdx?_nil, e1, e2, e3, e4, e5]
theorem lots_right (fu : Nat) {K : Nat} {b : List D} (h : Bg K b) (hK : K < 700000) : ∃ b', d__law_lots_right fu [.l b] = .ret (.v (.bl true)) [.l b'] ∧ Bg (K + 30) b' := by
  obtain ⟨m, b1, s1, h0, h8, hb1⟩ := lr_1 fu h (by omega)
  obtain ⟨p, b2, s2, hp, hl, hb2⟩ := lr_2 fu hb1 (by omega) h0 h8
  obtain ⟨b3, s3, hb3⟩ := lr_3 fu hb2 (by omega) hp hl
  have s4 := lr_4 fu b3 hp hl
  have s5 := lr_5 fu b3 hp hl
  obtain ⟨x, b6, s6, hx, hb6⟩ := lr_6 fu hb3 (by omega) (.int m) (.lst (I p))
  have s7 := lr_7 fu b6 (.int m) (.lst (I p)) hx
  refine ⟨b6, ?_, hb6.mono (by omega)⟩
  generalize I p = w at *
  simp [d__law_lots_right, b__law_lots_right, fnD, mseq, s1, s2, s3, s4, s5, s6, s7]
end K01

set_option linter.all false
set_option autoImplicit false
set_option maxRecDepth 100000
set_option maxHeartbeats 4000000
namespace K01
open PySem TW L2
/-! ## _law_divides, _law_measure -/
def sm3 (z : Int) : Prop := z.natAbs ≤ 100000
def dvB (k z : Int) : Bool := decide (z / k * k = z)
def dvs (k : Int) (p : List Int) : Bool := (p.filter fun z => !dvB k z).isEmpty
theorem dEq_lst (p : List Int) : dEq (.lst (I p)) (.lst []) = some (.bl p.isEmpty) := by unfold dEq; rw [eqP_lst]; rfl
theorem ev_ct_div (fu : Nat) {k z : Int} (hk : 0 < k) (hk3 : sm3 k) (hz : sm3 z) (d : D) : ct__law_divides_1 fu [.v (.int k), .v d, .v (.int z)] = .ok (!dvB k z) [.v (.int k), .v d, .v (.int z)] := by
  have h1 : bd 30 k := bd30 (by unfold sm3 at hk3; omega)
  have h2 : bd 30 (z / k) := by
    have := Int.natAbs_ediv_le_natAbs z k
    exact bd30 (by unfold sm3 at hz; omega)
  have c1 : k.natAbs.log2 < 9000 := log2_small h1 (by omega)
  have c2 := of_decide_eq_true (h2.cMul h1 (by omega))
  have e := dNe_int (z / k * k) z
  unfold dvB
  generalize hw : z / k * k = w at *
  simp [ct__law_divides_1, fnD, ms, mseq, mbind, mret, mopt, mbad, mvar, res, strong, strongs, ress, mun, mbin, mbinR, mcb, mcons, mcond, mif, mandV, morV, mnotV, tob, truD, mfld, fldD, putO, mputf, stSet, stSetP, mfrz, mlst, mtup, mslice, mpart, intD, dSl, on1, on2, lenD, absD, TW.intOf, TW.listOf, TW.tupOf, dInt2, dCmp2, dNeg, dIx, dIsN, dNotN, D.isNon, dupFree, argsOf, argOf, Sl.some?, putBack, Opd.isS, Sl.own, Rv.sl, Rv.d, mwalk, walkD, itemsD, mrng, rng1, rng2, rng3, tgName, tgTup, tgCons, tgNil, masg, mpar2, stPar2, isiD, dTy, isiInt, isiBl, isiLst, isiTup, isiObj, or2, nm, mvarF, mchain, mop2, dAddX, dAddS, mrev, lstD, mrevA, mpar3, stPar3, List.findIdx?_cons, List.findIdx?_nil, hk, c1, c2, e, hw]
theorem ev_divides (fu : Nat) {k : Int} {p : List Int} (hk : 0 < k) (hk3 : sm3 k) (hp : ∀ z ∈ p, sm3 z) (hl : p.length ≤ 1000000) : d__law_divides fu [.v (.int k), .v (.lst (I p))] = .ret (.v (.bl (dvs k p))) [.v (.int k), .v (.lst (I p))] := by
  have hm : ci__law_divides_1 fu [.v (.int k), .v (.lst (I p)), .no] = .ok (I p) [.v (.int k), .v (.lst (I p)), .no] := rfl
  obtain ⟨acc, s', e, ⟨hs, ha⟩, _⟩ := comp_ok (vs := [2]) (tm := tgName 2) (tt := ct__law_divides_1 fu) (te := ce__law_divides_1 fu) (fun i acc s => s = [.v (.int k), .v (.lst (I p)), .no] ∧ acc = I ((p.take i).filter fun z => !dvB k z)) (I p) 0 [] [.v (.int k), .v (.lst (I p)), .no] ⟨rfl, rfl⟩ (by rw [I_len]; simp; omega) fun j x acc s hj hP => by
    obtain ⟨rfl, rfl⟩ := hP
    obtain ⟨z, hz, rfl⟩ := I_at hj
    have ht := ev_ct_div fu hk hk3 (hp z (List.mem_of_getElem? hz)) (.lst (I p))
    have et : p.take (j + 1) = p.take j ++ [z] := by rw [List.take_succ, hz]; rfl
    refine ⟨[.v (.int k), .v (.lst (I p)), .v (.int z)], !dvB k z, [.v (.int k), .v (.lst (I p)), .v (.int z)], rfl, ht, ?_⟩
    rw [Nat.zero_add, et, List.filter_append]
    cases hd : dvB k z with
    | true => exact .inl ⟨rfl, rfl, rfl, by simp [hd]⟩
    | false => exact .inr ⟨.int z, [.v (.int k), .v (.lst (I p)), .v (.int z)], rfl, rfl, rfl, rfl, by simp [hd, I]⟩
  subst hs; subst ha
  have ec : c__law_divides_1 fu [.v (.int k), .v (.lst (I p)), .no] = .ok (.l (I (p.filter fun z => !dvB k z))) [.v (.int k), .v (.lst (I p)), .no] := by
    unfold c__law_divides_1 mlc; rw [mb_k hm]
    rw [if_pos (by rfl)]
    have e' : compD [2] (tgName 2) (ct__law_divides_1 fu) (ce__law_divides_1 fu) (I p) [] (wipeS [.v (.int k), .v (.lst (I p)), .no] [2]) = .ok (I ((p.take (0 + (I p).length)).filter fun z => !dvB k z)) [.v (.int k), .v (.lst (I p)), .no] := e
    rw [e', Nat.zero_add, I_len, List.take_length]; rfl
  have eq := dEq_lst (p.filter fun z => !dvB k z)
  unfold dvs
  generalize (p.filter fun z => !dvB k z).isEmpty = w2 at *
  generalize I (p.filter fun z => !dvB k z) = w at *
  generalize I p = w1 at *
  simp [d__law_divides, b__law_divides, fnD, ms, mseq, mbind, mret, mopt, mbad, mvar, res, strong, strongs, ress, mun, mbin, mbinR, mcb, mcons, mcond, mif, mandV, morV, mnotV, tob, truD, mfld, fldD, putO, mputf, stSet, stSetP, mfrz, mlst, mtup, mslice, mpart, intD, dSl, on1, on2, lenD, absD, TW.intOf, TW.listOf, TW.tupOf, dInt2, dCmp2, dNeg, dIx, dIsN, dNotN, D.isNon, dupFree, argsOf, argOf, Sl.some?, putBack, Opd.isS, Sl.own, Rv.sl, Rv.d, mwalk, walkD, itemsD, mrng, rng1, rng2, rng3, tgName, tgTup, tgCons, tgNil, masg, mpar2, stPar2, isiD, dTy, isiInt, isiBl, isiLst, isiTup, isiObj, or2, nm, mvarF, mchain, mop2, dAddX, dAddS, mrev, lstD, mrevA, mpar3, stPar3, List.findIdx?_cons, List.findIdx?_nil, ec, eq]
theorem dvB_iff {k z : Int} (hk : 0 < k) : dvB k z = true ↔ k ∣ z := by
  unfold dvB
  rw [decide_eq_true_eq]
  constructor
  · intro h; exact ⟨z / k, by rw [Int.mul_comm]; exact h.symm⟩
  · intro h; exact Int.ediv_mul_cancel h
theorem dvs_iff {k : Int} {p : List Int} (hk : 0 < k) : dvs k p = true ↔ ∀ z ∈ p, k ∣ z := by
  unfold dvs
  rw [List.isEmpty_iff, List.filter_eq_nil_iff]
  constructor
  · intro h z hz
    have := h z hz
    rw [← dvB_iff hk]; simpa using this
  · intro h z hz
    have := (dvB_iff hk).mpr (h z hz)
    simp [this]
/-! ### the greatest -/
theorem gcdF_dvd : ∀ (p : List Int) (a : Nat), p.foldl (fun a z => Nat.gcd a z.natAbs) a ∣ a ∧ ∀ z ∈ p, p.foldl (fun a z => Nat.gcd a z.natAbs) a ∣ z.natAbs
  | [], a => ⟨Nat.dvd_refl a, fun z hz => by cases hz⟩
  | y :: p, a => by
    obtain ⟨h1, h2⟩ := gcdF_dvd p (Nat.gcd a y.natAbs)
    refine ⟨Nat.dvd_trans h1 (Nat.gcd_dvd_left _ _), fun z hz => ?_⟩
    rcases List.mem_cons.mp hz with rfl | hz
    · exact Nat.dvd_trans h1 (Nat.gcd_dvd_right _ _)
    · exact h2 z hz
theorem dvd_gcdF {k : Nat} : ∀ (p : List Int) (a : Nat), k ∣ a → (∀ z ∈ p, k ∣ z.natAbs) → k ∣ p.foldl (fun a z => Nat.gcd a z.natAbs) a
  | [], a, h, _ => h
  | y :: p, a, h, hp => dvd_gcdF p _ (Nat.dvd_gcd h (hp y (by simp))) fun z hz => hp z (List.mem_cons_of_mem _ hz)
theorem gcdL_dvd {p : List Int} {z : Int} (h : z ∈ p) : gcdL p ∣ z.natAbs := (gcdF_dvd p 0).2 z h
theorem dvd_gcdL {k : Nat} {p : List Int} (h : ∀ z ∈ p, k ∣ z.natAbs) : k ∣ gcdL p := dvd_gcdF p 0 (Nat.dvd_zero k) h
theorem gcdL_zero {p : List Int} (h : gcdL p = 0) : ∀ z ∈ p, z = 0 := fun z hz => by
  have := gcdL_dvd hz
  rw [h] at this
  have := Nat.eq_zero_of_zero_dvd this
  omega
/-! ### the law's own measure -/
def ks (n : Nat) : List Int := (List.range n).map fun j => (1 : Int) + (j : Nat)
theorem ks_succ (n : Nat) : ks (n + 1) = ks n ++ [1 + (n : Int)] := by unfold ks; rw [List.range_succ, List.map_append]; rfl
theorem mem_ks {n : Nat} {k : Int} : k ∈ ks n ↔ 1 ≤ k ∧ k ≤ n := by
  unfold ks
  rw [List.mem_map]
  constructor
  · rintro ⟨j, hj, rfl⟩
    have := List.mem_range.mp hj
    omega
  · rintro ⟨h1, h2⟩
    exact ⟨(k - 1).toNat, List.mem_range.mpr (by omega), by omega⟩
theorem intsD_I : ∀ p : List Int, intsD (I p) = some p
  | [] => rfl
  | a :: p => by show (intsD (I p)).map (a :: ·) = _; rw [intsD_I p]; rfl
theorem max_is {p : List Int} {a : Int} (h : a ∈ p) (hm : ∀ b ∈ p, b ≤ a) : onInts maxL (.lst (I p)) = some (.v (.int a)) := by
  unfold onInts maxL; dsimp only
  rw [intsD_I]
  have : p.max? = some a := List.max?_eq_some_iff.mpr ⟨h, hm⟩
  show (p.max?).map _ = _
  rw [this]; rfl
theorem most_ex (p : List Int) : ∃ M : Nat, ((M : Nat) : Int) ∈ (p.map fun z => ((z.natAbs : Nat) : Int)) ++ [0] ∧ (∀ z ∈ p, z.natAbs ≤ M) ∧ (M = 0 ∨ ∃ z ∈ p, z.natAbs = M) := by
  induction p with
  | nil => exact ⟨0, by simp, by simp, .inl rfl⟩
  | cons a p ih =>
    obtain ⟨M, h1, h2, h3⟩ := ih
    by_cases h : a.natAbs ≤ M
    · exact ⟨M, by rw [List.map_cons, List.cons_append]; exact List.mem_cons_of_mem _ h1, by simpa using ⟨h, h2⟩, h3.imp id fun ⟨z, hz, e⟩ => ⟨z, List.mem_cons_of_mem _ hz, e⟩⟩
    · refine ⟨a.natAbs, by simp, ?_, .inr ⟨a, by simp, rfl⟩⟩
      intro z hz
      rcases List.mem_cons.mp hz with rfl | hz
      · exact Nat.le_refl _
      · have := h2 z hz; omega
theorem measure_max {p : List Int} {M : Nat} (h2 : ∀ z ∈ p, z.natAbs ≤ M) (h3 : M = 0 ∨ ∃ z ∈ p, z.natAbs = M) : onInts maxL (.lst (I ((ks M).filter (dvs · p) ++ [0]))) = some (.v (.int (gcdL p : Nat))) := by
  have hdv : ∀ k : Int, 0 < k → dvs k p = true → k.natAbs ∣ gcdL p := fun k hk h => dvd_gcdL fun z hz => Int.natAbs_dvd_natAbs.mpr ((dvs_iff hk).mp h z hz)
  by_cases hg : gcdL p = 0
  · have hz := gcdL_zero hg
    have hM : M = 0 := by
      rcases h3 with h | ⟨z, h, e⟩
      · exact h
      · rw [hz z h] at e; exact e.symm
    subst hM
    rw [hg]
    exact max_is (p := [0]) (by simp) (by simp)
  · obtain ⟨z, hz, hz0⟩ : ∃ z ∈ p, z ≠ 0 := by
      by_cases h : ∃ z ∈ p, z ≠ 0
      · exact h
      · exfalso
        have h' : ∀ z ∈ p, z = 0 := fun z hz => by
          by_cases hh : z = 0
          · exact hh
          · exact absurd ⟨z, hz, hh⟩ h
        have : (0 : Nat) ∣ gcdL p := dvd_gcdL fun z hz => by rw [h' z hz]; exact Nat.dvd_refl 0
        exact hg (Nat.eq_zero_of_zero_dvd this)
    have hle : gcdL p ≤ M := Nat.le_trans (Nat.le_of_dvd (by omega) (gcdL_dvd hz)) (h2 z hz)
    have hd : dvs ((gcdL p : Nat) : Int) p = true := (dvs_iff (by omega)).mpr fun z hz => Int.natAbs_dvd_natAbs.mp (by rw [Int.natAbs_natCast]; exact gcdL_dvd hz)
    refine max_is (List.mem_append_left _ (List.mem_filter.mpr ⟨mem_ks.mpr ⟨by omega, by omega⟩, hd⟩)) fun b hb => ?_
    rcases List.mem_append.mp hb with h | h
    · obtain ⟨h4, h5⟩ := List.mem_filter.mp h
      have h6 := (mem_ks.mp h4).1
      have := Nat.le_of_dvd (by omega) (hdv b (by omega) h5)
      omega
    · rw [List.mem_singleton.mp h]; omega
end K01

set_option linter.all false
set_option autoImplicit false
set_option maxRecDepth 100000
set_option maxHeartbeats 4000000
namespace K01
open PySem TW L2
theorem ev_c_meas2 (fu : Nat) {p : List Int} (hl : p.length ≤ 1000000) : c__law_measure_2 fu [.v (.lst (I p)), .no, .no, .no] = .ok (.l (I (p.map fun z => ((z.natAbs : Nat) : Int)))) [.v (.lst (I p)), .no, .no, .no] := by
  have hm : ci__law_measure_2 fu [.v (.lst (I p)), .no, .no, .no] = .ok (I p) [.v (.lst (I p)), .no, .no, .no] := rfl
  obtain ⟨acc, s', e, ⟨hs, ha⟩, _⟩ := comp_ok (vs := [2]) (tm := tgName 2) (tt := ct__law_measure_2 fu) (te := ce__law_measure_2 fu) (fun i acc s => s = [.v (.lst (I p)), .no, .no, .no] ∧ acc = I ((p.take i).map fun z => ((z.natAbs : Nat) : Int))) (I p) 0 [] [.v (.lst (I p)), .no, .no, .no] ⟨rfl, rfl⟩ (by rw [I_len]; simp; omega) fun j x acc s hj hP => by
    obtain ⟨rfl, rfl⟩ := hP
    obtain ⟨z, hz, rfl⟩ := I_at hj
    refine ⟨[.v (.lst (I p)), .no, .v (.int z), .no], true, _, rfl, rfl, .inr ⟨.int ((z.natAbs : Nat) : Int), [.v (.lst (I p)), .no, .v (.int z), .no], rfl, ?_, rfl, rfl, ?_⟩⟩
    · have e := absN z
      simp [ce__law_measure_2, fnD, ms, mseq, mbind, mret, mopt, mbad, mvar, res, strong, strongs, ress, mun, mbin, mbinR, mcb, mcons, mcond, mif, mandV, morV, mnotV, tob, truD, mfld, fldD, putO, mputf, stSet, stSetP, mfrz, mlst, mtup, mslice, mpart, intD, dSl, on1, on2, lenD, absD, TW.intOf, TW.listOf, TW.tupOf, dInt2, dCmp2, dNeg, dIx, dIsN, dNotN, D.isNon, dupFree, argsOf, argOf, Sl.some?, putBack, Opd.isS, Sl.own, Rv.sl, Rv.d, mwalk, walkD, itemsD, mrng, rng1, rng2, rng3, tgName, tgTup, tgCons, tgNil, masg, mpar2, stPar2, isiD, dTy, isiInt, isiBl, isiLst, isiTup, isiObj, or2, nm, mvarF, mchain, mop2, dAddX, dAddS, mrev, lstD, mrevA, mpar3, stPar3, List.findIdx?_cons, List.findIdx?_nil, absN]
    · rw [Nat.zero_add, List.take_succ, hz]; simp [I]
  subst hs; subst ha
  unfold c__law_measure_2 mlc; rw [mb_k hm]
  rw [if_pos (by rfl)]
  have e' : compD [2] (tgName 2) (ct__law_measure_2 fu) (ce__law_measure_2 fu) (I p) [] (wipeS [.v (.lst (I p)), .no, .no, .no] [2]) = .ok (I ((p.take (0 + (I p).length)).map fun z => ((z.natAbs : Nat) : Int))) [.v (.lst (I p)), .no, .no, .no] := e
  rw [e', Nat.zero_add, I_len, List.take_length]; rfl
theorem rangeD_len (lo : Int) (n : Nat) : (rangeD lo n).length = n := by simp [rangeD]
theorem ev_c_meas1 (fu : Nat) {p : List Int} (hl : p.length ≤ 1000000) (hp : ∀ z ∈ p, sm3 z) {M : Nat} (hM : M ≤ 100000) : c__law_measure_1 fu [.v (.lst (I p)), .v (.int (M : Nat)), .no, .no] = .ok (.l (I ((ks M).filter (dvs · p)))) [.v (.lst (I p)), .v (.int (M : Nat)), .no, .no] := by
  have hm : ci__law_measure_1 fu [.v (.lst (I p)), .v (.int (M : Nat)), .no, .no] = .ok (rangeD 1 M) [.v (.lst (I p)), .v (.int (M : Nat)), .no, .no] := by
    have ok1 : okR 1 = true := okR_ok' (by omega) (by omega)
    have ok2 : okR ((M : Int) + 1) = true := okR_ok' (by omega) (by omega)
    have e : ((M : Int) + 1 - 1).toNat = M := by omega
    simp [ci__law_measure_1, fnD, ms, mseq, mbind, mret, mopt, mbad, mvar, res, strong, strongs, ress, mun, mbin, mbinR, mcb, mcons, mcond, mif, mandV, morV, mnotV, tob, truD, mfld, fldD, putO, mputf, stSet, stSetP, mfrz, mlst, mtup, mslice, mpart, intD, dSl, on1, on2, lenD, absD, TW.intOf, TW.listOf, TW.tupOf, dInt2, dCmp2, dNeg, dIx, dIsN, dNotN, D.isNon, dupFree, argsOf, argOf, Sl.some?, putBack, Opd.isS, Sl.own, Rv.sl, Rv.d, mwalk, walkD, itemsD, mrng, rng1, rng2, rng3, tgName, tgTup, tgCons, tgNil, masg, mpar2, stPar2, isiD, dTy, isiInt, isiBl, isiLst, isiTup, isiObj, or2, nm, mvarF, mchain, mop2, dAddX, dAddS, mrev, lstD, mrevA, mpar3, stPar3, List.findIdx?_cons, List.findIdx?_nil, ok1, ok2, e]
  obtain ⟨acc, s', e, ⟨hs, ha⟩, _⟩ := comp_ok (vs := [3]) (tm := tgName 3) (tt := ct__law_measure_1 fu) (te := ce__law_measure_1 fu) (fun i acc s => s = [.v (.lst (I p)), .v (.int (M : Nat)), .no, .no] ∧ acc = I ((ks i).filter (dvs · p))) (rangeD 1 M) 0 [] [.v (.lst (I p)), .v (.int (M : Nat)), .no, .no] ⟨rfl, rfl⟩ (by rw [rangeD_len]; simp; omega) fun j x acc s hj hP => by
    obtain ⟨rfl, rfl⟩ := hP
    obtain ⟨hjn, rfl⟩ := rangeD_get hj
    have e1 := ev_divides fu (k := 1 + (j : Int)) (by omega) (by unfold sm3; omega) hp hl
    refine ⟨[.v (.lst (I p)), .v (.int (M : Nat)), .no, .v (.int (1 + (j : Nat)))], dvs (1 + (j : Int)) p, [.v (.lst (I p)), .v (.int (M : Nat)), .no, .v (.int (1 + (j : Nat)))], rfl, ?_, ?_⟩
    · generalize dvs (1 + (j : Int)) p = w at *
      generalize I p = w1 at *
      simp [ct__law_measure_1, mcall, fnD, ms, mseq, mbind, mret, mopt, mbad, mvar, res, strong, strongs, ress, mun, mbin, mbinR, mcb, mcons, mcond, mif, mandV, morV, mnotV, tob, truD, mfld, fldD, putO, mputf, stSet, stSetP, mfrz, mlst, mtup, mslice, mpart, intD, dSl, on1, on2, lenD, absD, TW.intOf, TW.listOf, TW.tupOf, dInt2, dCmp2, dNeg, dIx, dIsN, dNotN, D.isNon, dupFree, argsOf, argOf, Sl.some?, putBack, Opd.isS, Sl.own, Rv.sl, Rv.d, mwalk, walkD, itemsD, mrng, rng1, rng2, rng3, tgName, tgTup, tgCons, tgNil, masg, mpar2, stPar2, isiD, dTy, isiInt, isiBl, isiLst, isiTup, isiObj, or2, nm, mvarF, mchain, mop2, dAddX, dAddS, mrev, lstD, mrevA, mpar3, stPar3, List.findIdx?_cons, List.findIdx?_nil, e1]
    · rw [Nat.zero_add, ks_succ, List.filter_append]
      cases hd : dvs (1 + (j : Int)) p with
      | false => exact .inl ⟨rfl, rfl, rfl, by simp [hd]⟩
      | true => exact .inr ⟨.int (1 + (j : Nat)), [.v (.lst (I p)), .v (.int (M : Nat)), .no, .v (.int (1 + (j : Nat)))], rfl, rfl, rfl, rfl, by simp [hd, I]⟩
  subst hs; subst ha
  unfold c__law_measure_1 mlc; rw [mb_k hm]
  rw [if_pos (by rfl)]
  have e' : compD [3] (tgName 3) (ct__law_measure_1 fu) (ce__law_measure_1 fu) (rangeD 1 M) [] (wipeS [.v (.lst (I p)), .v (.int (M : Nat)), .no, .no] [3]) = .ok (I ((ks (0 + (rangeD 1 M).length)).filter (dvs · p))) [.v (.lst (I p)), .v (.int (M : Nat)), .no, .no] := e
  rw [e', Nat.zero_add, rangeD_len]; rfl
theorem ks_len (n : Nat) : (ks n).length = n := by simp [ks]
theorem ev_law_measure (fu : Nat) {p : List Int} (hl : p.length ≤ 1000000) (hp : ∀ z ∈ p, sm3 z) : d__law_measure fu [.v (.lst (I p))] = .ret (.v (.int (gcdL p : Nat))) [.v (.lst (I p))] := by
  obtain ⟨M, h1, h2, h3⟩ := most_ex p
  have hM : M ≤ 100000 := by
    rcases h3 with rfl | ⟨z, hz, rfl⟩
    · omega
    · exact hp z hz
  have c2 := ev_c_meas2 fu hl
  have c1 := ev_c_meas1 fu hl hp hM
  have m2 := max_is (p := (p.map fun z => ((z.natAbs : Nat) : Int)) ++ [0]) h1 fun b hb => by
    rcases List.mem_append.mp hb with h | h
    · obtain ⟨z, hz, rfl⟩ := List.mem_map.mp h
      have := h2 z hz; omega
    · rw [List.mem_singleton.mp h]; omega
  have m1 := measure_max h2 h3
  rw [← I_app] at m1 m2
  have n2 : (I (p.map fun z => ((z.natAbs : Nat) : Int))).length + 1 ≤ 16000000 := by rw [I_len, List.length_map]; omega
  have n1 : (I ((ks M).filter (dvs · p))).length + 1 ≤ 16000000 := by
    rw [I_len]
    have := List.length_filter_le (dvs · p) (ks M)
    rw [ks_len] at this
    omega
  generalize I ((ks M).filter (dvs · p)) = w1 at *
  generalize I (p.map fun z => ((z.natAbs : Nat) : Int)) = w2 at *
  generalize I p = w3 at *
  have e0 : I [0] = [D.int 0] := rfl
  rw [e0] at m1 m2
  simp [d__law_measure, b__law_measure, fnD, ms, mseq, mbind, mret, mopt, mbad, mvar, res, strong, strongs, ress, mun, mbin, mbinR, mcb, mcons, mcond, mif, mandV, morV, mnotV, tob, truD, mfld, fldD, putO, mputf, stSet, stSetP, mfrz, mlst, mtup, mslice, mpart, intD, dSl, on1, on2, lenD, absD, TW.intOf, TW.listOf, TW.tupOf, dInt2, dCmp2, dNeg, dIx, dIsN, dNotN, D.isNon, dupFree, argsOf, argOf, Sl.some?, putBack, Opd.isS, Sl.own, Rv.sl, Rv.d, mwalk, walkD, itemsD, mrng, rng1, rng2, rng3, tgName, tgTup, tgCons, tgNil, masg, mpar2, stPar2, isiD, dTy, isiInt, isiBl, isiLst, isiTup, isiObj, or2, nm, mvarF, mchain, mop2, dAddX, dAddS, mrev, lstD, mrevA, mpar3, stPar3, List.findIdx?_cons, List.findIdx?_nil, dCat, c1, c2, m1, m2, n1, n2]
end K01

set_option linter.all false
set_option autoImplicit false
set_option maxRecDepth 100000
set_option maxHeartbeats 4000000
namespace K01
open PySem TW L2
theorem gcdL_rev (p : List Int) : gcdL p.reverse = gcdL p := by
  refine Nat.dvd_antisymm (dvd_gcdL fun z hz => gcdL_dvd (List.mem_reverse.mpr hz)) (dvd_gcdL fun z hz => gcdL_dvd (List.mem_reverse.mp hz))
theorem gcdF_mul (g : Nat) : ∀ (p : List Int) (a : Nat), (p.map fun z => (g : Int) * z).foldl (fun a z => Nat.gcd a z.natAbs) (g * a) = g * p.foldl (fun a z => Nat.gcd a z.natAbs) a
  | [], a => rfl
  | y :: p, a => by
    rw [List.map_cons, List.foldl_cons, List.foldl_cons, Int.natAbs_mul, Int.natAbs_natCast, Nat.gcd_mul_left]
    exact gcdF_mul g p _
theorem gcdL_mul (g : Nat) (p : List Int) : gcdL (p.map fun z => (g : Int) * z) = g * gcdL p := gcdF_mul g p 0
theorem gcdL_small {p : List Int} {k : Nat} (hk : ∀ z ∈ p, z.natAbs ≤ k) : gcdL p ≤ k := by
  cases p with
  | nil => exact Nat.zero_le k
  | cons a r =>
    by_cases h0 : gcdL (a :: r) = 0
    · omega
    · by_cases ha : ∃ z ∈ a :: r, z ≠ 0
      · obtain ⟨z, hz, h1⟩ := ha
        exact Nat.le_trans (Nat.le_of_dvd (by omega) (gcdL_dvd hz)) (hk z hz)
      · exfalso
        have : (0 : Nat) ∣ gcdL (a :: r) := dvd_gcdL fun z hz => by
          by_cases hh : z = 0
          · rw [hh]; exact Nat.dvd_refl 0
          · exact absurd ⟨z, hz, hh⟩ ha
        exact h0 (Nat.eq_zero_of_zero_dvd this)
def Big (fu : Nat) : Prop := 10 ^ 80 < fu
theorem Big.lt {fu : Nat} (h : Big fu) {n : Nat} (hn : n ≤ 10 ^ 80) : n < fu := Nat.lt_of_le_of_lt hn h
def rw5 (p : List Int) : Prop := p.length ≤ 10 ∧ ∀ z ∈ p, z.natAbs ≤ 100
theorem dr_1 (fu : Nat) {K : Nat} {b : List D} (h : Bg K b) (hK : K < 900000) : ∃ m b', st__law_divisors_right_1 fu [.l b, .no, .no, .no, .no, .no, .no, .no] = .nx [.l b', .v (.int m), .no, .no, .no, .no, .no, .no] ∧ 0 ≤ m ∧ m < 12 ∧ Bg (K + 1) b' := by
  obtain ⟨m, b1, e1, h1, h2, hb⟩ := p5 fu h (by omega) 12
  refine ⟨m, b1, ?_, h1, h2, hb⟩
  simp [st__law_divisors_right_1, mcall, fnD, ms, mseq, mbind, mret, mopt, mbad, mvar, res, strong, strongs, ress, mun, mbin, mbinR, mcb, mcons, mcond, mif, mandV, morV, mnotV, tob, truD, mfld, fldD, putO, mputf, stSet, stSetP, mfrz, mlst, mtup, mslice, mpart, intD, dSl, on1, on2, lenD, absD, TW.intOf, TW.listOf, TW.tupOf, dInt2, dCmp2, dNeg, dIx, dIsN, dNotN, D.isNon, dupFree, argsOf, argOf, Sl.some?, putBack, Opd.isS, Sl.own, Rv.sl, Rv.d, mwalk, walkD, itemsD, mrng, rng1, rng2, rng3, tgName, tgTup, tgCons, tgNil, masg, mpar2, stPar2, isiD, dTy, isiInt, isiBl, isiLst, isiTup, isiObj, or2, nm, mvarF, mchain, mop2, dAddX, dAddS, mrev, lstD, mrevA, mpar3, stPar3, List.findIdx?_cons, List.findIdx?_nil, e1]
theorem dr_2 (fu : Nat) {K : Nat} {b : List D} (h : Bg K b) (hK : K < 900000) {m : Int} (h0 : 0 ≤ m) (h12 : m < 12) : ∃ p b', st__law_divisors_right_2 fu [.l b, .v (.int m), .no, .no, .no, .no, .no, .no] = .nx [.l b', .v (.int m), .l (I p), .no, .no, .no, .no, .no] ∧ rw5 p ∧ Bg (K + 8) b' := by
  obtain ⟨n, b1, e1, h1, h2, hb⟩ := p5 fu h (by omega) 5
  have hm : ci__law_divisors_right_1 fu [.l b, .v (.int m), .no, .no, .no, .no, .no, .no] = .ok (rangeD 0 n.toNat) [.l b1, .v (.int m), .no, .no, .no, .no, .no, .no] := by
    have er := okR_ok' h1 (by omega)
    simp [ci__law_divisors_right_1, mcall, fnD, ms, mseq, mbind, mret, mopt, mbad, mvar, res, strong, strongs, ress, mun, mbin, mbinR, mcb, mcons, mcond, mif, mandV, morV, mnotV, tob, truD, mfld, fldD, putO, mputf, stSet, stSetP, mfrz, mlst, mtup, mslice, mpart, intD, dSl, on1, on2, lenD, absD, TW.intOf, TW.listOf, TW.tupOf, dInt2, dCmp2, dNeg, dIx, dIsN, dNotN, D.isNon, dupFree, argsOf, argOf, Sl.some?, putBack, Opd.isS, Sl.own, Rv.sl, Rv.d, mwalk, walkD, itemsD, mrng, rng1, rng2, rng3, tgName, tgTup, tgCons, tgNil, masg, mpar2, stPar2, isiD, dTy, isiInt, isiBl, isiLst, isiTup, isiObj, or2, nm, mvarF, mchain, mop2, dAddX, dAddS, mrev, lstD, mrevA, mpar3, stPar3, List.findIdx?_cons, List.findIdx?_nil, e1, er]
  obtain ⟨acc, s', e, ⟨q, b2, rfl, rfl, hq, hn, hb2⟩, _⟩ := comp_ok (vs := [3]) (tm := tgName 3) (tt := ct__law_divisors_right_1 fu) (te := ce__law_divisors_right_1 fu) (fun i acc s => ∃ q b', acc = I q ∧ s = [.l b', .v (.int m), .no, .no, .no, .no, .no, .no] ∧ (∀ z ∈ q, z.natAbs ≤ 100) ∧ q.length ≤ i ∧ Bg (K + 1 + i) b') (rangeD 0 n.toNat) 0 [] [.l b1, .v (.int m), .no, .no, .no, .no, .no, .no] ⟨[], b1, rfl, rfl, by simp, by simp, hb⟩ (by simp [rangeD]; omega) fun j x acc s hj hP => by
    obtain ⟨q, b', rfl, rfl, hq, hn, hb'⟩ := hP
    obtain ⟨hjn, rfl⟩ := rangeD_get hj
    obtain ⟨y, b2, e2, hy1, hy2, hb2⟩ := p5 fu hb' (by omega) 13
    have hz : ((y - 6) * m).natAbs ≤ 100 := by
      rw [Int.natAbs_mul]
      have h3 : (y - 6).natAbs ≤ 6 := by omega
      have h4 : m.natAbs ≤ 11 := by omega
      have := Nat.mul_le_mul h3 h4
      omega
    have cm := of_decide_eq_true ((bd30 (x := y - 6) (by omega)).cMul (bd30 (x := m) (by omega)) (by omega))
    refine ⟨[.l b', .v (.int m), .no, .v (.int (0 + (j : Nat))), .no, .no, .no, .no], true, _, rfl, rfl, .inr ⟨.int ((y - 6) * m), [.l b2, .v (.int m), .no, .v (.int (0 + (j : Nat))), .no, .no, .no, .no], rfl, ?_, rfl, q ++ [(y - 6) * m], b2, by simp [I], rfl, ?_, ?_, hb2.mono (by omega)⟩⟩
    · simp [ce__law_divisors_right_1, mcall, fnD, ms, mseq, mbind, mret, mopt, mbad, mvar, res, strong, strongs, ress, mun, mbin, mbinR, mcb, mcons, mcond, mif, mandV, morV, mnotV, tob, truD, mfld, fldD, putO, mputf, stSet, stSetP, mfrz, mlst, mtup, mslice, mpart, intD, dSl, on1, on2, lenD, absD, TW.intOf, TW.listOf, TW.tupOf, dInt2, dCmp2, dNeg, dIx, dIsN, dNotN, D.isNon, dupFree, argsOf, argOf, Sl.some?, putBack, Opd.isS, Sl.own, Rv.sl, Rv.d, mwalk, walkD, itemsD, mrng, rng1, rng2, rng3, tgName, tgTup, tgCons, tgNil, masg, mpar2, stPar2, isiD, dTy, isiInt, isiBl, isiLst, isiTup, isiObj, or2, nm, mvarF, mchain, mop2, dAddX, dAddS, mrev, lstD, mrevA, mpar3, stPar3, List.findIdx?_cons, List.findIdx?_nil, e2, cm]
    · intro z hz'
      rcases List.mem_append.mp hz' with h | h
      · exact hq z h
      · rw [List.mem_singleton.mp h]; exact hz
    · rw [List.length_append]; simp; omega
  rw [rangeD_len] at hn hb2
  refine ⟨q, b2, ?_, ⟨by omega, hq⟩, hb2.mono (by omega)⟩
  have ec : c__law_divisors_right_1 fu [.l b, .v (.int m), .no, .no, .no, .no, .no, .no] = .ok (.l (I q)) [.l b2, .v (.int m), .no, .no, .no, .no, .no, .no] := by
    unfold c__law_divisors_right_1 mlc; rw [mb_k hm]
    rw [if_pos (by rfl)]
    have e' : compD [3] (tgName 3) (ct__law_divisors_right_1 fu) (ce__law_divisors_right_1 fu) (rangeD 0 n.toNat) [] (wipeS [.l b1, .v (.int m), .no, .no, .no, .no, .no, .no] [3]) = .ok (I q) [.l b2, .v (.int m), .no, .no, .no, .no, .no, .no] := e
    rw [e']; rfl
  generalize I q = w at *
  simp [st__law_divisors_right_2, fnD, ms, mseq, mbind, mret, mopt, mbad, mvar, res, strong, strongs, ress, mun, mbin, mbinR, mcb, mcons, mcond, mif, mandV, morV, mnotV, tob, truD, mfld, fldD, putO, mputf, stSet, stSetP, mfrz, mlst, mtup, mslice, mpart, intD, dSl, on1, on2, lenD, absD, TW.intOf, TW.listOf, TW.tupOf, dInt2, dCmp2, dNeg, dIx, dIsN, dNotN, D.isNon, dupFree, argsOf, argOf, Sl.some?, putBack, Opd.isS, Sl.own, Rv.sl, Rv.d, mwalk, walkD, itemsD, mrng, rng1, rng2, rng3, tgName, tgTup, tgCons, tgNil, masg, mpar2, stPar2, isiD, dTy, isiInt, isiBl, isiLst, isiTup, isiObj, or2, nm, mvarF, mchain, mop2, dAddX, dAddS, mrev, lstD, mrevA, mpar3, stPar3, List.findIdx?_cons, List.findIdx?_nil, ec]
theorem dr_3 (fu : Nat) (hF : Big fu) (b : List D) (m : D) {p : List Int} (hp : rw5 p) : st__law_divisors_right_3 fu [.l b, .v m, .l (I p), .no, .no, .no, .no, .no] = .nx [.l b, .v m, .v (.lst (I p)), .no, .v (.int (gcdL p : Nat)), .v (.int (gcdL p : Nat)), .no, .no] := by
  have e1 := ev_divisor fu (d := .lst (I p)) (.inl rfl) (by have := hp.1; omega) (fun z hz => hF.lt (Nat.le_trans (hp.2 z hz) (by decide +kernel)))
  have e2 := ev_law_measure fu (p := p) (by have := hp.1; omega) (fun z hz => by have := hp.2 z hz; unfold sm3; omega)
  generalize I p = w at *
  simp [st__law_divisors_right_3, mcall, fnD, ms, mseq, mbind, mret, mopt, mbad, mvar, res, strong, strongs, ress, mun, mbin, mbinR, mcb, mcons, mcond, mif, mandV, morV, mnotV, tob, truD, mfld, fldD, putO, mputf, stSet, stSetP, mfrz, mlst, mtup, mslice, mpart, intD, dSl, on1, on2, lenD, absD, TW.intOf, TW.listOf, TW.tupOf, dInt2, dCmp2, dNeg, dIx, dIsN, dNotN, D.isNon, dupFree, argsOf, argOf, Sl.some?, putBack, Opd.isS, Sl.own, Rv.sl, Rv.d, mwalk, walkD, itemsD, mrng, rng1, rng2, rng3, tgName, tgTup, tgCons, tgNil, masg, mpar2, stPar2, isiD, dTy, isiInt, isiBl, isiLst, isiTup, isiObj, or2, nm, mvarF, mchain, mop2, dAddX, dAddS, mrev, lstD, mrevA, mpar3, stPar3, List.findIdx?_cons, List.findIdx?_nil, e1, e2]
theorem dr_4 (fu : Nat) (hF : Big fu) (b : List D) (m : D) {p : List Int} (hp : rw5 p) : st__law_divisors_right_4 fu [.l b, .v m, .v (.lst (I p)), .no, .v (.int (gcdL p : Nat)), .v (.int (gcdL p : Nat)), .no, .no] = .nx [.l b, .v m, .v (.lst (I p)), .no, .v (.int (gcdL p : Nat)), .v (.int (gcdL p : Nat)), .no, .no] := by
  have e1 := ev_divisor fu (d := .tup (I p.reverse)) (p := p.reverse) (.inr rfl) (by rw [List.length_reverse]; have := hp.1; omega) (fun z hz => hF.lt (Nat.le_trans (hp.2 z (List.mem_reverse.mp hz)) (by decide +kernel)))
  rw [gcdL_rev] at e1
  have er : I p.reverse = (I p).reverse := List.map_reverse
  rw [er] at e1
  have e2 := ev_is_integer fu (d := .int (gcdL p : Nat)) rfl
  have e3 := dNe_int (gcdL p : Nat) (gcdL p : Nat)
  rw [decide_eq_true rfl] at e3
  generalize I p = w at *
  generalize ((gcdL p : Nat) : Int) = g at *
  simp [st__law_divisors_right_4, mcall, fnD, ms, mseq, mbind, mret, mopt, mbad, mvar, res, strong, strongs, ress, mun, mbin, mbinR, mcb, mcons, mcond, mif, mandV, morV, mnotV, tob, truD, mfld, fldD, putO, mputf, stSet, stSetP, mfrz, mlst, mtup, mslice, mpart, intD, dSl, on1, on2, lenD, absD, TW.intOf, TW.listOf, TW.tupOf, dInt2, dCmp2, dNeg, dIx, dIsN, dNotN, D.isNon, dupFree, argsOf, argOf, Sl.some?, putBack, Opd.isS, Sl.own, Rv.sl, Rv.d, mwalk, walkD, itemsD, mrng, rng1, rng2, rng3, tgName, tgTup, tgCons, tgNil, masg, mpar2, stPar2, isiD, dTy, isiInt, isiBl, isiLst, isiTup, isiObj, or2, nm, mvarF, mchain, mop2, dAddX, dAddS, mrev, lstD, mrevA, mpar3, stPar3, List.findIdx?_cons, List.findIdx?_nil, e1, e2, e3, isI]
theorem dr_5 (fu : Nat) {K : Nat} {b : List D} (h : Bg K b) (hK : K < 900000) (m w g1 g2 : D) : ∃ (g : Nat) (b' : List D), st__law_divisors_right_5 fu [.l b, .v m, .v w, .no, .v g1, .v g2, .no, .no] = .nx [.l b', .v m, .v w, .no, .v g1, .v g2, .v (.int (g : Nat)), .no] ∧ g ≤ 10 ^ 18 ∧ Bg (K + 1) b' := by
  obtain ⟨d, b1, e1, h1, h2, hb⟩ := pull_ok fu (k := 100000000000000000) h (by omega) (by decide) (log2_small (k := 100) (by unfold bd; decide) (by omega))
  refine ⟨(100000000000000000 + d).toNat, b1, ?_, by omega, hb⟩
  rw [Int.toNat_of_nonneg (by omega)]
  simp [st__law_divisors_right_5, mcall, fnD, ms, mseq, mbind, mret, mopt, mbad, mvar, res, strong, strongs, ress, mun, mbin, mbinR, mcb, mcons, mcond, mif, mandV, morV, mnotV, tob, truD, mfld, fldD, putO, mputf, stSet, stSetP, mfrz, mlst, mtup, mslice, mpart, intD, dSl, on1, on2, lenD, absD, TW.intOf, TW.listOf, TW.tupOf, dInt2, dCmp2, dNeg, dIx, dIsN, dNotN, D.isNon, dupFree, argsOf, argOf, Sl.some?, putBack, Opd.isS, Sl.own, Rv.sl, Rv.d, mwalk, walkD, itemsD, mrng, rng1, rng2, rng3, tgName, tgTup, tgCons, tgNil, masg, mpar2, stPar2, isiD, dTy, isiInt, isiBl, isiLst, isiTup, isiObj, or2, nm, mvarF, mchain, mop2, dAddX, dAddS, mrev, lstD, mrevA, mpar3, stPar3, List.findIdx?_cons, List.findIdx?_nil, e1]
theorem ev_c_dr2 (fu : Nat) (b : List D) (m g1 g2 : D) {p : List Int} (hp : rw5 p) {g : Nat} (hg : g ≤ 10 ^ 18) : c__law_divisors_right_2 fu [.l b, .v m, .v (.lst (I p)), .no, .v g1, .v g2, .v (.int (g : Nat)), .no] = .ok (.l (I (p.map fun z => (g : Int) * z))) [.l b, .v m, .v (.lst (I p)), .no, .v g1, .v g2, .v (.int (g : Nat)), .no] := by
  have hm : ci__law_divisors_right_2 fu [.l b, .v m, .v (.lst (I p)), .no, .v g1, .v g2, .v (.int (g : Nat)), .no] = .ok (I p) [.l b, .v m, .v (.lst (I p)), .no, .v g1, .v g2, .v (.int (g : Nat)), .no] := rfl
  obtain ⟨acc, s', e, ⟨hs, ha⟩, _⟩ := comp_ok (vs := [7]) (tm := tgName 7) (tt := ct__law_divisors_right_2 fu) (te := ce__law_divisors_right_2 fu) (fun i acc s => s = [.l b, .v m, .v (.lst (I p)), .no, .v g1, .v g2, .v (.int (g : Nat)), .no] ∧ acc = I ((p.take i).map fun z => (g : Int) * z)) (I p) 0 [] [.l b, .v m, .v (.lst (I p)), .no, .v g1, .v g2, .v (.int (g : Nat)), .no] ⟨rfl, rfl⟩ (by rw [I_len]; have := hp.1; simp; omega) fun j x acc s hj hP => by
    obtain ⟨rfl, rfl⟩ := hP
    obtain ⟨z, hz, rfl⟩ := I_at hj
    have hz3 := hp.2 z (List.mem_of_getElem? hz)
    have cm := of_decide_eq_true ((show bd 100 ((g : Nat) : Int) by unfold bd; omega).cMul (bd30 (x := z) (by omega)) (by omega))
    have cm' : g.log2 + z.natAbs.log2 < 134217000 := cm
    refine ⟨[.l b, .v m, .v (.lst (I p)), .no, .v g1, .v g2, .v (.int (g : Nat)), .v (.int z)], true, _, rfl, rfl, .inr ⟨.int ((g : Int) * z), [.l b, .v m, .v (.lst (I p)), .no, .v g1, .v g2, .v (.int (g : Nat)), .v (.int z)], rfl, ?_, rfl, rfl, ?_⟩⟩
    · simp [ce__law_divisors_right_2, fnD, ms, mseq, mbind, mret, mopt, mbad, mvar, res, strong, strongs, ress, mun, mbin, mbinR, mcb, mcons, mcond, mif, mandV, morV, mnotV, tob, truD, mfld, fldD, putO, mputf, stSet, stSetP, mfrz, mlst, mtup, mslice, mpart, intD, dSl, on1, on2, lenD, absD, TW.intOf, TW.listOf, TW.tupOf, dInt2, dCmp2, dNeg, dIx, dIsN, dNotN, D.isNon, dupFree, argsOf, argOf, Sl.some?, putBack, Opd.isS, Sl.own, Rv.sl, Rv.d, mwalk, walkD, itemsD, mrng, rng1, rng2, rng3, tgName, tgTup, tgCons, tgNil, masg, mpar2, stPar2, isiD, dTy, isiInt, isiBl, isiLst, isiTup, isiObj, or2, nm, mvarF, mchain, mop2, dAddX, dAddS, mrev, lstD, mrevA, mpar3, stPar3, List.findIdx?_cons, List.findIdx?_nil, cm, cm']
    · rw [Nat.zero_add, List.take_succ, hz]; simp [I]
  subst hs; subst ha
  unfold c__law_divisors_right_2 mlc; rw [mb_k hm]
  rw [if_pos (by rfl)]
  have e' : compD [7] (tgName 7) (ct__law_divisors_right_2 fu) (ce__law_divisors_right_2 fu) (I p) [] (wipeS [.l b, .v m, .v (.lst (I p)), .no, .v g1, .v g2, .v (.int (g : Nat)), .no] [7]) = .ok (I ((p.take (0 + (I p).length)).map fun z => (g : Int) * z)) [.l b, .v m, .v (.lst (I p)), .no, .v g1, .v g2, .v (.int (g : Nat)), .no] := e
  rw [e', Nat.zero_add, I_len, List.take_length]; rfl
theorem dr_6 (fu : Nat) (hF : Big fu) (b : List D) (m g1 : D) {p : List Int} (hp : rw5 p) {g : Nat} (hg : g ≤ 10 ^ 18) : st__law_divisors_right_6 fu [.l b, .v m, .v (.lst (I p)), .no, .v g1, .v (.int (gcdL p : Nat)), .v (.int (g : Nat)), .no] = .rt (.v (.bl true)) [.l b, .v m, .v (.lst (I p)), .no, .v g1, .v (.int (gcdL p : Nat)), .v (.int (g : Nat)), .no] := by
  have ec := ev_c_dr2 fu b m g1 (.int (gcdL p : Nat)) hp hg
  have e1 := ev_divisor fu (d := .lst (I (p.map fun z => (g : Int) * z))) (p := p.map fun z => (g : Int) * z) (.inl rfl) (by rw [List.length_map]; have := hp.1; omega) (fun z hz => by
    obtain ⟨y, hy, rfl⟩ := List.mem_map.mp hz
    refine hF.lt ?_
    rw [Int.natAbs_mul, Int.natAbs_natCast]
    exact Nat.le_trans (Nat.mul_le_mul hg (hp.2 y hy)) (by decide +kernel))
  rw [gcdL_mul] at e1
  have e2 : d_common_divisor fu [.v (.tup [])] = .ret (.v (.int 0)) [.v (.tup [])] := ev_divisor fu (p := []) (.inr rfl) (by simp) (by simp)
  have e3 : d_common_divisor fu [.v (.lst [.int (-9)])] = .ret (.v (.int 9)) [.v (.lst [.int (-9)])] := ev_divisor fu (p := [-9]) (.inl rfl) (by simp) (fun z hz => hF.lt (by rw [List.mem_singleton.mp hz]; decide +kernel))
  have hgs : gcdL p ≤ 100 := gcdL_small hp.2
  have cm : g.log2 + (gcdL p).log2 < 134217000 := of_decide_eq_true ((show bd 100 ((g : Nat) : Int) by unfold bd; omega).cMul (bd30 (x := ((gcdL p : Nat) : Int)) (by omega)) (by omega))
  have e4 := dEq_int ((g * gcdL p : Nat) : Int) ((g * gcdL p : Nat) : Int)
  rw [decide_eq_true rfl] at e4
  have e5 := dEq_int 0 0
  have e6 := dEq_int 9 9
  have ek : ((g * gcdL p : Nat) : Int) = (g : Int) * (gcdL p : Int) := by push_cast; rfl
  rw [ek] at e1 e4
  generalize I (p.map fun z => (g : Int) * z) = w1 at *
  generalize I p = w2 at *
  generalize gcdL p = q at *
  simp [st__law_divisors_right_6, mcall, fnD, ms, mseq, mbind, mret, mopt, mbad, mvar, res, strong, strongs, ress, mun, mbin, mbinR, mcb, mcons, mcond, mif, mandV, morV, mnotV, tob, truD, mfld, fldD, putO, mputf, stSet, stSetP, mfrz, mlst, mtup, mslice, mpart, intD, dSl, on1, on2, lenD, absD, TW.intOf, TW.listOf, TW.tupOf, dInt2, dCmp2, dNeg, dIx, dIsN, dNotN, D.isNon, dupFree, argsOf, argOf, Sl.some?, putBack, Opd.isS, Sl.own, Rv.sl, Rv.d, mwalk, walkD, itemsD, mrng, rng1, rng2, rng3, tgName, tgTup, tgCons, tgNil, masg, mpar2, stPar2, isiD, dTy, isiInt, isiBl, isiLst, isiTup, isiObj, or2, nm, mvarF, mchain, mop2, dAddX, dAddS, mrev, lstD, mrevA, mpar3, stPar3, List.findIdx?_cons, List.findIdx?_nil, ec, e1, e2, e3, cm, e4, e5, e6]
theorem divisors_right (fu : Nat) (hF : Big fu) {K : Nat} {b : List D} (h : Bg K b) (hK : K < 700000) : ∃ b', d__law_divisors_right fu [.l b] = .ret (.v (.bl true)) [.l b'] ∧ Bg (K + 30) b' := by
  obtain ⟨m, b1, s1, h0, h8, hb1⟩ := dr_1 fu h (by omega)
  obtain ⟨p, b2, s2, hp, hb2⟩ := dr_2 fu hb1 (by omega) h0 h8
  have s3 := dr_3 fu hF b2 (.int m) hp
  have s4 := dr_4 fu hF b2 (.int m) hp
  obtain ⟨g, b5, s5, hg, hb5⟩ := dr_5 fu hb2 (by omega) (.int m) (.lst (I p)) (.int (gcdL p : Nat)) (.int (gcdL p : Nat))
  have s6 := dr_6 fu hF b5 (.int m) (.int (gcdL p : Nat)) hp hg
  refine ⟨b5, ?_, hb5.mono (by omega)⟩
  generalize I p = w at *
  simp [d__law_divisors_right, b__law_divisors_right, fnD, mseq, s1, s2, s3, s4, s5, s6]
end K01

set_option linter.all false
set_option autoImplicit false
set_option maxRecDepth 100000
set_option maxHeartbeats 4000000
namespace K01
open PySem TW L2
theorem fdiv_exact {a s : Int} (hs : s ∣ a) : a.fdiv s * s = a := by
  rw [Int.fdiv_eq_ediv_of_dvd hs]; exact Int.ediv_mul_cancel hs
theorem low_facts {a b : Int} (hb : b ≠ 0) : lowA a b * sharedI a b = a ∧ lowB a b * sharedI a b = b ∧ 0 < lowB a b ∧ gcdL [lowA a b, lowB a b] = 1 := by
  have hg : 0 < gcdL [a, b] := by
    rw [gcd2]
    exact Nat.gcd_pos_of_pos_right _ (by omega)
  have hda : ((gcdL [a, b] : Nat) : Int) ∣ a := Int.natAbs_dvd_natAbs.mp (by rw [Int.natAbs_natCast]; exact gcdL_dvd (by simp))
  have hdb : ((gcdL [a, b] : Nat) : Int) ∣ b := Int.natAbs_dvd_natAbs.mp (by rw [Int.natAbs_natCast]; exact gcdL_dvd (by simp))
  have hs : sharedI a b ∣ a ∧ sharedI a b ∣ b := by
    unfold sharedI
    by_cases h : 0 < b
    · rw [if_pos h]; exact ⟨hda, hdb⟩
    · rw [if_neg h]; exact ⟨Int.neg_dvd.mpr hda, Int.neg_dvd.mpr hdb⟩
  have e1 : lowA a b * sharedI a b = a := fdiv_exact hs.1
  have e2 : lowB a b * sharedI a b = b := fdiv_exact hs.2
  have hn : (sharedI a b).natAbs = gcdL [a, b] := by
    unfold sharedI
    by_cases h : 0 < b
    · rw [if_pos h]; omega
    · rw [if_neg h]; omega
  refine ⟨e1, e2, ?_, ?_⟩
  · by_cases h : 0 < b
    · have hp : 0 < sharedI a b := by unfold sharedI; rw [if_pos h]; omega
      rw [← e2] at h
      exact Int.pos_of_mul_pos_left h hp
    · have hp : sharedI a b < 0 := by unfold sharedI; rw [if_neg h]; omega
      have h1 : lowB a b * sharedI a b < 0 := by rw [e2]; omega
      rcases Int.lt_trichotomy 0 (lowB a b) with h2 | h2 | h2
      · exact h2
      · rw [← h2] at h1; simp at h1
      · have := Int.mul_pos_of_neg_of_neg h2 hp; omega
  · rw [gcd2]
    have h1 : gcdL [a, b] = Nat.gcd a.natAbs b.natAbs := gcd2 a b
    have h2 : a.natAbs = (lowA a b).natAbs * gcdL [a, b] := by rw [← hn, ← Int.natAbs_mul, e1]
    have h3 : b.natAbs = (lowB a b).natAbs * gcdL [a, b] := by rw [← hn, ← Int.natAbs_mul, e2]
    generalize gcdL [a, b] = g at *
    rw [h2, h3, Nat.gcd_mul_right] at h1
    have h4 : 1 * g = Nat.gcd (lowA a b).natAbs (lowB a b).natAbs * g := by omega
    exact (Nat.eq_of_mul_eq_mul_right hg h4).symm
theorem low_le {a b : Int} (hb : b ≠ 0) : (lowA a b).natAbs ≤ a.natAbs ∧ (lowB a b).natAbs ≤ b.natAbs := by
  obtain ⟨e1, e2, h3, _⟩ := low_facts (a := a) hb
  have hs : sharedI a b ≠ 0 := by intro z; rw [z] at e2; omega
  have h1 : a.natAbs = (lowA a b).natAbs * (sharedI a b).natAbs := by rw [← Int.natAbs_mul, e1]
  have h2 : b.natAbs = (lowB a b).natAbs * (sharedI a b).natAbs := by rw [← Int.natAbs_mul, e2]
  have h4 : 1 ≤ (sharedI a b).natAbs := by omega
  constructor
  · conv => rhs; rw [h1]
    exact Nat.le_mul_of_pos_right _ h4
  · conv => rhs; rw [h2]
    exact Nat.le_mul_of_pos_right _ h4
theorem low_ratB {a b : Int} (hb : b ≠ 0) : ratB [lowA a b, lowB a b] = true := by
  obtain ⟨_, _, h3, h4⟩ := low_facts (a := a) hb
  show (decide (0 < lowB a b) && decide (gcdL [lowA a b, lowB a b] = 1)) = true
  rw [decide_eq_true h3, decide_eq_true h4]; rfl
theorem low_cross {a b : Int} (hb : b ≠ 0) : lowA a b * b = lowB a b * a := by
  obtain ⟨e1, e2, _, _⟩ := low_facts (a := a) hb
  generalize lowA a b = u at *
  generalize lowB a b = v at *
  generalize sharedI a b = s at *
  subst e1; subst e2
  rw [← Int.mul_assoc, ← Int.mul_assoc, Int.mul_comm u v]
/-! ## ratios_right -/
theorem rr_1 (fu : Nat) {K : Nat} {b : List D} (h : Bg K b) (hK : K < 900000) : ∃ m x y b', st__law_ratios_right_1 fu [.l b, .no, .no, .no, .no, .no, .no] = .nx [.l b', .v (.int m), .v (.int x), .v (.int y), .no, .no, .no] ∧ m.natAbs ≤ 30 ∧ x.natAbs ≤ 21 ∧ y.natAbs ≤ 21 ∧ Bg (K + 3) b' := by
  obtain ⟨m, b1, e1, h1, h2, hb⟩ := p5 fu h (by omega) 30
  obtain ⟨x, b2, e2, h3, h4, hb2⟩ := p5 fu hb (by omega) 41
  obtain ⟨y, b3, e3, h5, h6, hb3⟩ := p5 fu hb2 (by omega) 41
  refine ⟨m, x - 20, y - 20, b3, ?_, by omega, by omega, by omega, hb3⟩
  simp [st__law_ratios_right_1, mcall, fnD, ms, mseq, mbind, mret, mopt, mbad, mvar, res, strong, strongs, ress, mun, mbin, mbinR, mcb, mcons, mcond, mif, mandV, morV, mnotV, tob, truD, mfld, fldD, putO, mputf, stSet, stSetP, mfrz, mlst, mtup, mslice, mpart, intD, dSl, on1, on2, lenD, absD, TW.intOf, TW.listOf, TW.tupOf, dInt2, dCmp2, dNeg, dIx, dIsN, dNotN, D.isNon, dupFree, argsOf, argOf, Sl.some?, putBack, Opd.isS, Sl.own, Rv.sl, Rv.d, mwalk, walkD, itemsD, mrng, rng1, rng2, rng3, tgName, tgTup, tgCons, tgNil, masg, mpar2, stPar2, isiD, dTy, isiInt, isiBl, isiLst, isiTup, isiObj, or2, nm, mvarF, mchain, mop2, dAddX, dAddS, mrev, lstD, mrevA, mpar3, stPar3, List.findIdx?_cons, List.findIdx?_nil, e1, e2, e3]
theorem mul_small {x m : Int} {i j k : Nat} (hx : x.natAbs ≤ i) (hm : m.natAbs ≤ j) (hk : i * j ≤ k) : (x * m).natAbs ≤ k := by
  rw [Int.natAbs_mul]; exact Nat.le_trans (Nat.mul_le_mul hx hm) hk
theorem rr_2 (fu : Nat) (b : List D) {m x y : Int} (hm : m.natAbs ≤ 30) (hx : x.natAbs ≤ 21) (hy : y.natAbs ≤ 21) : st__law_ratios_right_2 fu [.l b, .v (.int m), .v (.int x), .v (.int y), .no, .no, .no] = .nx [.l b, .v (.int m), .v (.int (x * m)), .v (.int (y * m)), .no, .no, .no] := by
  have c1 := of_decide_eq_true ((bd30 (x := x) (by omega)).cMul (bd30 (x := m) (by omega)) (by omega))
  have c2 := of_decide_eq_true ((bd30 (x := y) (by omega)).cMul (bd30 (x := m) (by omega)) (by omega))
  simp [st__law_ratios_right_2, fnD, ms, mseq, mbind, mret, mopt, mbad, mvar, res, strong, strongs, ress, mun, mbin, mbinR, mcb, mcons, mcond, mif, mandV, morV, mnotV, tob, truD, mfld, fldD, putO, mputf, stSet, stSetP, mfrz, mlst, mtup, mslice, mpart, intD, dSl, on1, on2, lenD, absD, TW.intOf, TW.listOf, TW.tupOf, dInt2, dCmp2, dNeg, dIx, dIsN, dNotN, D.isNon, dupFree, argsOf, argOf, Sl.some?, putBack, Opd.isS, Sl.own, Rv.sl, Rv.d, mwalk, walkD, itemsD, mrng, rng1, rng2, rng3, tgName, tgTup, tgCons, tgNil, masg, mpar2, stPar2, isiD, dTy, isiInt, isiBl, isiLst, isiTup, isiObj, or2, nm, mvarF, mchain, mop2, dAddX, dAddS, mrev, lstD, mrevA, mpar3, stPar3, List.findIdx?_cons, List.findIdx?_nil, c1, c2]
theorem rr_3 (fu : Nat) (b : List D) (m : D) {x y : Int} (hx : x.natAbs ≤ 1000) (hy : y.natAbs ≤ 1000) : st__law_ratios_right_3 fu [.l b, .v m, .v (.int x), .v (.int y), .no, .no, .no] = .nx [.l b, .v m, .v (.int x), .v (.int y), .v (.bl (ratB [x, y])), .no, .no] := by
  have e1 : d__law_measure fu [.v (.lst [.int x, .int y])] = .ret (.v (.int (gcdL [x, y] : Nat))) [.v (.lst [.int x, .int y])] := ev_law_measure fu (p := [x, y]) (by simp) (by unfold sm3; simp; omega)
  have e2 := dEq_int (gcdL [x, y] : Nat) 1
  have e3 : decide (((gcdL [x, y] : Nat) : Int) = 1) = decide (gcdL [x, y] = 1) := by
    by_cases q : gcdL [x, y] = 1
    · rw [q]; rfl
    · rw [decide_eq_false q, decide_eq_false (by omega)]
  rw [e3] at e2
  have er : ratB [x, y] = (decide (0 < y) && decide (gcdL [x, y] = 1)) := rfl
  rw [er]
  generalize decide (gcdL [x, y] = 1) = w at *
  by_cases h0 : 0 < y <;> simp [st__law_ratios_right_3, mcall, fnD, ms, mseq, mbind, mret, mopt, mbad, mvar, res, strong, strongs, ress, mun, mbin, mbinR, mcb, mcons, mcond, mif, mandV, morV, mnotV, tob, truD, mfld, fldD, putO, mputf, stSet, stSetP, mfrz, mlst, mtup, mslice, mpart, intD, dSl, on1, on2, lenD, absD, TW.intOf, TW.listOf, TW.tupOf, dInt2, dCmp2, dNeg, dIx, dIsN, dNotN, D.isNon, dupFree, argsOf, argOf, Sl.some?, putBack, Opd.isS, Sl.own, Rv.sl, Rv.d, mwalk, walkD, itemsD, mrng, rng1, rng2, rng3, tgName, tgTup, tgCons, tgNil, masg, mpar2, stPar2, isiD, dTy, isiInt, isiBl, isiLst, isiTup, isiObj, or2, nm, mvarF, mchain, mop2, dAddX, dAddS, mrev, lstD, mrevA, mpar3, stPar3, List.findIdx?_cons, List.findIdx?_nil, e1, e2, h0]
theorem rr_4 (fu : Nat) (hF : Big fu) (b : List D) (m : D) {x y : Int} (hx : x.natAbs ≤ 1000) (hy : y.natAbs ≤ 1000) : st__law_ratios_right_4 fu [.l b, .v m, .v (.int x), .v (.int y), .v (.bl (ratB [x, y])), .no, .no] = .nx [.l b, .v m, .v (.int x), .v (.int y), .v (.bl (ratB [x, y])), .no, .no] := by
  have hf : ∀ z ∈ [x, y], z.natAbs < fu := fun z hz => hF.lt (Nat.le_trans (show z.natAbs ≤ 1000 by simp at hz; omega) (by decide +kernel))
  have e1 : d_is_ratio fu [.v (.tup [.int x, .int y])] = .ret (.v (.bl (ratB [x, y]))) [.v (.tup [.int x, .int y])] := ev_ratio fu (p := [x, y]) (.inr rfl) (by simp) hf
  have e2 : d_is_ratio fu [.v (.lst [.int x, .int y])] = .ret (.v (.bl (ratB [x, y]))) [.v (.lst [.int x, .int y])] := ev_ratio fu (p := [x, y]) (.inl rfl) (by simp) hf
  have e3 := ev_same fu (ratB [x, y]) (ratB [x, y])
  rw [beq_self_eq_true] at e3
  generalize ratB [x, y] = w at *
  simp [st__law_ratios_right_4, mcall, fnD, ms, mseq, mbind, mret, mopt, mbad, mvar, res, strong, strongs, ress, mun, mbin, mbinR, mcb, mcons, mcond, mif, mandV, morV, mnotV, tob, truD, mfld, fldD, putO, mputf, stSet, stSetP, mfrz, mlst, mtup, mslice, mpart, intD, dSl, on1, on2, lenD, absD, TW.intOf, TW.listOf, TW.tupOf, dInt2, dCmp2, dNeg, dIx, dIsN, dNotN, D.isNon, dupFree, argsOf, argOf, Sl.some?, putBack, Opd.isS, Sl.own, Rv.sl, Rv.d, mwalk, walkD, itemsD, mrng, rng1, rng2, rng3, tgName, tgTup, tgCons, tgNil, masg, mpar2, stPar2, isiD, dTy, isiInt, isiBl, isiLst, isiTup, isiObj, or2, nm, mvarF, mchain, mop2, dAddX, dAddS, mrev, lstD, mrevA, mpar3, stPar3, List.findIdx?_cons, List.findIdx?_nil, e1, e2, e3]
theorem rr_5 (fu : Nat) (hF : Big fu) (b : List D) (m w : D) {x y : Int} (hx : x.natAbs ≤ 1000) (hy : y.natAbs ≤ 1000) : ∃ t, t.own = false ∧ st__law_ratios_right_5 fu [.l b, .v m, .v (.int x), .v (.int y), .v w, .no, .no] = .nx [.l b, .v m, .v (.int x), .v (.int y), .v w, t, .no] := by
  have en := dNe_int y 0
  by_cases hy0 : y = 0
  · subst hy0
    exact ⟨.no, rfl, by simp [st__law_ratios_right_5, fnD, ms, mseq, mbind, mret, mopt, mbad, mvar, res, strong, strongs, ress, mun, mbin, mbinR, mcb, mcons, mcond, mif, mandV, morV, mnotV, tob, truD, mfld, fldD, putO, mputf, stSet, stSetP, mfrz, mlst, mtup, mslice, mpart, intD, dSl, on1, on2, lenD, absD, TW.intOf, TW.listOf, TW.tupOf, dInt2, dCmp2, dNeg, dIx, dIsN, dNotN, D.isNon, dupFree, argsOf, argOf, Sl.some?, putBack, Opd.isS, Sl.own, Rv.sl, Rv.d, mwalk, walkD, itemsD, mrng, rng1, rng2, rng3, tgName, tgTup, tgCons, tgNil, masg, mpar2, stPar2, isiD, dTy, isiInt, isiBl, isiLst, isiTup, isiObj, or2, nm, mvarF, mchain, mop2, dAddX, dAddS, mrev, lstD, mrevA, mpar3, stPar3, List.findIdx?_cons, List.findIdx?_nil, en]⟩
  · have b1 : x.natAbs < fu := hF.lt (Nat.le_trans hx (by decide +kernel))
    have b2 : y.natAbs < fu := hF.lt (Nat.le_trans hy (by decide +kernel))
    have e1 := ev_lowest fu hy0 b1 b2 (log2_small (bd30 (by omega)) (by omega))
    have hr := low_ratB (a := x) hy0
    have hc := low_cross (a := x) hy0
    obtain ⟨l1, l2⟩ := low_le (a := x) hy0
    generalize lowA x y = u at *
    generalize lowB x y = v at *
    have e2 : d_is_ratio fu [.v (.tup [.int u, .int v])] = .ret (.v (.bl (ratB [u, v]))) [.v (.tup [.int u, .int v])] := ev_ratio fu (p := [u, v]) (.inr rfl) (by simp) (by simp; omega)
    rw [hr] at e2
    have c1 := of_decide_eq_true ((bd30 (x := u) (by omega)).cMul (bd30 (x := y) (by omega)) (by omega))
    have c2 := of_decide_eq_true ((bd30 (x := v) (by omega)).cMul (bd30 (x := x) (by omega)) (by omega))
    have e3 := dNe_int (u * y) (v * x)
    rw [decide_eq_true hc] at e3
    refine ⟨.v (.tup [.int u, .int v]), rfl, ?_⟩
    rw [decide_eq_false hy0] at en
    simp [st__law_ratios_right_5, mcall, fnD, ms, mseq, mbind, mret, mopt, mbad, mvar, res, strong, strongs, ress, mun, mbin, mbinR, mcb, mcons, mcond, mif, mandV, morV, mnotV, tob, truD, mfld, fldD, putO, mputf, stSet, stSetP, mfrz, mlst, mtup, mslice, mpart, intD, dSl, on1, on2, lenD, absD, TW.intOf, TW.listOf, TW.tupOf, dInt2, dCmp2, dNeg, dIx, dIsN, dNotN, D.isNon, dupFree, argsOf, argOf, Sl.some?, putBack, Opd.isS, Sl.own, Rv.sl, Rv.d, mwalk, walkD, itemsD, mrng, rng1, rng2, rng3, tgName, tgTup, tgCons, tgNil, masg, mpar2, stPar2, isiD, dTy, isiInt, isiBl, isiLst, isiTup, isiObj, or2, nm, mvarF, mchain, mop2, dAddX, dAddS, mrev, lstD, mrevA, mpar3, stPar3, List.findIdx?_cons, List.findIdx?_nil, en, e1, e2, c1, c2, e3, atI, ixN]
def oddRat : List D := [.tup [.int 1, .bl true], .tup [.bl false, .int 1], .tup [.int 1], .tup [.int 1, .int 2, .int 3], .str (Str.ofString "12"), .non, .tup [.int 1, .int 0], .tup [.int 0, .int 2], .tup [.int 2, .int (-3)], .dct, .tup [.int 1, .non], .tup []]
theorem rr_odd (fu : Nat) (hF : Big fu) {x : D} (h : x ∈ oddRat) : d_is_ratio fu [.v x] = .ret (.v (.bl false)) [.v x] := by
  have h3 : 3 < fu := hF.lt (by decide +kernel)
  simp only [oddRat, List.mem_cons, List.not_mem_nil, or_false] at h
  rcases h with rfl | rfl | rfl | rfl | rfl | rfl | rfl | rfl | rfl | rfl | rfl | rfl
  · exact ev_ratio_no fu (by decide) (by decide)
  · exact ev_ratio_no fu (by decide) (by decide)
  · exact ev_ratio fu (p := [1]) (.inr rfl) (by simp) (by simp; omega)
  · exact ev_ratio fu (p := [1, 2, 3]) (.inr rfl) (by simp) (by simp; omega)
  · exact ev_ratio_no fu (by decide) (by decide)
  · exact ev_ratio_no fu (by decide) (by decide)
  · exact ev_ratio fu (p := [1, 0]) (.inr rfl) (by simp) (by simp; omega)
  · exact ev_ratio fu (p := [0, 2]) (.inr rfl) (by simp) (by simp; omega)
  · exact ev_ratio fu (p := [2, -3]) (.inr rfl) (by simp) (by simp; omega)
  · exact ev_ratio_no fu (by decide) (by decide)
  · exact ev_ratio_no fu (by decide) (by decide)
  · exact ev_ratio fu (p := []) (.inr rfl) (by simp) (by simp)
theorem rr_6 (fu : Nat) {K : Nat} {b : List D} (h : Bg K b) (hK : K < 900000) (m x y w : D) (t : Sl) (ht : t.own = false) : ∃ d b', st__law_ratios_right_6 fu [.l b, .v m, .v x, .v y, .v w, t, .no] = .nx [.l b', .v m, .v x, .v y, .v w, t, .v d] ∧ d ∈ oddRat ∧ Bg (K + 1) b' := by
  obtain ⟨d, b2, hx, e2, hb2⟩ := take_ok fu (ds := oddRat) h (by omega) (by simp [oddRat]) (by simp [oddRat])
  refine ⟨d, b2, ?_, hx, hb2⟩
  unfold oddRat at e2
  cases t <;> first | (cases ht; done) | simp [st__law_ratios_right_6, mcall, fnD, ms, mseq, mbind, mret, mopt, mbad, mvar, res, strong, strongs, ress, mun, mbin, mbinR, mcb, mcons, mcond, mif, mandV, morV, mnotV, tob, truD, mfld, fldD, putO, mputf, stSet, stSetP, mfrz, mlst, mtup, mslice, mpart, intD, dSl, on1, on2, lenD, absD, TW.intOf, TW.listOf, TW.tupOf, dInt2, dCmp2, dNeg, dIx, dIsN, dNotN, D.isNon, dupFree, argsOf, argOf, Sl.some?, putBack, Opd.isS, Sl.own, Rv.sl, Rv.d, mwalk, walkD, itemsD, mrng, rng1, rng2, rng3, tgName, tgTup, tgCons, tgNil, masg, mpar2, stPar2, isiD, dTy, isiInt, isiBl, isiLst, isiTup, isiObj, or2, nm, mvarF, mchain, mop2, dAddX, dAddS, mrev, lstD, mrevA, mpar3, stPar3, List.findIdx?_cons, List.findIdx?_nil, e2]
theorem rr_7 (fu : Nat) (hF : Big fu) (b : List D) (m x y w : D) (t : Sl) (ht : t.own = false) {d : D} (hd : d ∈ oddRat) : st__law_ratios_right_7 fu [.l b, .v m, .v x, .v y, .v w, t, .v d] = .rt (.v (.bl true)) [.l b, .v m, .v x, .v y, .v w, t, .v d] := by
  have e1 := rr_odd fu hF hd
  have e2 : d_is_ratio fu [.v (.tup [.int 0, .int 1])] = .ret (.v (.bl true)) [.v (.tup [.int 0, .int 1])] := ev_ratio fu (p := [0, 1]) (.inr rfl) (by simp) (fun z hz => hF.lt (Nat.le_trans (show z.natAbs ≤ 1 by simp at hz; omega) (by decide +kernel)))
  have e3 : d_is_ratio fu [.v (.tup [.int (-7), .int 100000000000000000000])] = .ret (.v (.bl true)) [.v (.tup [.int (-7), .int 100000000000000000000])] := by
    have := ev_ratio fu (d := .tup [.int (-7), .int 100000000000000000000]) (p := [-7, 100000000000000000000]) (.inr rfl) (by simp) (fun z hz => hF.lt (Nat.le_trans (show z.natAbs ≤ 100000000000000000000 by simp at hz; omega) (by decide +kernel)))
    rw [show ratB [-7, 100000000000000000000] = true by decide +kernel] at this
    exact this
  have e4 := ev_same fu false false
  cases t <;> first | (cases ht; done) | simp [st__law_ratios_right_7, mcall, fnD, ms, mseq, mbind, mret, mopt, mbad, mvar, res, strong, strongs, ress, mun, mbin, mbinR, mcb, mcons, mcond, mif, mandV, morV, mnotV, tob, truD, mfld, fldD, putO, mputf, stSet, stSetP, mfrz, mlst, mtup, mslice, mpart, intD, dSl, on1, on2, lenD, absD, TW.intOf, TW.listOf, TW.tupOf, dInt2, dCmp2, dNeg, dIx, dIsN, dNotN, D.isNon, dupFree, argsOf, argOf, Sl.some?, putBack, Opd.isS, Sl.own, Rv.sl, Rv.d, mwalk, walkD, itemsD, mrng, rng1, rng2, rng3, tgName, tgTup, tgCons, tgNil, masg, mpar2, stPar2, isiD, dTy, isiInt, isiBl, isiLst, isiTup, isiObj, or2, nm, mvarF, mchain, mop2, dAddX, dAddS, mrev, lstD, mrevA, mpar3, stPar3, List.findIdx?_cons, List.findIdx?_nil, e1, e2, e3, e4]
theorem ratios_right (fu : Nat) (hF : Big fu) {K : Nat} {b : List D} (h : Bg K b) (hK : K < 700000) : ∃ b', d__law_ratios_right fu [.l b] = .ret (.v (.bl true)) [.l b'] ∧ Bg (K + 30) b' := by
  obtain ⟨m, x, y, b1, s1, hm, hx, hy, hb1⟩ := rr_1 fu h (by omega)
  have s2 := rr_2 fu b1 hm hx hy
  have hx' : (x * m).natAbs ≤ 1000 := mul_small hx hm (by decide)
  have hy' : (y * m).natAbs ≤ 1000 := mul_small hy hm (by decide)
  generalize x * m = x' at *
  generalize y * m = y' at *
  have s3 := rr_3 fu b1 (.int m) hx' hy'
  have s4 := rr_4 fu hF b1 (.int m) hx' hy'
  generalize ratB [x', y'] = w at *
  obtain ⟨t, ht, s5⟩ := rr_5 fu hF b1 (.int m) (.bl w) hx' hy'
  obtain ⟨d, b6, s6, hd, hb6⟩ := rr_6 fu hb1 (by omega) (.int m) (.int x') (.int y') (.bl w) t ht
  have s7 := rr_7 fu hF b6 (.int m) (.int x') (.int y') (.bl w) t ht hd
  refine ⟨b6, ?_, hb6.mono (by omega)⟩
  simp [d__law_ratios_right, b__law_ratios_right, fnD, mseq, s1, s2, s3, s4, s5, s6, s7]
end K01

set_option linter.all false
set_option autoImplicit false
set_option maxRecDepth 100000
set_option maxHeartbeats 4000000
namespace K01
open PySem TW L2
/-- a ratio drawn -/
def Rq (d : D) : Prop := ∃ a b : Int, d = .tup [.int a, .int b] ∧ ratB [a, b] = true ∧ a.natAbs ≤ 10 ^ 60 ∧ b.natAbs ≤ 10 ^ 60
theorem cr_1 (fu : Nat) {K : Nat} {b : List D} (h : Bg K b) (hK : K < 900000) : ∃ g b', st__law_compared_right_1 fu [.l b, .no, .no, .no, .no, .no, .no, .no, .no, .no] = .nx [.l b', .v (.int g), .no, .no, .no, .no, .no, .no, .no, .no] ∧ g.natAbs ≤ 10 ^ 30 ∧ Bg (K + 1) b' := by
  obtain ⟨d, b2, hx, e2, hb2⟩ := take_ok fu (ds := [.int 0, .int 0, .int 1000000000000000000000000000000]) h (by omega) (by simp) (by simp)
  have hg : ∃ g : Int, d = .int g ∧ g.natAbs ≤ 10 ^ 30 := by
    simp only [List.mem_cons, List.not_mem_nil, or_false] at hx
    rcases hx with rfl | rfl | rfl
    · exact ⟨0, rfl, by decide⟩
    · exact ⟨0, rfl, by decide⟩
    · exact ⟨_, rfl, by decide⟩
  obtain ⟨g, rfl, hg⟩ := hg
  refine ⟨g, b2, ?_, hg, hb2⟩
  simp [st__law_compared_right_1, mcall, fnD, ms, mseq, mbind, mret, mopt, mbad, mvar, res, strong, strongs, ress, mun, mbin, mbinR, mcb, mcons, mcond, mif, mandV, morV, mnotV, tob, truD, mfld, fldD, putO, mputf, stSet, stSetP, mfrz, mlst, mtup, mslice, mpart, intD, dSl, on1, on2, lenD, absD, TW.intOf, TW.listOf, TW.tupOf, dInt2, dCmp2, dNeg, dIx, dIsN, dNotN, D.isNon, dupFree, argsOf, argOf, Sl.some?, putBack, Opd.isS, Sl.own, Rv.sl, Rv.d, mwalk, walkD, itemsD, mrng, rng1, rng2, rng3, tgName, tgTup, tgCons, tgNil, masg, mpar2, stPar2, isiD, dTy, isiInt, isiBl, isiLst, isiTup, isiObj, or2, nm, mvarF, mchain, mop2, dAddX, dAddS, mrev, lstD, mrevA, mpar3, stPar3, List.findIdx?_cons, List.findIdx?_nil, e2]
theorem cr_2 (fu : Nat) (hF : Big fu) {K : Nat} {b : List D} (h : Bg K b) (hK : K < 900000) {g : Int} (hg : g.natAbs ≤ 10 ^ 30) : ∃ u v b', st__law_compared_right_2 fu [.l b, .v (.int g), .no, .no, .no, .no, .no, .no, .no, .no] = .nx [.l b', .v (.int g), .v (.tup [.int u, .int v]), .no, .no, .no, .no, .no, .no, .no] ∧ ratB [u, v] = true ∧ u.natAbs ≤ 10 ^ 31 ∧ v.natAbs ≤ 100 ∧ Bg (K + 2) b' := by
  obtain ⟨x, b1, e1, h1, h2, hb1⟩ := p5 fu h (by omega) 41
  obtain ⟨y, b2, e2, h3, h4, hb2⟩ := p5 fu hb1 (by omega) 20
  have hy : 1 + y ≠ 0 := by omega
  have e3 := ev_lowest fu (a := x - 20 + g) hy (hF.lt (Nat.le_trans (show (x - 20 + g).natAbs ≤ 10 ^ 31 by omega) (by decide +kernel))) (hF.lt (Nat.le_trans (show (1 + y).natAbs ≤ 100 by omega) (by decide +kernel))) (log2_small (bd30 (by omega)) (by omega))
  obtain ⟨l1, l2⟩ := low_le (a := x - 20 + g) hy
  refine ⟨lowA (x - 20 + g) (1 + y), lowB (x - 20 + g) (1 + y), b2, ?_, low_ratB hy, by omega, by omega, hb2⟩
  simp [st__law_compared_right_2, mcall, fnD, ms, mseq, mbind, mret, mopt, mbad, mvar, res, strong, strongs, ress, mun, mbin, mbinR, mcb, mcons, mcond, mif, mandV, morV, mnotV, tob, truD, mfld, fldD, putO, mputf, stSet, stSetP, mfrz, mlst, mtup, mslice, mpart, intD, dSl, on1, on2, lenD, absD, TW.intOf, TW.listOf, TW.tupOf, dInt2, dCmp2, dNeg, dIx, dIsN, dNotN, D.isNon, dupFree, argsOf, argOf, Sl.some?, putBack, Opd.isS, Sl.own, Rv.sl, Rv.d, mwalk, walkD, itemsD, mrng, rng1, rng2, rng3, tgName, tgTup, tgCons, tgNil, masg, mpar2, stPar2, isiD, dTy, isiInt, isiBl, isiLst, isiTup, isiObj, or2, nm, mvarF, mchain, mop2, dAddX, dAddS, mrev, lstD, mrevA, mpar3, stPar3, List.findIdx?_cons, List.findIdx?_nil, e1, e2, e3]
theorem cr_3 (fu : Nat) (hF : Big fu) {K : Nat} {b : List D} (h : Bg K b) (hK : K < 900000) {g : Int} (hg : g.natAbs ≤ 10 ^ 30) (d : D) : ∃ r b', st__law_compared_right_3 fu [.l b, .v (.int g), .v d, .no, .no, .no, .no, .no, .no, .no] = .nx [.l b', .v (.int g), .v d, .v r, .no, .no, .no, .no, .no, .no] ∧ Rq r ∧ Bg (K + 2) b' := by
  obtain ⟨x, b1, e1, h1, h2, hb1⟩ := p5 fu h (by omega) 41
  obtain ⟨y, b2, e2, h3, h4, hb2⟩ := p5 fu hb1 (by omega) 20
  have hy : 1 + y ≠ 0 := by omega
  have e3 := ev_lowest fu (a := x - 20 + g) hy (hF.lt (Nat.le_trans (show (x - 20 + g).natAbs ≤ 10 ^ 31 by omega) (by decide +kernel))) (hF.lt (Nat.le_trans (show (1 + y).natAbs ≤ 100 by omega) (by decide +kernel))) (log2_small (bd30 (by omega)) (by omega))
  obtain ⟨l1, l2⟩ := low_le (a := x - 20 + g) hy
  refine ⟨.tup [.int (lowA (x - 20 + g) (1 + y)), .int (lowB (x - 20 + g) (1 + y))], b2, ?_, ⟨_, _, rfl, low_ratB hy, by omega, by omega⟩, hb2⟩
  simp [st__law_compared_right_3, mcall, fnD, ms, mseq, mbind, mret, mopt, mbad, mvar, res, strong, strongs, ress, mun, mbin, mbinR, mcb, mcons, mcond, mif, mandV, morV, mnotV, tob, truD, mfld, fldD, putO, mputf, stSet, stSetP, mfrz, mlst, mtup, mslice, mpart, intD, dSl, on1, on2, lenD, absD, TW.intOf, TW.listOf, TW.tupOf, dInt2, dCmp2, dNeg, dIx, dIsN, dNotN, D.isNon, dupFree, argsOf, argOf, Sl.some?, putBack, Opd.isS, Sl.own, Rv.sl, Rv.d, mwalk, walkD, itemsD, mrng, rng1, rng2, rng3, tgName, tgTup, tgCons, tgNil, masg, mpar2, stPar2, isiD, dTy, isiInt, isiBl, isiLst, isiTup, isiObj, or2, nm, mvarF, mchain, mop2, dAddX, dAddS, mrev, lstD, mrevA, mpar3, stPar3, List.findIdx?_cons, List.findIdx?_nil, e1, e2, e3]
theorem ratB_pos {u v : Int} (h : ratB [u, v] = true) : 0 < v := by
  have h' : (decide (0 < v) && decide (gcdL [u, v] = 1)) = true := h
  exact of_decide_eq_true (Bool.and_eq_true_iff.mp h').1
theorem bd_of {x : Int} {n k : Nat} (h : x.natAbs ≤ n) (hn : n < 2 ^ k) : bd k x := Nat.lt_of_le_of_lt h hn
theorem cr_4 (fu : Nat) (hF : Big fu) (b : List D) (g r : D) {u v : Int} (hr : ratB [u, v] = true) (hu : u.natAbs ≤ 10 ^ 31) (hv : v.natAbs ≤ 100) : ∃ q, st__law_compared_right_4 fu [.l b, .v g, .v (.tup [.int u, .int v]), .v r, .no, .no, .no, .no, .no, .no] = .nx [.l b, .v g, .v (.tup [.int u, .int v]), .v r, .v q, .no, .no, .no, .no, .no] ∧ Rq q := by
  have hp := ratB_pos hr
  have hy : v * 1000000000 ≠ 0 := by omega
  have c1 : cMul u 1000000000 = true := (bd_of (k := 150) hu (by decide +kernel)).cMul (bd_of (x := 1000000000) (k := 30) (n := 1000000000) (by decide) (by decide +kernel)) (by omega)
  have c2 : cMul v 1000000000 = true := (bd_of (k := 150) hv (by decide +kernel)).cMul (bd_of (x := 1000000000) (k := 30) (n := 1000000000) (by decide) (by decide +kernel)) (by omega)
  have k1 : u.natAbs.log2 + Nat.log2 1000000000 < 134217000 := of_decide_eq_true c1
  have k2 : v.natAbs.log2 + Nat.log2 1000000000 < 134217000 := of_decide_eq_true c2
  have ha : (u * 1000000000 + 1).natAbs ≤ 10 ^ 45 := by omega
  have hb : (v * 1000000000).natAbs ≤ 10 ^ 12 := by omega
  have e3 := ev_lowest fu (a := u * 1000000000 + 1) hy (hF.lt (Nat.le_trans ha (by decide +kernel))) (hF.lt (Nat.le_trans hb (by decide +kernel))) (log2_small (bd_of (k := 100) hb (by decide +kernel)) (by omega))
  obtain ⟨l1, l2⟩ := low_le (a := u * 1000000000 + 1) hy
  have hq := low_ratB (a := u * 1000000000 + 1) hy
  refine ⟨.tup [.int (lowA (u * 1000000000 + 1) (v * 1000000000)), .int (lowB (u * 1000000000 + 1) (v * 1000000000))], ?_, ⟨_, _, rfl, hq, by omega, by omega⟩⟩
  simp [st__law_compared_right_4, mcall, fnD, ms, mseq, mbind, mret, mopt, mbad, mvar, res, strong, strongs, ress, mun, mbin, mbinR, mcb, mcons, mcond, mif, mandV, morV, mnotV, tob, truD, mfld, fldD, putO, mputf, stSet, stSetP, mfrz, mlst, mtup, mslice, mpart, intD, dSl, on1, on2, lenD, absD, TW.intOf, TW.listOf, TW.tupOf, dInt2, dCmp2, dNeg, dIx, dIsN, dNotN, D.isNon, dupFree, argsOf, argOf, Sl.some?, putBack, Opd.isS, Sl.own, Rv.sl, Rv.d, mwalk, walkD, itemsD, mrng, rng1, rng2, rng3, tgName, tgTup, tgCons, tgNil, masg, mpar2, stPar2, isiD, dTy, isiInt, isiBl, isiLst, isiTup, isiObj, or2, nm, mvarF, mchain, mop2, dAddX, dAddS, mrev, lstD, mrevA, mpar3, stPar3, List.findIdx?_cons, List.findIdx?_nil, k1, k2, e3, atI, ixN]
theorem cr_lb (fu : Nat) (hF : Big fu) (b : List D) (g x y z : D) {d1 d2 : D} (h1 : Rq d1) (h2 : Rq d2) (a7 a8 a9 : Sl) (o7 : a7.own = false) (o8 : a8.own = false) (o9 : a9.own = false) : ∃ c7 c8 c9, lb__law_compared_right_1 fu [.l b, .v g, .v x, .v y, .v z, .v d1, .v d2, a7, a8, a9] = .nx [.l b, .v g, .v x, .v y, .v z, .v d1, .v d2, .v c7, .v c8, .v c9] := by
  obtain ⟨u1, v1, rfl, r1, n1, m1⟩ := h1
  obtain ⟨u2, v2, rfl, r2, n2, m2⟩ := h2
  have hf : ∀ z ∈ [u1, v1, u2, v2], z.natAbs < fu := fun z hz => hF.lt (Nat.le_trans (show z.natAbs ≤ 10 ^ 60 by simp at hz; omega) (by decide +kernel))
  have hbd : ∀ z ∈ [u1, v1, u2, v2], bd 1000 z := fun z hz => bd_of (show z.natAbs ≤ 10 ^ 60 by simp at hz; omega) (by decide +kernel)
  have e1 := ev_compared fu (d1 := .tup [.int u1, .int v1]) (d2 := .lst [.int u2, .int v2]) (.inr rfl) (.inl rfl) hf r1 r2 hbd
  have c1 := of_decide_eq_true ((hbd u1 (by simp)).cMul (hbd v2 (by simp)) (by omega))
  have c2 := of_decide_eq_true ((hbd u2 (by simp)).cMul (hbd v1 (by simp)) (by omega))
  refine ⟨.int (u1 * v2), .int (u2 * v1), .int (cmpI (u1 * v2) (u2 * v1)), ?_⟩
  generalize hX : u1 * v2 = X at *
  generalize hY : u2 * v1 = Y at *
  have e2 := ev_is_integer fu (d := .int (cmpI X Y)) rfl
  have e3 := dEq_int X Y
  have e4 := dNe_int (cmpI X Y) (cmpI X Y)
  rw [decide_eq_true rfl] at e4
  have hc : cmpI X Y = if X = Y then 0 else if Y < X then 1 else -1 := rfl
  cases a7 <;> first | (cases o7; done) | skip
  all_goals cases a8 <;> first | (cases o8; done) | skip
  all_goals cases a9 <;> first | (cases o9; done) | skip
  all_goals
    by_cases hxy : X = Y
    · rw [if_pos hxy] at hc
      rw [hc] at e1 e2 e4
      rw [decide_eq_true hxy] at e3
      simp [lb__law_compared_right_1, mcall, fnD, ms, mseq, mbind, mret, mopt, mbad, mvar, res, strong, strongs, ress, mun, mbin, mbinR, mcb, mcons, mcond, mif, mandV, morV, mnotV, tob, truD, mfld, fldD, putO, mputf, stSet, stSetP, mfrz, mlst, mtup, mslice, mpart, intD, dSl, on1, on2, lenD, absD, TW.intOf, TW.listOf, TW.tupOf, dInt2, dCmp2, dNeg, dIx, dIsN, dNotN, D.isNon, dupFree, argsOf, argOf, Sl.some?, putBack, Opd.isS, Sl.own, Rv.sl, Rv.d, mwalk, walkD, itemsD, mrng, rng1, rng2, rng3, tgName, tgTup, tgCons, tgNil, masg, mpar2, stPar2, isiD, dTy, isiInt, isiBl, isiLst, isiTup, isiObj, or2, nm, mvarF, mchain, mop2, dAddX, dAddS, mrev, lstD, mrevA, mpar3, stPar3, List.findIdx?_cons, List.findIdx?_nil, hX, hY, c1, c2, e1, e2, e3, e4, hc, isI, atI, ixN]
    · rw [if_neg hxy] at hc
      rw [decide_eq_false hxy] at e3
      by_cases hlt : Y < X
      · rw [if_pos hlt] at hc
        rw [hc] at e1 e2 e4
        simp [lb__law_compared_right_1, mcall, fnD, ms, mseq, mbind, mret, mopt, mbad, mvar, res, strong, strongs, ress, mun, mbin, mbinR, mcb, mcons, mcond, mif, mandV, morV, mnotV, tob, truD, mfld, fldD, putO, mputf, stSet, stSetP, mfrz, mlst, mtup, mslice, mpart, intD, dSl, on1, on2, lenD, absD, TW.intOf, TW.listOf, TW.tupOf, dInt2, dCmp2, dNeg, dIx, dIsN, dNotN, D.isNon, dupFree, argsOf, argOf, Sl.some?, putBack, Opd.isS, Sl.own, Rv.sl, Rv.d, mwalk, walkD, itemsD, mrng, rng1, rng2, rng3, tgName, tgTup, tgCons, tgNil, masg, mpar2, stPar2, isiD, dTy, isiInt, isiBl, isiLst, isiTup, isiObj, or2, nm, mvarF, mchain, mop2, dAddX, dAddS, mrev, lstD, mrevA, mpar3, stPar3, List.findIdx?_cons, List.findIdx?_nil, hX, hY, c1, c2, e1, e2, e3, e4, hc, hlt, isI, atI, ixN]
      · rw [if_neg hlt] at hc
        rw [hc] at e1 e2 e4
        simp [lb__law_compared_right_1, mcall, fnD, ms, mseq, mbind, mret, mopt, mbad, mvar, res, strong, strongs, ress, mun, mbin, mbinR, mcb, mcons, mcond, mif, mandV, morV, mnotV, tob, truD, mfld, fldD, putO, mputf, stSet, stSetP, mfrz, mlst, mtup, mslice, mpart, intD, dSl, on1, on2, lenD, absD, TW.intOf, TW.listOf, TW.tupOf, dInt2, dCmp2, dNeg, dIx, dIsN, dNotN, D.isNon, dupFree, argsOf, argOf, Sl.some?, putBack, Opd.isS, Sl.own, Rv.sl, Rv.d, mwalk, walkD, itemsD, mrng, rng1, rng2, rng3, tgName, tgTup, tgCons, tgNil, masg, mpar2, stPar2, isiD, dTy, isiInt, isiBl, isiLst, isiTup, isiObj, or2, nm, mvarF, mchain, mop2, dAddX, dAddS, mrev, lstD, mrevA, mpar3, stPar3, List.findIdx?_cons, List.findIdx?_nil, hX, hY, c1, c2, e1, e2, e3, e4, hc, hlt, isI, atI, ixN]
theorem compared_right (fu : Nat) (hF : Big fu) {K : Nat} {b : List D} (h : Bg K b) (hK : K < 700000) : ∃ b', d__law_compared_right fu [.l b] = .ret (.v (.bl true)) [.l b'] ∧ Bg (K + 30) b' := by
  obtain ⟨g, b1, s1, hg, hb1⟩ := cr_1 fu h (by omega)
  obtain ⟨u, v, b2, s2, hr, hu, hv, hb2⟩ := cr_2 fu hF hb1 (by omega) hg
  obtain ⟨r, b3, s3, hr3, hb3⟩ := cr_3 fu hF hb2 (by omega) hg (.tup [.int u, .int v])
  obtain ⟨q, s4, hq⟩ := cr_4 fu hF b3 (.int g) r hr hu hv
  have ho : Rq (.tup [.int u, .int v]) := ⟨u, v, rfl, hr, Nat.le_trans hu (by decide +kernel), Nat.le_trans hv (by decide +kernel)⟩
  generalize D.tup [.int u, .int v] = o at *
  generalize D.int g = g' at *
  have hi : li__law_compared_right_1 fu [.l b3, .v g', .v o, .v r, .v q, .no, .no, .no, .no, .no] = .ok [.tup [o, r], .tup [o, q], .tup [q, o], .tup [o, o]] [.l b3, .v g', .v o, .v r, .v q, .no, .no, .no, .no, .no] := by
    simp [li__law_compared_right_1, fnD, ms, mseq, mbind, mret, mopt, mbad, mvar, res, strong, strongs, ress, mun, mbin, mbinR, mcb, mcons, mcond, mif, mandV, morV, mnotV, tob, truD, mfld, fldD, putO, mputf, stSet, stSetP, mfrz, mlst, mtup, mslice, mpart, intD, dSl, on1, on2, lenD, absD, TW.intOf, TW.listOf, TW.tupOf, dInt2, dCmp2, dNeg, dIx, dIsN, dNotN, D.isNon, dupFree, argsOf, argOf, Sl.some?, putBack, Opd.isS, Sl.own, Rv.sl, Rv.d, mwalk, walkD, itemsD, mrng, rng1, rng2, rng3, tgName, tgTup, tgCons, tgNil, masg, mpar2, stPar2, isiD, dTy, isiInt, isiBl, isiLst, isiTup, isiObj, or2, nm, mvarF, mchain, mop2, dAddX, dAddS, mrev, lstD, mrevA, mpar3, stPar3, List.findIdx?_cons, List.findIdx?_nil]
  obtain ⟨c7, c8, c9, e1⟩ := cr_lb fu hF b3 g' o r q ho hr3 .no .no .no rfl rfl rfl
  obtain ⟨d7, d8, d9, e2⟩ := cr_lb fu hF b3 g' o r q ho hq (.v c7) (.v c8) (.v c9) rfl rfl rfl
  obtain ⟨f7, f8, f9, e3⟩ := cr_lb fu hF b3 g' o r q hq ho (.v d7) (.v d8) (.v d9) rfl rfl rfl
  obtain ⟨k7, k8, k9, e4⟩ := cr_lb fu hF b3 g' o r q ho ho (.v f7) (.v f8) (.v f9) rfl rfl rfl
  have el : l__law_compared_right_1 fu [.l b3, .v g', .v o, .v r, .v q, .no, .no, .no, .no, .no] = .nx [.l b3, .v g', .v o, .v r, .v q, .v o, .v o, .v k7, .v k8, .v k9] := by
    unfold l__law_compared_right_1 mfor
    rw [ms_k hi]
    simp [forD, tgTup, tgCons, tgName, tgNil, itemsD, e1, e2, e3, e4]
  refine ⟨b3, ?_, hb3.mono (by omega)⟩
  have e6 : ∀ s, st__law_compared_right_6 fu s = .rt (.v (.bl true)) s := fun s => rfl
  simp [d__law_compared_right, b__law_compared_right, fnD, mseq, s1, s2, s3, s4, el, e6]
end K01

set_option linter.all false
set_option autoImplicit false
set_option maxRecDepth 100000
set_option maxHeartbeats 4000000
namespace K01
open PySem TW L2
/-! ## twice -/
def agF : List Int → List Int → List Int
  | _, [] => []
  | pre, z :: r => if z ∈ pre then z :: agF (pre ++ [z]) r else agF (pre ++ [z]) r
theorem agF_mem : ∀ (q pre : List Int) (z : Int), z ∈ agF pre q → z ∈ q
  | [], _, z, h => by cases h
  | y :: r, pre, z, h => by
    unfold agF at h
    by_cases hy : y ∈ pre
    · rw [if_pos hy] at h
      rcases List.mem_cons.mp h with rfl | h
      · simp
      · exact List.mem_cons_of_mem _ (agF_mem r _ z h)
    · rw [if_neg hy] at h
      exact List.mem_cons_of_mem _ (agF_mem r _ z h)
theorem dup_map (κ : Int → Key) (P : Int → Prop) (inj : ∀ a b, P a → P b → κ a = κ b → a = b) : ∀ (q pre : List Int) (S : Key → Bool), (∀ z ∈ q, P z) → (∀ z, P z → (S (κ z) = true ↔ z ∈ pre)) → K01s.dupGo S (q.map κ) = (agF pre q).head?.map κ
  | [], pre, S, _, _ => rfl
  | z :: r, pre, S, hq, hS => by
    rw [List.map_cons, K01s.dupGo_cons]
    have hz := hq z (by simp)
    unfold agF
    by_cases h : z ∈ pre
    · rw [if_pos ((hS z hz).mpr h), if_pos h]; rfl
    · rw [if_neg (fun e => h ((hS z hz).mp e)), if_neg h]
      refine dup_map κ P inj r (pre ++ [z]) _ (fun y hy => hq y (List.mem_cons_of_mem _ hy)) fun y hy => ?_
      rw [Bool.or_eq_true, hS y hy, decide_eq_true_eq, List.mem_append, List.mem_singleton]
      constructor
      · rintro (h1 | h1)
        · exact .inl h1
        · exact .inr (inj y z hy hz h1)
      · rintro (h1 | rfl)
        · exact .inl h1
        · exact .inr rfl
theorem keys_I : ∀ q : List Int, K01s.keysOf (I q) = some (q.map .inl)
  | [] => rfl
  | z :: q => by
    show (match K01s.keyOf (.int z), K01s.keysOf (I q) with | some k, some ks => some (k :: ks) | _, _ => none) = _
    rw [keys_I q]; rfl
/-- what stands again first -/
def ag0 (q : List Int) : D := match (agF [] q).head? with
  | some z => .int z
  | none => .non
theorem ev_first_I (fu : Nat) {q : List Int} (hl : q.length ≤ 1000) : d_first_twice fu [.v (.lst (I q))] = .ret (.v (ag0 q)) [.v (.lst (I q))] := by
  have h := dup_map .inl (fun _ => True) (fun a b _ _ e => Sum.inl.inj e) q [] (fun _ => false) (fun _ _ => trivial) (fun z _ => by simp)
  show K01s.d_first_twice [.v (.lst (I q))] = _
  have e : (K01s.seqOf (.v (.lst (I q)))).bind K01s.keysOf = some (q.map .inl) := keys_I q
  unfold K01s.d_first_twice; dsimp only
  rw [e]; dsimp only
  rw [if_pos (by rw [List.length_map]; exact hl)]
  have er : K01s.ftRes (q.map .inl) = ag0 q := by
    unfold K01s.ftRes ag0
    rw [h]
    cases (agF [] q).head? <;> rfl
  rw [er]
/-- the texts -/
def tx (z : Int) : Str := st [100, (48 + z).toNat]
def T (q : List Int) : List D := q.map fun z => .str (tx z)
theorem keys_T : ∀ q : List Int, K01s.keysOf (T q) = some (q.map fun z => .inr (tx z))
  | [] => rfl
  | z :: q => by
    show (match K01s.keyOf (.str (tx z)), K01s.keysOf (T q) with | some k, some ks => some (k :: ks) | _, _ => none) = _
    rw [keys_T q]; rfl
def nine (z : Int) : Prop := 0 ≤ z ∧ z < 9
theorem tx_inj (a b : Int) (ha : nine a) (hb : nine b) (e : tx a = tx b) : a = b := by
  have h1 : (tx a).cps.toList = (tx b).cps.toList := by rw [e]
  unfold tx at h1
  rw [st_list, st_list] at h1
  injection h1 with _ h2
  injection h2 with h3 _
  obtain ⟨_, _⟩ := ha
  obtain ⟨_, _⟩ := hb
  omega
def ag1 (q : List Int) : D := match (agF [] q).head? with
  | some z => .str (tx z)
  | none => .non
theorem ev_first_T (fu : Nat) {q : List Int} (hl : q.length ≤ 1000) (hq : ∀ z ∈ q, nine z) : d_first_twice fu [.v (.tup (T q))] = .ret (.v (ag1 q)) [.v (.tup (T q))] := by
  have h := dup_map (fun z => .inr (tx z)) nine (fun a b ha hb e => tx_inj a b ha hb (Sum.inr.inj e)) q [] (fun _ => false) hq (fun z _ => by simp)
  show K01s.d_first_twice [.v (.tup (T q))] = _
  have e : (K01s.seqOf (.v (.tup (T q)))).bind K01s.keysOf = some (q.map fun z => .inr (tx z)) := keys_T q
  unfold K01s.d_first_twice; dsimp only
  rw [e]; dsimp only
  rw [if_pos (by rw [List.length_map]; exact hl)]
  have er : K01s.ftRes (q.map fun z => .inr (tx z)) = ag1 q := by
    unfold K01s.ftRes ag1
    rw [h]
    cases (agF [] q).head? <;> rfl
  rw [er]
theorem tx_is {z : Int} (h : nine z) : Str.ofString "d" ++ Str.ofString z.repr = tx z := by
  obtain ⟨h0, h9⟩ := h
  have : z = 0 ∨ z = 1 ∨ z = 2 ∨ z = 3 ∨ z = 4 ∨ z = 5 ∨ z = 6 ∨ z = 7 ∨ z = 8 := by omega
  rcases this with rfl | rfl | rfl | rfl | rfl | rfl | rfl | rfl | rfl <;> decide +kernel
theorem sh_tx {z : Int} (h : nine z) : SeqAt.shaped (.str (tx z)) = true := by
  obtain ⟨h0, h9⟩ := h
  have : z = 0 ∨ z = 1 ∨ z = 2 ∨ z = 3 ∨ z = 4 ∨ z = 5 ∨ z = 6 ∨ z = 7 ∨ z = 8 := by omega
  rcases this with rfl | rfl | rfl | rfl | rfl | rfl | rfl | rfl | rfl <;> decide +kernel
theorem dEq_tx {z : Int} (h : nine z) : dEq (.str (tx z)) (.str (tx z)) = some (.bl true) := by
  unfold dEq eqP toPy; dsimp only
  rw [sh_tx h]
  simp [PyData.eqv]
theorem sh_non : SeqAt.shaped .none = true := by decide +kernel
theorem dEq_non : dEq .non .non = some (.bl true) := by
  unfold dEq eqP toPy; dsimp only; rw [sh_non]; simp [PyData.eqv]
theorem dNe_non : dNe .non .non = some (.bl false) := by
  unfold dNe eqP toPy; dsimp only; rw [sh_non]; simp [PyData.eqv]
theorem dIn_I (z : Int) (p : List Int) : dOr dInS dInL (.int z) (.lst (I p)) = some (.bl (decide (z ∈ p))) := by
  have e1 : toPy (.lst (I p)) = some (.list (p.map PyData.int)) := by show (toPys (I p)).map PyData.list = _; rw [toPys_I]; rfl
  have e0 : toPy (.int z) = some (.int z) := rfl
  show (match dInS (.int z) (.lst (I p)) with | some d => some d | none => dInL (.int z) (.lst (I p))) = _
  have e2 : dInS (.int z) (.lst (I p)) = none := rfl
  rw [e2]; dsimp only
  unfold dInL
  rw [e0, e1]; dsimp only
  rw [if_pos ⟨sh_int z, sh_lst p⟩]
  congr 2
  rw [List.any_map]
  by_cases h : z ∈ p
  · rw [decide_eq_true h, List.any_eq_true]
    exact ⟨z, h, by simp [PyData.eqv]⟩
  · rw [decide_eq_false h, Bool.eq_false_iff]
    intro hx
    obtain ⟨y, hy, e⟩ := List.any_eq_true.mp hx
    simp [PyData.eqv] at e
    subst e; exact h hy
theorem dPlace_I {z : Int} {p : List Int} (h : z ∈ p) : ∃ j : Nat, j < p.length ∧ p[j]? = some z ∧ dPlace (.lst (I p)) (.int z) = some (.int (j : Nat)) := by
  have e1 : toPy (.lst (I p)) = some (.list (p.map PyData.int)) := by show (toPys (I p)).map PyData.list = _; rw [toPys_I]; rfl
  have e0 : toPy (.int z) = some (.int z) := rfl
  have hf : findP (p.map PyData.int) (.int z) = p.findIdx? fun y => y == z := by
    unfold findP
    rw [List.findIdx?_map]
    congr 1
  cases hi : p.findIdx? fun y => y == z with
  | none =>
    rw [List.findIdx?_eq_none_iff] at hi
    have := hi z h
    simp at this
  | some j =>
    obtain ⟨hj, hz, _⟩ := List.findIdx?_eq_some_iff_getElem.mp hi
    refine ⟨j, hj, ?_, ?_⟩
    · rw [List.getElem?_eq_getElem hj]; congr 1; simpa using hz
    · unfold dPlace
      rw [e0, e1]; dsimp only
      rw [if_pos ⟨sh_int z, sh_lst p⟩, hf, hi]; rfl
end K01

set_option linter.all false
set_option autoImplicit false
set_option maxRecDepth 100000
set_option maxHeartbeats 4000000
namespace K01
open PySem TW L2
theorem agF_snoc : ∀ (a pre : List Int) (z : Int), agF pre (a ++ [z]) = agF pre a ++ (if z ∈ pre ++ a then [z] else [])
  | [], pre, z => by
    show (if z ∈ pre then z :: agF (pre ++ [z]) [] else agF (pre ++ [z]) []) = _
    rw [List.append_nil]
    by_cases h : z ∈ pre <;> simp [h, agF]
  | y :: a, pre, z => by
    have ih := agF_snoc a (pre ++ [y]) z
    have e : pre ++ [y] ++ a = pre ++ y :: a := by simp
    rw [e] at ih
    show (if y ∈ pre then y :: agF (pre ++ [y]) (a ++ [z]) else agF (pre ++ [y]) (a ++ [z])) = (if y ∈ pre then y :: agF (pre ++ [y]) a else agF (pre ++ [y]) a) ++ _
    rw [ih]
    by_cases h : y ∈ pre <;> simp [h]
theorem tr_1 (fu : Nat) {K : Nat} {b : List D} (h : Bg K b) (hK : K < 900000) : ∃ q b', st__law_twice_right_1 fu [.l b, .no, .no, .no, .no, .no, .no] = .nx [.l b', .l (I q), .no, .no, .no, .no, .no] ∧ (∀ z ∈ q, nine z) ∧ q.length ≤ 10 ∧ Bg (K + 8) b' := by
  obtain ⟨n, b1, e1, h1, h2, hb⟩ := p5 fu h (by omega) 6
  have hm : ci__law_twice_right_1 fu [.l b, .no, .no, .no, .no, .no, .no] = .ok (rangeD 0 n.toNat) [.l b1, .no, .no, .no, .no, .no, .no] := by
    have er := okR_ok' h1 (by omega)
    simp [ci__law_twice_right_1, mcall, fnD, ms, mseq, mbind, mret, mopt, mbad, mvar, res, strong, strongs, ress, mun, mbin, mbinR, mcb, mcons, mcond, mif, mandV, morV, mnotV, tob, truD, mfld, fldD, putO, mputf, stSet, stSetP, mfrz, mlst, mtup, mslice, mpart, intD, dSl, on1, on2, lenD, absD, TW.intOf, TW.listOf, TW.tupOf, dInt2, dCmp2, dNeg, dIx, dIsN, dNotN, D.isNon, dupFree, argsOf, argOf, Sl.some?, putBack, Opd.isS, Sl.own, Rv.sl, Rv.d, mwalk, walkD, itemsD, mrng, rng1, rng2, rng3, tgName, tgTup, tgCons, tgNil, masg, mpar2, stPar2, isiD, dTy, isiInt, isiBl, isiLst, isiTup, isiObj, or2, nm, mvarF, mchain, mop2, dAddX, dAddS, mrev, lstD, mrevA, mpar3, stPar3, List.findIdx?_cons, List.findIdx?_nil, e1, er]
  obtain ⟨acc, s', e, ⟨q, b2, rfl, rfl, hq, hn, hb2⟩, _⟩ := comp_ok (vs := [2]) (tm := tgName 2) (tt := ct__law_twice_right_1 fu) (te := ce__law_twice_right_1 fu) (fun i acc s => ∃ q b', acc = I q ∧ s = [.l b', .no, .no, .no, .no, .no, .no] ∧ (∀ z ∈ q, nine z) ∧ q.length ≤ i ∧ Bg (K + 1 + i) b') (rangeD 0 n.toNat) 0 [] [.l b1, .no, .no, .no, .no, .no, .no] ⟨[], b1, rfl, rfl, by simp, by simp, hb⟩ (by simp [rangeD]; omega) fun j x acc s hj hP => by
    obtain ⟨q, b', rfl, rfl, hq, hn, hb'⟩ := hP
    obtain ⟨hjn, rfl⟩ := rangeD_get hj
    obtain ⟨y, b2, e2, hy1, hy2, hb2⟩ := p5 fu hb' (by omega) 9
    refine ⟨[.l b', .no, .v (.int (0 + (j : Nat))), .no, .no, .no, .no], true, _, rfl, rfl, .inr ⟨.int y, [.l b2, .no, .v (.int (0 + (j : Nat))), .no, .no, .no, .no], rfl, ?_, rfl, q ++ [y], b2, by simp [I], rfl, ?_, ?_, hb2.mono (by omega)⟩⟩
    · simp [ce__law_twice_right_1, mcall, fnD, ms, mseq, mbind, mret, mopt, mbad, mvar, res, strong, strongs, ress, mun, mbin, mbinR, mcb, mcons, mcond, mif, mandV, morV, mnotV, tob, truD, mfld, fldD, putO, mputf, stSet, stSetP, mfrz, mlst, mtup, mslice, mpart, intD, dSl, on1, on2, lenD, absD, TW.intOf, TW.listOf, TW.tupOf, dInt2, dCmp2, dNeg, dIx, dIsN, dNotN, D.isNon, dupFree, argsOf, argOf, Sl.some?, putBack, Opd.isS, Sl.own, Rv.sl, Rv.d, mwalk, walkD, itemsD, mrng, rng1, rng2, rng3, tgName, tgTup, tgCons, tgNil, masg, mpar2, stPar2, isiD, dTy, isiInt, isiBl, isiLst, isiTup, isiObj, or2, nm, mvarF, mchain, mop2, dAddX, dAddS, mrev, lstD, mrevA, mpar3, stPar3, List.findIdx?_cons, List.findIdx?_nil, e2]
    · intro z hz'
      rcases List.mem_append.mp hz' with h | h
      · exact hq z h
      · rw [List.mem_singleton.mp h]; exact ⟨hy1, hy2⟩
    · rw [List.length_append]; simp; omega
  rw [rangeD_len] at hn hb2
  refine ⟨q, b2, ?_, hq, by omega, hb2.mono (by omega)⟩
  have ec : c__law_twice_right_1 fu [.l b, .no, .no, .no, .no, .no, .no] = .ok (.l (I q)) [.l b2, .no, .no, .no, .no, .no, .no] := by
    unfold c__law_twice_right_1 mlc; rw [mb_k hm]
    rw [if_pos (by rfl)]
    have e' : compD [2] (tgName 2) (ct__law_twice_right_1 fu) (ce__law_twice_right_1 fu) (rangeD 0 n.toNat) [] (wipeS [.l b1, .no, .no, .no, .no, .no, .no] [2]) = .ok (I q) [.l b2, .no, .no, .no, .no, .no, .no] := e
    rw [e']; rfl
  generalize I q = w at *
  simp [st__law_twice_right_1, fnD, ms, mseq, mbind, mret, mopt, mbad, mvar, res, strong, strongs, ress, mun, mbin, mbinR, mcb, mcons, mcond, mif, mandV, morV, mnotV, tob, truD, mfld, fldD, putO, mputf, stSet, stSetP, mfrz, mlst, mtup, mslice, mpart, intD, dSl, on1, on2, lenD, absD, TW.intOf, TW.listOf, TW.tupOf, dInt2, dCmp2, dNeg, dIx, dIsN, dNotN, D.isNon, dupFree, argsOf, argOf, Sl.some?, putBack, Opd.isS, Sl.own, Rv.sl, Rv.d, mwalk, walkD, itemsD, mrng, rng1, rng2, rng3, tgName, tgTup, tgCons, tgNil, masg, mpar2, stPar2, isiD, dTy, isiInt, isiBl, isiLst, isiTup, isiObj, or2, nm, mvarF, mchain, mop2, dAddX, dAddS, mrev, lstD, mrevA, mpar3, stPar3, List.findIdx?_cons, List.findIdx?_nil, ec]
theorem cut_pre (q : List Int) (j : Nat) : cutD q none (some (j : Int)) = q.take j := by
  unfold cutD
  rw [HT.sIx_nat, HT.sIx_none]
  simp [List.take_eq_take_min]
theorem tr_2 (fu : Nat) (b : List D) {q : List Int} (hq : q.length ≤ 10) : st__law_twice_right_2 fu [.l b, .l (I q), .no, .no, .no, .no, .no] = .nx [.l b, .v (.lst (I q)), .no, .l (I (agF [] q)), .no, .no, .no] := by
  have hm : ci__law_twice_right_2 fu [.l b, .l (I q), .no, .no, .no, .no, .no] = .ok (enumD (I q)) [.l b, .v (.lst (I q)), .no, .no, .no, .no, .no] := by
    generalize I q = w at *
    simp [ci__law_twice_right_2, menum, fnD, ms, mseq, mbind, mret, mopt, mbad, mvar, res, strong, strongs, ress, mun, mbin, mbinR, mcb, mcons, mcond, mif, mandV, morV, mnotV, tob, truD, mfld, fldD, putO, mputf, stSet, stSetP, mfrz, mlst, mtup, mslice, mpart, intD, dSl, on1, on2, lenD, absD, TW.intOf, TW.listOf, TW.tupOf, dInt2, dCmp2, dNeg, dIx, dIsN, dNotN, D.isNon, dupFree, argsOf, argOf, Sl.some?, putBack, Opd.isS, Sl.own, Rv.sl, Rv.d, mwalk, walkD, itemsD, mrng, rng1, rng2, rng3, tgName, tgTup, tgCons, tgNil, masg, mpar2, stPar2, isiD, dTy, isiInt, isiBl, isiLst, isiTup, isiObj, or2, nm, mvarF, mchain, mop2, dAddX, dAddS, mrev, lstD, mrevA, mpar3, stPar3, List.findIdx?_cons, List.findIdx?_nil]
  have hel : (enumD (I q)).length = q.length := by unfold enumD; rw [List.length_mapIdx, I_len]
  obtain ⟨acc, s', e, ⟨hs, ha⟩, _⟩ := comp_ok (vs := [5, 4]) (tm := tgTup 2 (tgCons (tgName 5) (tgCons (tgName 4) tgNil))) (tt := ct__law_twice_right_2 fu) (te := ce__law_twice_right_2 fu) (fun i acc s => s = [.l b, .v (.lst (I q)), .no, .no, .no, .no, .no] ∧ acc = I (agF [] (q.take i))) (enumD (I q)) 0 [] [.l b, .v (.lst (I q)), .no, .no, .no, .no, .no] ⟨rfl, rfl⟩ (by rw [hel]; simp; omega) fun j x acc s hj hP => by
    obtain ⟨rfl, rfl⟩ := hP
    obtain ⟨y, hy, rfl⟩ := enumD_get hj
    obtain ⟨z, hz, rfl⟩ := I_at hy
    have hc : cutD (I q) none (some (j : Int)) = I (q.take j) := by rw [cutD_I, cut_pre]
    have hin := dIn_I z (q.take j)
    have et : q.take (j + 1) = q.take j ++ [z] := by rw [List.take_succ, hz]; rfl
    refine ⟨[.l b, .v (.lst (I q)), .no, .no, .v (.int z), .v (.int (j : Nat)), .no], decide (z ∈ q.take j), [.l b, .v (.lst (I q)), .no, .no, .v (.int z), .v (.int (j : Nat)), .no], rfl, ?_, ?_⟩
    · generalize I (q.take j) = w1 at *
      generalize I q = w at *
      generalize decide (z ∈ q.take j) = w2 at *
      simp [ct__law_twice_right_2, fnD, ms, mseq, mbind, mret, mopt, mbad, mvar, res, strong, strongs, ress, mun, mbin, mbinR, mcb, mcons, mcond, mif, mandV, morV, mnotV, tob, truD, mfld, fldD, putO, mputf, stSet, stSetP, mfrz, mlst, mtup, mslice, mpart, intD, dSl, on1, on2, lenD, absD, TW.intOf, TW.listOf, TW.tupOf, dInt2, dCmp2, dNeg, dIx, dIsN, dNotN, D.isNon, dupFree, argsOf, argOf, Sl.some?, putBack, Opd.isS, Sl.own, Rv.sl, Rv.d, mwalk, walkD, itemsD, mrng, rng1, rng2, rng3, tgName, tgTup, tgCons, tgNil, masg, mpar2, stPar2, isiD, dTy, isiInt, isiBl, isiLst, isiTup, isiObj, or2, nm, mvarF, mchain, mop2, dAddX, dAddS, mrev, lstD, mrevA, mpar3, stPar3, List.findIdx?_cons, List.findIdx?_nil, hc, hin]
    · rw [Nat.zero_add, et, agF_snoc, List.nil_append]
      by_cases hz : z ∈ q.take j
      · rw [if_pos hz, decide_eq_true hz]
        exact .inr ⟨.int z, [.l b, .v (.lst (I q)), .no, .no, .v (.int z), .v (.int (j : Nat)), .no], rfl, rfl, rfl, rfl, by simp [I]⟩
      · rw [if_neg hz, decide_eq_false hz]
        exact .inl ⟨rfl, rfl, rfl, by simp⟩
  subst hs; subst ha
  have ec : c__law_twice_right_2 fu [.l b, .l (I q), .no, .no, .no, .no, .no] = .ok (.l (I (agF [] q))) [.l b, .v (.lst (I q)), .no, .no, .no, .no, .no] := by
    unfold c__law_twice_right_2 mlc; rw [mb_k hm]
    rw [if_pos (by rfl)]
    have e' : compD [5, 4] (tgTup 2 (tgCons (tgName 5) (tgCons (tgName 4) tgNil))) (ct__law_twice_right_2 fu) (ce__law_twice_right_2 fu) (enumD (I q)) [] (wipeS [.l b, .v (.lst (I q)), .no, .no, .no, .no, .no] [5, 4]) = .ok (I (agF [] (q.take (0 + (enumD (I q)).length)))) [.l b, .v (.lst (I q)), .no, .no, .no, .no, .no] := e
    rw [e', Nat.zero_add, hel, List.take_length]; rfl
  generalize I q = w at *
  generalize I (agF [] q) = w1 at *
  simp [st__law_twice_right_2, fnD, ms, mseq, mbind, mret, mopt, mbad, mvar, res, strong, strongs, ress, mun, mbin, mbinR, mcb, mcons, mcond, mif, mandV, morV, mnotV, tob, truD, mfld, fldD, putO, mputf, stSet, stSetP, mfrz, mlst, mtup, mslice, mpart, intD, dSl, on1, on2, lenD, absD, TW.intOf, TW.listOf, TW.tupOf, dInt2, dCmp2, dNeg, dIx, dIsN, dNotN, D.isNon, dupFree, argsOf, argOf, Sl.some?, putBack, Opd.isS, Sl.own, Rv.sl, Rv.d, mwalk, walkD, itemsD, mrng, rng1, rng2, rng3, tgName, tgTup, tgCons, tgNil, masg, mpar2, stPar2, isiD, dTy, isiInt, isiBl, isiLst, isiTup, isiObj, or2, nm, mvarF, mchain, mop2, dAddX, dAddS, mrev, lstD, mrevA, mpar3, stPar3, List.findIdx?_cons, List.findIdx?_nil, ec]
theorem tr_3 (fu : Nat) (b : List D) {q : List Int} (hq : q.length ≤ 10) : st__law_twice_right_3 fu [.l b, .v (.lst (I q)), .no, .l (I (agF [] q)), .no, .no, .no] = .nx [.l b, .v (.lst (I q)), .no, .v (.lst (I (agF [] q))), .no, .no, .no] := by
  have e1 := ev_first_I fu (q := q) (by omega)
  have e2 := dNe_lst (agF [] q)
  unfold ag0 at e1
  cases ha : agF [] q with
  | nil =>
    rw [ha] at e1 e2
    have e3 := dNe_non
    simp only [List.head?_nil, I, List.map_nil, List.isEmpty_nil] at e1 e2 ⊢
    generalize q.map D.int = w at *
    simp [st__law_twice_right_3, mcall, fnD, ms, mseq, mbind, mret, mopt, mbad, mvar, res, strong, strongs, ress, mun, mbin, mbinR, mcb, mcons, mcond, mif, mandV, morV, mnotV, tob, truD, mfld, fldD, putO, mputf, stSet, stSetP, mfrz, mlst, mtup, mslice, mpart, intD, dSl, on1, on2, lenD, absD, TW.intOf, TW.listOf, TW.tupOf, dInt2, dCmp2, dNeg, dIx, dIsN, dNotN, D.isNon, dupFree, argsOf, argOf, Sl.some?, putBack, Opd.isS, Sl.own, Rv.sl, Rv.d, mwalk, walkD, itemsD, mrng, rng1, rng2, rng3, tgName, tgTup, tgCons, tgNil, masg, mpar2, stPar2, isiD, dTy, isiInt, isiBl, isiLst, isiTup, isiObj, or2, nm, mvarF, mchain, mop2, dAddX, dAddS, mrev, lstD, mrevA, mpar3, stPar3, List.findIdx?_cons, List.findIdx?_nil, e1, e2, e3]
  | cons z r =>
    rw [ha] at e1 e2
    have e3 := dNe_int z z
    rw [decide_eq_true rfl] at e3
    have x0 : atI (I (z :: r)) 0 = some (.int z) := by rw [atI_I]; rw [show (0 : Int) = ((0 : Nat) : Int) from rfl, atI_nat' (by simp)]; rfl
    simp only [List.head?_cons, List.isEmpty_cons] at e1 e2
    generalize I (z :: r) = w1 at *
    generalize I q = w at *
    simp [st__law_twice_right_3, mcall, fnD, ms, mseq, mbind, mret, mopt, mbad, mvar, res, strong, strongs, ress, mun, mbin, mbinR, mcb, mcons, mcond, mif, mandV, morV, mnotV, tob, truD, mfld, fldD, putO, mputf, stSet, stSetP, mfrz, mlst, mtup, mslice, mpart, intD, dSl, on1, on2, lenD, absD, TW.intOf, TW.listOf, TW.tupOf, dInt2, dCmp2, dNeg, dIx, dIsN, dNotN, D.isNon, dupFree, argsOf, argOf, Sl.some?, putBack, Opd.isS, Sl.own, Rv.sl, Rv.d, mwalk, walkD, itemsD, mrng, rng1, rng2, rng3, tgName, tgTup, tgCons, tgNil, masg, mpar2, stPar2, isiD, dTy, isiInt, isiBl, isiLst, isiTup, isiObj, or2, nm, mvarF, mchain, mop2, dAddX, dAddS, mrev, lstD, mrevA, mpar3, stPar3, List.findIdx?_cons, List.findIdx?_nil, e1, e2, e3, x0]
end K01

set_option linter.all false
set_option autoImplicit false
set_option maxRecDepth 100000
set_option maxHeartbeats 4000000
namespace K01
open PySem TW L2
theorem ev_c_tw3 (fu : Nat) (b : List D) (a : D) {q : List Int} (hq : q.length ≤ 10) (h9 : ∀ z ∈ q, nine z) : c__law_twice_right_3 fu [.l b, .v (.lst (I q)), .no, .v a, .no, .no, .no] = .ok (.l (T q)) [.l b, .v (.lst (I q)), .no, .v a, .no, .no, .no] := by
  have hm : ci__law_twice_right_3 fu [.l b, .v (.lst (I q)), .no, .v a, .no, .no, .no] = .ok (I q) [.l b, .v (.lst (I q)), .no, .v a, .no, .no, .no] := rfl
  obtain ⟨acc, s', e, ⟨hs, ha⟩, _⟩ := comp_ok (vs := [4]) (tm := tgName 4) (tt := ct__law_twice_right_3 fu) (te := ce__law_twice_right_3 fu) (fun i acc s => s = [.l b, .v (.lst (I q)), .no, .v a, .no, .no, .no] ∧ acc = T (q.take i)) (I q) 0 [] [.l b, .v (.lst (I q)), .no, .v a, .no, .no, .no] ⟨rfl, rfl⟩ (by rw [I_len]; simp; omega) fun j x acc s hj hP => by
    obtain ⟨rfl, rfl⟩ := hP
    obtain ⟨z, hz, rfl⟩ := I_at hj
    have hz9 := h9 z (List.mem_of_getElem? hz)
    refine ⟨[.l b, .v (.lst (I q)), .no, .v a, .v (.int z), .no, .no], true, _, rfl, rfl, .inr ⟨.str (tx z), [.l b, .v (.lst (I q)), .no, .v a, .v (.int z), .no, .no], rfl, ?_, rfl, rfl, ?_⟩⟩
    · have hl : z.natAbs.log2 < 1920 := by
        have := (bd30 (x := z) (by obtain ⟨_, _⟩ := hz9; omega)).log
        omega
      have e1 : strOf (.int z) = some (.v (.str (Str.ofString z.repr))) := by
        unfold strOf; dsimp only; rw [if_pos hl]; rfl
      have e2 : dAddX (.str (Str.ofString "d")) (.str (Str.ofString z.repr)) = some (.str (tx z)) := by
        unfold dAddX dAddS; dsimp only
        have hn : (Str.ofString "d").length + (Str.ofString z.repr).length ≤ 100000 := by
          have h1 : (tx z).length = (Str.ofString "d").length + (Str.ofString z.repr).length := by
            rw [← tx_is hz9]; exact Array.size_append
          rw [← h1]
          unfold tx; rw [st_len]; simp
        rw [if_pos hn, tx_is hz9]
      generalize tx z = w at *
      generalize Str.ofString z.repr = w1 at *
      simp [ce__law_twice_right_3, fnD, ms, mseq, mbind, mret, mopt, mbad, mvar, res, strong, strongs, ress, mun, mbin, mbinR, mcb, mcons, mcond, mif, mandV, morV, mnotV, tob, truD, mfld, fldD, putO, mputf, stSet, stSetP, mfrz, mlst, mtup, mslice, mpart, intD, dSl, on1, on2, absD, TW.intOf, TW.listOf, TW.tupOf, dInt2, dCmp2, dNeg, dIsN, dNotN, D.isNon, dupFree, argsOf, argOf, Sl.some?, putBack, Opd.isS, Sl.own, Rv.sl, Rv.d, mwalk, walkD, itemsD, mrng, rng1, rng2, rng3, tgName, tgTup, tgCons, tgNil, masg, mpar2, stPar2, isiD, dTy, isiInt, isiBl, isiLst, isiTup, isiObj, or2, nm, mvarF, mchain, mop2, mrev, lstD, mrevA, mpar3, stPar3, List.findIdx?_cons, List.findIdx?_nil, e1, e2]
    · rw [Nat.zero_add, List.take_succ, hz]; simp [T]
  subst hs; subst ha
  unfold c__law_twice_right_3 mlc; rw [mb_k hm]
  rw [if_pos (by rfl)]
  have e' : compD [4] (tgName 4) (ct__law_twice_right_3 fu) (ce__law_twice_right_3 fu) (I q) [] (wipeS [.l b, .v (.lst (I q)), .no, .v a, .no, .no, .no] [4]) = .ok (T (q.take (0 + (I q).length))) [.l b, .v (.lst (I q)), .no, .v a, .no, .no, .no] := e
  rw [e', Nat.zero_add, I_len, List.take_length]; rfl
theorem tr_5 (fu : Nat) (b : List D) {q : List Int} (hq : q.length ≤ 10) (h9 : ∀ z ∈ q, nine z) : st__law_twice_right_5 fu [.l b, .v (.lst (I q)), .no, .v (.lst (I (agF [] q))), .no, .no, .l (T q)] = .rt (.v (.bl true)) [.l b, .v (.lst (I q)), .no, .v (.lst (I (agF [] q))), .no, .no, .v (.lst (T q))] := by
  have e1 := ev_first_T fu (q := q) (by omega) h9
  have e2 := dNe_lst (agF [] q)
  unfold ag1 at e1
  cases ha : agF [] q with
  | nil =>
    rw [ha] at e1 e2
    have e3 := dEq_non
    simp only [List.head?_nil, I, List.map_nil, List.isEmpty_nil] at e1 e2 ⊢
    generalize q.map D.int = w at *
    generalize T q = w1 at *
    simp [st__law_twice_right_5, mcall, fnD, ms, mseq, mbind, mret, mopt, mbad, mvar, res, strong, strongs, ress, mun, mbin, mbinR, mcb, mcons, mcond, mif, mandV, morV, mnotV, tob, truD, mfld, fldD, putO, mputf, stSet, stSetP, mfrz, mlst, mtup, mslice, mpart, intD, dSl, on1, on2, lenD, absD, TW.intOf, TW.listOf, TW.tupOf, dInt2, dCmp2, dNeg, dIx, dIsN, dNotN, D.isNon, dupFree, argsOf, argOf, Sl.some?, putBack, Opd.isS, Sl.own, Rv.sl, Rv.d, mwalk, walkD, itemsD, mrng, rng1, rng2, rng3, tgName, tgTup, tgCons, tgNil, masg, mpar2, stPar2, isiD, dTy, isiInt, isiBl, isiLst, isiTup, isiObj, or2, nm, mvarF, mchain, mop2, dAddX, dAddS, mrev, lstD, mrevA, mpar3, stPar3, List.findIdx?_cons, List.findIdx?_nil, e1, e2, e3]
  | cons z r =>
    rw [ha] at e1 e2
    have hz : z ∈ q := agF_mem q [] z (by rw [ha]; simp)
    obtain ⟨j, hj, hjz, ep⟩ := dPlace_I hz
    have e3 := dEq_tx (h9 z hz)
    have x0 : atI (I (z :: r)) 0 = some (.int z) := by rw [atI_I]; rw [show (0 : Int) = ((0 : Nat) : Int) from rfl, atI_nat' (by simp)]; rfl
    have xj : atI (T q) (j : Int) = some (.str (tx z)) := by
      have hj' : j < (T q).length := by unfold T; rw [List.length_map]; exact hj
      rw [atI_nat' hj']
      have h2 : (T q)[j]? = some (.str (tx z)) := by unfold T; rw [List.getElem?_map, hjz]; rfl
      rw [List.getElem?_eq_getElem hj'] at h2
      exact h2
    simp only [List.head?_cons, List.isEmpty_cons] at e1 e2
    generalize I (z :: r) = w1 at *
    generalize I q = w at *
    generalize T q = w2 at *
    generalize tx z = w3 at *
    simp [st__law_twice_right_5, mcall, fnD, ms, mseq, mbind, mret, mopt, mbad, mvar, res, strong, strongs, ress, mun, mbin, mbinR, mcb, mcons, mcond, mif, mandV, morV, mnotV, tob, truD, mfld, fldD, putO, mputf, stSet, stSetP, mfrz, mlst, mtup, mslice, mpart, intD, dSl, on1, on2, lenD, absD, TW.intOf, TW.listOf, TW.tupOf, dInt2, dCmp2, dNeg, dIx, dIsN, dNotN, D.isNon, dupFree, argsOf, argOf, Sl.some?, putBack, Opd.isS, Sl.own, Rv.sl, Rv.d, mwalk, walkD, itemsD, mrng, rng1, rng2, rng3, tgName, tgTup, tgCons, tgNil, masg, mpar2, stPar2, isiD, dTy, isiInt, isiBl, isiLst, isiTup, isiObj, or2, nm, mvarF, mchain, mop2, dAddX, dAddS, mrev, lstD, mrevA, mpar3, stPar3, List.findIdx?_cons, List.findIdx?_nil, mplace, mop2, e1, e2, e3, x0, ep, xj]
theorem twice_right (fu : Nat) {K : Nat} {b : List D} (h : Bg K b) (hK : K < 700000) : ∃ b', d__law_twice_right fu [.l b] = .ret (.v (.bl true)) [.l b'] ∧ Bg (K + 30) b' := by
  obtain ⟨q, b1, s1, h9, hq, hb1⟩ := tr_1 fu h (by omega)
  have s2 := tr_2 fu b1 hq
  have s3 := tr_3 fu b1 hq
  have s4 := ev_c_tw3 fu b1 (.lst (I (agF [] q))) hq h9
  have s5 := tr_5 fu b1 hq h9
  refine ⟨b1, ?_, hb1.mono (by omega)⟩
  generalize I q = w at *
  generalize I (agF [] q) = w1 at *
  generalize T q = w2 at *
  have t4 : st__law_twice_right_4 fu [.l b1, .v (.lst w), .no, .v (.lst w1), .no, .no, .no] = .nx [.l b1, .v (.lst w), .no, .v (.lst w1), .no, .no, .l w2] := by
    simp [st__law_twice_right_4, fnD, ms, mseq, mbind, mret, mopt, mbad, mvar, res, strong, strongs, ress, mun, mbin, mbinR, mcb, mcons, mcond, mif, mandV, morV, mnotV, tob, truD, mfld, fldD, putO, mputf, stSet, stSetP, mfrz, mlst, mtup, mslice, mpart, intD, dSl, on1, on2, lenD, absD, TW.intOf, TW.listOf, TW.tupOf, dInt2, dCmp2, dNeg, dIx, dIsN, dNotN, D.isNon, dupFree, argsOf, argOf, Sl.some?, putBack, Opd.isS, Sl.own, Rv.sl, Rv.d, mwalk, walkD, itemsD, mrng, rng1, rng2, rng3, tgName, tgTup, tgCons, tgNil, masg, mpar2, stPar2, isiD, dTy, isiInt, isiBl, isiLst, isiTup, isiObj, or2, nm, mvarF, mchain, mop2, dAddX, dAddS, mrev, lstD, mrevA, mpar3, stPar3, List.findIdx?_cons, List.findIdx?_nil, s4]
  simp [d__law_twice_right, b__law_twice_right, fnD, mseq, s1, s2, s3, t4, s5]
end K01

set_option linter.all false
set_option autoImplicit false
set_option maxRecDepth 100000
set_option maxHeartbeats 4000000
namespace K01
open PySem TW L2 TX
/-! ## the law -/
theorem lw_lb (fu : Nat) (hF : Big fu) {K : Nat} {b : List D} (h : Bg K b) (hK : K < 100000) (a t : D) : ∃ b', lb_law_1 fu [.v a, .l b, .v t, .no, .no, .no, .no, .no] = .nx [.v a, .l b', .v t, .no, .no, .no, .no, .no] ∧ Bg (K + 210) b' := by
  obtain ⟨b1, e1, h1⟩ := integers_right fu h (by omega)
  obtain ⟨b2, e2, h2⟩ := names_right fu h1 (by omega)
  obtain ⟨b3, e3, h3⟩ := ratios_right fu hF h2 (by omega)
  obtain ⟨b4, e4, h4⟩ := twice_right fu h3 (by omega)
  obtain ⟨b5, e5, h5⟩ := divisors_right fu hF h4 (by omega)
  obtain ⟨b6, e6, h6⟩ := lots_right fu h5 (by omega)
  obtain ⟨b7, e7, h7⟩ := compared_right fu hF h6 (by omega)
  refine ⟨b7, ?_, h7⟩
  simp [lb_law_1, mcall, fnD, ms, mseq, mbind, mret, mopt, mbad, mvar, res, strong, strongs, ress, mun, mbin, mbinR, mcb, mcons, mcond, mif, mandV, morV, mnotV, tob, truD, mfld, fldD, putO, mputf, stSet, stSetP, mfrz, mlst, mtup, mslice, mpart, intD, dSl, on1, on2, lenD, absD, TW.intOf, TW.listOf, TW.tupOf, dInt2, dCmp2, dNeg, dIx, dIsN, dNotN, D.isNon, dupFree, argsOf, argOf, Sl.some?, putBack, Opd.isS, Sl.own, Rv.sl, Rv.d, mwalk, walkD, itemsD, mrng, rng1, rng2, rng3, tgName, tgTup, tgCons, tgNil, masg, mpar2, stPar2, isiD, dTy, isiInt, isiBl, isiLst, isiTup, isiObj, or2, nm, mvarF, mchain, mop2, dAddX, dAddS, mrev, lstD, mrevA, mpar3, stPar3, List.findIdx?_cons, List.findIdx?_nil, e1, e2, e3, e4, e5, e6, e7]
theorem lw_1 (fu : Nat) {ns : List Int} (hl : ns.length ≤ 63) (hb : ∀ z ∈ ns, Builtin.Int.intBits z ≤ 1048576) : ∃ b, st_law_1 fu [.v (.arg (I ns)), .no, .no, .no, .no, .no, .no, .no] = .nx [.v (.arg (I ns)), .l b, .no, .no, .no, .no, .no, .no] ∧ Bg 0 b := by
  obtain ⟨b, e, h⟩ := bag_ok fu hl hb
  refine ⟨b, ?_, h⟩
  generalize I ns = w at *
  simp [st_law_1, mguard, guardN, mcall, fnD, ms, mseq, mbind, mret, mopt, mbad, mvar, res, strong, strongs, ress, mun, mbin, mbinR, mcb, mcons, mcond, mif, mandV, morV, mnotV, tob, truD, mfld, fldD, putO, mputf, stSet, stSetP, mfrz, mlst, mtup, mslice, mpart, intD, dSl, on1, on2, lenD, absD, TW.intOf, TW.listOf, TW.tupOf, dInt2, dCmp2, dNeg, dIx, dIsN, dNotN, D.isNon, dupFree, argsOf, argOf, Sl.some?, putBack, Opd.isS, Sl.own, Rv.sl, Rv.d, mwalk, walkD, itemsD, mrng, rng1, rng2, rng3, tgName, tgTup, tgCons, tgNil, masg, mpar2, stPar2, isiD, dTy, isiInt, isiBl, isiLst, isiTup, isiObj, or2, nm, mvarF, mchain, mop2, dAddX, dAddS, mrev, lstD, mrevA, mpar3, stPar3, List.findIdx?_cons, List.findIdx?_nil, e]
theorem lw_2 (fu : Nat) (hF : Big fu) {K : Nat} {b : List D} (h : Bg K b) (hK : K < 1000) (a : D) : ∃ b' t, st_law_2 fu [.v a, .l b, .no, .no, .no, .no, .no, .no] = .nx [.v a, .l b', .v t, .no, .no, .no, .no, .no] ∧ Bg (K + 630) b' := by
  obtain ⟨b1, e1, h1⟩ := lw_lb fu hF h (by omega) a (.int 0)
  obtain ⟨b2, e2, h2⟩ := lw_lb fu hF h1 (by omega) a (.int 1)
  obtain ⟨b3, e3, h3⟩ := lw_lb fu hF h2 (by omega) a (.int 2)
  refine ⟨b3, .int 2, ?_, h3⟩
  have ok : okR 3 = true := by decide
  have hi : li_law_1 fu [.v a, .l b, .no, .no, .no, .no, .no, .no] = .ok [.int 0, .int 1, .int 2] [.v a, .l b, .no, .no, .no, .no, .no, .no] := by
    have hr : rangeD 0 3 = [.int 0, .int 1, .int 2] := rfl
    simp [li_law_1, fnD, ms, mseq, mbind, mret, mopt, mbad, mvar, res, strong, strongs, ress, mun, mbin, mbinR, mcb, mcons, mcond, mif, mandV, morV, mnotV, tob, truD, mfld, fldD, putO, mputf, stSet, stSetP, mfrz, mlst, mtup, mslice, mpart, intD, dSl, on1, on2, lenD, absD, TW.intOf, TW.listOf, TW.tupOf, dInt2, dCmp2, dNeg, dIx, dIsN, dNotN, D.isNon, dupFree, argsOf, argOf, Sl.some?, putBack, Opd.isS, Sl.own, Rv.sl, Rv.d, mwalk, walkD, itemsD, mrng, rng1, rng2, rng3, tgName, tgTup, tgCons, tgNil, masg, mpar2, stPar2, isiD, dTy, isiInt, isiBl, isiLst, isiTup, isiObj, or2, nm, mvarF, mchain, mop2, dAddX, dAddS, mrev, lstD, mrevA, mpar3, stPar3, List.findIdx?_cons, List.findIdx?_nil, ok, hr]
  have el : l_law_1 fu [.v a, .l b, .no, .no, .no, .no, .no, .no] = .nx [.v a, .l b3, .v (.int 2), .no, .no, .no, .no, .no] := by
    unfold l_law_1 mfor
    rw [ms_k hi]
    simp [forD, tgName, e1, e2, e3]
  simp [st_law_2, mguard, guardN, Sl.own, el]
theorem lw_3 (fu : Nat) {K : Nat} {b : List D} (h : Bg K b) (hK : K < 1000) (a t : D) : ∃ b' o l, st_law_3 fu [.v a, .l b, .v t, .no, .no, .no, .no, .no] = .nx [.v a, .l b', .v t, .v o, .v l, .no, .no, .no] ∧ OddV o ∧ OddV l ∧ Bg (K + 8) b' := by
  obtain ⟨o, b1, e1, ho, h1⟩ := value_ok fu h (by omega)
  obtain ⟨l, b2, e2, hl, h2⟩ := value_ok fu h1 (by omega)
  refine ⟨b2, o, l, ?_, ho, hl, h2⟩
  simp [st_law_3, mguard, guardN, mcall, fnD, ms, mseq, mbind, mret, mopt, mbad, mvar, res, strong, strongs, ress, mun, mbin, mbinR, mcb, mcons, mcond, mif, mandV, morV, mnotV, tob, truD, mfld, fldD, putO, mputf, stSet, stSetP, mfrz, mlst, mtup, mslice, mpart, intD, dSl, on1, on2, lenD, absD, TW.intOf, TW.listOf, TW.tupOf, dInt2, dCmp2, dNeg, dIx, dIsN, dNotN, D.isNon, dupFree, argsOf, argOf, Sl.some?, putBack, Opd.isS, Sl.own, Rv.sl, Rv.d, mwalk, walkD, itemsD, mrng, rng1, rng2, rng3, tgName, tgTup, tgCons, tgNil, masg, mpar2, stPar2, isiD, dTy, isiInt, isiBl, isiLst, isiTup, isiObj, or2, nm, mvarF, mchain, mop2, dAddX, dAddS, mrev, lstD, mrevA, mpar3, stPar3, List.findIdx?_cons, List.findIdx?_nil, e1, e2]
def noneL : List D := [.non, .int 5, .str (Str.ofString "12"), .lst [.non], .lst [.bl true], .lst [.int 1, .str (Str.ofString "2")], .dct, .tup [.int 1, .tup [.int 2]]]
theorem none_odd {d : D} (h : d ∈ noneL) : okD d = true ∧ allI d = false := by
  simp only [noneL, List.mem_cons, List.not_mem_nil, or_false] at h
  rcases h with rfl | rfl | rfl | rfl | rfl | rfl | rfl | rfl <;> exact ⟨by decide, by decide⟩
theorem lw_4 (fu : Nat) {K : Nat} {b : List D} (h : Bg K b) (hK : K < 1000) (a t o l : D) : ∃ b' n, st_law_4 fu [.v a, .l b, .v t, .v o, .v l, .no, .no, .no] = .nx [.v a, .l b', .v t, .v o, .v l, .v n, .no, .no] ∧ n ∈ noneL ∧ Bg (K + 1) b' := by
  obtain ⟨n, b2, hx, e2, hb2⟩ := take_ok fu (ds := noneL) h (by omega) (by simp [noneL]) (by simp [noneL])
  refine ⟨b2, n, ?_, hx, hb2⟩
  unfold noneL at e2
  simp [st_law_4, mguard, guardN, mcall, fnD, ms, mseq, mbind, mret, mopt, mbad, mvar, res, strong, strongs, ress, mun, mbin, mbinR, mcb, mcons, mcond, mif, mandV, morV, mnotV, tob, truD, mfld, fldD, putO, mputf, stSet, stSetP, mfrz, mlst, mtup, mslice, mpart, intD, dSl, on1, on2, lenD, absD, TW.intOf, TW.listOf, TW.tupOf, dInt2, dCmp2, dNeg, dIx, dIsN, dNotN, D.isNon, dupFree, argsOf, argOf, Sl.some?, putBack, Opd.isS, Sl.own, Rv.sl, Rv.d, mwalk, walkD, itemsD, mrng, rng1, rng2, rng3, tgName, tgTup, tgCons, tgNil, masg, mpar2, stPar2, isiD, dTy, isiInt, isiBl, isiLst, isiTup, isiObj, or2, nm, mvarF, mchain, mop2, dAddX, dAddS, mrev, lstD, mrevA, mpar3, stPar3, List.findIdx?_cons, List.findIdx?_nil, e2]
def wrongL : List D := [.non, .int 5, .tup [.int 2, .int 4], .tup [.int 1, .int 0], .tup [.int 1, .int (-2)], .str (Str.ofString "1"), .tup [.bl true, .int 1], .lst [.int 1], .tup [.int 0, .int 3]]
theorem wrong_odd (fu : Nat) (hF : Big fu) {d : D} (h : d ∈ wrongL) : d_is_ratio fu [.v d] = .ret (.v (.bl false)) [.v d] := by
  have h4 : 4 < fu := hF.lt (by decide +kernel)
  simp only [wrongL, List.mem_cons, List.not_mem_nil, or_false] at h
  rcases h with rfl | rfl | rfl | rfl | rfl | rfl | rfl | rfl | rfl
  · exact ev_ratio_no fu (by decide) (by decide)
  · exact ev_ratio_no fu (by decide) (by decide)
  · exact ev_ratio fu (p := [2, 4]) (.inr rfl) (by simp) (by simp; omega)
  · exact ev_ratio fu (p := [1, 0]) (.inr rfl) (by simp) (by simp; omega)
  · exact ev_ratio fu (p := [1, -2]) (.inr rfl) (by simp) (by simp; omega)
  · exact ev_ratio_no fu (by decide) (by decide)
  · exact ev_ratio_no fu (by decide) (by decide)
  · exact ev_ratio fu (p := [1]) (.inl rfl) (by simp) (by simp; omega)
  · exact ev_ratio fu (p := [0, 3]) (.inr rfl) (by simp) (by simp; omega)
theorem lw_5 (fu : Nat) {K : Nat} {b : List D} (h : Bg K b) (hK : K < 1000) (a t o l n : D) : ∃ b' w, st_law_5 fu [.v a, .l b, .v t, .v o, .v l, .v n, .no, .no] = .nx [.v a, .l b', .v t, .v o, .v l, .v n, .v w, .no] ∧ w ∈ wrongL ∧ Bg (K + 1) b' := by
  obtain ⟨n, b2, hx, e2, hb2⟩ := take_ok fu (ds := wrongL) h (by omega) (by simp [wrongL]) (by simp [wrongL])
  refine ⟨b2, n, ?_, hx, hb2⟩
  unfold wrongL at e2
  simp [st_law_5, mguard, guardN, mcall, fnD, ms, mseq, mbind, mret, mopt, mbad, mvar, res, strong, strongs, ress, mun, mbin, mbinR, mcb, mcons, mcond, mif, mandV, morV, mnotV, tob, truD, mfld, fldD, putO, mputf, stSet, stSetP, mfrz, mlst, mtup, mslice, mpart, intD, dSl, on1, on2, lenD, absD, TW.intOf, TW.listOf, TW.tupOf, dInt2, dCmp2, dNeg, dIx, dIsN, dNotN, D.isNon, dupFree, argsOf, argOf, Sl.some?, putBack, Opd.isS, Sl.own, Rv.sl, Rv.d, mwalk, walkD, itemsD, mrng, rng1, rng2, rng3, tgName, tgTup, tgCons, tgNil, masg, mpar2, stPar2, isiD, dTy, isiInt, isiBl, isiLst, isiTup, isiObj, or2, nm, mvarF, mchain, mop2, dAddX, dAddS, mrev, lstD, mrevA, mpar3, stPar3, List.findIdx?_cons, List.findIdx?_nil, e2]
def v0 : D := .str (Str.ofString "values")
def v1 : D := .str (Str.ofString "number")
def v2 : D := .str (Str.ofString "by")
def v5 : D := .tup [.str (Str.ofString "ratio"), .str (Str.ofString "one")]
def v6 : D := .tup [.str (Str.ofString "ratio"), .str (Str.ofString "other")]
theorem lw_6 (fu : Nat) (b : List D) (a t o l w : D) {n : D} (hn : n ∈ noneL) : st_law_6 fu [.v a, .l b, .v t, .v o, .v l, .v n, .v w, .no] = .nx [.v a, .l b, .v t, .v o, .v l, .v n, .v w, .l [v0]] := by
  obtain ⟨h1, h2⟩ := none_odd hn
  have e := ev_divisor_odd fu h1 h2
  simp [st_law_6, tset1, mlamp, lam_law_2, guardN, mcall, fnD, ms, mseq, mbind, mret, mopt, mbad, mvar, res, strong, strongs, ress, mun, mbin, mbinR, mcb, mcons, mcond, mif, mandV, morV, mnotV, tob, truD, mfld, fldD, putO, mputf, stSet, stSetP, mfrz, mlst, mtup, mslice, mpart, intD, dSl, on1, on2, lenD, absD, TW.intOf, TW.listOf, TW.tupOf, dInt2, dCmp2, dNeg, dIx, dIsN, dNotN, D.isNon, dupFree, argsOf, argOf, Sl.some?, putBack, Opd.isS, Sl.own, Rv.sl, Rv.d, mwalk, walkD, itemsD, mrng, rng1, rng2, rng3, tgName, tgTup, tgCons, tgNil, masg, mpar2, stPar2, isiD, dTy, isiInt, isiBl, isiLst, isiTup, isiObj, or2, nm, mvarF, mchain, mop2, dAddX, dAddS, mrev, lstD, mrevA, mpar3, stPar3, List.findIdx?_cons, List.findIdx?_nil, e, v0]
theorem lw_7 (fu : Nat) (b : List D) (a t l n w : D) {o : D} (ho : OddV o) : st_law_7 fu [.v a, .l b, .v t, .v o, .v l, .v n, .v w, .l [v0]] = .nx [.v a, .l b, .v t, .v o, .v l, .v n, .v w, .l [v0, v1]] := by
  have e := ev_lowest_n fu (.int 0) ho.plain.1 ho.plain.2
  simp [st_law_7, tapp, mlamp, lam_law_3, mcall, fnD, ms, mseq, mbind, mret, mopt, mbad, mvar, res, strong, strongs, ress, mun, mbin, mbinR, mcb, mcons, mcond, mif, mandV, morV, mnotV, tob, truD, mfld, fldD, putO, mputf, stSet, stSetP, mfrz, mlst, mtup, mslice, mpart, intD, dSl, on1, on2, lenD, absD, TW.intOf, TW.listOf, TW.tupOf, dInt2, dCmp2, dNeg, dIx, dIsN, dNotN, D.isNon, dupFree, argsOf, argOf, Sl.some?, putBack, Opd.isS, Sl.own, Rv.sl, Rv.d, mwalk, walkD, itemsD, mrng, rng1, rng2, rng3, tgName, tgTup, tgCons, tgNil, masg, mpar2, stPar2, isiD, dTy, isiInt, isiBl, isiLst, isiTup, isiObj, or2, nm, mvarF, mchain, mop2, dAddX, dAddS, mrev, lstD, mrevA, mpar3, stPar3, List.findIdx?_cons, List.findIdx?_nil, e, v0, v1]
theorem lw_8 (fu : Nat) (b : List D) (a t o n w : D) {l : D} (hl : OddV l) : st_law_8 fu [.v a, .l b, .v t, .v o, .v l, .v n, .v w, .l [v0, v1]] = .nx [.v a, .l b, .v t, .v o, .v l, .v n, .v w, .l [v0, v1, v2]] := by
  have e := ev_lowest_b fu 4 hl.plain.1 hl.plain.2
  simp [st_law_8, tapp, mlamp, lam_law_4, mcall, fnD, ms, mseq, mbind, mret, mopt, mbad, mvar, res, strong, strongs, ress, mun, mbin, mbinR, mcb, mcons, mcond, mif, mandV, morV, mnotV, tob, truD, mfld, fldD, putO, mputf, stSet, stSetP, mfrz, mlst, mtup, mslice, mpart, intD, dSl, on1, on2, lenD, absD, TW.intOf, TW.listOf, TW.tupOf, dInt2, dCmp2, dNeg, dIx, dIsN, dNotN, D.isNon, dupFree, argsOf, argOf, Sl.some?, putBack, Opd.isS, Sl.own, Rv.sl, Rv.d, mwalk, walkD, itemsD, mrng, rng1, rng2, rng3, tgName, tgTup, tgCons, tgNil, masg, mpar2, stPar2, isiD, dTy, isiInt, isiBl, isiLst, isiTup, isiObj, or2, nm, mvarF, mchain, mop2, dAddX, dAddS, mrev, lstD, mrevA, mpar3, stPar3, List.findIdx?_cons, List.findIdx?_nil, e, v0, v1, v2]
theorem lw_9 (fu : Nat) (b : List D) (a t o l n w : D) : st_law_9 fu [.v a, .l b, .v t, .v o, .v l, .v n, .v w, .l [v0, v1, v2]] = .nx [.v a, .l b, .v t, .v o, .v l, .v n, .v w, .l [v0, v1, v2, v2]] := by
  have e := ev_lowest_0 fu 4
  simp [st_law_9, tapp, mlamp, lam_law_5, mcall, fnD, ms, mseq, mbind, mret, mopt, mbad, mvar, res, strong, strongs, ress, mun, mbin, mbinR, mcb, mcons, mcond, mif, mandV, morV, mnotV, tob, truD, mfld, fldD, putO, mputf, stSet, stSetP, mfrz, mlst, mtup, mslice, mpart, intD, dSl, on1, on2, lenD, absD, TW.intOf, TW.listOf, TW.tupOf, dInt2, dCmp2, dNeg, dIx, dIsN, dNotN, D.isNon, dupFree, argsOf, argOf, Sl.some?, putBack, Opd.isS, Sl.own, Rv.sl, Rv.d, mwalk, walkD, itemsD, mrng, rng1, rng2, rng3, tgName, tgTup, tgCons, tgNil, masg, mpar2, stPar2, isiD, dTy, isiInt, isiBl, isiLst, isiTup, isiObj, or2, nm, mvarF, mchain, mop2, dAddX, dAddS, mrev, lstD, mrevA, mpar3, stPar3, List.findIdx?_cons, List.findIdx?_nil, e, v0, v1, v2]
theorem low05 (fu : Nat) (hF : Big fu) : d_lowest fu [.v (.int 0), .v (.int (-5))] = .ret (.v (.tup [.int 0, .int 1])) [.v (.int 0), .v (.int (-5))] := by
  have e := ev_lowest fu (a := 0) (b := -5) (by decide) (hF.lt (by decide +kernel)) (hF.lt (by decide +kernel)) (log2_small (bd30 (by decide)) (by omega))
  rw [show lowA 0 (-5) = 0 by decide +kernel, show lowB 0 (-5) = 1 by decide +kernel] at e
  exact e
theorem lw_10 (fu : Nat) (hF : Big fu) (b : List D) (a t o l n w : D) : st_law_10 fu [.v a, .l b, .v t, .v o, .v l, .v n, .v w, .l [v0, v1, v2, v2]] = .nx [.v a, .l b, .v t, .v o, .v l, .v n, .v w, .l [v0, v1, v2, v2, .non]] := by
  have e := low05 fu hF
  simp [st_law_10, tapp, mlamp, lam_law_6, mcall, fnD, ms, mseq, mbind, mret, mopt, mbad, mvar, res, strong, strongs, ress, mun, mbin, mbinR, mcb, mcons, mcond, mif, mandV, morV, mnotV, tob, truD, mfld, fldD, putO, mputf, stSet, stSetP, mfrz, mlst, mtup, mslice, mpart, intD, dSl, on1, on2, lenD, absD, TW.intOf, TW.listOf, TW.tupOf, dInt2, dCmp2, dNeg, dIx, dIsN, dNotN, D.isNon, dupFree, argsOf, argOf, Sl.some?, putBack, Opd.isS, Sl.own, Rv.sl, Rv.d, mwalk, walkD, itemsD, mrng, rng1, rng2, rng3, tgName, tgTup, tgCons, tgNil, masg, mpar2, stPar2, isiD, dTy, isiInt, isiBl, isiLst, isiTup, isiObj, or2, nm, mvarF, mchain, mop2, dAddX, dAddS, mrev, lstD, mrevA, mpar3, stPar3, List.findIdx?_cons, List.findIdx?_nil, e, v0, v1, v2]
theorem lw_11 (fu : Nat) (hF : Big fu) (b : List D) (a t o l n : D) {w : D} (hw : w ∈ wrongL) : st_law_11 fu [.v a, .l b, .v t, .v o, .v l, .v n, .v w, .l [v0, v1, v2, v2, .non]] = .nx [.v a, .l b, .v t, .v o, .v l, .v n, .v w, .l [v0, v1, v2, v2, .non, v5]] := by
  have e := ev_compared_1 fu .non (wrong_odd fu hF hw)
  simp [st_law_11, tapp, mlamp, lam_law_7, mcall, fnD, ms, mseq, mbind, mret, mopt, mbad, mvar, res, strong, strongs, ress, mun, mbin, mbinR, mcb, mcons, mcond, mif, mandV, morV, mnotV, tob, truD, mfld, fldD, putO, mputf, stSet, stSetP, mfrz, mlst, mtup, mslice, mpart, intD, dSl, on1, on2, lenD, absD, TW.intOf, TW.listOf, TW.tupOf, dInt2, dCmp2, dNeg, dIx, dIsN, dNotN, D.isNon, dupFree, argsOf, argOf, Sl.some?, putBack, Opd.isS, Sl.own, Rv.sl, Rv.d, mwalk, walkD, itemsD, mrng, rng1, rng2, rng3, tgName, tgTup, tgCons, tgNil, masg, mpar2, stPar2, isiD, dTy, isiInt, isiBl, isiLst, isiTup, isiObj, or2, nm, mvarF, mchain, mop2, dAddX, dAddS, mrev, lstD, mrevA, mpar3, stPar3, List.findIdx?_cons, List.findIdx?_nil, e, v0, v1, v2, v5]
theorem lw_12 (fu : Nat) (hF : Big fu) (b : List D) (a t o l n : D) {w : D} (hw : w ∈ wrongL) : st_law_12 fu [.v a, .l b, .v t, .v o, .v l, .v n, .v w, .l [v0, v1, v2, v2, .non, v5]] = .nx [.v a, .l b, .v t, .v o, .v l, .v n, .v w, .l [v0, v1, v2, v2, .non, v5, v6]] := by
  have h4 : 4 < fu := hF.lt (by decide +kernel)
  have e := ev_compared_2 fu (d := .tup [.int 0, .int 1]) (p := [0, 1]) (.inr rfl) (by simp) (by simp; omega) (by decide +kernel) (wrong_odd fu hF hw)
  simp [st_law_12, tapp, mlamp, lam_law_8, mcall, fnD, ms, mseq, mbind, mret, mopt, mbad, mvar, res, strong, strongs, ress, mun, mbin, mbinR, mcb, mcons, mcond, mif, mandV, morV, mnotV, tob, truD, mfld, fldD, putO, mputf, stSet, stSetP, mfrz, mlst, mtup, mslice, mpart, intD, dSl, on1, on2, lenD, absD, TW.intOf, TW.listOf, TW.tupOf, dInt2, dCmp2, dNeg, dIx, dIsN, dNotN, D.isNon, dupFree, argsOf, argOf, Sl.some?, putBack, Opd.isS, Sl.own, Rv.sl, Rv.d, mwalk, walkD, itemsD, mrng, rng1, rng2, rng3, tgName, tgTup, tgCons, tgNil, masg, mpar2, stPar2, isiD, dTy, isiInt, isiBl, isiLst, isiTup, isiObj, or2, nm, mvarF, mchain, mop2, dAddX, dAddS, mrev, lstD, mrevA, mpar3, stPar3, List.findIdx?_cons, List.findIdx?_nil, e, v0, v1, v2, v5, v6]
theorem dEq_heard : dEq (.lst [v0, v1, v2, v2, .non, v5, v6]) (.lst [v0, v1, v2, v2, .non, v5, v6]) = some (.bl true) := by
  have e : toPy (.lst [v0, v1, v2, v2, .non, v5, v6]) = some (.list [.str (Str.ofString "values"), .str (Str.ofString "number"), .str (Str.ofString "by"), .str (Str.ofString "by"), .none, .tuple [.str (Str.ofString "ratio"), .str (Str.ofString "one")], .tuple [.str (Str.ofString "ratio"), .str (Str.ofString "other")]]) := rfl
  unfold dEq eqP
  rw [e]; dsimp only
  rw [show SeqAt.shaped (.list [.str (Str.ofString "values"), .str (Str.ofString "number"), .str (Str.ofString "by"), .str (Str.ofString "by"), .none, .tuple [.str (Str.ofString "ratio"), .str (Str.ofString "one")], .tuple [.str (Str.ofString "ratio"), .str (Str.ofString "other")]]) = true by decide +kernel]
  simp [PyData.eqv, PyData.eqvAll]
theorem dEq_01 : dEq (.tup [.int 0, .int 1]) (.tup [.int 0, .int 1]) = some (.bl true) := by
  have e : toPy (.tup [.int 0, .int 1]) = some (.tuple [.int 0, .int 1]) := rfl
  unfold dEq eqP
  rw [e]; dsimp only
  rw [show SeqAt.shaped (.tuple [.int 0, .int 1]) = true by decide +kernel]
  simp [PyData.eqv, PyData.eqvAll]
theorem lw_13 (fu : Nat) (hF : Big fu) (b : List D) (a t o l n w : D) : ∃ s', st_law_13 fu [.v a, .l b, .v t, .v o, .v l, .v n, .v w, .l [v0, v1, v2, v2, .non, v5, v6]] = .rt (.v (.bl true)) s' := by
  have e := low05 fu hF
  have e1 := dEq_heard
  have e2 := dEq_01
  simp only [v0, v1, v2, v5, v6] at e1 ⊢
  refine ⟨[.v a, .l b, .v t, .v o, .v l, .v n, .v w, .l [v0, v1, v2, v2, .non, v5, v6]], ?_⟩
  simp [st_law_13, mguard, guardN, mcall, fnD, ms, mseq, mbind, mret, mopt, mbad, mvar, res, strong, strongs, ress, mun, mbin, mbinR, mcb, mcons, mcond, mif, mandV, morV, mnotV, tob, truD, mfld, fldD, putO, mputf, stSet, stSetP, mfrz, mlst, mtup, mslice, mpart, intD, dSl, on1, on2, lenD, absD, TW.intOf, TW.listOf, TW.tupOf, dInt2, dCmp2, dNeg, dIx, dIsN, dNotN, D.isNon, dupFree, argsOf, argOf, Sl.some?, putBack, Opd.isS, Sl.own, Rv.sl, Rv.d, mwalk, walkD, itemsD, mrng, rng1, rng2, rng3, tgName, tgTup, tgCons, tgNil, masg, mpar2, stPar2, isiD, dTy, isiInt, isiBl, isiLst, isiTup, isiObj, or2, nm, mvarF, mchain, mop2, dAddX, dAddS, mrev, lstD, mrevA, mpar3, stPar3, List.findIdx?_cons, List.findIdx?_nil, e, e1, e2, v0, v1, v2, v5, v6]
theorem math (ns : List Int) (hl : ns.length ≤ 63) (hb : ∀ z ∈ ns, Builtin.Int.intBits z ≤ 1048576) : ∃ fu s', b_law fu (.v (.arg (ns.map D.int)) :: List.replicate (N_law.length - 1) .no) = .rt (.v (.bl true)) s' := by
  obtain ⟨fu, hF⟩ : ∃ fu, Big fu := ⟨10 ^ 80 + 1, Nat.lt_succ_self _⟩
  obtain ⟨b1, s1, h1⟩ := lw_1 fu hl hb
  have e0 : (.v (.arg (ns.map D.int)) :: List.replicate (N_law.length - 1) Sl.no) = [.v (.arg (I ns)), .no, .no, .no, .no, .no, .no, .no] := rfl
  rw [e0]
  generalize D.arg (I ns) = a at *
  obtain ⟨b2, t, s2, h2⟩ := lw_2 fu hF h1 (by omega) a
  obtain ⟨b3, o, l, s3, ho, hl', h3⟩ := lw_3 fu h2 (by omega) a t
  obtain ⟨b4, n, s4, hn, h4⟩ := lw_4 fu h3 (by omega) a t o l
  obtain ⟨b5, w, s5, hw, h5⟩ := lw_5 fu h4 (by omega) a t o l n
  have s6 := lw_6 fu b5 a t o l w hn
  have s7 := lw_7 fu b5 a t l n w ho
  have s8 := lw_8 fu b5 a t o n w hl'
  have s9 := lw_9 fu b5 a t o l n w
  have s10 := lw_10 fu hF b5 a t o l n w
  have s11 := lw_11 fu hF b5 a t o l n hw
  have s12 := lw_12 fu hF b5 a t o l n hw
  obtain ⟨s', s13⟩ := lw_13 fu hF b5 a t o l n w
  refine ⟨fu, s', ?_⟩
  simp only [b_law, mseq, s1, s2, s3, s4, s5, s6, s7, s8, s9, s10, s11, s12, s13]
end K01

set_option Elab.async false
set_option linter.all false
set_option autoImplicit false
set_option maxRecDepth 100000
set_option maxHeartbeats 4000000
namespace K01
open PySem PySem.Spec PyProof.Rows L2 TW TX
def Math : Prop := ∀ ns : List Int, ns.length ≤ 63 → (∀ z ∈ ns, Builtin.Int.intBits z ≤ 1048576) → ∃ fu s', b_law fu (.v (.arg (ns.map D.int)) :: List.replicate (N_law.length - 1) .no) = .rt (.v (.bl true)) s'
def spLawT (K : PySem.W.Frag) (Pt : Addr) : Sp := fun vs H Q _ => ∃ (a : Addr) (ns : List Int), vs = [.ref a] ∧ SqL K H a (ns.map V.int) ∧ ns.length ≤ 63 ∧ (∀ z ∈ ns, Builtin.Int.intBits z ≤ 1048576) ∧ H Pt = some (.tbl #[]) ∧ ∀ H', Q (.bl true) H'
theorem law_spT {P : Program} {w : World} {K : PySem.W.Frag} {mg : Str → Option Value} {cn : Nat → Addr} {base : Heap} {f Pt : Addr} {fd : FuncData} {k : Nat} {ps : List Str} (F : ∀ fu, FnOk P w K mg base (L2.CX P w) k f fd ps (spLawF K Pt fu)) (hm : Math) : FnOk P w K mg base (L2.CX P w) k f fd ps (spLawT K Pt) := by
  have key : ∀ vs H Q E, spLawT K Pt vs H Q E → ∃ fu, spLawF K Pt fu vs H Q E := fun vs H Q E h => by
    obtain ⟨a, ns, rfl, hS, hl, hb, hT, q⟩ := h
    obtain ⟨fu, s', e⟩ := hm ns hl hb
    exact ⟨fu, a, ns, rfl, hS, hT, ⟨s', e⟩, q⟩
  refine ⟨fun vs H Q E h => ?_, fun A outer s H args us vs Q E hr e0 hb r h => ?_⟩
  · obtain ⟨fu, h'⟩ := key vs H Q E h
    exact (F fu).len vs H Q E h'
  · obtain ⟨fu, h'⟩ := key vs H Q E h
    exact (F fu).run A outer s H args us vs Q E hr e0 hb r h'
abbrev s_BadNumber : Stmt := inClass (top 2) 0
abbrev s_BadRatio : Stmt := inClass (top 3) 0
theorem sc_b1 : FnScope ["self", "part"] ["self", "part"] (defScope s_BadNumber) := ⟨rfl, rfl, rfl, by decide +kernel, rfl, by decide +kernel, by decide +kernel⟩
theorem sc_b2 : FnScope ["self", "part"] ["self", "part"] (defScope s_BadRatio) := ⟨rfl, rfl, rfl, by decide +kernel, rfl, by decide +kernel, by decide +kernel⟩
theorem ok_b1 {P : Program} {w : World} {K : PySem.W.Frag} {mg : Str → Option Value} {base : Heap} {f C : Addr} {fd : FuncData} (F : Fun K "__init__" "BadNumber.__init__" s_BadNumber f fd) (T : OexC K C) (hno : PySem.W.findIn K (.ref C) "part" = some none) : FnOk P w K mg base CX0 1 f fd ["self", "part"] (spI1 C "part") := by
  refine F.ok sc_b1 (fun vs H Q E h => ?_) (fun cdv A outer s H vs Q E hr h => ?_)
  · obtain ⟨a, u, rfl, _⟩ := h
    rfl
  · obtain ⟨a, u, rfl, ha, k⟩ := h
    exact ⟨_, pss_one (ps_ost (pv 0) (pv 1)), u, rfl, .ref a, rfl, a, C, rfl, T, hno, .inl ⟨ha, fun dx h1 h2 => k dx h1 h2⟩⟩
theorem ok_b2 {P : Program} {w : World} {K : PySem.W.Frag} {mg : Str → Option Value} {base : Heap} {f C : Addr} {fd : FuncData} (F : Fun K "__init__" "BadRatio.__init__" s_BadRatio f fd) (T : OexC K C) (hno : PySem.W.findIn K (.ref C) "part" = some none) : FnOk P w K mg base CX0 1 f fd ["self", "part"] (spI1 C "part") := by
  refine F.ok sc_b2 (fun vs H Q E h => ?_) (fun cdv A outer s H vs Q E hr h => ?_)
  · obtain ⟨a, u, rfl, _⟩ := h
    rfl
  · obtain ⟨a, u, rfl, ha, k⟩ := h
    exact ⟨_, pss_one (ps_ost (pv 0) (pv 1)), u, rfl, .ref a, rfl, a, C, rfl, T, hno, .inl ⟨ha, fun dx h1 h2 => k dx h1 h2⟩⟩
def isTyV : Value → Bool
  | .type _ => true
  | _ => false
theorem kit_other {K : PySem.W.Frag} {C : Addr} {n : String} (h1 : PySem.W.isClsIn K C = true) (h2 : PySem.W.typeIn K (.ref C) = some (.type "type")) (h3 : (PySem.fastBuiltinMro n).map (·.all isTyV) = some true) : PySem.W.kitOne K (.type n) (.ref C) = some false := by
  have e2 : ((PySem.W.clsIn K C).isSome && PySem.W.typeIn K (.ref C) == some (.type "type")) = true := by
    have h2' : (PySem.W.clsIn K C).isSome = true := h1
    rw [h2', h2] <;> rfl
  unfold PySem.W.kitOne
  rw [if_neg (by intro z; exact Value.noConfusion (beq_iff_eq.mp z))]
  show (if ((PySem.W.clsIn K C).isSome && PySem.W.typeIn K (.ref C) == some (.type "type")) = true then PySem.W.subIn K (.type n) (.ref C) else none) = some false
  rw [if_pos e2]
  show (PySem.fastBuiltinMro n).map (·.contains (.ref C)) = some false
  cases e : PySem.fastBuiltinMro n with
  | none => rw [e] at h3; cases h3
  | some l =>
    rw [e] at h3
    have h4 : l.all isTyV = true := Option.some.inj h3
    show some (l.contains (Value.ref C)) = some false
    congr 1
    rw [Bool.eq_false_iff]
    intro hc
    have := List.all_eq_true.mp h4 _ (List.contains_iff_mem.mp hc)
    cases this
/-- one own class against another -/
theorem kit_sub {K : PySem.W.Frag} {C D : Addr} {b : Bool} (h1 : PySem.W.isClsIn K D = true) (h2 : PySem.W.typeIn K (.ref D) = some (.type "type")) (hs : PySem.W.subIn K (.ref D) (.ref D) = some true) (h : PySem.W.subIn K (.ref C) (.ref D) = some b) : PySem.W.kitOne K (.ref C) (.ref D) = some b := by
  have e2 : ((PySem.W.clsIn K D).isSome && PySem.W.typeIn K (.ref D) == some (.type "type")) = true := by
    have h1' : (PySem.W.clsIn K D).isSome = true := h1
    rw [h1', h2] <;> rfl
  unfold PySem.W.kitOne
  by_cases hc : (Value.ref C == Value.ref D) = true
  · rw [if_pos hc]
    have e : C = D := Value.ref.inj (beq_iff_eq.mp hc)
    subst e
    rw [hs] at h; exact h
  · rw [if_neg hc]
    show (if ((PySem.W.clsIn K D).isSome && PySem.W.typeIn K (.ref D) == some (.type "type")) = true then PySem.W.subIn K (.ref C) (.ref D) else none) = some b
    rw [if_pos e2]; exact h
theorem exm_two {K : PySem.W.Frag} {C D : Addr} (h1 : PySem.W.subIn K (.ref D) (.type "BaseException") = some true) (h2 : PySem.W.isClsIn K D = true) (h3 : PySem.W.typeIn K (.ref D) = some (.type "type")) (h4 : PySem.W.subIn K (.ref C) (.ref D) = some true) :
    PySem.W.exmOne K (.ref C) (.ref D) = some true := by
  have w1 : (PySem.W.subIn K (.ref D) (.type "BaseException") == some true) = true := by rw [h1] <;> rfl
  have w2 : ((PySem.W.clsIn K D).isSome && PySem.W.typeIn K (.ref D) == some (.type "type")) = true := by
    have h2' : (PySem.W.clsIn K D).isSome = true := h2
    rw [h2', h3] <;> rfl
  show (if (PySem.W.subIn K (.ref D) (.type "BaseException") == some true) = true then (if ((PySem.W.clsIn K D).isSome && PySem.W.typeIn K (.ref D) == some (.type "type")) = true then PySem.W.subIn K (.ref C) (.ref D) else none) else none) = some true
  rw [if_pos w1, if_pos w2]; exact h4
/-- a code object's fields that are asked -/
def codeVs (vs : Array Value) : Bool := (match vs.getD 18 .none with | .str _ _ => true | _ => false) && ((match vs.getD 7 .none with | .int _ _ => true | _ => false) && ((match vs.getD 9 .none with | .bool _ => true | _ => false) && (match vs.getD 10 .none with | .int _ _ => true | _ => false)))
theorem code_hd {K : PySem.W.Frag} {h : Heap} {c Pt : Addr} {dd : Option Addr} {vs : Array Value} {sl : Array (Option Value)} (X : K.In h) (x : K.lookup c = some ⟨.type "code", dd, .fields vs, sl⟩) (ht : vs[11]? = some (.ref Pt)) (hv : codeVs vs = true) (ne : c ≠ Pt) : PySem.W.CodeHd h c Pt := by
  unfold codeVs at hv
  rw [Bool.and_eq_true, Bool.and_eq_true, Bool.and_eq_true] at hv
  obtain ⟨q1, q2, q3, q4⟩ := hv
  have g11 : vs.getD 11 .none = .ref Pt := by rw [Array.getD_eq_getD_getElem?, ht]; rfl
  cases e18 : vs.getD 18 .none <;> rw [e18] at q1 <;> try cases q1
  cases e7 : vs.getD 7 .none <;> rw [e7] at q2 <;> try cases q2
  cases e9 : vs.getD 9 .none <;> rw [e9] at q3 <;> try cases q3
  cases e10 : vs.getD 10 .none <;> rw [e10] at q4 <;> try cases q4
  exact ⟨_, vs, _, _, _, _, _, _, _, X _ _ x, rfl, rfl, ht, g11, e18, e7, e9, e10, ne⟩

theorem all_mk {l : PySem.W.OpenLaw} {w : World} {K : PySem.W.Frag} {h : Heap} {mg : Str → Option Value} {fa C101 fiC101 CTC101 C102 fiC102 CTC102 f_is_integer f_is_within f_is_name f_are_integers f_measure f_is_ratio f_is_lot f_first_twice f_need_number f_need_numbers f_need_ratio f_common_divisor f_in_lowest f_lowest f_difference f_compared f__law_bag f__law_pull f__law_take f__law_integer f__law_value f__law_same f__law_integers_right f__law_names_right f__law_lots_right f__law_divides f__law_measure f__law_divisors_right f__law_ratios_right f__law_compared_right f__law_twice_right : Addr} (X : K.In h) (G : h.Ns mainGlobals mg) (hfa : mg "law" = some (.ref fa))
    {nmC101 nmC102 qC101 qC102 : Str} {NC101 NC102 : Addr} {bsC101 bsC102 : List Value} {snC101 snC102 : List Str} {subC101 subC102 : List Value} {abC101 abC102 : Bool} {colC101 colC102 : Option Bool} {m0C101 m0C102 : Option Addr} {m1C101 m1C102 m2C101 m2C102 m3C101 m3C102 m4C101 m4C102 m5C101 m5C102 : Option Value}
    {odC101 odC102 od_is_integer od_is_within od_is_name od_are_integers od_measure od_is_ratio od_is_lot od_first_twice od_need_number od_need_numbers od_need_ratio od_common_divisor od_in_lowest od_lowest od_difference od_compared od__law_bag od__law_pull od__law_take od__law_integer od__law_value od__law_same od__law_integers_right od__law_names_right od__law_lots_right od__law_divides od__law_measure od__law_divisors_right od__law_ratios_right od__law_compared_right od__law_twice_right anC101 anC102 an_is_integer an_is_within an_is_name an_are_integers an_measure an_is_ratio an_is_lot an_first_twice an_need_number an_need_numbers an_need_ratio an_common_divisor an_in_lowest an_lowest an_difference an_compared an__law_bag an__law_pull an__law_take an__law_integer an__law_value an__law_same an__law_integers_right an__law_names_right an__law_lots_right an__law_divides an__law_measure an__law_divisors_right an__law_ratios_right an__law_compared_right an__law_twice_right : Option Addr} {slC101 slC102 sl_is_integer sl_is_within sl_is_name sl_are_integers sl_measure sl_is_ratio sl_is_lot sl_first_twice sl_need_number sl_need_numbers sl_need_ratio sl_common_divisor sl_in_lowest sl_lowest sl_difference sl_compared sl__law_bag sl__law_pull sl__law_take sl__law_integer sl__law_value sl__law_same sl__law_integers_right sl__law_names_right sl__law_lots_right sl__law_divides sl__law_measure sl__law_divisors_right sl__law_ratios_right sl__law_compared_right sl__law_twice_right : Array (Option Value)} {ocC101 ocC102 oc_is_integer oc_is_within oc_is_name oc_are_integers oc_measure oc_is_ratio oc_is_lot oc_first_twice oc_need_number oc_need_numbers oc_need_ratio oc_common_divisor oc_in_lowest oc_lowest oc_difference oc_compared oc__law_bag oc__law_pull oc__law_take oc__law_integer oc__law_value oc__law_same oc__law_integers_right oc__law_names_right oc__law_lots_right oc__law_divides oc__law_measure oc__law_divisors_right oc__law_ratios_right oc__law_compared_right oc__law_twice_right kVC101 kVC102 kV_is_integer kV_is_within kV_is_name kV_are_integers kV_measure kV_is_ratio kV_is_lot kV_first_twice kV_need_number kV_need_numbers kV_need_ratio kV_common_divisor kV_in_lowest kV_lowest kV_difference kV_compared kV__law_bag kV__law_pull kV__law_take kV__law_integer kV__law_value kV__law_same kV__law_integers_right kV__law_names_right kV__law_lots_right kV__law_divides kV__law_measure kV__law_divisors_right kV__law_ratios_right kV__law_compared_right kV__law_twice_right dcC101 dcC102 dc_is_integer dc_is_within dc_is_name dc_are_integers dc_measure dc_is_ratio dc_is_lot dc_first_twice dc_need_number dc_need_numbers dc_need_ratio dc_common_divisor dc_in_lowest dc_lowest dc_difference dc_compared dc__law_bag dc__law_pull dc__law_take dc__law_integer dc__law_value dc__law_same dc__law_integers_right dc__law_names_right dc__law_lots_right dc__law_divides dc__law_measure dc__law_divisors_right dc__law_ratios_right dc__law_compared_right dc__law_twice_right pmC101 pmC102 pm_is_integer pm_is_within pm_is_name pm_are_integers pm_measure pm_is_ratio pm_is_lot pm_first_twice pm_need_number pm_need_numbers pm_need_ratio pm_common_divisor pm_in_lowest pm_lowest pm_difference pm_compared pm__law_bag pm__law_pull pm__law_take pm__law_integer pm__law_value pm__law_same pm__law_integers_right pm__law_names_right pm__law_lots_right pm__law_divides pm__law_measure pm__law_divisors_right pm__law_ratios_right pm__law_compared_right pm__law_twice_right cdC101 cdC102 cd_is_integer cd_is_within cd_is_name cd_are_integers cd_measure cd_is_ratio cd_is_lot cd_first_twice cd_need_number cd_need_numbers cd_need_ratio cd_common_divisor cd_in_lowest cd_lowest cd_difference cd_compared cd__law_bag cd__law_pull cd__law_take cd__law_integer cd__law_value cd__law_same cd__law_integers_right cd__law_names_right cd__law_lots_right cd__law_divides cd__law_measure cd__law_divisors_right cd__law_ratios_right cd__law_compared_right cd__law_twice_right ctC101 ctC102 ct_is_integer ct_is_within ct_is_name ct_are_integers ct_measure ct_is_ratio ct_is_lot ct_first_twice ct_need_number ct_need_numbers ct_need_ratio ct_common_divisor ct_in_lowest ct_lowest ct_difference ct_compared ct__law_bag ct__law_pull ct__law_take ct__law_integer ct__law_value ct__law_same ct__law_integers_right ct__law_names_right ct__law_lots_right ct__law_divides ct__law_measure ct__law_divisors_right ct__law_ratios_right ct__law_compared_right ct__law_twice_right : Value} {tk_DIGITS tk_LETTERS tk_LONGEST : Tok}
    {cLaw Pt f_part f_law : Addr} {ddL : Option Addr} {vsL : Array Value} {slL : Array (Option Value)} {od_part an_part od_law an_law : Option Addr} {sl_part sl_law : Array (Option Value)} {oc_part kV_part dc_part pm_part cd_part ct_part oc_law kV_law dc_law pm_law ct_law : Value}
    (aC101 : PySem.W.nsIn K mainGlobals "BadNumber" = some (some (.ref C101)))
    (xLC101 : K.lookup C101 = some (excClassObj nmC101 qC101 C101 NC101 bsC101 [.ref CTC101, .type "ValueError", .type "Exception", .type "BaseException", .type "object"] true snC101 subC101 abC101 colC101 m0C101 m1C101 m2C101 m3C101 m4C101 m5C101 "ValueError.__new__"))
    (saC101 : PySem.W.findIn K (.ref C101) "__setattr__" = some (some (.builtin "object.__setattr__")))
    (gaC101 : PySem.W.findIn K (.ref C101) "__getattribute__" = some (some (.builtin "BaseException.__getattribute__")))
    (ggC101 : PySem.W.findIn K (.ref C101) "__getattr__" = some none)
    (noC101_part : PySem.W.findIn K (.ref C101) "part" = some none)
    (iC101 : PySem.W.findIn K (.ref C101) "__init__" = some (some (.ref fiC101)))
    (tC101 : PySem.W.typeIn K (.ref fiC101) = some (.type "function"))
    (lC101 : K.lookup fiC101 = some ⟨ocC101, odC101, .func (PySem.W.fnOf "__init__" "BadNumber.__init__" (defArgs s_BadNumber) (defBody s_BadNumber) (defScope s_BadNumber) .none kVC101 dcC101 pmC101 anC101 cdC101 ctC101), slC101⟩)
    (cC101 : PySem.W.codeIn K cdC101 "BadNumber.__init__" = true)
    (kfC101 : PySem.W.keepIn K (.ref fiC101) = true)
    (kCC101 : PySem.W.keepIn K (.ref C101) = true)
    (eCC101 : PySem.W.subIn K (.ref C101) (.type "BaseException") = some true)
    (tCC101 : PySem.W.typeIn K (.ref C101) = some (.type "type"))
    (hCC101 : PySem.W.hasDictIn K C101 = true)
    (iCC101 : PySem.W.isClsIn K C101 = true)
    (sCC101 : PySem.W.subIn K (.ref C101) (.ref C101) = some true)
    (aC102 : PySem.W.nsIn K mainGlobals "BadRatio" = some (some (.ref C102)))
    (xLC102 : K.lookup C102 = some (excClassObj nmC102 qC102 C102 NC102 bsC102 [.ref CTC102, .type "ValueError", .type "Exception", .type "BaseException", .type "object"] true snC102 subC102 abC102 colC102 m0C102 m1C102 m2C102 m3C102 m4C102 m5C102 "ValueError.__new__"))
    (saC102 : PySem.W.findIn K (.ref C102) "__setattr__" = some (some (.builtin "object.__setattr__")))
    (gaC102 : PySem.W.findIn K (.ref C102) "__getattribute__" = some (some (.builtin "BaseException.__getattribute__")))
    (ggC102 : PySem.W.findIn K (.ref C102) "__getattr__" = some none)
    (noC102_part : PySem.W.findIn K (.ref C102) "part" = some none)
    (iC102 : PySem.W.findIn K (.ref C102) "__init__" = some (some (.ref fiC102)))
    (tC102 : PySem.W.typeIn K (.ref fiC102) = some (.type "function"))
    (lC102 : K.lookup fiC102 = some ⟨ocC102, odC102, .func (PySem.W.fnOf "__init__" "BadRatio.__init__" (defArgs s_BadRatio) (defBody s_BadRatio) (defScope s_BadRatio) .none kVC102 dcC102 pmC102 anC102 cdC102 ctC102), slC102⟩)
    (cC102 : PySem.W.codeIn K cdC102 "BadRatio.__init__" = true)
    (kfC102 : PySem.W.keepIn K (.ref fiC102) = true)
    (kCC102 : PySem.W.keepIn K (.ref C102) = true)
    (eCC102 : PySem.W.subIn K (.ref C102) (.type "BaseException") = some true)
    (tCC102 : PySem.W.typeIn K (.ref C102) = some (.type "type"))
    (hCC102 : PySem.W.hasDictIn K C102 = true)
    (iCC102 : PySem.W.isClsIn K C102 = true)
    (sCC102 : PySem.W.subIn K (.ref C102) (.ref C102) = some true)
    (z_abs : PySem.W.nsIn K mainGlobals "abs" = some none)
    (z_all : PySem.W.nsIn K mainGlobals "all" = some none)
    (z_bool : PySem.W.nsIn K mainGlobals "bool" = some none)
    (z_enumerate : PySem.W.nsIn K mainGlobals "enumerate" = some none)
    (z_int : PySem.W.nsIn K mainGlobals "int" = some none)
    (z_isinstance : PySem.W.nsIn K mainGlobals "isinstance" = some none)
    (z_len : PySem.W.nsIn K mainGlobals "len" = some none)
    (z_list : PySem.W.nsIn K mainGlobals "list" = some none)
    (z_max : PySem.W.nsIn K mainGlobals "max" = some none)
    (z_range : PySem.W.nsIn K mainGlobals "range" = some none)
    (z_str : PySem.W.nsIn K mainGlobals "str" = some none)
    (z_tuple : PySem.W.nsIn K mainGlobals "tuple" = some none)
    (z_zip : PySem.W.nsIn K mainGlobals "zip" = some none)
    (v_DIGITS : PySem.W.nsIn K mainGlobals "DIGITS" = some (some (.str "0123456789" tk_DIGITS)))
    (v_LETTERS : PySem.W.nsIn K mainGlobals "LETTERS" = some (some (.str "abcdefghijklmnopqrstuvwxyz" tk_LETTERS)))
    (v_LONGEST : PySem.W.nsIn K mainGlobals "LONGEST" = some (some (.int 12 tk_LONGEST)))
    (z_set : PySem.W.nsIn K mainGlobals "set" = some none)
    (aCT : PySem.W.nsIn K mainGlobals "ThinError" = some (some (.ref CTC101)))
    (eCCT : PySem.W.subIn K (.ref CTC101) (.type "BaseException") = some true)
    (iCCT : PySem.W.isClsIn K CTC101 = true)
    (tCCT : PySem.W.typeIn K (.ref CTC101) = some (.type "type"))
    (hnA : PySem.W.specialIn K (.builtin "object.__class__") "__get__" = some (some (.builtin "getset_descriptor.__get__")))
    (htA : PySem.W.takesIn K (.builtin "object.__class__") = some true)
    (haC101 : PySem.W.findIn K (.ref C101) "__class__" = some (some (.builtin "object.__class__")))
    (hmC101 : PySem.W.mroIn K C101 (.type "object") = some true)
    (sC101T : PySem.W.subIn K (.ref C101) (.ref CTC101) = some true)
    (haC102 : PySem.W.findIn K (.ref C102) "__class__" = some (some (.builtin "object.__class__")))
    (hmC102 : PySem.W.mroIn K C102 (.type "object") = some true)
    (sC102T : PySem.W.subIn K (.ref C102) (.ref CTC101) = some true)
    (sC12 : PySem.W.subIn K (.ref C101) (.ref C102) = some false)
    (sC21 : PySem.W.subIn K (.ref C102) (.ref C101) = some false)
    (a_part : PySem.W.nsIn K mainGlobals "_law_part" = some (some (.ref f_part)))
    (l_part : K.lookup f_part = some ⟨oc_part, od_part, .func (PySem.W.fnOf "_law_part" "_law_part" (defArgs s_part) (defBody s_part) (defScope s_part) .none kV_part dc_part pm_part an_part cd_part ct_part), sl_part⟩)
    (c_part : PySem.W.codeIn K cd_part "_law_part" = true)
    (k_part : PySem.W.keepIn K (.ref f_part) = true)
    (a_law : PySem.W.nsIn K mainGlobals "law" = some (some (.ref f_law)))
    (l_law : K.lookup f_law = some ⟨oc_law, od_law, .func (PySem.W.fnOf "law" "law" (defArgs s_law) (defBody s_law) (defScope s_law) .none kV_law dc_law pm_law an_law (.ref cLaw) ct_law), sl_law⟩)
    (c_law : PySem.W.codeIn K (.ref cLaw) "law" = true)
    (x_code : K.lookup cLaw = some ⟨.type "code", ddL, .fields vsL, slL⟩)
    (x_tab : vsL[11]? = some (.ref Pt))
    (x_vs : codeVs vsL = true)
    (x_no : K.lookup Pt = none)
    (x_ne : decide (cLaw = Pt) = false)
    (a_is_integer : PySem.W.nsIn K mainGlobals "is_integer" = some (some (.ref f_is_integer)))
    (l_is_integer : K.lookup f_is_integer = some ⟨oc_is_integer, od_is_integer, .func (PySem.W.fnOf "is_integer" "is_integer" (defArgs s_is_integer) (defBody s_is_integer) (defScope s_is_integer) .none kV_is_integer dc_is_integer pm_is_integer an_is_integer cd_is_integer ct_is_integer), sl_is_integer⟩)
    (c_is_integer : PySem.W.codeIn K cd_is_integer "is_integer" = true)
    (k_is_integer : PySem.W.keepIn K (.ref f_is_integer) = true)
    (a_is_within : PySem.W.nsIn K mainGlobals "is_within" = some (some (.ref f_is_within)))
    (l_is_within : K.lookup f_is_within = some ⟨oc_is_within, od_is_within, .func (PySem.W.fnOf "is_within" "is_within" (defArgs s_is_within) (defBody s_is_within) (defScope s_is_within) .none kV_is_within dc_is_within pm_is_within an_is_within cd_is_within ct_is_within), sl_is_within⟩)
    (c_is_within : PySem.W.codeIn K cd_is_within "is_within" = true)
    (k_is_within : PySem.W.keepIn K (.ref f_is_within) = true)
    (a_is_name : PySem.W.nsIn K mainGlobals "is_name" = some (some (.ref f_is_name)))
    (l_is_name : K.lookup f_is_name = some ⟨oc_is_name, od_is_name, .func (PySem.W.fnOf "is_name" "is_name" (defArgs s_is_name) (defBody s_is_name) (defScope s_is_name) .none kV_is_name dc_is_name pm_is_name an_is_name cd_is_name ct_is_name), sl_is_name⟩)
    (c_is_name : PySem.W.codeIn K cd_is_name "is_name" = true)
    (k_is_name : PySem.W.keepIn K (.ref f_is_name) = true)
    (a_are_integers : PySem.W.nsIn K mainGlobals "are_integers" = some (some (.ref f_are_integers)))
    (l_are_integers : K.lookup f_are_integers = some ⟨oc_are_integers, od_are_integers, .func (PySem.W.fnOf "are_integers" "are_integers" (defArgs s_are_integers) (defBody s_are_integers) (defScope s_are_integers) .none kV_are_integers dc_are_integers pm_are_integers an_are_integers cd_are_integers ct_are_integers), sl_are_integers⟩)
    (c_are_integers : PySem.W.codeIn K cd_are_integers "are_integers" = true)
    (k_are_integers : PySem.W.keepIn K (.ref f_are_integers) = true)
    (a_measure : PySem.W.nsIn K mainGlobals "measure" = some (some (.ref f_measure)))
    (l_measure : K.lookup f_measure = some ⟨oc_measure, od_measure, .func (PySem.W.fnOf "measure" "measure" (defArgs s_measure) (defBody s_measure) (defScope s_measure) .none kV_measure dc_measure pm_measure an_measure cd_measure ct_measure), sl_measure⟩)
    (c_measure : PySem.W.codeIn K cd_measure "measure" = true)
    (k_measure : PySem.W.keepIn K (.ref f_measure) = true)
    (a_is_ratio : PySem.W.nsIn K mainGlobals "is_ratio" = some (some (.ref f_is_ratio)))
    (l_is_ratio : K.lookup f_is_ratio = some ⟨oc_is_ratio, od_is_ratio, .func (PySem.W.fnOf "is_ratio" "is_ratio" (defArgs s_is_ratio) (defBody s_is_ratio) (defScope s_is_ratio) .none kV_is_ratio dc_is_ratio pm_is_ratio an_is_ratio cd_is_ratio ct_is_ratio), sl_is_ratio⟩)
    (c_is_ratio : PySem.W.codeIn K cd_is_ratio "is_ratio" = true)
    (k_is_ratio : PySem.W.keepIn K (.ref f_is_ratio) = true)
    (a_is_lot : PySem.W.nsIn K mainGlobals "is_lot" = some (some (.ref f_is_lot)))
    (l_is_lot : K.lookup f_is_lot = some ⟨oc_is_lot, od_is_lot, .func (PySem.W.fnOf "is_lot" "is_lot" (defArgs s_is_lot) (defBody s_is_lot) (defScope s_is_lot) .none kV_is_lot dc_is_lot pm_is_lot an_is_lot cd_is_lot ct_is_lot), sl_is_lot⟩)
    (c_is_lot : PySem.W.codeIn K cd_is_lot "is_lot" = true)
    (k_is_lot : PySem.W.keepIn K (.ref f_is_lot) = true)
    (a_first_twice : PySem.W.nsIn K mainGlobals "first_twice" = some (some (.ref f_first_twice)))
    (l_first_twice : K.lookup f_first_twice = some ⟨oc_first_twice, od_first_twice, .func (PySem.W.fnOf "first_twice" "first_twice" (defArgs s_first_twice) (defBody s_first_twice) (defScope s_first_twice) .none kV_first_twice dc_first_twice pm_first_twice an_first_twice cd_first_twice ct_first_twice), sl_first_twice⟩)
    (c_first_twice : PySem.W.codeIn K cd_first_twice "first_twice" = true)
    (k_first_twice : PySem.W.keepIn K (.ref f_first_twice) = true)
    (a_need_number : PySem.W.nsIn K mainGlobals "need_number" = some (some (.ref f_need_number)))
    (l_need_number : K.lookup f_need_number = some ⟨oc_need_number, od_need_number, .func (PySem.W.fnOf "need_number" "need_number" (defArgs s_need_number) (defBody s_need_number) (defScope s_need_number) .none kV_need_number dc_need_number pm_need_number an_need_number cd_need_number ct_need_number), sl_need_number⟩)
    (c_need_number : PySem.W.codeIn K cd_need_number "need_number" = true)
    (k_need_number : PySem.W.keepIn K (.ref f_need_number) = true)
    (a_need_numbers : PySem.W.nsIn K mainGlobals "need_numbers" = some (some (.ref f_need_numbers)))
    (l_need_numbers : K.lookup f_need_numbers = some ⟨oc_need_numbers, od_need_numbers, .func (PySem.W.fnOf "need_numbers" "need_numbers" (defArgs s_need_numbers) (defBody s_need_numbers) (defScope s_need_numbers) .none kV_need_numbers dc_need_numbers pm_need_numbers an_need_numbers cd_need_numbers ct_need_numbers), sl_need_numbers⟩)
    (c_need_numbers : PySem.W.codeIn K cd_need_numbers "need_numbers" = true)
    (k_need_numbers : PySem.W.keepIn K (.ref f_need_numbers) = true)
    (a_need_ratio : PySem.W.nsIn K mainGlobals "need_ratio" = some (some (.ref f_need_ratio)))
    (l_need_ratio : K.lookup f_need_ratio = some ⟨oc_need_ratio, od_need_ratio, .func (PySem.W.fnOf "need_ratio" "need_ratio" (defArgs s_need_ratio) (defBody s_need_ratio) (defScope s_need_ratio) .none kV_need_ratio dc_need_ratio pm_need_ratio an_need_ratio cd_need_ratio ct_need_ratio), sl_need_ratio⟩)
    (c_need_ratio : PySem.W.codeIn K cd_need_ratio "need_ratio" = true)
    (k_need_ratio : PySem.W.keepIn K (.ref f_need_ratio) = true)
    (a_common_divisor : PySem.W.nsIn K mainGlobals "common_divisor" = some (some (.ref f_common_divisor)))
    (l_common_divisor : K.lookup f_common_divisor = some ⟨oc_common_divisor, od_common_divisor, .func (PySem.W.fnOf "common_divisor" "common_divisor" (defArgs s_common_divisor) (defBody s_common_divisor) (defScope s_common_divisor) .none kV_common_divisor dc_common_divisor pm_common_divisor an_common_divisor cd_common_divisor ct_common_divisor), sl_common_divisor⟩)
    (c_common_divisor : PySem.W.codeIn K cd_common_divisor "common_divisor" = true)
    (k_common_divisor : PySem.W.keepIn K (.ref f_common_divisor) = true)
    (a_in_lowest : PySem.W.nsIn K mainGlobals "in_lowest" = some (some (.ref f_in_lowest)))
    (l_in_lowest : K.lookup f_in_lowest = some ⟨oc_in_lowest, od_in_lowest, .func (PySem.W.fnOf "in_lowest" "in_lowest" (defArgs s_in_lowest) (defBody s_in_lowest) (defScope s_in_lowest) .none kV_in_lowest dc_in_lowest pm_in_lowest an_in_lowest cd_in_lowest ct_in_lowest), sl_in_lowest⟩)
    (c_in_lowest : PySem.W.codeIn K cd_in_lowest "in_lowest" = true)
    (k_in_lowest : PySem.W.keepIn K (.ref f_in_lowest) = true)
    (a_lowest : PySem.W.nsIn K mainGlobals "lowest" = some (some (.ref f_lowest)))
    (l_lowest : K.lookup f_lowest = some ⟨oc_lowest, od_lowest, .func (PySem.W.fnOf "lowest" "lowest" (defArgs s_lowest) (defBody s_lowest) (defScope s_lowest) .none kV_lowest dc_lowest pm_lowest an_lowest cd_lowest ct_lowest), sl_lowest⟩)
    (c_lowest : PySem.W.codeIn K cd_lowest "lowest" = true)
    (k_lowest : PySem.W.keepIn K (.ref f_lowest) = true)
    (a_difference : PySem.W.nsIn K mainGlobals "difference" = some (some (.ref f_difference)))
    (l_difference : K.lookup f_difference = some ⟨oc_difference, od_difference, .func (PySem.W.fnOf "difference" "difference" (defArgs s_difference) (defBody s_difference) (defScope s_difference) .none kV_difference dc_difference pm_difference an_difference cd_difference ct_difference), sl_difference⟩)
    (c_difference : PySem.W.codeIn K cd_difference "difference" = true)
    (k_difference : PySem.W.keepIn K (.ref f_difference) = true)
    (a_compared : PySem.W.nsIn K mainGlobals "compared" = some (some (.ref f_compared)))
    (l_compared : K.lookup f_compared = some ⟨oc_compared, od_compared, .func (PySem.W.fnOf "compared" "compared" (defArgs s_compared) (defBody s_compared) (defScope s_compared) .none kV_compared dc_compared pm_compared an_compared cd_compared ct_compared), sl_compared⟩)
    (c_compared : PySem.W.codeIn K cd_compared "compared" = true)
    (k_compared : PySem.W.keepIn K (.ref f_compared) = true)
    (a__law_bag : PySem.W.nsIn K mainGlobals "_law_bag" = some (some (.ref f__law_bag)))
    (l__law_bag : K.lookup f__law_bag = some ⟨oc__law_bag, od__law_bag, .func (PySem.W.fnOf "_law_bag" "_law_bag" (defArgs s__law_bag) (defBody s__law_bag) (defScope s__law_bag) .none kV__law_bag dc__law_bag pm__law_bag an__law_bag cd__law_bag ct__law_bag), sl__law_bag⟩)
    (c__law_bag : PySem.W.codeIn K cd__law_bag "_law_bag" = true)
    (k__law_bag : PySem.W.keepIn K (.ref f__law_bag) = true)
    (a__law_pull : PySem.W.nsIn K mainGlobals "_law_pull" = some (some (.ref f__law_pull)))
    (l__law_pull : K.lookup f__law_pull = some ⟨oc__law_pull, od__law_pull, .func (PySem.W.fnOf "_law_pull" "_law_pull" (defArgs s__law_pull) (defBody s__law_pull) (defScope s__law_pull) .none kV__law_pull dc__law_pull pm__law_pull an__law_pull cd__law_pull ct__law_pull), sl__law_pull⟩)
    (c__law_pull : PySem.W.codeIn K cd__law_pull "_law_pull" = true)
    (k__law_pull : PySem.W.keepIn K (.ref f__law_pull) = true)
    (a__law_take : PySem.W.nsIn K mainGlobals "_law_take" = some (some (.ref f__law_take)))
    (l__law_take : K.lookup f__law_take = some ⟨oc__law_take, od__law_take, .func (PySem.W.fnOf "_law_take" "_law_take" (defArgs s__law_take) (defBody s__law_take) (defScope s__law_take) .none kV__law_take dc__law_take pm__law_take an__law_take cd__law_take ct__law_take), sl__law_take⟩)
    (c__law_take : PySem.W.codeIn K cd__law_take "_law_take" = true)
    (k__law_take : PySem.W.keepIn K (.ref f__law_take) = true)
    (a__law_integer : PySem.W.nsIn K mainGlobals "_law_integer" = some (some (.ref f__law_integer)))
    (l__law_integer : K.lookup f__law_integer = some ⟨oc__law_integer, od__law_integer, .func (PySem.W.fnOf "_law_integer" "_law_integer" (defArgs s__law_integer) (defBody s__law_integer) (defScope s__law_integer) .none kV__law_integer dc__law_integer pm__law_integer an__law_integer cd__law_integer ct__law_integer), sl__law_integer⟩)
    (c__law_integer : PySem.W.codeIn K cd__law_integer "_law_integer" = true)
    (k__law_integer : PySem.W.keepIn K (.ref f__law_integer) = true)
    (a__law_value : PySem.W.nsIn K mainGlobals "_law_value" = some (some (.ref f__law_value)))
    (l__law_value : K.lookup f__law_value = some ⟨oc__law_value, od__law_value, .func (PySem.W.fnOf "_law_value" "_law_value" (defArgs s__law_value) (defBody s__law_value) (defScope s__law_value) .none kV__law_value dc__law_value pm__law_value an__law_value cd__law_value ct__law_value), sl__law_value⟩)
    (c__law_value : PySem.W.codeIn K cd__law_value "_law_value" = true)
    (k__law_value : PySem.W.keepIn K (.ref f__law_value) = true)
    (a__law_same : PySem.W.nsIn K mainGlobals "_law_same" = some (some (.ref f__law_same)))
    (l__law_same : K.lookup f__law_same = some ⟨oc__law_same, od__law_same, .func (PySem.W.fnOf "_law_same" "_law_same" (defArgs s__law_same) (defBody s__law_same) (defScope s__law_same) .none kV__law_same dc__law_same pm__law_same an__law_same cd__law_same ct__law_same), sl__law_same⟩)
    (c__law_same : PySem.W.codeIn K cd__law_same "_law_same" = true)
    (k__law_same : PySem.W.keepIn K (.ref f__law_same) = true)
    (a__law_integers_right : PySem.W.nsIn K mainGlobals "_law_integers_right" = some (some (.ref f__law_integers_right)))
    (l__law_integers_right : K.lookup f__law_integers_right = some ⟨oc__law_integers_right, od__law_integers_right, .func (PySem.W.fnOf "_law_integers_right" "_law_integers_right" (defArgs s__law_integers_right) (defBody s__law_integers_right) (defScope s__law_integers_right) .none kV__law_integers_right dc__law_integers_right pm__law_integers_right an__law_integers_right cd__law_integers_right ct__law_integers_right), sl__law_integers_right⟩)
    (c__law_integers_right : PySem.W.codeIn K cd__law_integers_right "_law_integers_right" = true)
    (k__law_integers_right : PySem.W.keepIn K (.ref f__law_integers_right) = true)
    (a__law_names_right : PySem.W.nsIn K mainGlobals "_law_names_right" = some (some (.ref f__law_names_right)))
    (l__law_names_right : K.lookup f__law_names_right = some ⟨oc__law_names_right, od__law_names_right, .func (PySem.W.fnOf "_law_names_right" "_law_names_right" (defArgs s__law_names_right) (defBody s__law_names_right) (defScope s__law_names_right) .none kV__law_names_right dc__law_names_right pm__law_names_right an__law_names_right cd__law_names_right ct__law_names_right), sl__law_names_right⟩)
    (c__law_names_right : PySem.W.codeIn K cd__law_names_right "_law_names_right" = true)
    (k__law_names_right : PySem.W.keepIn K (.ref f__law_names_right) = true)
    (a__law_lots_right : PySem.W.nsIn K mainGlobals "_law_lots_right" = some (some (.ref f__law_lots_right)))
    (l__law_lots_right : K.lookup f__law_lots_right = some ⟨oc__law_lots_right, od__law_lots_right, .func (PySem.W.fnOf "_law_lots_right" "_law_lots_right" (defArgs s__law_lots_right) (defBody s__law_lots_right) (defScope s__law_lots_right) .none kV__law_lots_right dc__law_lots_right pm__law_lots_right an__law_lots_right cd__law_lots_right ct__law_lots_right), sl__law_lots_right⟩)
    (c__law_lots_right : PySem.W.codeIn K cd__law_lots_right "_law_lots_right" = true)
    (k__law_lots_right : PySem.W.keepIn K (.ref f__law_lots_right) = true)
    (a__law_divides : PySem.W.nsIn K mainGlobals "_law_divides" = some (some (.ref f__law_divides)))
    (l__law_divides : K.lookup f__law_divides = some ⟨oc__law_divides, od__law_divides, .func (PySem.W.fnOf "_law_divides" "_law_divides" (defArgs s__law_divides) (defBody s__law_divides) (defScope s__law_divides) .none kV__law_divides dc__law_divides pm__law_divides an__law_divides cd__law_divides ct__law_divides), sl__law_divides⟩)
    (c__law_divides : PySem.W.codeIn K cd__law_divides "_law_divides" = true)
    (k__law_divides : PySem.W.keepIn K (.ref f__law_divides) = true)
    (a__law_measure : PySem.W.nsIn K mainGlobals "_law_measure" = some (some (.ref f__law_measure)))
    (l__law_measure : K.lookup f__law_measure = some ⟨oc__law_measure, od__law_measure, .func (PySem.W.fnOf "_law_measure" "_law_measure" (defArgs s__law_measure) (defBody s__law_measure) (defScope s__law_measure) .none kV__law_measure dc__law_measure pm__law_measure an__law_measure cd__law_measure ct__law_measure), sl__law_measure⟩)
    (c__law_measure : PySem.W.codeIn K cd__law_measure "_law_measure" = true)
    (k__law_measure : PySem.W.keepIn K (.ref f__law_measure) = true)
    (a__law_divisors_right : PySem.W.nsIn K mainGlobals "_law_divisors_right" = some (some (.ref f__law_divisors_right)))
    (l__law_divisors_right : K.lookup f__law_divisors_right = some ⟨oc__law_divisors_right, od__law_divisors_right, .func (PySem.W.fnOf "_law_divisors_right" "_law_divisors_right" (defArgs s__law_divisors_right) (defBody s__law_divisors_right) (defScope s__law_divisors_right) .none kV__law_divisors_right dc__law_divisors_right pm__law_divisors_right an__law_divisors_right cd__law_divisors_right ct__law_divisors_right), sl__law_divisors_right⟩)
    (c__law_divisors_right : PySem.W.codeIn K cd__law_divisors_right "_law_divisors_right" = true)
    (k__law_divisors_right : PySem.W.keepIn K (.ref f__law_divisors_right) = true)
    (a__law_ratios_right : PySem.W.nsIn K mainGlobals "_law_ratios_right" = some (some (.ref f__law_ratios_right)))
    (l__law_ratios_right : K.lookup f__law_ratios_right = some ⟨oc__law_ratios_right, od__law_ratios_right, .func (PySem.W.fnOf "_law_ratios_right" "_law_ratios_right" (defArgs s__law_ratios_right) (defBody s__law_ratios_right) (defScope s__law_ratios_right) .none kV__law_ratios_right dc__law_ratios_right pm__law_ratios_right an__law_ratios_right cd__law_ratios_right ct__law_ratios_right), sl__law_ratios_right⟩)
    (c__law_ratios_right : PySem.W.codeIn K cd__law_ratios_right "_law_ratios_right" = true)
    (k__law_ratios_right : PySem.W.keepIn K (.ref f__law_ratios_right) = true)
    (a__law_compared_right : PySem.W.nsIn K mainGlobals "_law_compared_right" = some (some (.ref f__law_compared_right)))
    (l__law_compared_right : K.lookup f__law_compared_right = some ⟨oc__law_compared_right, od__law_compared_right, .func (PySem.W.fnOf "_law_compared_right" "_law_compared_right" (defArgs s__law_compared_right) (defBody s__law_compared_right) (defScope s__law_compared_right) .none kV__law_compared_right dc__law_compared_right pm__law_compared_right an__law_compared_right cd__law_compared_right ct__law_compared_right), sl__law_compared_right⟩)
    (c__law_compared_right : PySem.W.codeIn K cd__law_compared_right "_law_compared_right" = true)
    (k__law_compared_right : PySem.W.keepIn K (.ref f__law_compared_right) = true)
    (a__law_twice_right : PySem.W.nsIn K mainGlobals "_law_twice_right" = some (some (.ref f__law_twice_right)))
    (l__law_twice_right : K.lookup f__law_twice_right = some ⟨oc__law_twice_right, od__law_twice_right, .func (PySem.W.fnOf "_law_twice_right" "_law_twice_right" (defArgs s__law_twice_right) (defBody s__law_twice_right) (defScope s__law_twice_right) .none kV__law_twice_right dc__law_twice_right pm__law_twice_right an__law_twice_right cd__law_twice_right ct__law_twice_right), sl__law_twice_right⟩)
    (c__law_twice_right : PySem.W.codeIn K cd__law_twice_right "_law_twice_right" = true)
    (k__law_twice_right : PySem.W.keepIn K (.ref f__law_twice_right) = true)
    (hlaw : Math) (own : LamX.OwnTab K fa h) : LamX.LawAtS l w K (L2.CX l.prog w) 8 63 "_law_script" mg fa h := by
  have e := hfa.symm.trans (PySem.W.mg_of X G a_law)
  cases e
  let cn : Nat → Addr := fun n => if n = 101 then C101 else if n = 102 then C102 else C101
  have cn101 : cn 101 = C101 := if_pos rfl
  have cn102 : cn 102 = C102 := by show (if 102 = 101 then C101 else if 102 = 102 then C102 else C101) = C102; rw [if_neg (by decide), if_pos rfl]
  have oex1 : OexC K C101 := ⟨⟨nmC101, qC101, NC101, bsC101, _, snC101, subC101, abC101, colC101, m0C101, m1C101, m2C101, m3C101, m4C101, m5C101, xLC101, rfl⟩, saC101, eCC101, tCC101, kCC101⟩
  have oex2 : OexC K C102 := ⟨⟨nmC102, qC102, NC102, bsC102, _, snC102, subC102, abC102, colC102, m0C102, m1C102, m2C102, m3C102, m4C102, m5C102, xLC102, rfl⟩, saC102, eCC102, tCC102, kCC102⟩
  have FI1 := fun_mk (st := s_BadNumber) lC101 cC101 kfC101
  have bI1 := FI1.binds (ps := ["self", "part"]) fun _ _ _ _ _ _ us hl => match us, hl with | [_, _], _ => rfl
  have FI2 := fun_mk (st := s_BadRatio) lC102 cC102 kfC102
  have bI2 := FI2.binds (ps := ["self", "part"]) fun _ _ _ _ _ _ us hl => match us, hl with | [_, _], _ => rfl
  have T : Txt K mg cn := {
    n_abs := PySem.W.mg_none_of X G z_abs
    n_all := PySem.W.mg_none_of X G z_all
    n_bool := PySem.W.mg_none_of X G z_bool
    n_enumerate := PySem.W.mg_none_of X G z_enumerate
    n_int := PySem.W.mg_none_of X G z_int
    n_isinstance := PySem.W.mg_none_of X G z_isinstance
    n_len := PySem.W.mg_none_of X G z_len
    n_list := PySem.W.mg_none_of X G z_list
    n_max := PySem.W.mg_none_of X G z_max
    n_range := PySem.W.mg_none_of X G z_range
    n_str := PySem.W.mg_none_of X G z_str
    n_tuple := PySem.W.mg_none_of X G z_tuple
    n_zip := PySem.W.mg_none_of X G z_zip
    c_DIGITS := ⟨_, PySem.W.mg_of X G v_DIGITS⟩
    c_LETTERS := ⟨_, PySem.W.mg_of X G v_LETTERS⟩
    c_LONGEST := ⟨_, PySem.W.mg_of X G v_LONGEST⟩
    BadNumber := ⟨oex1, PySem.W.mg_of X G aC101, fiC101, iC101, tC101, fun P w base => ⟨_, _, ok_b1 FI1 oex1 noC101_part, bI1⟩⟩
    BadRatio := ⟨oex2, PySem.W.mg_of X G aC102, fiC102, iC102, tC102, fun P w base => ⟨_, _, ok_b2 FI2 oex2 noC102_part, bI2⟩⟩ }
  have F_is_integer := fun_mk (st := s_is_integer) l_is_integer c_is_integer k_is_integer
  have b_is_integer := F_is_integer.binds (ps := p_is_integer) fun _ _ _ _ _ _ us hl => match us, hl with | [_], _ => rfl
  have F_is_within := fun_mk (st := s_is_within) l_is_within c_is_within k_is_within
  have b_is_within := F_is_within.binds (ps := p_is_within) fun _ _ _ _ _ _ us hl => match us, hl with | [_, _, _], _ => rfl
  have F_is_name := fun_mk (st := s_is_name) l_is_name c_is_name k_is_name
  have b_is_name := F_is_name.binds (ps := p_is_name) fun _ _ _ _ _ _ us hl => match us, hl with | [_], _ => rfl
  have F_are_integers := fun_mk (st := s_are_integers) l_are_integers c_are_integers k_are_integers
  have b_are_integers := F_are_integers.binds (ps := p_are_integers) fun _ _ _ _ _ _ us hl => match us, hl with | [_], _ => rfl
  have F_measure := fun_mk (st := s_measure) l_measure c_measure k_measure
  have b_measure := F_measure.binds (ps := p_measure) fun _ _ _ _ _ _ us hl => match us, hl with | [_], _ => rfl
  have F_is_ratio := fun_mk (st := s_is_ratio) l_is_ratio c_is_ratio k_is_ratio
  have b_is_ratio := F_is_ratio.binds (ps := p_is_ratio) fun _ _ _ _ _ _ us hl => match us, hl with | [_], _ => rfl
  have F_is_lot := fun_mk (st := s_is_lot) l_is_lot c_is_lot k_is_lot
  have b_is_lot := F_is_lot.binds (ps := p_is_lot) fun _ _ _ _ _ _ us hl => match us, hl with | [_, _], _ => rfl
  have F_first_twice := fun_mk (st := s_first_twice) l_first_twice c_first_twice k_first_twice
  have b_first_twice := F_first_twice.binds (ps := p_first_twice) fun _ _ _ _ _ _ us hl => match us, hl with | [_], _ => rfl
  have F_need_number := fun_mk (st := s_need_number) l_need_number c_need_number k_need_number
  have b_need_number := F_need_number.binds (ps := p_need_number) fun _ _ _ _ _ _ us hl => match us, hl with | [_, _, _, _], _ => rfl
  have F_need_numbers := fun_mk (st := s_need_numbers) l_need_numbers c_need_numbers k_need_numbers
  have b_need_numbers := F_need_numbers.binds (ps := p_need_numbers) fun _ _ _ _ _ _ us hl => match us, hl with | [_, _], _ => rfl
  have F_need_ratio := fun_mk (st := s_need_ratio) l_need_ratio c_need_ratio k_need_ratio
  have b_need_ratio := F_need_ratio.binds (ps := p_need_ratio) fun _ _ _ _ _ _ us hl => match us, hl with | [_, _], _ => rfl
  have F_common_divisor := fun_mk (st := s_common_divisor) l_common_divisor c_common_divisor k_common_divisor
  have b_common_divisor := F_common_divisor.binds (ps := p_common_divisor) fun _ _ _ _ _ _ us hl => match us, hl with | [_], _ => rfl
  have F_in_lowest := fun_mk (st := s_in_lowest) l_in_lowest c_in_lowest k_in_lowest
  have b_in_lowest := F_in_lowest.binds (ps := p_in_lowest) fun _ _ _ _ _ _ us hl => match us, hl with | [_, _], _ => rfl
  have F_lowest := fun_mk (st := s_lowest) l_lowest c_lowest k_lowest
  have b_lowest := F_lowest.binds (ps := p_lowest) fun _ _ _ _ _ _ us hl => match us, hl with | [_, _], _ => rfl
  have F_difference := fun_mk (st := s_difference) l_difference c_difference k_difference
  have b_difference := F_difference.binds (ps := p_difference) fun _ _ _ _ _ _ us hl => match us, hl with | [_, _], _ => rfl
  have F_compared := fun_mk (st := s_compared) l_compared c_compared k_compared
  have b_compared := F_compared.binds (ps := p_compared) fun _ _ _ _ _ _ us hl => match us, hl with | [_, _], _ => rfl
  have F__law_bag := fun_mk (st := s__law_bag) l__law_bag c__law_bag k__law_bag
  have b__law_bag := F__law_bag.binds (ps := p__law_bag) fun _ _ _ _ _ _ us hl => match us, hl with | [_], _ => rfl
  have F__law_pull := fun_mk (st := s__law_pull) l__law_pull c__law_pull k__law_pull
  have b__law_pull := F__law_pull.binds (ps := p__law_pull) fun _ _ _ _ _ _ us hl => match us, hl with | [_, _], _ => rfl
  have F__law_take := fun_mk (st := s__law_take) l__law_take c__law_take k__law_take
  have b__law_take := F__law_take.binds (ps := p__law_take) fun _ _ _ _ _ _ us hl => match us, hl with | [_, _], _ => rfl
  have F__law_integer := fun_mk (st := s__law_integer) l__law_integer c__law_integer k__law_integer
  have b__law_integer := F__law_integer.binds (ps := p__law_integer) fun _ _ _ _ _ _ us hl => match us, hl with | [_], _ => rfl
  have F__law_value := fun_mk (st := s__law_value) l__law_value c__law_value k__law_value
  have b__law_value := F__law_value.binds (ps := p__law_value) fun _ _ _ _ _ _ us hl => match us, hl with | [_], _ => rfl
  have F__law_same := fun_mk (st := s__law_same) l__law_same c__law_same k__law_same
  have b__law_same := F__law_same.binds (ps := p__law_same) fun _ _ _ _ _ _ us hl => match us, hl with | [_, _], _ => rfl
  have F__law_integers_right := fun_mk (st := s__law_integers_right) l__law_integers_right c__law_integers_right k__law_integers_right
  have b__law_integers_right := F__law_integers_right.binds (ps := p__law_integers_right) fun _ _ _ _ _ _ us hl => match us, hl with | [_], _ => rfl
  have F__law_names_right := fun_mk (st := s__law_names_right) l__law_names_right c__law_names_right k__law_names_right
  have b__law_names_right := F__law_names_right.binds (ps := p__law_names_right) fun _ _ _ _ _ _ us hl => match us, hl with | [_], _ => rfl
  have F__law_lots_right := fun_mk (st := s__law_lots_right) l__law_lots_right c__law_lots_right k__law_lots_right
  have b__law_lots_right := F__law_lots_right.binds (ps := p__law_lots_right) fun _ _ _ _ _ _ us hl => match us, hl with | [_], _ => rfl
  have F__law_divides := fun_mk (st := s__law_divides) l__law_divides c__law_divides k__law_divides
  have b__law_divides := F__law_divides.binds (ps := p__law_divides) fun _ _ _ _ _ _ us hl => match us, hl with | [_, _], _ => rfl
  have F__law_measure := fun_mk (st := s__law_measure) l__law_measure c__law_measure k__law_measure
  have b__law_measure := F__law_measure.binds (ps := p__law_measure) fun _ _ _ _ _ _ us hl => match us, hl with | [_], _ => rfl
  have F__law_divisors_right := fun_mk (st := s__law_divisors_right) l__law_divisors_right c__law_divisors_right k__law_divisors_right
  have b__law_divisors_right := F__law_divisors_right.binds (ps := p__law_divisors_right) fun _ _ _ _ _ _ us hl => match us, hl with | [_], _ => rfl
  have F__law_ratios_right := fun_mk (st := s__law_ratios_right) l__law_ratios_right c__law_ratios_right k__law_ratios_right
  have b__law_ratios_right := F__law_ratios_right.binds (ps := p__law_ratios_right) fun _ _ _ _ _ _ us hl => match us, hl with | [_], _ => rfl
  have F__law_compared_right := fun_mk (st := s__law_compared_right) l__law_compared_right c__law_compared_right k__law_compared_right
  have b__law_compared_right := F__law_compared_right.binds (ps := p__law_compared_right) fun _ _ _ _ _ _ us hl => match us, hl with | [_], _ => rfl
  have F__law_twice_right := fun_mk (st := s__law_twice_right) l__law_twice_right c__law_twice_right k__law_twice_right
  have b__law_twice_right := F__law_twice_right.binds (ps := p__law_twice_right) fun _ _ _ _ _ _ us hl => match us, hl with | [_], _ => rfl
  have F_part := fun_mk (st := s_part) l_part c_part k_part
  have b_part := F_part.binds (ps := ["_law_ask"]) fun _ _ _ _ _ _ us hl => match us, hl with | [_], _ => rfl
  have PA : PartA K mg cn := ⟨⟨CTC101, ⟨PySem.W.mg_of X G aCT, PySem.W.mg_of X G aC102, PySem.W.mg_of X G aC101, PySem.W.mg_none_of X G z_isinstance, kit_other iCC102 tCC102 (by decide +kernel)⟩,
      ⟨⟨⟨gaC101, ggC101, eCC101, hCC101⟩, haC101, hnA, htA, hmC101⟩, noC101_part, exm_two eCCT iCCT tCCT sC101T, kit_sub iCC102 tCC102 sCC102 sC12, kit_sub iCC101 tCC101 sCC101 sCC101⟩,
      ⟨⟨⟨gaC102, ggC102, eCC102, hCC102⟩, haC102, hnA, htA, hmC102⟩, noC102_part, exm_two eCCT iCCT tCCT sC102T, kit_sub iCC102 tCC102 sCC102 sCC102, kit_sub iCC101 tCC101 sCC101 sC21⟩⟩,
    ⟨f_part, .none, kV_part, dc_part, pm_part, cd_part, ct_part, oc_part, an_part, od_part, sl_part, PySem.W.mg_of X G a_part, k_part, l_part, c_part, b_part⟩⟩
  have hTab := own cLaw Pt _ _ _ _ _ _ l_law rfl rfl x_code x_tab
  refine ⟨PySem.W.fnOf "law" "law" (defArgs s_law) (defBody s_law) (defScope s_law) .none kV_law dc_law pm_law an_law (.ref cLaw) ct_law, [(cLaw, Pt)], spLawT K Pt, fun p hp => by cases List.mem_singleton.mp hp; exact hTab, fun p hp => by cases List.mem_singleton.mp hp; exact x_no, fun p hp => by cases List.mem_singleton.mp hp; exact code_hd X x_code x_tab x_vs (of_decide_eq_false x_ne), fun s v => .of_eq rfl,
    fun H a ns hl hb hT hS => ⟨a, ns, rfl, hS, hl, hb, hT (cLaw, Pt) List.mem_cons_self, fun _ => rfl⟩, fun base _ _ TBs => law_spT (cn := cn) (fun fu => ?_) hlaw⟩
  have C_is_integer : Cl l.prog w (gOf K mg cn) base 1 "is_integer" p_is_integer (d_is_integer fu) := ⟨⟨f_is_integer, _, ok_is_integer F_is_integer T, PySem.W.mg_of X G a_is_integer, k_is_integer, b_is_integer, fun us hl s => match us, hl with | [_], _ => .of_eq rfl⟩⟩
  have R_is_within : ClR l.prog w (gOf K mg cn) base 2 "is_within" p_is_within (d_is_within fu) := ⟨⟨f_is_within, _, ok_is_within F_is_within T C_is_integer, PySem.W.mg_of X G a_is_within, k_is_within, fun us hl s => match us, hl with | [_, _, _], _ => .of_eq rfl⟩⟩
  have C_is_within : Cl l.prog w (gOf K mg cn) base 2 "is_within" p_is_within (d_is_within fu) := ⟨⟨f_is_within, _, ok_is_within F_is_within T C_is_integer, PySem.W.mg_of X G a_is_within, k_is_within, b_is_within, fun us hl s => match us, hl with | [_, _, _], _ => .of_eq rfl⟩⟩
  have C_is_name : Cl l.prog w (gOf K mg cn) base 1 "is_name" p_is_name (d_is_name fu) := ⟨⟨f_is_name, _, ok_is_name F_is_name T, PySem.W.mg_of X G a_is_name, k_is_name, b_is_name, fun us hl s => match us, hl with | [_], _ => .of_eq rfl⟩⟩
  have C_are_integers : Cl l.prog w (gOf K mg cn) base 2 "are_integers" p_are_integers (d_are_integers fu) := ⟨⟨f_are_integers, _, ok_are_integers F_are_integers T C_is_integer, PySem.W.mg_of X G a_are_integers, k_are_integers, b_are_integers, fun us hl s => match us, hl with | [_], _ => .of_eq rfl⟩⟩
  have C_measure : Cl l.prog w (gOf K mg cn) base 1 "measure" p_measure (d_measure fu) := ⟨⟨f_measure, _, ok_measure F_measure T, PySem.W.mg_of X G a_measure, k_measure, b_measure, fun us hl s => match us, hl with | [_], _ => .of_eq rfl⟩⟩
  have C_is_ratio : Cl l.prog w (gOf K mg cn) base 3 "is_ratio" p_is_ratio (d_is_ratio fu) := ⟨⟨f_is_ratio, _, ok_is_ratio F_is_ratio T C_are_integers C_measure, PySem.W.mg_of X G a_is_ratio, k_is_ratio, b_is_ratio, fun us hl s => match us, hl with | [_], _ => .of_eq rfl⟩⟩
  have C_is_lot : Cl l.prog w (gOf K mg cn) base 3 "is_lot" p_is_lot (d_is_lot fu) := ⟨⟨f_is_lot, _, ok_is_lot F_is_lot T C_are_integers, PySem.W.mg_of X G a_is_lot, k_is_lot, b_is_lot, fun us hl s => match us, hl with | [_, _], _ => .of_eq rfl⟩⟩
  have C_first_twice : Cl l.prog w (gOf K mg cn) base 1 "first_twice" p_first_twice (d_first_twice fu) := ⟨⟨f_first_twice, _, K01s.ok_first_twice (g := gOf K mg cn) F_first_twice (PySem.W.mg_none_of X G z_set), PySem.W.mg_of X G a_first_twice, k_first_twice, b_first_twice, fun us hl s => match us, hl with | [_], _ => .of_eq rfl⟩⟩
  have C_need_number : Cl l.prog w (gOf K mg cn) base 3 "need_number" p_need_number (d_need_number fu) := ⟨⟨f_need_number, _, ok_need_number F_need_number T C_is_within, PySem.W.mg_of X G a_need_number, k_need_number, b_need_number, fun us hl s => match us, hl with | [_, _, _, _], _ => .of_eq rfl⟩⟩
  have C_need_numbers : Cl l.prog w (gOf K mg cn) base 3 "need_numbers" p_need_numbers (d_need_numbers fu) := ⟨⟨f_need_numbers, _, ok_need_numbers F_need_numbers T C_are_integers, PySem.W.mg_of X G a_need_numbers, k_need_numbers, b_need_numbers, fun us hl s => match us, hl with | [_, _], _ => .of_eq rfl⟩⟩
  have C_need_ratio : Cl l.prog w (gOf K mg cn) base 4 "need_ratio" p_need_ratio (d_need_ratio fu) := ⟨⟨f_need_ratio, _, ok_need_ratio F_need_ratio T C_is_ratio, PySem.W.mg_of X G a_need_ratio, k_need_ratio, b_need_ratio, fun us hl s => match us, hl with | [_, _], _ => .of_eq rfl⟩⟩
  have C_common_divisor : Cl l.prog w (gOf K mg cn) base 4 "common_divisor" p_common_divisor (d_common_divisor fu) := ⟨⟨f_common_divisor, _, ok_common_divisor F_common_divisor T C_measure C_need_numbers, PySem.W.mg_of X G a_common_divisor, k_common_divisor, b_common_divisor, fun us hl s => match us, hl with | [_], _ => .of_eq rfl⟩⟩
  have C_in_lowest : Cl l.prog w (gOf K mg cn) base 2 "in_lowest" p_in_lowest (d_in_lowest fu) := ⟨⟨f_in_lowest, _, ok_in_lowest F_in_lowest T C_measure, PySem.W.mg_of X G a_in_lowest, k_in_lowest, b_in_lowest, fun us hl s => match us, hl with | [_, _], _ => .of_eq rfl⟩⟩
  have C_lowest : Cl l.prog w (gOf K mg cn) base 4 "lowest" p_lowest (d_lowest fu) := ⟨⟨f_lowest, _, ok_lowest F_lowest T C_need_number C_in_lowest, PySem.W.mg_of X G a_lowest, k_lowest, b_lowest, fun us hl s => match us, hl with | [_, _], _ => .of_eq rfl⟩⟩
  have C_difference : Cl l.prog w (gOf K mg cn) base 1 "difference" p_difference (d_difference fu) := ⟨⟨f_difference, _, ok_difference F_difference T, PySem.W.mg_of X G a_difference, k_difference, b_difference, fun us hl s => match us, hl with | [_, _], _ => .of_eq rfl⟩⟩
  have C_compared : Cl l.prog w (gOf K mg cn) base 5 "compared" p_compared (d_compared fu) := ⟨⟨f_compared, _, ok_compared F_compared T C_need_ratio C_difference, PySem.W.mg_of X G a_compared, k_compared, b_compared, fun us hl s => match us, hl with | [_, _], _ => .of_eq rfl⟩⟩
  have C__law_bag : Cl l.prog w (gOf K mg cn) base 1 "_law_bag" p__law_bag (d__law_bag fu) := ⟨⟨f__law_bag, _, ok__law_bag F__law_bag T, PySem.W.mg_of X G a__law_bag, k__law_bag, b__law_bag, fun us hl s => match us, hl with | [_], _ => .of_eq rfl⟩⟩
  have C__law_pull : Cl l.prog w (gOf K mg cn) base 1 "_law_pull" p__law_pull (d__law_pull fu) := ⟨⟨f__law_pull, _, ok__law_pull F__law_pull T, PySem.W.mg_of X G a__law_pull, k__law_pull, b__law_pull, fun us hl s => match us, hl with | [_, _], _ => .of_eq rfl⟩⟩
  have C__law_take : Cl l.prog w (gOf K mg cn) base 2 "_law_take" p__law_take (d__law_take fu) := ⟨⟨f__law_take, _, ok__law_take F__law_take T C__law_pull, PySem.W.mg_of X G a__law_take, k__law_take, b__law_take, fun us hl s => match us, hl with | [_, _], _ => .of_eq rfl⟩⟩
  have C__law_integer : Cl l.prog w (gOf K mg cn) base 3 "_law_integer" p__law_integer (d__law_integer fu) := ⟨⟨f__law_integer, _, ok__law_integer F__law_integer T C__law_pull C__law_take, PySem.W.mg_of X G a__law_integer, k__law_integer, b__law_integer, fun us hl s => match us, hl with | [_], _ => .of_eq rfl⟩⟩
  have C__law_value : Cl l.prog w (gOf K mg cn) base 4 "_law_value" p__law_value (d__law_value fu) := ⟨⟨f__law_value, _, ok__law_value F__law_value T C__law_take C__law_integer, PySem.W.mg_of X G a__law_value, k__law_value, b__law_value, fun us hl s => match us, hl with | [_], _ => .of_eq rfl⟩⟩
  have C__law_same : Cl l.prog w (gOf K mg cn) base 1 "_law_same" p__law_same (d__law_same fu) := ⟨⟨f__law_same, _, ok__law_same F__law_same T, PySem.W.mg_of X G a__law_same, k__law_same, b__law_same, fun us hl s => match us, hl with | [_, _], _ => .of_eq rfl⟩⟩
  have C__law_integers_right : Cl l.prog w (gOf K mg cn) base 5 "_law_integers_right" p__law_integers_right (d__law_integers_right fu) := ⟨⟨f__law_integers_right, _, ok__law_integers_right F__law_integers_right T C_is_integer R_is_within C_is_within C_are_integers C__law_pull C__law_integer C__law_value C__law_same, PySem.W.mg_of X G a__law_integers_right, k__law_integers_right, b__law_integers_right, fun us hl s => match us, hl with | [_], _ => .of_eq rfl⟩⟩
  have C__law_names_right : Cl l.prog w (gOf K mg cn) base 5 "_law_names_right" p__law_names_right (d__law_names_right fu) := ⟨⟨f__law_names_right, _, ok__law_names_right F__law_names_right T C_is_name C__law_pull C__law_take C__law_value C__law_same, PySem.W.mg_of X G a__law_names_right, k__law_names_right, b__law_names_right, fun us hl s => match us, hl with | [_], _ => .of_eq rfl⟩⟩
  have C__law_lots_right : Cl l.prog w (gOf K mg cn) base 4 "_law_lots_right" p__law_lots_right (d__law_lots_right fu) := ⟨⟨f__law_lots_right, _, ok__law_lots_right F__law_lots_right T C_is_lot C__law_pull C__law_take C__law_same, PySem.W.mg_of X G a__law_lots_right, k__law_lots_right, b__law_lots_right, fun us hl s => match us, hl with | [_], _ => .of_eq rfl⟩⟩
  have C__law_divides : Cl l.prog w (gOf K mg cn) base 1 "_law_divides" p__law_divides (d__law_divides fu) := ⟨⟨f__law_divides, _, ok__law_divides F__law_divides T, PySem.W.mg_of X G a__law_divides, k__law_divides, b__law_divides, fun us hl s => match us, hl with | [_, _], _ => .of_eq rfl⟩⟩
  have C__law_measure : Cl l.prog w (gOf K mg cn) base 2 "_law_measure" p__law_measure (d__law_measure fu) := ⟨⟨f__law_measure, _, ok__law_measure F__law_measure T C__law_divides, PySem.W.mg_of X G a__law_measure, k__law_measure, b__law_measure, fun us hl s => match us, hl with | [_], _ => .of_eq rfl⟩⟩
  have C__law_divisors_right : Cl l.prog w (gOf K mg cn) base 5 "_law_divisors_right" p__law_divisors_right (d__law_divisors_right fu) := ⟨⟨f__law_divisors_right, _, ok__law_divisors_right F__law_divisors_right T C_is_integer C_common_divisor C__law_pull C__law_measure, PySem.W.mg_of X G a__law_divisors_right, k__law_divisors_right, b__law_divisors_right, fun us hl s => match us, hl with | [_], _ => .of_eq rfl⟩⟩
  have C__law_ratios_right : Cl l.prog w (gOf K mg cn) base 5 "_law_ratios_right" p__law_ratios_right (d__law_ratios_right fu) := ⟨⟨f__law_ratios_right, _, ok__law_ratios_right F__law_ratios_right T C_is_ratio C_lowest C__law_pull C__law_take C__law_same C__law_measure, PySem.W.mg_of X G a__law_ratios_right, k__law_ratios_right, b__law_ratios_right, fun us hl s => match us, hl with | [_], _ => .of_eq rfl⟩⟩
  have C__law_compared_right : Cl l.prog w (gOf K mg cn) base 6 "_law_compared_right" p__law_compared_right (d__law_compared_right fu) := ⟨⟨f__law_compared_right, _, ok__law_compared_right F__law_compared_right T C_is_integer C_lowest C_compared C__law_pull C__law_take, PySem.W.mg_of X G a__law_compared_right, k__law_compared_right, b__law_compared_right, fun us hl s => match us, hl with | [_], _ => .of_eq rfl⟩⟩
  have C__law_twice_right : Cl l.prog w (gOf K mg cn) base 2 "_law_twice_right" p__law_twice_right (d__law_twice_right fu) := ⟨⟨f__law_twice_right, _, ok__law_twice_right F__law_twice_right T C_first_twice C__law_pull, PySem.W.mg_of X G a__law_twice_right, k__law_twice_right, b__law_twice_right, fun us hl s => match us, hl with | [_], _ => .of_eq rfl⟩⟩
  exact ok_law l_law c_law (TBs (cLaw, Pt) List.mem_cons_self) T PA C_common_divisor C_lowest C_compared C__law_bag C__law_take C__law_value C__law_integers_right C__law_names_right C__law_lots_right C__law_divisors_right C__law_ratios_right C__law_compared_right C__law_twice_right
end K01
open PySem PySem.W PyProof.Rows in
set_option maxRecDepth 100000 in
set_option maxHeartbeats 0 in
theorem PySem.Challenge.cw_thincoins_k01_checks_of_any_value_holds : PySem.Challenge.rw_thincoins_k01_checks_of_any_value.Holds := by
  w_on; o_law; k_head; (case hw => w_witness2)
  k_fill
  refine LamX.walk_ofOwn (l := PySem.Challenge.rw_thincoins_k01_checks_of_any_value) (n := 63) (k := 8) (x := "_law_script") (CX := fun w => L2.CX (PySem.Challenge.rw_thincoins_k01_checks_of_any_value).prog w) rfl (by decide) rfl ⟨rfl, by decide, by decide⟩ (by decide +kernel) (fun w h Y => PySem.W.km_in_of Y) ?F ?C
  case C => exact fun _ _ _ _ _ ⟨_, _, _, _, _, _, _, _, _, _, _, _, z⟩ => z
  case F =>
    intro w mg fa h Y KX G hmg own
    refine' K01.all_mk KX G hmg ?aC101 ?xLC101 ?saC101 ?gaC101 ?ggC101 ?noC101_part ?iC101 ?tC101 ?lC101 ?cC101 ?kfC101 ?kCC101 ?eCC101 ?tCC101 ?hCC101 ?iCC101 ?sCC101 ?aC102 ?xLC102 ?saC102 ?gaC102 ?ggC102 ?noC102_part ?iC102 ?tC102 ?lC102 ?cC102 ?kfC102 ?kCC102 ?eCC102 ?tCC102 ?hCC102 ?iCC102 ?sCC102 ?z_abs ?z_all ?z_bool ?z_enumerate ?z_int ?z_isinstance ?z_len ?z_list ?z_max ?z_range ?z_str ?z_tuple ?z_zip ?v_DIGITS ?v_LETTERS ?v_LONGEST ?z_set ?aCT ?eCCT ?iCCT ?tCCT ?hnA ?htA ?haC101 ?hmC101 ?sC101T ?haC102 ?hmC102 ?sC102T ?sC12 ?sC21 ?a_part ?l_part ?c_part ?k_part ?a_law ?l_law ?c_law ?x_code ?x_tab ?x_vs ?x_no ?x_ne ?a_is_integer ?l_is_integer ?c_is_integer ?k_is_integer ?a_is_within ?l_is_within ?c_is_within ?k_is_within ?a_is_name ?l_is_name ?c_is_name ?k_is_name ?a_are_integers ?l_are_integers ?c_are_integers ?k_are_integers ?a_measure ?l_measure ?c_measure ?k_measure ?a_is_ratio ?l_is_ratio ?c_is_ratio ?k_is_ratio ?a_is_lot ?l_is_lot ?c_is_lot ?k_is_lot ?a_first_twice ?l_first_twice ?c_first_twice ?k_first_twice ?a_need_number ?l_need_number ?c_need_number ?k_need_number ?a_need_numbers ?l_need_numbers ?c_need_numbers ?k_need_numbers ?a_need_ratio ?l_need_ratio ?c_need_ratio ?k_need_ratio ?a_common_divisor ?l_common_divisor ?c_common_divisor ?k_common_divisor ?a_in_lowest ?l_in_lowest ?c_in_lowest ?k_in_lowest ?a_lowest ?l_lowest ?c_lowest ?k_lowest ?a_difference ?l_difference ?c_difference ?k_difference ?a_compared ?l_compared ?c_compared ?k_compared ?a__law_bag ?l__law_bag ?c__law_bag ?k__law_bag ?a__law_pull ?l__law_pull ?c__law_pull ?k__law_pull ?a__law_take ?l__law_take ?c__law_take ?k__law_take ?a__law_integer ?l__law_integer ?c__law_integer ?k__law_integer ?a__law_value ?l__law_value ?c__law_value ?k__law_value ?a__law_same ?l__law_same ?c__law_same ?k__law_same ?a__law_integers_right ?l__law_integers_right ?c__law_integers_right ?k__law_integers_right ?a__law_names_right ?l__law_names_right ?c__law_names_right ?k__law_names_right ?a__law_lots_right ?l__law_lots_right ?c__law_lots_right ?k__law_lots_right ?a__law_divides ?l__law_divides ?c__law_divides ?k__law_divides ?a__law_measure ?l__law_measure ?c__law_measure ?k__law_measure ?a__law_divisors_right ?l__law_divisors_right ?c__law_divisors_right ?k__law_divisors_right ?a__law_ratios_right ?l__law_ratios_right ?c__law_ratios_right ?k__law_ratios_right ?a__law_compared_right ?l__law_compared_right ?c__law_compared_right ?k__law_compared_right ?a__law_twice_right ?l__law_twice_right ?c__law_twice_right ?k__law_twice_right ?hlaw own
    (case hlaw => exact K01.math)
    (case aC101 => k_is)
    (case xLC101 => k_is)
    (case saC101 => k_is)
    (case gaC101 => k_is)
    (case ggC101 => k_is)
    (case noC101_part => k_is)
    (case iC101 => k_is)
    (case tC101 => k_is)
    (case lC101 => k_is)
    (case cC101 => k_is)
    (case kfC101 => k_is)
    (case kCC101 => k_is)
    (case eCC101 => k_is)
    (case tCC101 => k_is)
    (case hCC101 => k_is)
    (case iCC101 => k_is)
    (case sCC101 => k_is)
    (case aC102 => k_is)
    (case xLC102 => k_is)
    (case saC102 => k_is)
    (case gaC102 => k_is)
    (case ggC102 => k_is)
    (case noC102_part => k_is)
    (case iC102 => k_is)
    (case tC102 => k_is)
    (case lC102 => k_is)
    (case cC102 => k_is)
    (case kfC102 => k_is)
    (case kCC102 => k_is)
    (case eCC102 => k_is)
    (case tCC102 => k_is)
    (case hCC102 => k_is)
    (case iCC102 => k_is)
    (case sCC102 => k_is)
    (case z_abs => k_is)
    (case z_all => k_is)
    (case z_bool => k_is)
    (case z_enumerate => k_is)
    (case z_int => k_is)
    (case z_isinstance => k_is)
    (case z_len => k_is)
    (case z_list => k_is)
    (case z_max => k_is)
    (case z_range => k_is)
    (case z_str => k_is)
    (case z_tuple => k_is)
    (case z_zip => k_is)
    (case v_DIGITS => k_is)
    (case v_LETTERS => k_is)
    (case v_LONGEST => k_is)
    (case z_set => k_is)
    (case aCT => k_is)
    (case eCCT => k_is)
    (case iCCT => k_is)
    (case tCCT => k_is)
    (case hnA => k_is)
    (case htA => k_is)
    (case haC101 => k_is)
    (case hmC101 => k_is)
    (case sC101T => k_is)
    (case haC102 => k_is)
    (case hmC102 => k_is)
    (case sC102T => k_is)
    (case sC12 => k_is)
    (case sC21 => k_is)
    (case a_part => k_is)
    (case l_part => k_is)
    (case c_part => k_is)
    (case k_part => k_is)
    (case a_law => k_is)
    (case l_law => k_is)
    (case c_law => k_is)
    (case x_code => k_is)
    (case x_tab => first | rfl | decide +kernel)
    (case x_vs => first | rfl | decide +kernel)
    (case x_no => first | rfl | decide +kernel)
    (case x_ne => first | rfl | decide +kernel)
    (case a_is_integer => k_is)
    (case l_is_integer => k_is)
    (case c_is_integer => k_is)
    (case k_is_integer => k_is)
    (case a_is_within => k_is)
    (case l_is_within => k_is)
    (case c_is_within => k_is)
    (case k_is_within => k_is)
    (case a_is_name => k_is)
    (case l_is_name => k_is)
    (case c_is_name => k_is)
    (case k_is_name => k_is)
    (case a_are_integers => k_is)
    (case l_are_integers => k_is)
    (case c_are_integers => k_is)
    (case k_are_integers => k_is)
    (case a_measure => k_is)
    (case l_measure => k_is)
    (case c_measure => k_is)
    (case k_measure => k_is)
    (case a_is_ratio => k_is)
    (case l_is_ratio => k_is)
    (case c_is_ratio => k_is)
    (case k_is_ratio => k_is)
    (case a_is_lot => k_is)
    (case l_is_lot => k_is)
    (case c_is_lot => k_is)
    (case k_is_lot => k_is)
    (case a_first_twice => k_is)
    (case l_first_twice => k_is)
    (case c_first_twice => k_is)
    (case k_first_twice => k_is)
    (case a_need_number => k_is)
    (case l_need_number => k_is)
    (case c_need_number => k_is)
    (case k_need_number => k_is)
    (case a_need_numbers => k_is)
    (case l_need_numbers => k_is)
    (case c_need_numbers => k_is)
    (case k_need_numbers => k_is)
    (case a_need_ratio => k_is)
    (case l_need_ratio => k_is)
    (case c_need_ratio => k_is)
    (case k_need_ratio => k_is)
    (case a_common_divisor => k_is)
    (case l_common_divisor => k_is)
    (case c_common_divisor => k_is)
    (case k_common_divisor => k_is)
    (case a_in_lowest => k_is)
    (case l_in_lowest => k_is)
    (case c_in_lowest => k_is)
    (case k_in_lowest => k_is)
    (case a_lowest => k_is)
    (case l_lowest => k_is)
    (case c_lowest => k_is)
    (case k_lowest => k_is)
    (case a_difference => k_is)
    (case l_difference => k_is)
    (case c_difference => k_is)
    (case k_difference => k_is)
    (case a_compared => k_is)
    (case l_compared => k_is)
    (case c_compared => k_is)
    (case k_compared => k_is)
    (case a__law_bag => k_is)
    (case l__law_bag => k_is)
    (case c__law_bag => k_is)
    (case k__law_bag => k_is)
    (case a__law_pull => k_is)
    (case l__law_pull => k_is)
    (case c__law_pull => k_is)
    (case k__law_pull => k_is)
    (case a__law_take => k_is)
    (case l__law_take => k_is)
    (case c__law_take => k_is)
    (case k__law_take => k_is)
    (case a__law_integer => k_is)
    (case l__law_integer => k_is)
    (case c__law_integer => k_is)
    (case k__law_integer => k_is)
    (case a__law_value => k_is)
    (case l__law_value => k_is)
    (case c__law_value => k_is)
    (case k__law_value => k_is)
    (case a__law_same => k_is)
    (case l__law_same => k_is)
    (case c__law_same => k_is)
    (case k__law_same => k_is)
    (case a__law_integers_right => k_is)
    (case l__law_integers_right => k_is)
    (case c__law_integers_right => k_is)
    (case k__law_integers_right => k_is)
    (case a__law_names_right => k_is)
    (case l__law_names_right => k_is)
    (case c__law_names_right => k_is)
    (case k__law_names_right => k_is)
    (case a__law_lots_right => k_is)
    (case l__law_lots_right => k_is)
    (case c__law_lots_right => k_is)
    (case k__law_lots_right => k_is)
    (case a__law_divides => k_is)
    (case l__law_divides => k_is)
    (case c__law_divides => k_is)
    (case k__law_divides => k_is)
    (case a__law_measure => k_is)
    (case l__law_measure => k_is)
    (case c__law_measure => k_is)
    (case k__law_measure => k_is)
    (case a__law_divisors_right => k_is)
    (case l__law_divisors_right => k_is)
    (case c__law_divisors_right => k_is)
    (case k__law_divisors_right => k_is)
    (case a__law_ratios_right => k_is)
    (case l__law_ratios_right => k_is)
    (case c__law_ratios_right => k_is)
    (case k__law_ratios_right => k_is)
    (case a__law_compared_right => k_is)
    (case l__law_compared_right => k_is)
    (case c__law_compared_right => k_is)
    (case k__law_compared_right => k_is)
    (case a__law_twice_right => k_is)
    (case l__law_twice_right => k_is)
    (case c__law_twice_right => k_is)
    (case k__law_twice_right => k_is)
#print axioms PySem.Challenge.cw_thincoins_k01_checks_of_any_value_holds

