import PyProof.Rows.All
import Wide.All
import OpenK.AllK
import Wide.FinOn
import HandS.ForMost
import HandS.ForExc
import HandS.Star
import HandS.Defaults
import HandS.IsInst
import HandS.Wide
import HandS.Flow
import HandS.CallSlots
import HandS.ExcInit
import HandS.ExcField
import HandS.Evl
import HandS.TupAny
import HandS.TupMul
import HandS.Style
import HandS.WideBits
import HandS.Zip
import KE.GoesEnum
import KE.DatumOrd
import HandS.SortKw
import PySem.Challenge.RW_thincoins_k30_above_from_some_m_on
import HandS.EndBits
set_option Elab.async false
set_option linter.all false
set_option autoImplicit false
set_option maxRecDepth 100000
set_option maxHeartbeats 1000000
namespace TW
open PySem PySem.Spec PyProof.Rows L2

/-! ## data -/
inductive D where
  | non | bl (b : Bool) | int (i : Int) | str (x : Str)
  | tup (ds : List D) | lst (ds : List D) | arg (ds : List D)
  | obj (c : Nat) (ds : List D)
  | exc (a : Nat) (x : Option Nat) (c : Nat) (ds : List D)
inductive Sl where
  | no | v (d : D) | l (ds : List D) | o (c : Nat) (ds : List D)
abbrev S := List Sl
inductive Out (α : Type) where
  | ok (a : α) (s : S) | ex (c : Nat) (ds : List D) (s : S) | bad
abbrev M (α : Type) := S → Out α
@[inline] def mret {α : Type} (a : α) : M α := fun s => .ok a s
def mbind {α β : Type} (f : M α) (k : α → M β) : M β := fun s => match f s with
  | .ok a s' => k a s'
  | .ex c ds s' => .ex c ds s'
  | .bad => .bad
def mbad {α : Type} : M α := fun _ => .bad
def mopt {α : Type} : Option α → M α
  | some a => mret a
  | none => mbad

/-- the text's classes and attributes, by numbers -/
structure G where
  K : PySem.W.Frag
  mg : Str → Option Value
  cn : Nat → Addr
  names : Nat → List Str

mutual
def Den (g : G) (B : Hp) : D → V → Prop
  | .non, v => v = .non
  | .bl b, v => v = .bl b
  | .int i, v => v = .int i
  | .str x, v => v = .str x
  | .tup ds, v => ∃ a vs, v = .ref a ∧ SqT g.K B a vs ∧ Dens g B ds vs
  | .lst ds, v => ∃ a vs, v = .ref a ∧ B a = some (.lst vs) ∧ Dens g B ds vs
  | .arg ds, v => ∃ a vs, v = .ref a ∧ SqL g.K B a vs ∧ Dens g B ds vs
  | .obj c ds, v => ∃ a dx vs, v = .ref a ∧ B a = some (.ins (g.cn c) dx ((g.names c).zip vs)) ∧ Dens g B ds vs
  | .exc a x c ds, v => v = .ref a ∧ (ds = [] ∨ ∃ dx fs vs, x = some dx ∧ B dx = some (.xd fs) ∧ Dens g B ds vs ∧ ∀ (j : Nat) (f : Str) (v : V), (g.names c)[j]? = some f → vs[j]? = some v → fs.lookup f = some v)
def Dens (g : G) (B : Hp) : List D → List V → Prop
  | [], vs => vs = []
  | d :: ds, vs => ∃ v r, vs = v :: r ∧ Den g B d v ∧ Dens g B ds r
end

abbrev Ex := Evl.Ex
variable {g : G} {B B' H H' : Hp}

theorem Ex.rfl' : Ex B B := Evl.Ex.refl B

mutual
theorem Den.mono (e : Ex B B') : ∀ {d : D} {v : V}, Den g B d v → Den g B' d v
  | .non, _, h => h
  | .bl _, _, h => h
  | .int _, _, h => h
  | .str _, _, h => h
  | .tup ds, _, ⟨a, vs, e1, h1, h2⟩ => ⟨a, vs, e1, Evl.ex_t e h1, Dens.mono e h2⟩
  | .lst ds, _, ⟨a, vs, e1, h1, h2⟩ => ⟨a, vs, e1, e _ _ h1, Dens.mono e h2⟩
  | .arg ds, _, ⟨a, vs, e1, h1, h2⟩ => ⟨a, vs, e1, Evl.ex_l e h1, Dens.mono e h2⟩
  | .obj c ds, _, ⟨a, dx, vs, e1, h1, h3⟩ => ⟨a, dx, vs, e1, e _ _ h1, Dens.mono e h3⟩
  | .exc a x c ds, _, ⟨e1, .inl h⟩ => ⟨e1, .inl h⟩
  | .exc a x c ds, _, ⟨e1, .inr ⟨dx, fs, vs, h1, h2, h3, h4⟩⟩ => ⟨e1, .inr ⟨dx, fs, vs, h1, e _ _ h2, Dens.mono e h3, h4⟩⟩
theorem Dens.mono (e : Ex B B') : ∀ {ds : List D} {vs : List V}, Dens g B ds vs → Dens g B' ds vs
  | [], _, h => h
  | d :: ds, _, ⟨v, r, e1, h1, h2⟩ => ⟨v, r, e1, Den.mono e h1, Dens.mono e h2⟩
end

theorem Dens.length : ∀ {ds : List D} {vs : List V}, Dens g B ds vs → vs.length = ds.length
  | [], _, h => by cases h; rfl
  | d :: ds, _, ⟨v, r, e1, h1, h2⟩ => by subst e1; simp [Dens.length h2]
theorem Dens.get : ∀ {ds : List D} {vs : List V} {i : Nat} {d : D}, Dens g B ds vs → ds[i]? = some d → ∃ v, vs[i]? = some v ∧ Den g B d v
  | [], _, i, d, h, e => by simp at e
  | d :: ds, _, 0, d', ⟨v, r, e1, h1, h2⟩, e => by
    simp at e; subst e; subst e1; exact ⟨v, rfl, h1⟩
  | d :: ds, _, i + 1, d', ⟨v, r, e1, h1, h2⟩, e => by
    subst e1
    have := Dens.get (i := i) h2 (by simpa using e)
    simpa using this
theorem Dens.cons {d : D} {v : V} {ds : List D} {vs : List V} (h : Den g B d v) (hs : Dens g B ds vs) : Dens g B (d :: ds) (v :: vs) := ⟨v, vs, rfl, h, hs⟩
theorem Dens.nil : Dens g B [] [] := rfl
theorem Dens.append : ∀ {ds es : List D} {vs us : List V}, Dens g B ds vs → Dens g B es us → Dens g B (ds ++ es) (vs ++ us)
  | [], _, _, _, h, h' => by cases h; exact h'
  | d :: ds, _, _, _, ⟨v, r, e1, h1, h2⟩, h' => by subst e1; exact ⟨v, _, rfl, h1, Dens.append h2 h'⟩
theorem Dens.take (n : Nat) : ∀ {ds : List D} {vs : List V}, Dens g B ds vs → Dens g B (ds.take n) (vs.take n) := by
  induction n with
  | zero => intro ds vs h; simp [Dens]
  | succ n ih =>
    intro ds vs h
    cases ds with
    | nil => cases h; simp [Dens]
    | cons d ds => obtain ⟨v, r, e1, h1, h2⟩ := h; subst e1; exact ⟨v, _, rfl, h1, ih h2⟩
theorem Dens.drop (n : Nat) : ∀ {ds : List D} {vs : List V}, Dens g B ds vs → Dens g B (ds.drop n) (vs.drop n) := by
  induction n with
  | zero => intro ds vs h; simpa using h
  | succ n ih =>
    intro ds vs h
    cases ds with
    | nil => cases h; simp [Dens]
    | cons d ds => obtain ⟨v, r, e1, h1, h2⟩ := h; subst e1; simpa using ih h2
theorem Dens.set {d : D} {v : V} (h : Den g B d v) : ∀ (i : Nat) {ds : List D} {vs : List V}, Dens g B ds vs → Dens g B (ds.set i d) (vs.set i v)
  | _, [], _, hs => by cases hs; simp [Dens]
  | 0, d' :: ds, _, ⟨v', r, e1, h1, h2⟩ => by subst e1; exact ⟨v, r, rfl, h, h2⟩
  | i + 1, d' :: ds, _, ⟨v', r, e1, h1, h2⟩ => by subst e1; exact ⟨v', _, rfl, h1, Dens.set h i h2⟩
theorem Dens.reverse : ∀ {ds : List D} {vs : List V}, Dens g B ds vs → Dens g B ds.reverse vs.reverse
  | [], _, h => by cases h; simp [Dens]
  | d :: ds, _, ⟨v, r, e1, h1, h2⟩ => by
    subst e1; rw [List.reverse_cons, List.reverse_cons]; exact Dens.append (Dens.reverse h2) (Dens.cons h1 Dens.nil)

/-- the value now: a list's, an instance's own top stands in H, what is within in B -/
def DenW (g : G) (B H : Hp) : D → V → Prop
  | .lst ds, v => ∃ a vs, v = .ref a ∧ H a = some (.lst vs) ∧ Dens g B ds vs
  | .obj c ds, v => ∃ a dx vs, v = .ref a ∧ H a = some (.ins (g.cn c) dx ((g.names c).zip vs)) ∧ Dens g B ds vs
  | d, v => Den g B d v
theorem Den.w (e : Ex B H) {d : D} {v : V} (h : Den g B d v) : DenW g B H d v := by
  cases d with
  | lst ds => obtain ⟨a, vs, e1, h1, h2⟩ := h; exact ⟨a, vs, e1, e _ _ h1, h2⟩
  | obj c ds => obtain ⟨a, dx, vs, e1, h1, h3⟩ := h; exact ⟨a, dx, vs, e1, e _ _ h1, h3⟩
  | _ => exact h

/-! ## states -/
/-- a def's run: what stood at its entry, where the lists and instances stand that it may change for its caller -/
structure Tx where
  B0 : Hp
  H0 : Hp
  io : Nat → Option Addr
  τ : L2.St
  t : S
abbrev Tx.tmp (T : Tx) (τ : L2.St) (t : S) : Tx := { T with τ := τ, t := t }

def SlOk (g : G) (B H : Hp) : Sl → Option V → Prop
  | .no, _ => True
  | .v d, x => ∃ v, x = some v ∧ Den g B d v
  | .l ds, x => ∃ a vs, x = some (.ref a) ∧ B a = none ∧ H a = some (.lst vs) ∧ Dens g B ds vs
  | .o c ds, x => ∃ a dx vs, x = some (.ref a) ∧ B a = none ∧ H a = some (.ins (g.cn c) dx ((g.names c).zip vs)) ∧ Dens g B ds vs
def Sl.own : Sl → Bool
  | .l _ => true
  | .o _ _ => true
  | _ => false

structure Rel0 (g : G) (T : Tx) (B H : Hp) (σ : L2.St) (s : S) : Prop where
  b0 : Ex T.B0 B
  bh : Ex B H
  nw : ∀ a, T.H0 a ≠ none → B a = T.B0 a
  hh : ∀ a o, T.H0 a = some o → (∀ j, T.io j ≠ some a) → H a = some o
  dom : ∀ a, T.H0 a ≠ none → H a ≠ none
  len : σ.length = s.length
  sl : ∀ (i : Nat) (x : Sl) (y : Option V), s[i]? = some x → σ[i]? = some y → SlOk g B H x y
  nd : ∀ (i j : Nat) (x x' : Sl) (a : Addr), s[i]? = some x → s[j]? = some x' → x.own = true → x'.own = true → σ[i]? = some (some (.ref a)) → σ[j]? = some (some (.ref a)) → i = j
  iok : ∀ (j : Nat) (a : Addr), T.io j = some a → σ[j]? = some (some (.ref a)) ∧ ∃ x, s[j]? = some x ∧ x.own = true
  ow : ∀ (i : Nat) (x : Sl) (a : Addr), s[i]? = some x → x.own = true → σ[i]? = some (some (.ref a)) → T.H0 a = none ∨ ∃ j, T.io j = some a
end TW

set_option Elab.async false
set_option linter.all false
set_option autoImplicit false
set_option maxRecDepth 100000
set_option maxHeartbeats 1000000
namespace TW
open PySem PySem.Spec PyProof.Rows L2
variable {g : G} {T : Tx} {B B' H H' : Hp} {σ : L2.St} {s : S}

/-! ## Rel0 -/
theorem Rel0.get (R : Rel0 g T B H σ s) {i : Nat} {x : Sl} (h : s[i]? = some x) : ∃ y, σ[i]? = some y ∧ SlOk g B H x y := by
  have hi : i < s.length := (List.getElem?_eq_some_iff.mp h).1
  have hs : i < σ.length := by rw [R.len]; exact hi
  exact ⟨σ[i], by simp [hs], R.sl i x _ h (by simp [hs])⟩
theorem Rel0.getv (R : Rel0 g T B H σ s) {i : Nat} {d : D} (h : s[i]? = some (.v d)) : ∃ v, σ[i]? = some (some v) ∧ Den g B d v := by
  obtain ⟨y, e, v, e1, h1⟩ := R.get h
  exact ⟨v, by rw [e, e1], h1⟩
theorem Rel0.getl (R : Rel0 g T B H σ s) {i : Nat} {ds : List D} (h : s[i]? = some (.l ds)) : ∃ a vs, σ[i]? = some (some (.ref a)) ∧ B a = none ∧ H a = some (.lst vs) ∧ Dens g B ds vs := by
  obtain ⟨y, e, a, vs, e1, h1, h2, h3⟩ := R.get h
  exact ⟨a, vs, by rw [e, e1], h1, h2, h3⟩
theorem Rel0.geto (R : Rel0 g T B H σ s) {i c : Nat} {ds : List D} (h : s[i]? = some (.o c ds)) : ∃ a dx vs, σ[i]? = some (some (.ref a)) ∧ B a = none ∧ H a = some (.ins (g.cn c) dx ((g.names c).zip vs)) ∧ Dens g B ds vs := by
  obtain ⟨y, e, a, dx, vs, e1, h1, h2, h3⟩ := R.get h
  exact ⟨a, dx, vs, by rw [e, e1], h1, h2, h3⟩
theorem Rel0.ownH (R : Rel0 g T B H σ s) {i : Nat} {x : Sl} {a : Addr} (h : s[i]? = some x) (ho : x.own = true) (ha : σ[i]? = some (some (.ref a))) : B a = none ∧ ∃ o, H a = some o := by
  cases x with
  | l ds => obtain ⟨b, vs, e, h1, h2, _⟩ := R.getl h; rw [ha] at e; cases e; exact ⟨h1, _, h2⟩
  | o c ds => obtain ⟨b, dx, vs, e, h1, h2, _⟩ := R.geto h; rw [ha] at e; cases e; exact ⟨h1, _, h2⟩
  | no => cases ho
  | v d => cases ho
/-- a slot's content, where B and H grow and its own object is kept -/
theorem SlOk.mono {x : Sl} {y : Option V} (h : SlOk g B H x y) (eB : Ex B B') (hn : ∀ a o, H a = some o → B a = none → B' a = none)
    (hk : ∀ a o, H a = some o → y = some (.ref a) → H' a = some o) : SlOk g B' H' x y := by
  cases x with
  | no => trivial
  | v d => obtain ⟨v, e, h1⟩ := h; exact ⟨v, e, h1.mono eB⟩
  | l ds =>
    obtain ⟨a, vs, e, h1, h2, h3⟩ := h
    exact ⟨a, vs, e, hn a _ h2 h1, hk a _ h2 e, h3.mono eB⟩
  | o c ds =>
    obtain ⟨a, dx, vs, e, h1, h2, h3⟩ := h
    exact ⟨a, dx, vs, e, hn a _ h2 h1, hk a _ h2 e, h3.mono eB⟩
/-- B and H grow by what H does not know -/
theorem Rel0.grow (R : Rel0 g T B H σ s) (eB : Ex B B') (eH : Ex H H') (eBH : Ex B' H') (hn : ∀ a, H a ≠ none → B' a = B a) : Rel0 g T B' H' σ s where
  b0 := R.b0.trans eB
  bh := eBH
  nw := fun a h => by rw [hn a (R.dom a h)]; exact R.nw a h
  hh := fun a o h hj => eH a o (R.hh a o h hj)
  dom := fun a h => by
    cases e : H a with
    | none => exact absurd e (R.dom a h)
    | some o => rw [eH a o e]; simp
  len := R.len
  sl := fun i x y hx hy => (R.sl i x y hx hy).mono eB (fun a o h hb => by rw [hn a (by rw [h]; simp)]; exact hb) fun a o h _ => eH a o h
  nd := R.nd
  iok := R.iok
  ow := R.ow
/-- a new object, laid and kept as data -/
theorem Rel0.new (R : Rel0 g T B H σ s) {p : Addr} {o : HO} (hp : H p = none) : Rel0 g T (upd B p o) (upd H p o) σ s := by
  have bp : B p = none := Evl.fresh_back R.bh hp
  refine R.grow (Evl.Ex.new bp) (Evl.Ex.new hp) (fun a u e => ?_) fun a h => ?_
  · by_cases z : a = p
    · subst z; rw [upd_same] at e ⊢; exact e
    · rw [upd_ne z] at e ⊢; exact R.bh a u e
  · have z : a ≠ p := fun z => h (by rw [z]; exact hp)
    rw [upd_ne z]
/-- a new object, not kept as data -/
theorem Rel0.newH (R : Rel0 g T B H σ s) {p : Addr} {o : HO} (hp : H p = none) : Rel0 g T B (upd H p o) σ s :=
  R.grow (Evl.Ex.refl B) (Evl.Ex.new hp) (R.bh.trans (Evl.Ex.new hp)) fun _ _ => rfl
/-- p is not known: not data, not of the entry, no slot's -/
structure Fsh0 (T : Tx) (B H : Hp) (σ : L2.St) (s : S) (p : Addr) (o : HO) : Prop where
  b : B p = none
  h0 : T.H0 p = none
  sl : ∀ (i : Nat) (x : Sl), s[i]? = some x → x.own = true → σ[i]? ≠ some (some (.ref p))
  at_ : H p = some o
theorem Rel0.h0_of (R : Rel0 g T B H σ s) {p : Addr} (hp : H p = none) : T.H0 p = none := by
  cases e : T.H0 p with
  | none => rfl
  | some o => exact absurd hp (R.dom p (by rw [e]; simp))
theorem Rel0.sl_of (R : Rel0 g T B H σ s) {p : Addr} (hp : H p = none) (i : Nat) (x : Sl) (h : s[i]? = some x) (ho : x.own = true) : σ[i]? ≠ some (some (.ref p)) := fun e => by
  obtain ⟨_, o, q⟩ := R.ownH h ho e
  rw [hp] at q; cases q
theorem Rel0.fsh (R : Rel0 g T B H σ s) {p : Addr} {o : HO} (hp : H p = none) : Fsh0 T B (upd H p o) σ s p o :=
  ⟨Evl.fresh_back R.bh hp, R.h0_of hp, R.sl_of hp, upd_same⟩
/-- what is fresh becomes data -/
theorem Rel0.freeze (R : Rel0 g T B H σ s) {p : Addr} {o : HO} (F : Fsh0 T B H σ s p o) : Rel0 g T (upd B p o) H σ s where
  b0 := R.b0.trans (Evl.Ex.new F.b)
  bh := fun a u e => by
    by_cases z : a = p
    · subst z; rw [upd_same] at e; cases e; exact F.at_
    · rw [upd_ne z] at e; exact R.bh a u e
  nw := fun a h => by
    have z : a ≠ p := fun z => h (by rw [z]; exact F.h0)
    rw [upd_ne z]; exact R.nw a h
  hh := R.hh
  dom := R.dom
  len := R.len
  sl := fun i x y hx hy => by
    have q := R.sl i x y hx hy
    have hσ := F.sl i x hx
    cases x with
    | no => trivial
    | v d => obtain ⟨v, e, h1⟩ := q; exact ⟨v, e, h1.mono (Evl.Ex.new F.b)⟩
    | l ds =>
      obtain ⟨a, vs, e, h1, h2, h3⟩ := q
      have z : a ≠ p := fun z => hσ rfl (by rw [hy, e, z])
      exact ⟨a, vs, e, by rw [upd_ne z]; exact h1, h2, h3.mono (Evl.Ex.new F.b)⟩
    | o c ds =>
      obtain ⟨a, dx, vs, e, h1, h2, h3⟩ := q
      have z : a ≠ p := fun z => hσ rfl (by rw [hy, e, z])
      exact ⟨a, dx, vs, e, by rw [upd_ne z]; exact h1, h2, h3.mono (Evl.Ex.new F.b)⟩
  nd := R.nd
  iok := R.iok
  ow := R.ow
/-- what is in an own slot is written -/
theorem Rel0.write (R : Rel0 g T B H σ s) {i : Nat} {x x' : Sl} {a : Addr} {o : HO} (hs : s[i]? = some x) (hx : x.own = true) (ha : σ[i]? = some (some (.ref a))) (hx' : x'.own = true)
    (new : SlOk g B (upd H a o) x' (some (.ref a))) : Rel0 g T B (upd H a o) σ (s.set i x') := by
  obtain ⟨b0, o0, h0⟩ := R.ownH hs hx ha
  have hi : i < s.length := (List.getElem?_eq_some_iff.mp hs).1
  have neB : ∀ b u, B b = some u → b ≠ a := fun b u e z => by rw [z, b0] at e; cases e
  have sets : ∀ j y, (s.set i x')[j]? = some y → (j = i ∧ y = x') ∨ (j ≠ i ∧ s[j]? = some y) := fun j y e => by
    by_cases z : j = i
    · subst z; rw [List.getElem?_set_self hi] at e; exact .inl ⟨rfl, (Option.some.inj e).symm⟩
    · rw [List.getElem?_set_ne (Ne.symm z)] at e; exact .inr ⟨z, e⟩
  refine ⟨R.b0, fun b u e => by rw [upd_ne (neB b u e)]; exact R.bh b u e, R.nw, fun b u e hj => ?_, fun b e => ?_, by simp [R.len], fun j y v hy hv => ?_, fun j k y y' b hy hy' ho ho' e1 e2 => ?_, fun j b hb => ?_, fun j y b hy ho e => ?_⟩
  · have q := R.hh b u e hj
    have z : b ≠ a := fun z => by
      subst z
      rcases R.ow i x b hs hx ha with z | ⟨j, z⟩
      · rw [z] at e; cases e
      · exact hj j z
    rw [upd_ne z]; exact q
  · by_cases z : b = a
    · rw [z, upd_same]; simp
    · rw [upd_ne z]; exact R.dom b e
  · rcases sets j y hy with ⟨rfl, rfl⟩ | ⟨z, hy⟩
    · rw [ha] at hv; cases hv; exact new
    · have q := R.sl j y v hy hv
      cases y with
      | no => trivial
      | v d => exact q
      | l ds =>
        obtain ⟨a', vs, e, h1, h2, h3⟩ := q
        have ne : a' ≠ a := fun w => z (R.nd j i _ _ a hy hs rfl hx (by rw [hv, e, w]) ha)
        exact ⟨a', vs, e, h1, by rw [upd_ne ne]; exact h2, h3⟩
      | o c ds =>
        obtain ⟨a', dx, vs, e, h1, h2, h3⟩ := q
        have ne : a' ≠ a := fun w => z (R.nd j i _ _ a hy hs rfl hx (by rw [hv, e, w]) ha)
        exact ⟨a', dx, vs, e, h1, by rw [upd_ne ne]; exact h2, h3⟩
  · have back : ∀ (j : Nat) (y : Sl), (s.set i x')[j]? = some y → y.own = true → ∃ y0 : Sl, s[j]? = some y0 ∧ y0.own = true := fun j y hy ho => by
      rcases sets j y hy with ⟨rfl, rfl⟩ | ⟨z, hy⟩
      · exact ⟨x, hs, hx⟩
      · exact ⟨y, hy, ho⟩
    obtain ⟨z1, q1, p1⟩ := back j y hy ho
    obtain ⟨z2, q2, p2⟩ := back k y' hy' ho'
    exact R.nd j k z1 z2 b q1 q2 p1 p2 e1 e2
  · obtain ⟨e, y, hy, ho⟩ := R.iok j b hb
    refine ⟨e, ?_⟩
    by_cases z : j = i
    · subst z; exact ⟨x', by rw [List.getElem?_set_self hi], hx'⟩
    · exact ⟨y, by rw [List.getElem?_set_ne (Ne.symm z)]; exact hy, ho⟩
  · rcases sets j y hy with ⟨rfl, rfl⟩ | ⟨z, hy⟩
    · exact R.ow j x b hs hx e
    · exact R.ow j y b hy ho e
theorem Rel0.wrl (R : Rel0 g T B H σ s) {i : Nat} {ds es : List D} {a : Addr} {us : List V} (hs : s[i]? = some (.l ds)) (ha : σ[i]? = some (some (.ref a))) (hd : Dens g B es us) : Rel0 g T B (upd H a (.lst us)) σ (s.set i (.l es)) :=
  R.write hs rfl ha rfl ⟨a, us, rfl, (R.ownH hs rfl ha).1, upd_same, hd⟩
/-- a slot is stored -/
theorem Rel0.store (R : Rel0 g T B H σ s) {i : Nat} {x : Sl} {v : V} (hio : T.io i = none) (ok : SlOk g B H x (some v))
    (hn : ∀ a, x.own = true → v = .ref a → (∀ (j : Nat) (y : Sl), s[j]? = some y → y.own = true → σ[j]? ≠ some (some (.ref a))) ∧ T.H0 a = none) : Rel0 g T B H (σ.set i (some v)) (s.set i x) := by
  have len := R.len
  have sets : ∀ j y, (s.set i x)[j]? = some y → (j = i ∧ y = x ∧ i < s.length) ∨ (j ≠ i ∧ s[j]? = some y) := fun j y e => by
    by_cases z : j = i
    · subst z
      by_cases hi : j < s.length
      · rw [List.getElem?_set_self hi] at e; exact .inl ⟨rfl, (Option.some.inj e).symm, hi⟩
      · rw [List.getElem?_eq_none (by simp; omega)] at e; cases e
    · rw [List.getElem?_set_ne (Ne.symm z)] at e; exact .inr ⟨z, e⟩
  have at_i : i < s.length → (σ.set i (some v))[i]? = some (some v) := fun hi => List.getElem?_set_self (by omega)
  refine ⟨R.b0, R.bh, R.nw, R.hh, R.dom, by simp [len], fun j y u hy hu => ?_, fun j k y y' b hy hy' ho ho' e1 e2 => ?_, fun j b hb => ?_, fun j y b hy ho e => ?_⟩
  · rcases sets j y hy with ⟨rfl, rfl, hi⟩ | ⟨z, hy⟩
    · rw [at_i hi] at hu; cases hu; exact ok
    · rw [List.getElem?_set_ne (Ne.symm z)] at hu; exact R.sl j y u hy hu
  · rcases sets j y hy with ⟨rfl, rfl, hi⟩ | ⟨z, hyj⟩
    · rw [at_i hi] at e1
      have ev : v = .ref b := Option.some.inj (Option.some.inj e1)
      rcases sets k y' hy' with ⟨rfl, _, _⟩ | ⟨z', hyk⟩
      · rfl
      · rw [List.getElem?_set_ne (Ne.symm z')] at e2; exact absurd e2 ((hn b ho ev).1 k y' hyk ho')
    · rw [List.getElem?_set_ne (Ne.symm z)] at e1
      rcases sets k y' hy' with ⟨rfl, rfl, hi⟩ | ⟨z', hyk⟩
      · rw [at_i hi] at e2
        have ev : v = .ref b := Option.some.inj (Option.some.inj e2)
        exact absurd e1 ((hn b ho' ev).1 j y hyj ho)
      · rw [List.getElem?_set_ne (Ne.symm z')] at e2
        exact R.nd j k y y' b hyj hyk ho ho' e1 e2
  · have z : j ≠ i := fun z => by rw [z, hio] at hb; cases hb
    obtain ⟨e, y, hy, ho⟩ := R.iok j b hb
    exact ⟨by rw [List.getElem?_set_ne (Ne.symm z)]; exact e, y, by rw [List.getElem?_set_ne (Ne.symm z)]; exact hy, ho⟩
  · rcases sets j y hy with ⟨rfl, rfl, hi⟩ | ⟨z, hy⟩
    · rw [at_i hi] at e
      have ev : v = .ref b := Option.some.inj (Option.some.inj e)
      exact .inl (hn b ho ev).2
    · rw [List.getElem?_set_ne (Ne.symm z)] at e; exact R.ow j y b hy ho e
theorem Rel0.storev (R : Rel0 g T B H σ s) {i : Nat} {d : D} {v : V} (hio : T.io i = none) (h : Den g B d v) : Rel0 g T B H (σ.set i (some v)) (s.set i (.v d)) :=
  R.store hio ⟨v, rfl, h⟩ fun _ z => by cases z
theorem Rel0.storel (R : Rel0 g T B H σ s) {i : Nat} {ds : List D} {p : Addr} {vs : List V} (hio : T.io i = none) (F : Fsh0 T B H σ s p (.lst vs)) (h : Dens g B ds vs) : Rel0 g T B H (σ.set i (some (.ref p))) (s.set i (.l ds)) :=
  R.store hio ⟨p, vs, rfl, F.b, F.at_, h⟩ fun a _ e => by cases e; exact ⟨F.sl, F.h0⟩
/-- an own slot (not the caller's) becomes data -/
theorem Rel0.frz (R : Rel0 g T B H σ s) {i : Nat} {ds : List D} (hs : s[i]? = some (.l ds)) (hio : T.io i = none) : ∃ B', Rel0 g T B' H σ (s.set i (.v (.lst ds))) ∧ Ex B B' := by
  obtain ⟨a, vs, ha, b0, h0, hd⟩ := R.getl hs
  have hi : i < s.length := (List.getElem?_eq_some_iff.mp hs).1
  have eB : Ex B (upd B a (.lst vs)) := Evl.Ex.new b0
  have hH0 : T.H0 a = none := by
    rcases R.ow i _ a hs rfl ha with z | ⟨j, z⟩
    · exact z
    · obtain ⟨e, x, hx, ho⟩ := R.iok j a z
      have := R.nd j i x _ a hx hs ho rfl e ha
      subst this; rw [hio] at z; cases z
  have sets : ∀ j y, (s.set i (.v (.lst ds)))[j]? = some y → (j = i ∧ y = .v (.lst ds)) ∨ (j ≠ i ∧ s[j]? = some y) := fun j y e => by
    by_cases z : j = i
    · subst z; rw [List.getElem?_set_self hi] at e; exact .inl ⟨rfl, (Option.some.inj e).symm⟩
    · rw [List.getElem?_set_ne (Ne.symm z)] at e; exact .inr ⟨z, e⟩
  refine ⟨upd B a (.lst vs), ⟨R.b0.trans eB, fun b u e => ?_, fun b e => ?_, R.hh, R.dom, by simp [R.len], fun j y u hy hu => ?_, fun j k y y' b hy hy' ho ho' e1 e2 => ?_, fun j b hb => ?_, fun j y b hy ho e => ?_⟩, eB⟩
  · by_cases z : b = a
    · subst z; rw [upd_same] at e; cases e; exact h0
    · rw [upd_ne z] at e; exact R.bh b u e
  · have z : b ≠ a := fun z => e (by rw [z]; exact hH0)
    rw [upd_ne z]; exact R.nw b e
  · rcases sets j y hy with ⟨rfl, rfl⟩ | ⟨z, hy⟩
    · rw [ha] at hu; cases hu
      exact ⟨.ref a, rfl, a, vs, rfl, upd_same, hd.mono eB⟩
    · have q := R.sl j y u hy hu
      cases y with
      | no => trivial
      | v d => obtain ⟨v, e, h1⟩ := q; exact ⟨v, e, h1.mono eB⟩
      | l es =>
        obtain ⟨a', vs', e, h1, h2, h3⟩ := q
        have ne : a' ≠ a := fun w => z (R.nd j i _ _ a hy hs rfl rfl (by rw [hu, e, w]) ha)
        exact ⟨a', vs', e, by rw [upd_ne ne]; exact h1, h2, h3.mono eB⟩
      | o c es =>
        obtain ⟨a', dx, vs', e, h1, h2, h3⟩ := q
        have ne : a' ≠ a := fun w => z (R.nd j i _ _ a hy hs rfl rfl (by rw [hu, e, w]) ha)
        exact ⟨a', dx, vs', e, by rw [upd_ne ne]; exact h1, h2, h3.mono eB⟩
  · rcases sets j y hy with ⟨rfl, rfl⟩ | ⟨z, hy⟩
    · cases ho
    · rcases sets k y' hy' with ⟨rfl, rfl⟩ | ⟨z', hy'⟩
      · cases ho'
      · exact R.nd j k y y' b hy hy' ho ho' e1 e2
  · have z : j ≠ i := fun z => by rw [z, hio] at hb; cases hb
    obtain ⟨e, y, hy, ho⟩ := R.iok j b hb
    exact ⟨e, y, by rw [List.getElem?_set_ne (Ne.symm z)]; exact hy, ho⟩
  · rcases sets j y hy with ⟨rfl, rfl⟩ | ⟨z, hy⟩
    · cases ho
    · exact R.ow j y b hy ho e
/-- an own instance (not the caller's) becomes data -/
theorem Rel0.frzo (R : Rel0 g T B H σ s) {i c : Nat} {ds : List D} (hs : s[i]? = some (.o c ds)) (hio : T.io i = none) : ∃ B', Rel0 g T B' H σ (s.set i (.v (.obj c ds))) ∧ Ex B B' := by
  obtain ⟨a, dx, vs, ha, b0, h0, hd⟩ := R.geto hs
  have hi : i < s.length := (List.getElem?_eq_some_iff.mp hs).1
  have eB : Ex B (upd B a (.ins (g.cn c) dx ((g.names c).zip vs))) := Evl.Ex.new b0
  have hH0 : T.H0 a = none := by
    rcases R.ow i _ a hs rfl ha with z | ⟨j, z⟩
    · exact z
    · obtain ⟨e, x, hx, ho⟩ := R.iok j a z
      have := R.nd j i x _ a hx hs ho rfl e ha
      subst this; rw [hio] at z; cases z
  have sets : ∀ j y, (s.set i (.v (.obj c ds)))[j]? = some y → (j = i ∧ y = .v (.obj c ds)) ∨ (j ≠ i ∧ s[j]? = some y) := fun j y e => by
    by_cases z : j = i
    · subst z; rw [List.getElem?_set_self hi] at e; exact .inl ⟨rfl, (Option.some.inj e).symm⟩
    · rw [List.getElem?_set_ne (Ne.symm z)] at e; exact .inr ⟨z, e⟩
  refine ⟨upd B a (.ins (g.cn c) dx ((g.names c).zip vs)), ⟨R.b0.trans eB, fun b u e => ?_, fun b e => ?_, R.hh, R.dom, by simp [R.len], fun j y u hy hu => ?_, fun j k y y' b hy hy' ho ho' e1 e2 => ?_, fun j b hb => ?_, fun j y b hy ho e => ?_⟩, eB⟩
  · by_cases z : b = a
    · subst z; rw [upd_same] at e; cases e; exact h0
    · rw [upd_ne z] at e; exact R.bh b u e
  · have z : b ≠ a := fun z => e (by rw [z]; exact hH0)
    rw [upd_ne z]; exact R.nw b e
  · rcases sets j y hy with ⟨rfl, rfl⟩ | ⟨z, hy⟩
    · rw [ha] at hu; cases hu
      exact ⟨.ref a, rfl, a, dx, vs, rfl, upd_same, hd.mono eB⟩
    · have q := R.sl j y u hy hu
      cases y with
      | no => trivial
      | v d => obtain ⟨v, e, h1⟩ := q; exact ⟨v, e, h1.mono eB⟩
      | l es =>
        obtain ⟨a', vs', e, h1, h2, h3⟩ := q
        have ne : a' ≠ a := fun w => z (R.nd j i _ _ a hy hs rfl rfl (by rw [hu, e, w]) ha)
        exact ⟨a', vs', e, by rw [upd_ne ne]; exact h1, h2, h3.mono eB⟩
      | o c es =>
        obtain ⟨a', dx, vs', e, h1, h2, h3⟩ := q
        have ne : a' ≠ a := fun w => z (R.nd j i _ _ a hy hs rfl rfl (by rw [hu, e, w]) ha)
        exact ⟨a', dx, vs', e, by rw [upd_ne ne]; exact h1, h2, h3.mono eB⟩
  · rcases sets j y hy with ⟨rfl, rfl⟩ | ⟨z, hy⟩
    · cases ho
    · rcases sets k y' hy' with ⟨rfl, rfl⟩ | ⟨z', hy'⟩
      · cases ho'
      · exact R.nd j k y y' b hy hy' ho ho' e1 e2
  · have z : j ≠ i := fun z => by rw [z, hio] at hb; cases hb
    obtain ⟨e, y, hy, ho⟩ := R.iok j b hb
    exact ⟨e, y, by rw [List.getElem?_set_ne (Ne.symm z)]; exact hy, ho⟩
  · rcases sets j y hy with ⟨rfl, rfl⟩ | ⟨z, hy⟩
    · cases ho
    · exact R.ow j y b hy ho e
/-- the last slot, own and fresh, is let go -/
theorem Rel0.pop {x : Sl} {p : Addr} (R : Rel0 g T B H (σ ++ [some (.ref p)]) (s ++ [x])) (hx : x.own = true) (hio : ∀ j a, T.io j = some a → j < σ.length) : Rel0 g T B H σ s ∧ T.H0 p = none ∧ (∀ (i : Nat) (y : Sl), s[i]? = some y → y.own = true → σ[i]? ≠ some (some (.ref p))) ∧ SlOk g B H x (some (.ref p)) := by
  have len : σ.length = s.length := by have := R.len; simp at this; exact this
  have ls : (s ++ [x])[s.length]? = some x := by simp
  have lσ : (σ ++ [some (.ref p)])[s.length]? = some (some (.ref p)) := by rw [← len]; simp
  have gs : ∀ (i : Nat) (y : Sl), s[i]? = some y → (s ++ [x])[i]? = some y := fun i y h => by
    rw [List.getElem?_append_left (List.getElem?_eq_some_iff.mp h).1]; exact h
  have gσ : ∀ (i : Nat) (y : Option V), σ[i]? = some y → (σ ++ [some (.ref p)])[i]? = some y := fun i y h => by
    rw [List.getElem?_append_left (List.getElem?_eq_some_iff.mp h).1]; exact h
  refine ⟨⟨R.b0, R.bh, R.nw, R.hh, R.dom, len, fun i y v h1 h2 => R.sl i y v (gs i y h1) (gσ i v h2), fun i j y y' a h1 h2 o1 o2 e1 e2 => R.nd i j y y' a (gs i y h1) (gs j y' h2) o1 o2 (gσ _ _ e1) (gσ _ _ e2), fun j a h => ?_, fun i y a h1 o1 e1 => R.ow i y a (gs i y h1) o1 (gσ _ _ e1)⟩, ?_, fun i y h1 o1 e1 => ?_, R.sl _ x _ ls lσ⟩
  · have hj := hio j a h
    obtain ⟨e, y, hy, ho⟩ := R.iok j a h
    rw [List.getElem?_append_left hj] at e
    rw [List.getElem?_append_left (by omega)] at hy
    exact ⟨e, y, hy, ho⟩
  · rcases R.ow _ x p ls hx lσ with z | ⟨j, z⟩
    · exact z
    · have hj := hio j p z
      obtain ⟨e, y, hy, ho⟩ := R.iok j p z
      have := R.nd j s.length y x p hy ls ho hx e lσ
      omega
  · have hi := (List.getElem?_eq_some_iff.mp h1).1
    have := R.nd i s.length y x p (gs i y h1) ls o1 hx (gσ _ _ e1) lσ
    omega
/-- a fresh one is held at the end -/
theorem Rel0.push {x : Sl} {p : Addr} (R : Rel0 g T B H σ s) (h0 : T.H0 p = none) (hsl : ∀ (i : Nat) (y : Sl), s[i]? = some y → y.own = true → σ[i]? ≠ some (some (.ref p))) (ok : SlOk g B H x (some (.ref p))) : Rel0 g T B H (σ ++ [some (.ref p)]) (s ++ [x]) := by
  have len := R.len
  have sp : ∀ (i : Nat) (y : Sl), (s ++ [x])[i]? = some y → (s[i]? = some y ∧ i < s.length) ∨ (i = s.length ∧ y = x) := fun i y h => by
    by_cases hi : i < s.length
    · rw [List.getElem?_append_left hi] at h; exact .inl ⟨h, hi⟩
    · rw [List.getElem?_append_right (by omega)] at h
      have hz : i - s.length = 0 := by
        cases q : i - s.length with
        | zero => rfl
        | succ n => rw [q] at h; simp at h
      rw [hz] at h
      exact .inr ⟨by omega, (Option.some.inj h).symm⟩
  have aσ : ∀ (i : Nat), i < s.length → (σ ++ [some (.ref p)])[i]? = σ[i]? := fun i hi => List.getElem?_append_left (by omega)
  have lσ : (σ ++ [some (.ref p)])[s.length]? = some (some (.ref p)) := by rw [← len]; simp
  refine ⟨R.b0, R.bh, R.nw, R.hh, R.dom, by simp [len], fun i y v h1 h2 => ?_, fun i j y y' a h1 h2 o1 o2 e1 e2 => ?_, fun j a h => ?_, fun i y a h1 o1 e1 => ?_⟩
  · rcases sp i y h1 with ⟨h1, hi⟩ | ⟨rfl, rfl⟩
    · rw [aσ i hi] at h2; exact R.sl i y v h1 h2
    · rw [lσ] at h2; cases h2; exact ok
  · rcases sp i y h1 with ⟨k1, hi⟩ | ⟨rfl, rfl⟩
    · rw [aσ i hi] at e1
      rcases sp j y' h2 with ⟨k2, hj⟩ | ⟨rfl, rfl⟩
      · rw [aσ j hj] at e2; exact R.nd i j y y' a k1 k2 o1 o2 e1 e2
      · rw [lσ] at e2; cases e2; exact absurd e1 (hsl i y k1 o1)
    · rw [lσ] at e1; cases e1
      rcases sp j y' h2 with ⟨k2, hj⟩ | ⟨rfl, _⟩
      · rw [aσ j hj] at e2; exact absurd e2 (hsl j y' k2 o2)
      · rfl
  · obtain ⟨e, y, hy, ho⟩ := R.iok j a h
    have hj := (List.getElem?_eq_some_iff.mp hy).1
    exact ⟨by rw [aσ j hj]; exact e, y, by rw [List.getElem?_append_left hj]; exact hy, ho⟩
  · rcases sp i y h1 with ⟨h1, hi⟩ | ⟨rfl, rfl⟩
    · rw [aσ i hi] at e1; exact R.ow i y a h1 o1 e1
    · rw [lσ] at e1; cases e1; exact .inl h0

/-! ## .. with what is held beside -/
structure Rel (g : G) (T : Tx) (B H : Hp) (σ : L2.St) (s : S) : Prop where
  r : Rel0 g T B H (σ ++ T.τ) (s ++ T.t)
  ln : σ.length = s.length
  iob : ∀ j a, T.io j = some a → j < σ.length
abbrev Fsh (T : Tx) (B H : Hp) (σ : L2.St) (s : S) (p : Addr) (o : HO) : Prop := Fsh0 T B H (σ ++ T.τ) (s ++ T.t) p o
theorem app_some {α : Type} {s t : List α} {i : Nat} {x : α} (h : s[i]? = some x) : (s ++ t)[i]? = some x := by
  rw [List.getElem?_append_left (List.getElem?_eq_some_iff.mp h).1]; exact h
theorem Rel.app (R : Rel g T B H σ s) {i : Nat} {x : Sl} {y : Option V} (h : s[i]? = some x) (h' : (σ ++ T.τ)[i]? = some y) : σ[i]? = some y := by
  have hi := (List.getElem?_eq_some_iff.mp h).1
  rwa [List.getElem?_append_left (by rw [R.ln]; exact hi)] at h'
theorem Rel.bh (R : Rel g T B H σ s) : Ex B H := R.r.bh
theorem Rel.b0 (R : Rel g T B H σ s) : Ex T.B0 B := R.r.b0
theorem Rel.dom (R : Rel g T B H σ s) : ∀ a, T.H0 a ≠ none → H a ≠ none := R.r.dom
theorem Rel.getv (R : Rel g T B H σ s) {i : Nat} {d : D} (h : s[i]? = some (.v d)) : ∃ v, σ[i]? = some (some v) ∧ Den g B d v := by
  obtain ⟨v, e, q⟩ := R.r.getv (app_some h); exact ⟨v, R.app h e, q⟩
theorem Rel.getl (R : Rel g T B H σ s) {i : Nat} {ds : List D} (h : s[i]? = some (.l ds)) : ∃ a vs, σ[i]? = some (some (.ref a)) ∧ B a = none ∧ H a = some (.lst vs) ∧ Dens g B ds vs := by
  obtain ⟨a, vs, e, q⟩ := R.r.getl (app_some h); exact ⟨a, vs, R.app h e, q⟩
theorem Rel.geto (R : Rel g T B H σ s) {i c : Nat} {ds : List D} (h : s[i]? = some (.o c ds)) : ∃ a dx vs, σ[i]? = some (some (.ref a)) ∧ B a = none ∧ H a = some (.ins (g.cn c) dx ((g.names c).zip vs)) ∧ Dens g B ds vs := by
  obtain ⟨a, dx, vs, e, q⟩ := R.r.geto (app_some h); exact ⟨a, dx, vs, R.app h e, q⟩
theorem Rel.grow (R : Rel g T B H σ s) (eB : Ex B B') (eH : Ex H H') (eBH : Ex B' H') (hn : ∀ a, H a ≠ none → B' a = B a) : Rel g T B' H' σ s := ⟨R.r.grow eB eH eBH hn, R.ln, R.iob⟩
theorem Rel.new (R : Rel g T B H σ s) {p : Addr} {o : HO} (hp : H p = none) : Rel g T (upd B p o) (upd H p o) σ s := ⟨R.r.new hp, R.ln, R.iob⟩
theorem Rel.newH (R : Rel g T B H σ s) {p : Addr} {o : HO} (hp : H p = none) : Rel g T B (upd H p o) σ s := ⟨R.r.newH hp, R.ln, R.iob⟩
theorem Rel.h0_of (R : Rel g T B H σ s) {p : Addr} (hp : H p = none) : T.H0 p = none := R.r.h0_of hp
theorem Rel.fsh (R : Rel g T B H σ s) {p : Addr} {o : HO} (hp : H p = none) : Fsh T B (upd H p o) σ s p o := R.r.fsh hp
theorem Rel.freeze (R : Rel g T B H σ s) {p : Addr} {o : HO} (F : Fsh T B H σ s p o) : Rel g T (upd B p o) H σ s := ⟨R.r.freeze F, R.ln, R.iob⟩
theorem set_app {α : Type} {s t : List α} {i : Nat} {x : α} (h : i < s.length) : (s ++ t).set i x = s.set i x ++ t := by
  rw [List.set_append_left _ _ h]
theorem Rel.write (R : Rel g T B H σ s) {i : Nat} {x x' : Sl} {a : Addr} {o : HO} (hs : s[i]? = some x) (hx : x.own = true) (ha : σ[i]? = some (some (.ref a))) (hx' : x'.own = true)
    (new : SlOk g B (upd H a o) x' (some (.ref a))) : Rel g T B (upd H a o) σ (s.set i x') := by
  have hi := (List.getElem?_eq_some_iff.mp hs).1
  have r := R.r.write (app_some hs) hx (app_some ha) hx' new
  rw [set_app hi] at r
  exact ⟨r, by simp [R.ln], R.iob⟩
theorem Rel.wrl (R : Rel g T B H σ s) {i : Nat} {ds es : List D} {a : Addr} {us : List V} (hs : s[i]? = some (.l ds)) (ha : σ[i]? = some (some (.ref a))) (hd : Dens g B es us) : Rel g T B (upd H a (.lst us)) σ (s.set i (.l es)) := by
  obtain ⟨a', _, e, b0, _⟩ := R.getl hs
  rw [ha] at e; cases e
  exact R.write hs rfl ha rfl ⟨a, us, rfl, b0, upd_same, hd⟩
theorem Rel.store (R : Rel g T B H σ s) {i : Nat} {x : Sl} {v : V} (hi : i < s.length) (hio : T.io i = none) (ok : SlOk g B H x (some v))
    (hn : ∀ a, x.own = true → v = .ref a → (∀ (j : Nat) (y : Sl), (s ++ T.t)[j]? = some y → y.own = true → (σ ++ T.τ)[j]? ≠ some (some (.ref a))) ∧ T.H0 a = none) : Rel g T B H (σ.set i (some v)) (s.set i x) := by
  have r := R.r.store hio ok hn
  rw [set_app hi, set_app (by rw [R.ln]; exact hi)] at r
  exact ⟨r, by simp [R.ln], fun j a h => by simpa using R.iob j a h⟩
theorem Rel.storev (R : Rel g T B H σ s) {i : Nat} {d : D} {v : V} (hi : i < s.length) (hio : T.io i = none) (h : Den g B d v) : Rel g T B H (σ.set i (some v)) (s.set i (.v d)) :=
  R.store hi hio ⟨v, rfl, h⟩ fun _ z => by cases z
theorem Rel.storel (R : Rel g T B H σ s) {i : Nat} {ds : List D} {p : Addr} {vs : List V} (hi : i < s.length) (hio : T.io i = none) (F : Fsh T B H σ s p (.lst vs)) (h : Dens g B ds vs) : Rel g T B H (σ.set i (some (.ref p))) (s.set i (.l ds)) :=
  R.store hi hio ⟨p, vs, rfl, F.b, F.at_, h⟩ fun a _ e => by cases e; exact ⟨F.sl, F.h0⟩
theorem Rel.frz (R : Rel g T B H σ s) {i : Nat} {ds : List D} (hs : s[i]? = some (.l ds)) (hio : T.io i = none) : ∃ B', Rel g T B' H σ (s.set i (.v (.lst ds))) ∧ Ex B B' := by
  obtain ⟨B', r, e⟩ := R.r.frz (app_some hs) hio
  rw [set_app (List.getElem?_eq_some_iff.mp hs).1] at r
  exact ⟨B', ⟨r, by simp [R.ln], R.iob⟩, e⟩
theorem Rel.frzo (R : Rel g T B H σ s) {i c : Nat} {ds : List D} (hs : s[i]? = some (.o c ds)) (hio : T.io i = none) : ∃ B', Rel g T B' H σ (s.set i (.v (.obj c ds))) ∧ Ex B B' := by
  obtain ⟨B', r, e⟩ := R.r.frzo (app_some hs) hio
  rw [set_app (List.getElem?_eq_some_iff.mp hs).1] at r
  exact ⟨B', ⟨r, by simp [R.ln], R.iob⟩, e⟩

/-! ## operands -/
inductive Opd where
  | d (x : D) | s (k : Nat)
def OpdOk (g : G) (B : Hp) (σ : L2.St) : Opd → V → Prop
  | .d x, v => Den g B x v
  | .s k, v => σ[k]? = some (some v)
def Sl.d? : Sl → Option D
  | .v d => some d
  | .l ds => some (.lst ds)
  | .o c ds => some (.obj c ds)
  | .no => none
/-- the operand's value where it is used -/
def res : Opd → M D
  | .d x => mret x
  | .s k => fun s => match s[k]? with
    | some (.v d) => .ok d s
    | some (.l ds) => .ok (.lst ds) s
    | some (.o c ds) => .ok (.obj c ds) s
    | _ => .bad
/-- .. as data -/
def strong : Opd → M D
  | .d x => mret x
  | .s k => fun s => match s[k]? with
    | some (.v d) => .ok d s
    | _ => .bad
theorem OpdOk.mono (e : Ex B B') {o : Opd} {v : V} (h : OpdOk g B σ o v) : OpdOk g B' σ o v := by
  cases o with
  | d x => exact Den.mono e h
  | s k => exact h
theorem res_ok (R : Rel g T B H σ s) {o : Opd} {v : V} {d : D} {s' : S} (h : OpdOk g B σ o v) (e : res o s = .ok d s') : s' = s ∧ DenW g B H d v := by
  cases o with
  | d x => cases e; exact ⟨rfl, Den.w R.bh h⟩
  | s k =>
    have h' : σ[k]? = some (some v) := h
    have e' : (match s[k]? with
      | some (.v d) => Out.ok d s
      | some (.l ds) => .ok (.lst ds) s
      | some (.o c ds) => .ok (.obj c ds) s
      | _ => .bad) = .ok d s' := e
    cases q : s[k]? with
    | none => rw [q] at e'; cases e'
    | some x =>
      rw [q] at e'
      cases x with
      | no => cases e'
      | v d0 =>
        cases e'
        obtain ⟨v', e1, d1⟩ := R.getv q
        rw [h'] at e1; cases e1
        exact ⟨rfl, Den.w R.bh d1⟩
      | l ds =>
        cases e'
        obtain ⟨a, vs, e1, _, h1, d1⟩ := R.getl q
        rw [h'] at e1; cases e1
        exact ⟨rfl, a, vs, rfl, h1, d1⟩
      | o c ds =>
        cases e'
        obtain ⟨a, dx, vs, e1, _, h1, d1⟩ := R.geto q
        rw [h'] at e1; cases e1
        exact ⟨rfl, a, dx, vs, rfl, h1, d1⟩
theorem res_cases {o : Opd} {s : S} : (∃ d, res o s = .ok d s) ∨ res o s = .bad := by
  cases o with
  | d x => exact .inl ⟨x, rfl⟩
  | s k =>
    show (∃ d, (match s[k]? with
      | some (.v d) => Out.ok d s
      | some (.l ds) => .ok (.lst ds) s
      | some (.o c ds) => .ok (.obj c ds) s
      | _ => .bad) = .ok d s) ∨ (match s[k]? with
      | some (.v d) => Out.ok d s
      | some (.l ds) => .ok (.lst ds) s
      | some (.o c ds) => .ok (.obj c ds) s
      | _ => .bad) = .bad
    cases q : s[k]? with
    | none => exact .inr rfl
    | some x => cases x <;> first | exact .inl ⟨_, rfl⟩ | exact .inr rfl
theorem strong_ok (R : Rel g T B H σ s) {o : Opd} {v : V} {d : D} {s' : S} (h : OpdOk g B σ o v) (e : strong o s = .ok d s') : s' = s ∧ Den g B d v := by
  cases o with
  | d x => cases e; exact ⟨rfl, h⟩
  | s k =>
    have h' : σ[k]? = some (some v) := h
    have e' : (match s[k]? with
      | some (.v d) => Out.ok d s
      | _ => .bad) = .ok d s' := e
    cases q : s[k]? with
    | none => rw [q] at e'; cases e'
    | some x =>
      rw [q] at e'
      cases x with
      | v d0 =>
        cases e'
        obtain ⟨v', e1, d1⟩ := R.getv q
        rw [h'] at e1; cases e1
        exact ⟨rfl, d1⟩
      | no => cases e'
      | l ds => cases e'
      | o c ds => cases e'
theorem strong_cases {o : Opd} {s : S} : (∃ d, strong o s = .ok d s) ∨ strong o s = .bad := by
  cases o with
  | d x => exact .inl ⟨x, rfl⟩
  | s k =>
    show (∃ d, (match s[k]? with
      | some (.v d) => Out.ok d s
      | _ => .bad) = .ok d s) ∨ (match s[k]? with
      | some (.v d) => Out.ok d s
      | _ => .bad) = .bad
    cases q : s[k]? with
    | none => exact .inr rfl
    | some x => cases x <;> first | exact .inl ⟨_, rfl⟩ | exact .inr rfl
end TW

set_option Elab.async false
set_option linter.all false
set_option autoImplicit false
set_option maxRecDepth 100000
set_option maxHeartbeats 1000000
namespace TW
open PySem PySem.Spec PyProof.Rows L2
variable {g : G} {T : Tx} {B B' H H' : Hp} {σ : L2.St} {s : S}

/-! ## readings -/
abbrev W0 : WX := fun _ _ _ _ => False
/-- an exception's own dict holds its fields -/
def XcOk (g : G) (B : Hp) (x : Option Addr) (c : Nat) (ds : List D) : Prop :=
  ds = [] ∨ ∃ dx fs vs, x = some dx ∧ B dx = some (.xd fs) ∧ Dens g B ds vs ∧ ∀ (j : Nat) (f : Str) (v : V), (g.names c)[j]? = some f → vs[j]? = some v → fs.lookup f = some v
abbrev PP (α β : Type) := L2.St → S → α → Hp → Hp → β → Prop
def PostM (g : G) (T : Tx) (W : WX) {α β : Type} (P : PP α β) (σ : L2.St) (B : Hp) : Out α → (β → Hp → Prop) → Prop
  | .ok a s', Q => ∀ v B' H', Rel g T B' H' σ s' → Ex B B' → P σ s' a B' H' v → Q v H'
  | .ex c ds s', _ => ∀ x B' H', Rel g T B' H' σ s' → Ex B B' → XcOk g B' x c ds → W (.ref (g.cn c)) x σ H'
  | .bad, _ => False
def RdM (g : G) (T : Tx) (W : WX) {α β : Type} (P : PP α β) (f : M α) : L2.St → Hp → (β → Hp → Prop) → Prop :=
  fun σ H Q => ∃ B s, Rel g T B H σ s ∧ PostM g T W P σ B (f s) Q
variable {W : WX} {α β γ δ : Type} {P : PP α β} {P' : PP γ δ}
theorem PostM.base {o : Out α} {Q : β → Hp → Prop} (e : Ex B B') (h : PostM g T W P σ B o Q) : PostM g T W P σ B' o Q := by
  cases o with
  | ok a s' => exact fun v B1 H1 R1 e1 p => h v B1 H1 R1 (e.trans e1) p
  | ex c ds s' => exact fun x B1 H1 R1 e1 p => h x B1 H1 R1 (e.trans e1) p
  | bad => exact h
theorem RdM.mono {f : M α} {Q Q' : β → Hp → Prop} (h : RdM g T W P f σ H Q) (hq : ∀ v H', Q v H' → Q' v H') : RdM g T W P f σ H Q' := by
  obtain ⟨B, s, R, p⟩ := h
  refine ⟨B, s, R, ?_⟩
  cases e : f s with
  | ok a s' => rw [e] at p; exact fun v B1 H1 R1 e1 q => hq _ _ (p v B1 H1 R1 e1 q)
  | ex c ds s' => rw [e] at p; exact p
  | bad => rw [e] at p; exact p
theorem PostM.bind {fa : M α} {k : α → M γ} {Q : δ → Hp → Prop} (R : Rel g T B H σ s) (h : PostM g T W P' σ B (mbind fa k s) Q) :
    RdM g T W P fa σ H fun v H1 => ∃ a B1 s1, Rel g T B1 H1 σ s1 ∧ Ex B B1 ∧ P σ s1 a B1 H1 v ∧ PostM g T W P' σ B1 (k a s1) Q := by
  refine ⟨B, s, R, ?_⟩
  unfold mbind at h
  cases e : fa s with
  | ok a s' =>
    rw [e] at h
    exact fun v B1 H1 R1 e1 p => ⟨a, B1, s', R1, e1, p, PostM.base e1 h⟩
  | ex c ds s' => rw [e] at h; exact h
  | bad => rw [e] at h; exact h

/-! ## judgements -/
inductive Rv where
  | v (d : D) | l (ds : List D) | o (c : Nat) (ds : List D)
def RvOk (g : G) (T : Tx) : PP Rv V := fun σ s r B H v => match r with
  | .v d => Den g B d v
  | .l ds => ∃ p vs, v = .ref p ∧ Fsh T B H σ s p (.lst vs) ∧ Dens g B ds vs
  | .o c ds => ∃ p dx vs, v = .ref p ∧ Fsh T B H σ s p (.ins (g.cn c) dx ((g.names c).zip vs)) ∧ Dens g B ds vs
abbrev PD (g : G) : PP D V := fun _ _ d B _ v => Den g B d v
abbrev PO' (g : G) : PP Opd V := fun σ _ o B _ v => OpdOk g B σ o v
abbrev PB : PP Bool Bool := fun _ _ b _ _ b' => b' = b
def PAs (g : G) : PP (List Opd) (List V) := fun σ _ os B _ vs => os.length = vs.length ∧ ∀ (i : Nat) (o : Opd) (v : V), os[i]? = some o → vs[i]? = some v → OpdOk g B σ o v
def JE (X : Cx) (g : G) (T : Tx) (W : WX) (e : Expr) (f : M D) : Prop := ∀ τ t, PE X e (RdM g (T.tmp τ t) W (PD g) f)
def JO (X : Cx) (g : G) (T : Tx) (W : WX) (e : Expr) (f : M Opd) : Prop := ∀ τ t, PE X e (RdM g (T.tmp τ t) W (PO' g) f)
def JR (X : Cx) (g : G) (T : Tx) (W : WX) (e : Expr) (f : M Rv) : Prop := ∀ τ t, PE X e (RdM g (T.tmp τ t) W (RvOk g (T.tmp τ t)) f)
def JT (X : Cx) (g : G) (T : Tx) (W : WX) (e : Expr) (f : M Bool) : Prop := ∀ τ t, PT X e (RdM g (T.tmp τ t) W PB f)
def JW (X : Cx) (g : G) (T : Tx) (W : WX) (e : Expr) (f : M Bool) : Prop := ∀ τ t, PW X e (RdM g (T.tmp τ t) W PB f)
def JA (X : Cx) (g : G) (T : Tx) (W : WX) (es : List Expr) (f : M (List Opd)) : Prop := ∀ τ t, PA X es (RdM g (T.tmp τ t) W (PAs g) f)
theorem PE.imp {X : Cx} {e : Expr} {t t' : TE} (h : PE X e t) (hi : ∀ σ H Q, t' σ H Q → t σ H Q) : PE X e t' := ⟨fun pins s σ H Q I q => h.run pins s σ H Q I (hi _ _ _ q)⟩
theorem PT.imp {X : Cx} {e : Expr} {t t' : TT} (h : PT X e t) (hi : ∀ σ H Q, t' σ H Q → t σ H Q) : PT X e t' := ⟨fun pins s σ H Q I q => h.run pins s σ H Q I (hi _ _ _ q)⟩
theorem PW.imp {X : Cx} {e : Expr} {t t' : TT} (h : PW X e t) (hi : ∀ σ H Q, t' σ H Q → t σ H Q) : PW X e t' := ⟨fun wh pins s σ H Q I q => h.run wh pins s σ H Q I (hi _ _ _ q)⟩
theorem PA.imp {X : Cx} {es : List Expr} {t t' : TA} (h : PA X es t) (hi : ∀ σ H Q, t' σ H Q → t σ H Q) : PA X es t' := ⟨fun pos pins s σ H Q I q => h.run pos pins s σ H Q I (hi _ _ _ q)⟩

variable {X : Cx} {e a b c : Expr} {es rest : List Expr} {pos : Pos}
/-! ### from one to another -/
theorem jo_of {f : M D} (h : JE X g T W e f) : JO X g T W e (mbind f fun d => mret (.d d)) := fun τ t => PE.imp (h τ t) fun σ H Q ⟨B, s, R, p⟩ =>
  (PostM.bind (P := PD g) R p).mono fun v H1 ⟨d, B1, s1, R1, e1, q, p1⟩ => p1 v B1 H1 R1 (Evl.Ex.refl _) q
theorem je_of {f : M Opd} (h : JO X g T W e f) : JE X g T W e (mbind f strong) := fun τ t => PE.imp (h τ t) fun σ H Q ⟨B, s, R, p⟩ =>
  (PostM.bind (P := PO' g) R p).mono fun v H1 ⟨o, B1, s1, R1, e1, q, p1⟩ => by
    rcases strong_cases (o := o) (s := s1) with ⟨d, q1⟩ | q1
    · rw [q1] at p1; exact p1 v B1 H1 R1 (Evl.Ex.refl _) (strong_ok R1 q q1).2
    · rw [q1] at p1; exact p1.elim
def Rv.d : Rv → D
  | .v d => d
  | .l ds => .lst ds
  | .o c ds => .obj c ds
theorem rv_frz {r : Rv} {v : V} (R : Rel g T B H σ s) (h : RvOk g T σ s r B H v) : ∃ B', Rel g T B' H σ s ∧ Ex B B' ∧ Den g B' r.d v := by
  cases r with
  | v d => exact ⟨B, R, Evl.Ex.refl B, h⟩
  | l ds =>
    obtain ⟨p, vs, rfl, F, hd⟩ := h
    exact ⟨_, R.freeze F, Evl.Ex.new F.b, p, vs, rfl, upd_same, hd.mono (Evl.Ex.new F.b)⟩
  | o c ds =>
    obtain ⟨p, dx, vs, rfl, F, hd⟩ := h
    exact ⟨_, R.freeze F, Evl.Ex.new F.b, p, dx, vs, rfl, upd_same, hd.mono (Evl.Ex.new F.b)⟩
theorem je_rv {f : M Rv} (h : JR X g T W e f) : JE X g T W e (mbind f fun r => mret r.d) := fun τ t => PE.imp (h τ t) fun σ H Q ⟨B, s, R, p⟩ =>
  (PostM.bind (P := RvOk g (T.tmp τ t)) R p).mono fun v H1 ⟨r, B1, s1, R1, e1, q, p1⟩ => by
    obtain ⟨B2, R2, e2, q2⟩ := rv_frz R1 q
    exact p1 v B2 H1 R2 e2 q2
theorem jr_of {f : M D} (h : JE X g T W e f) : JR X g T W e (mbind f fun d => mret (.v d)) := fun τ t => PE.imp (h τ t) fun σ H Q ⟨B, s, R, p⟩ =>
  (PostM.bind (P := PD g) R p).mono fun v H1 ⟨d, B1, s1, R1, e1, q, p1⟩ => p1 v B1 H1 R1 (Evl.Ex.refl _) q
/-! ### names, constants -/
def mvar (i : Nat) : M Opd := fun s => match s[i]? with
  | some .no => .bad
  | some _ => .ok (.s i) s
  | none => .bad
theorem jo_var {i : Nat} (h : PE X e (tVar i)) : JO X g T W e (mvar i) := fun τ t => PE.imp h fun σ H Q ⟨B, s, R, p⟩ => by
  unfold mvar at p
  cases q : s[i]? with
  | none => rw [q] at p; exact p.elim
  | some x =>
    rw [q] at p
    have key : ∀ v, σ[i]? = some (some v) → PostM g (T.tmp τ t) W (PO' g) σ B (.ok (.s i) s) Q → tVar i σ H Q := fun v hv p => ⟨v, hv, p v B H R (Evl.Ex.refl _) hv⟩
    cases x with
    | no => exact p.elim
    | v d => obtain ⟨v, hv, _⟩ := R.getv q; exact key v hv p
    | l ds => obtain ⟨a, vs, hv, _⟩ := R.getl q; exact key _ hv p
    | o c ds => obtain ⟨a, dx, vs, hv, _⟩ := R.geto q; exact key _ hv p
theorem je_c {v : V} {d : D} (h : PE X e (tC v)) (hd : ∀ B, Den g B d v) : JE X g T W e (mret d) := fun τ t => PE.imp h fun σ H Q ⟨B, s, R, p⟩ => p v B H R (Evl.Ex.refl _) (hd B)
theorem je_int {i : Int} {j} : JE X g T W (.Constant (.int i) j pos) (mret (.int i)) := je_c pe_int fun _ => rfl
theorem je_bl {b : Bool} {j} : JE X g T W (.Constant (.bool b) j pos) (mret (.bl b)) := je_c pe_bl fun _ => rfl
theorem je_non {j} : JE X g T W (.Constant .none j pos) (mret .non) := je_c pe_non fun _ => rfl
theorem je_str {x : Str} {j} : JE X g T W (.Constant (.str x) j pos) (mret (.str x)) := je_c pe_str fun _ => rfl
/-! ### two operands -/
def mbin (f : D → D → Option D) (fa fb : M Opd) : M D := mbind fa fun oa => mbind fb fun ob => mbind (res oa) fun x => mbind (res ob) fun y => mopt (f x y)
def OpD (X : Cx) (g : G) (f : Value → Value → Sem Value) (g2 : D → D → Option D) : Prop :=
  ∃ r : R2, OpR X f r ∧ ∀ (T : Tx) (B H : Hp) (σ : L2.St) (s : S) (x y : V) (dx dy d : D) (Q : VK), Rel g T B H σ s → DenW g B H dx x → DenW g B H dy y → g2 dx dy = some d →
    (∀ v B' H', Rel g T B' H' σ s → Ex B B' → Den g B' d v → Q v H') → r x y H Q
theorem bin_rd {r : R2} {f : D → D → Option D} {fa fb : M Opd} {Q : VK} (hr : ∀ (T : Tx) (B H : Hp) (σ : L2.St) (s : S) (x y : V) (dx dy d : D) (Q : VK), Rel g T B H σ s → DenW g B H dx x → DenW g B H dy y → f dx dy = some d →
    (∀ v B' H', Rel g T B' H' σ s → Ex B B' → Den g B' d v → Q v H') → r x y H Q) (h : RdM g T W (PD g) (mbin f fa fb) σ H Q) : tOp r (RdM g T W (PO' g) fa) (RdM g T W (PO' g) fb) σ H Q := by
  obtain ⟨B, s, R, p⟩ := h
  refine (PostM.bind (P := PO' g) R p).mono fun x H1 ⟨oa, B1, s1, R1, e1, q1, p1⟩ => ?_
  refine (PostM.bind (P := PO' g) R1 p1).mono fun y H2 ⟨ob, B2, s2, R2, e2, q2, p2⟩ => ?_
  rcases res_cases (o := oa) (s := s2) with ⟨dx, w1⟩ | w1
  · rcases res_cases (o := ob) (s := s2) with ⟨dy, w2⟩ | w2
    · have p2' : PostM g T W (PD g) σ B2 (mopt (f dx dy) s2) Q := by
        have z : mbind (res oa) (fun x => mbind (res ob) fun y => mopt (f x y)) s2 = mopt (f dx dy) s2 := by unfold mbind; rw [w1]; dsimp only; rw [w2]
        rw [z] at p2; exact p2
      cases ef : f dx dy with
      | none => rw [ef] at p2'; exact p2'.elim
      | some d =>
        rw [ef] at p2'
        exact hr T B2 H2 σ s2 x y dx dy d Q R2 (res_ok R2 (q1.mono e2) w1).2 (res_ok R2 q2 w2).2 ef fun v B' H' R' e' hd => p2' v B' H' R' e' hd
    · exfalso
      have z : mbind (res oa) (fun x => mbind (res ob) fun y => mopt (f x y)) s2 = .bad := by unfold mbind; rw [w1]; dsimp only; rw [w2]
      rw [z] at p2; exact p2
  · exfalso
    have z : mbind (res oa) (fun x => mbind (res ob) fun y => mopt (f x y)) s2 = .bad := by unfold mbind; rw [w1]
    rw [z] at p2; exact p2
theorem je_bin {op : Operator} {f : D → D → Option D} {fa fb : M Opd} (ho : OpD X g (binaryOp op) f) (ha : JO X g T W a fa) (hb : JO X g T W b fb) : JE X g T W (.BinOp a op b pos) (mbin f fa fb) := by
  obtain ⟨r, h1, h2⟩ := ho
  exact fun τ t => PE.imp (pe_op h1 (ha τ t) (hb τ t)) fun σ H Q h => bin_rd h2 h
theorem je_cmp {op : CmpOp} {f : D → D → Option D} {fa fb : M Opd} (ho : OpD X g (compareOp op) f) (ha : JO X g T W a fa) (hb : JO X g T W b fb) (hm : behindInMarks op b = false) : JE X g T W (.Compare a [op] [b] pos) (mbin f fa fb) := by
  obtain ⟨r, h1, h2⟩ := ho
  exact fun τ t => PE.imp (pe_cmpR h1 (ha τ t) (hb τ t) hm) fun σ H Q h => bin_rd h2 h
/-- a value's truth as a test of a bool -/
def tob : D → M Bool
  | .bl b => mret b
  | _ => mbad
theorem tob_rd {te : TE} {f : M D} {Q : Bool → Hp → Prop} (ht : ∀ Q, RdM g T W (PD g) f σ H Q → te σ H Q) (h : RdM g T W PB (mbind f tob) σ H Q) : tTest te σ H Q := by
  refine ht _ ?_
  obtain ⟨B, s, R, p⟩ := h
  refine (PostM.bind (P := PD g) R p).mono fun v H1 ⟨d, B1, s1, R1, e1, q, p1⟩ => ?_
  cases d with
  | bl b => exact ⟨b, q, p1 b B1 H1 R1 (Evl.Ex.refl _) rfl⟩
  | _ => exact p1.elim
theorem jt_cmp {op : CmpOp} {f : D → D → Option D} {fa fb : M Opd} (ho : OpD X g (compareOp op) f) (ha : JO X g T W a fa) (hb : JO X g T W b fb) (hm : behindInMarks op b = false) : JT X g T W (.Compare a [op] [b] pos) (mbind (mbin f fa fb) tob) := by
  obtain ⟨r, h1, h2⟩ := ho
  exact fun τ t => PT.imp (pt_cmpR h1 (ha τ t) (hb τ t) hm) fun σ H Q h => tob_rd (fun Q h => bin_rd h2 h) h
/-! ### and, or, not, if -/
theorem mbind_ok {fa : M α} {k : α → M γ} {a' : α} {s s' : S} (h : fa s = .ok a' s') : mbind fa k s = k a' s' := by unfold mbind; rw [h]
def mif {α : Type} (t : M Bool) (fa fb : M α) : M α := mbind t fun c => if c = true then fa else fb
theorem jt_not {f : M Bool} (h : JT X g T W a f) : JT X g T W (.UnaryOp .Not a pos) (mbind f fun b => mret (!b)) := fun τ t => PT.imp (pt_not (h τ t)) fun σ H Q ⟨B, s, R, p⟩ =>
  (PostM.bind (P := PB) R p).mono fun v H1 ⟨d, B1, s1, R1, e1, q, p1⟩ => p1 (!v) B1 H1 R1 (Evl.Ex.refl _) (by subst q; rfl)
theorem jw_and1 {f : M Bool} (h : JT X g T W a f) : JW X g T W (.BoolOp .And [a] pos) f := fun τ t => pw_and1 (h τ t)
theorem jw_or1 {f : M Bool} (h : JT X g T W a f) : JW X g T W (.BoolOp .Or [a] pos) f := fun τ t => pw_or1 (h τ t)
theorem jw_and {fa fb : M Bool} (ha : JT X g T W a fa) (hb : JW X g T W (.BoolOp .And (b :: rest) pos) fb) : JW X g T W (.BoolOp .And (a :: b :: rest) pos) (mif fa fb (mret false)) := fun τ t => PW.imp (pw_and (ha τ t) (hb τ t)) fun σ H Q ⟨B, s, R, p⟩ =>
  (PostM.bind (P := PB) R p).mono fun v H1 ⟨d, B1, s1, R1, e1, q, p1⟩ => by
    subst q
    cases v with
    | true => exact ⟨B1, s1, R1, p1⟩
    | false => exact p1 false B1 H1 R1 (Evl.Ex.refl _) rfl
theorem jw_or {fa fb : M Bool} (ha : JT X g T W a fa) (hb : JW X g T W (.BoolOp .Or (b :: rest) pos) fb) : JW X g T W (.BoolOp .Or (a :: b :: rest) pos) (mif fa (mret true) fb) := fun τ t => PW.imp (pw_or (ha τ t) (hb τ t)) fun σ H Q ⟨B, s, R, p⟩ =>
  (PostM.bind (P := PB) R p).mono fun v H1 ⟨d, B1, s1, R1, e1, q, p1⟩ => by
    subst q
    cases v with
    | true => exact p1 true B1 H1 R1 (Evl.Ex.refl _) rfl
    | false => exact ⟨B1, s1, R1, p1⟩
theorem jt_w {f : M Bool} (h : JW X g T W e f) : JT X g T W e f := fun τ t => PW.pt (h τ t)
/-- .. as values -/
def mandV (fa fb : M D) : M D := mbind fa fun x => match x with
  | .bl c => if c = true then fb else mret (.bl false)
  | _ => mbad
def morV (fa fb : M D) : M D := mbind fa fun x => match x with
  | .bl c => if c = true then mret (.bl true) else fb
  | _ => mbad
theorem je_one {op} {f : M D} (h : JE X g T W a f) : JE X g T W (.BoolOp op [a] pos) f := fun τ t => pe_one (h τ t)
theorem je_and {fa fb : M D} (ha : JE X g T W a fa) (hb : JE X g T W (.BoolOp .And (b :: rest) pos) fb) : JE X g T W (.BoolOp .And (a :: b :: rest) pos) (mandV fa fb) := fun τ t => PE.imp (pe_and (ha τ t) (hb τ t)) fun σ H Q ⟨B, s, R, p⟩ =>
  (PostM.bind (P := PD g) R p).mono fun v H1 ⟨d, B1, s1, R1, e1, q, p1⟩ => by
    cases d with
    | bl c =>
      refine ⟨c, q, ?_⟩
      cases c with
      | true => exact ⟨B1, s1, R1, p1⟩
      | false => exact p1 _ B1 H1 R1 (Evl.Ex.refl _) rfl
    | _ => exact p1.elim
theorem je_or {fa fb : M D} (ha : JE X g T W a fa) (hb : JE X g T W (.BoolOp .Or (b :: rest) pos) fb) : JE X g T W (.BoolOp .Or (a :: b :: rest) pos) (morV fa fb) := fun τ t => PE.imp (pe_or (ha τ t) (hb τ t)) fun σ H Q ⟨B, s, R, p⟩ =>
  (PostM.bind (P := PD g) R p).mono fun v H1 ⟨d, B1, s1, R1, e1, q, p1⟩ => by
    cases d with
    | bl c =>
      refine ⟨c, q, ?_⟩
      cases c with
      | true => exact p1 _ B1 H1 R1 (Evl.Ex.refl _) rfl
      | false => exact ⟨B1, s1, R1, p1⟩
    | _ => exact p1.elim
def mnotV (fa : M D) : M D := mbind fa fun x => match x with
  | .bl c => mret (.bl (!c))
  | _ => mbad
theorem je_not {fa : M D} (ha : JE X g T W a fa) : JE X g T W (.UnaryOp .Not a pos) (mnotV fa) := fun τ t => PE.imp (pe_not (ha τ t)) fun σ H Q ⟨B, s, R, p⟩ =>
  (PostM.bind (P := PD g) R p).mono fun v H1 ⟨d, B1, s1, R1, e1, q, p1⟩ => by
    cases d with
    | bl c => exact ⟨c, q, p1 _ B1 H1 R1 (Evl.Ex.refl _) rfl⟩
    | _ => exact p1.elim
theorem je_if {ft : M Bool} {fa fb : M D} (hc : JT X g T W c ft) (ha : JE X g T W a fa) (hb : JE X g T W b fb) : JE X g T W (.IfExp c a b pos) (mif ft fa fb) := fun τ t => PE.imp (pe_ifExp (hc τ t) (ha τ t) (hb τ t)) fun σ H Q ⟨B, s, R, p⟩ =>
  (PostM.bind (P := PB) R p).mono fun v H1 ⟨d, B1, s1, R1, e1, q, p1⟩ => by
    subst q
    cases v with
    | true => exact ⟨B1, s1, R1, p1⟩
    | false => exact ⟨B1, s1, R1, p1⟩
/-- any value's truth -/
def truD : D → Option Bool
  | .non => some false
  | .bl b => some b
  | .int i => some (i != 0)
  | .str y => if y.length ≤ 100000 then some (y.length != 0) else none
  | .tup ds => some (!ds.isEmpty)
  | .lst ds => some (!ds.isEmpty)
  | .arg ds => some (!ds.isEmpty)
  | .obj _ _ => none
  | .exc _ _ _ _ => none
theorem isEmpty_dens {ds : List D} {vs : List V} (h : Dens g B ds vs) : vs.isEmpty = ds.isEmpty := by
  have := h.length
  cases ds <;> cases vs <;> simp at this ⊢
theorem tru_den {d : D} {v : V} {k : Bool} (eB : Ex B H) (h : DenW g B H d v) (e : truD d = some k) : TruV g.K v H k := by
  cases d with
  | non => cases h; cases e; rfl
  | bl b => cases h; cases e; rfl
  | int i => cases h; cases e; rfl
  | str y =>
    cases h
    have e' : (if y.length ≤ 100000 then some (y.length != 0) else none) = some k := e
    by_cases hy : y.length ≤ 100000
    · rw [if_pos hy] at e'
      cases e'
      refine ⟨Evl.sz_of hy, ?_⟩
      rw [Bool.eq_iff_iff]; simp
    · rw [if_neg hy] at e'
      cases e'
  | tup ds => obtain ⟨a, vs, rfl, h1, h2⟩ := h; cases e; exact .inr (.inl ⟨vs, Evl.ex_t eB h1, by rw [isEmpty_dens h2]⟩)
  | lst ds => obtain ⟨a, vs, rfl, h1, h2⟩ := h; cases e; exact .inl ⟨vs, .inl (.inl h1), by rw [isEmpty_dens h2]⟩
  | arg ds => obtain ⟨a, vs, rfl, h1, h2⟩ := h; cases e; exact .inl ⟨vs, Evl.ex_l eB h1, by rw [isEmpty_dens h2]⟩
  | obj c ds => cases e
  | exc a x c ds => cases e
theorem jt_tru {f : M Opd} (hK : X.K = g.K) (ha : JO X g T W a f) (he : ∀ whole, isTrue a X.env whole = (do let v ← whole; standAt a.pos; holding [v] (truthy v))) : JT X g T W a (mbind f fun o => mbind (res o) fun d => mopt (truD d)) :=
  fun τ t => PT.imp (pt_truth (ha τ t) he) fun σ H Q ⟨B, s, R, p⟩ =>
  (PostM.bind (P := PO' g) R p).mono fun v H1 ⟨o, B1, s1, R1, e1, q, p1⟩ => by
    rcases res_cases (o := o) (s := s1) with ⟨d, w⟩ | w
    · rw [mbind_ok w] at p1
      cases ek : truD d with
      | none => rw [ek] at p1; exact p1.elim
      | some k =>
        rw [ek] at p1
        refine ⟨k, ?_, p1 k B1 H1 R1 (Evl.Ex.refl _) rfl⟩
        rw [hK]
        exact tru_den R1.bh (res_ok R1 q w).2 ek
    · exfalso
      have z : mbind (res o) (fun d => mopt (truD d)) s1 = .bad := by unfold mbind; rw [w]
      rw [z] at p1; exact p1
end TW

set_option Elab.async false
set_option linter.all false
set_option autoImplicit false
set_option maxRecDepth 100000
set_option maxHeartbeats 1000000
namespace TW
open PySem PySem.Spec PyProof.Rows L2
variable {g : G} {T : Tx} {B B' H H' : Hp} {σ : L2.St} {s : S} {W : WX} {α β γ δ : Type} {P : PP α β}

/-! ## statements -/
inductive OutS where
  | nx (s : S) | rt (r : Rv) (s : S) | bk (s : S) | ct (s : S) | ex (c : Nat) (ds : List D) (s : S) | bad
abbrev MS := S → OutS
def PostS (g : G) (T : Tx) (W : WX) (B : Hp) : OutS → Ends → Prop
  | .nx s', D => ∀ σ' B' H', Rel g T B' H' σ' s' → Ex B B' → D.nx σ' H'
  | .bk s', D => ∀ σ' B' H', Rel g T B' H' σ' s' → Ex B B' → D.bk σ' H'
  | .ct s', D => ∀ σ' B' H', Rel g T B' H' σ' s' → Ex B B' → D.ct σ' H'
  | .rt r s', D => ∀ v σ' B' H', Rel g T B' H' σ' s' → Ex B B' → RvOk g T σ' s' r B' H' v → D.rt v H'
  | .ex c ds s', _ => ∀ x σ' B' H', Rel g T B' H' σ' s' → Ex B B' → XcOk g B' x c ds → W (.ref (g.cn c)) x σ' H'
  | .bad, _ => False
def RdS (g : G) (T : Tx) (W : WX) (f : MS) : TS := fun D σ H => ∃ B s, Rel g T B H σ s ∧ PostS g T W B (f s) D
def JS (X : Cx) (g : G) (T : Tx) (W : WX) (st : Stmt) (f : MS) : Prop := PS X st (RdS g T W f)
def JSs (X : Cx) (g : G) (T : Tx) (W : WX) (st : List Stmt) (f : MS) : Prop := PSs X st (RdS g T W f)
theorem PS.imp {X : Cx} {st : Stmt} {t t' : TS} (h : PS X st t) (hi : ∀ D σ H, t' D σ H → t D σ H) : PS X st t' := ⟨fun pins s σ H D I q => h.run pins s σ H D I (hi _ _ _ q)⟩
theorem PSs.imp {X : Cx} {st : List Stmt} {t t' : TS} (h : PSs X st t) (hi : ∀ D σ H, t' D σ H → t D σ H) : PSs X st t' := ⟨fun pins s σ H D I q => h.run pins s σ H D I (hi _ _ _ q)⟩
theorem PostS.base {o : OutS} {D : Ends} (e : Ex B B') (h : PostS g T W B o D) : PostS g T W B' o D := by
  cases o with
  | nx s' => exact fun σ' B1 H1 R1 e1 => h σ' B1 H1 R1 (e.trans e1)
  | bk s' => exact fun σ' B1 H1 R1 e1 => h σ' B1 H1 R1 (e.trans e1)
  | ct s' => exact fun σ' B1 H1 R1 e1 => h σ' B1 H1 R1 (e.trans e1)
  | rt r s' => exact fun v σ' B1 H1 R1 e1 p => h v σ' B1 H1 R1 (e.trans e1) p
  | ex c ds s' => exact fun x σ' B1 H1 R1 e1 p => h x σ' B1 H1 R1 (e.trans e1) p
  | bad => exact h
def mseq (f k : MS) : MS := fun s => match f s with
  | .nx s' => k s'
  | o => o
def ms {α : Type} (f : M α) (k : α → MS) : MS := fun s => match f s with
  | .ok a s' => k a s'
  | .ex c ds s' => .ex c ds s'
  | .bad => .bad
theorem PostS.bind {fa : M α} {k : α → MS} {D : Ends} (R : Rel g T B H σ s) (h : PostS g T W B (ms fa k s) D) :
    RdM g T W P fa σ H fun v H1 => ∃ a B1 s1, Rel g T B1 H1 σ s1 ∧ Ex B B1 ∧ P σ s1 a B1 H1 v ∧ PostS g T W B1 (k a s1) D := by
  refine ⟨B, s, R, ?_⟩
  unfold ms at h
  cases e : fa s with
  | ok a s' =>
    rw [e] at h
    exact fun v B1 H1 R1 e1 p => ⟨a, B1, s', R1, e1, p, PostS.base e1 h⟩
  | ex c ds s' => rw [e] at h; exact fun x B1 H1 R1 e1 p => h x σ B1 H1 R1 e1 p
  | bad => rw [e] at h; exact h
variable {X : Cx} {e a b c : Expr} {st : Stmt} {sts rest : List Stmt} {pos : Pos}
theorem jss_nil : JSs X g T W [] (fun s => .nx s) := PSs.imp pss_nil fun D σ H ⟨B, s, R, p⟩ => p σ B H R (Evl.Ex.refl _)
theorem jss_one {f : MS} (h : JS X g T W st f) : JSs X g T W [st] f := pss_one h
theorem jss_cons {f k : MS} (h : JS X g T W st f) (hr : JSs X g T W rest k) : JSs X g T W (st :: rest) (mseq f k) := PSs.imp (pss_cons h hr) fun D σ H ⟨B, s, R, p⟩ => by
  refine ⟨B, s, R, ?_⟩
  unfold mseq at p
  cases e : f s with
  | nx s' => rw [e] at p; exact fun σ' B' H' R' e' => ⟨B', s', R', PostS.base e' p⟩
  | bk s' => rw [e] at p; exact p
  | ct s' => rw [e] at p; exact p
  | rt r s' => rw [e] at p; exact p
  | ex c ds s' => rw [e] at p; exact p
  | bad => rw [e] at p; exact p
theorem js_pass : JS X g T W (.Pass pos) (fun s => .nx s) := PS.imp ps_pass fun D σ H ⟨B, s, R, p⟩ => p σ B H R (Evl.Ex.refl _)
theorem js_break : JS X g T W (.Break pos) (fun s => .bk s) := PS.imp ps_break fun D σ H ⟨B, s, R, p⟩ => p σ B H R (Evl.Ex.refl _)
theorem js_continue : JS X g T W (.Continue pos) (fun s => .ct s) := PS.imp ps_continue fun D σ H ⟨B, s, R, p⟩ => p σ B H R (Evl.Ex.refl _)
theorem js_doc {x j pos'} : JS X g T W (.Expr (.Constant (.str x) j pos) pos') (fun s => .nx s) := PS.imp ps_doc fun D σ H ⟨B, s, R, p⟩ => p σ B H R (Evl.Ex.refl _)
def Rv.sl : Rv → Sl
  | .v d => .v d
  | .l ds => .l ds
  | .o c ds => .o c ds
/-- a name that is no parameter; a parameter that is no list of the caller's -/
def stSet (i : Nat) (x : Sl) : MS := fun s => if i < s.length then .nx (s.set i x) else .bad
def stSetP (i : Nat) (x : Sl) : MS := fun s => match s[i]? with
  | some (.v _) => .nx (s.set i x)
  | _ => .bad
theorem Rel.stored (R : Rel g T B H σ s) {i : Nat} {r : Rv} {v : V} (hi : i < s.length) (hio : T.io i = none) (h : RvOk g T σ s r B H v) : Rel g T B H (σ.set i (some v)) (s.set i r.sl) := by
  cases r with
  | v d => exact R.storev hi hio h
  | l ds => obtain ⟨p, vs, rfl, F, hd⟩ := h; exact R.storel hi hio F hd
  | o c ds =>
    obtain ⟨p, dx, vs, rfl, F, hd⟩ := h
    exact R.store hi hio ⟨p, dx, vs, rfl, F.b, F.at_, hd⟩ fun a _ e => by cases e; exact ⟨F.sl, F.h0⟩
theorem js_set {i : Nat} {f : M Rv} (hps : ∀ te, PE X e te → PS X st (tAsg te (gName i))) (hio : T.io i = none) (he : JR X g T W e f) : JS X g T W st (ms f fun r => stSet i r.sl) :=
  PS.imp (hps _ (he T.τ T.t)) fun D σ H ⟨B, s, R, p⟩ => (PostS.bind (P := RvOk g T) R p).mono fun v H1 ⟨r, B1, s1, R1, e1, q, p1⟩ => by
    unfold stSet at p1
    by_cases hi : i < s1.length
    · rw [if_pos hi] at p1; exact p1 _ B1 H1 (R1.stored hi hio q) (Evl.Ex.refl _)
    · rw [if_neg hi] at p1; exact p1.elim
theorem js_setP {i : Nat} {f : M Rv} (hps : ∀ te, PE X e te → PS X st (tAsg te (gName i))) (he : JR X g T W e f) : JS X g T W st (ms f fun r => stSetP i r.sl) :=
  PS.imp (hps _ (he T.τ T.t)) fun D σ H ⟨B, s, R, p⟩ => (PostS.bind (P := RvOk g T) R p).mono fun v H1 ⟨r, B1, s1, R1, e1, q, p1⟩ => by
    unfold stSetP at p1
    cases hs : s1[i]? with
    | none => rw [hs] at p1; exact p1.elim
    | some x =>
      rw [hs] at p1
      cases x with
      | v d =>
        have hi := (List.getElem?_eq_some_iff.mp hs).1
        have hio : T.io i = none := by
          cases ei : T.io i with
          | none => rfl
          | some a =>
            obtain ⟨_, x, hx, ho⟩ := R1.r.iok i a ei
            rw [app_some hs] at hx; cases hx; cases ho
        exact p1 _ B1 H1 (R1.stored hi hio q) (Evl.Ex.refl _)
      | _ => exact p1.elim
theorem js_ret {f : M Rv} (he : JR X g T W e f) : JS X g T W (.Return (some e) pos) (ms f fun r s => .rt r s) :=
  PS.imp (ps_ret (he T.τ T.t)) fun D σ H ⟨B, s, R, p⟩ => (PostS.bind (P := RvOk g T) R p).mono fun v H1 ⟨r, B1, s1, R1, e1, q, p1⟩ => p1 v σ B1 H1 R1 (Evl.Ex.refl _) q
theorem js_retN : JS X g T W (.Return none pos) (fun s => .rt (.v .non) s) := PS.imp ps_retN fun D σ H ⟨B, s, R, p⟩ => p .non σ B H R (Evl.Ex.refl _) rfl
theorem js_expr {f : M D} (he : JE X g T W e f) (hs : swapsWith e none pos.line X.env = pure false) : JS X g T W (.Expr e pos) (ms f fun _ s => .nx s) :=
  PS.imp (ps_expr (he T.τ T.t) hs) fun D σ H ⟨B, s, R, p⟩ => (PostS.bind (P := PD g) R p).mono fun v H1 ⟨r, B1, s1, R1, e1, q, p1⟩ => p1 σ B1 H1 R1 (Evl.Ex.refl _)
def mcond (t : M Bool) (f k : MS) : MS := ms t fun c => if c = true then f else k
theorem js_if {ft : M Bool} {f k : MS} {l1 l2 : List Stmt} (hc : JT X g T W c ft) (h1 : JSs X g T W l1 f) (h2 : JSs X g T W l2 k) : JS X g T W (.If c l1 l2 pos) (mcond ft f k) :=
  PS.imp (ps_if (hc T.τ T.t) h1 h2) fun D σ H ⟨B, s, R, p⟩ => (PostS.bind (P := PB) R p).mono fun v H1 ⟨r, B1, s1, R1, e1, q, p1⟩ => by
    subst q
    cases v with
    | true => exact ⟨B1, s1, R1, p1⟩
    | false => exact ⟨B1, s1, R1, p1⟩

/-! ## defs -/
inductive OutF where
  | ret (r : Rv) (post : List Sl) | ex (c : Nat) (ds : List D) (post : List Sl) | bad
abbrev Fd := List Sl → OutF
structure ArgsOk (g : G) (B H : Hp) (as : List Sl) (vs : List V) : Prop where
  len : as.length = vs.length
  ok : ∀ (i : Nat) (x : Sl) (v : V), as[i]? = some x → vs[i]? = some v → SlOk g B H x (some v)
  nd : ∀ (i j : Nat) (x y : Sl) (a : Addr), as[i]? = some x → as[j]? = some y → x.own = true → y.own = true → vs[i]? = some (.ref a) → vs[j]? = some (.ref a) → i = j
structure After (g : G) (B H B' H' : Hp) (as : List Sl) (vs : List V) (post : List Sl) : Prop where
  eB : Ex B B'
  eBH : Ex B' H'
  nw : ∀ a, H a ≠ none → B' a = B a
  hh : ∀ a o, H a = some o → (∀ (j : Nat) (x : Sl), as[j]? = some x → x.own = true → vs[j]? ≠ some (.ref a)) → H' a = some o
  dom : ∀ a, H a ≠ none → H' a ≠ none
  io : ∀ (j : Nat) (x : Sl) (v : V), as[j]? = some x → x.own = true → vs[j]? = some v → ∃ x', post[j]? = some x' ∧ x'.own = true ∧ SlOk g B' H' x' (some v)
def RetOk (g : G) (H B' H' : Hp) : Rv → V → Prop
  | .v d, v => Den g B' d v
  | .l ds, v => ∃ p us, v = .ref p ∧ H p = none ∧ B' p = none ∧ H' p = some (.lst us) ∧ Dens g B' ds us
  | .o c ds, v => ∃ p dx us, v = .ref p ∧ H p = none ∧ B' p = none ∧ H' p = some (.ins (g.cn c) dx ((g.names c).zip us)) ∧ Dens g B' ds us
def PostF (g : G) (B H : Hp) (as : List Sl) (vs : List V) (Q : VK) (E : XK) : OutF → Prop
  | .ret r post => ∀ v B' H', After g B H B' H' as vs post → RetOk g H B' H' r v → Q v H'
  | .ex c ds post => ∀ x B' H', After g B H B' H' as vs post → XcOk g B' x c ds → E (.ref (g.cn c)) x H'
  | .bad => False
def spD (g : G) (f : Fd) : Sp := fun vs H Q E => ∃ B as, Ex B H ∧ ArgsOk g B H as vs ∧ PostF g B H as vs Q E (f as)
def fnD (n np : Nat) (body : MS) : Fd := fun as => if as.length = np then (match body (as ++ List.replicate (n - np) .no) with
  | .nx s => .ret (.v .non) (s.take np)
  | .rt r s => .ret r (s.take np)
  | .ex c ds s => .ex c ds (s.take np)
  | _ => .bad) else .bad
/-- what a def's run may change for its caller -/
def ioOf (as : List Sl) (vs : List V) : Nat → Option Addr := fun j => match as[j]?, vs[j]? with
  | some x, some (.ref a) => if x.own = true then some a else none
  | _, _ => none
theorem ioOf_some {as : List Sl} {vs : List V} {j : Nat} {a : Addr} (h : ioOf as vs j = some a) : ∃ x, as[j]? = some x ∧ x.own = true ∧ vs[j]? = some (.ref a) := by
  unfold ioOf at h
  cases e1 : as[j]? with
  | none => rw [e1] at h; cases h
  | some x =>
    cases e2 : vs[j]? with
    | none => rw [e1, e2] at h; cases h
    | some v =>
      rw [e1, e2] at h
      cases v with
      | ref b =>
        have h' : (if x.own = true then some b else none) = some a := h
        by_cases ho : x.own = true
        · rw [if_pos ho] at h'; cases h'; exact ⟨x, rfl, ho, rfl⟩
        · rw [if_neg ho] at h'; cases h'
      | _ => cases h
theorem ioOf_of {as : List Sl} {vs : List V} {j : Nat} {a : Addr} {x : Sl} (h1 : as[j]? = some x) (h2 : x.own = true) (h3 : vs[j]? = some (.ref a)) : ioOf as vs j = some a := by
  unfold ioOf; rw [h1, h3]; exact if_pos h2
theorem ioOf_ge {as : List Sl} {vs : List V} {j : Nat} (h : as.length ≤ j) : ioOf as vs j = none := by
  cases e : ioOf as vs j with
  | none => rfl
  | some a => obtain ⟨x, h1, _⟩ := ioOf_some e; have := (List.getElem?_eq_some_iff.mp h1).1; omega
abbrev tx0 (B H : Hp) (as : List Sl) (vs : List V) : Tx := ⟨B, H, ioOf as vs, [], []⟩
theorem Rel.start {as : List Sl} {vs : List V} {N : List Str} (e : Ex B H) (A : ArgsOk g B H as vs) (hN : vs.length ≤ N.length) : Rel g (tx0 B H as vs) B H (L2.start N vs) (as ++ List.replicate (N.length - vs.length) .no) := by
  have gs : ∀ (i : Nat) (x : Sl), (as ++ List.replicate (N.length - vs.length) .no)[i]? = some x → (as[i]? = some x) ∨ x = .no := fun i x h => by
    by_cases hi : i < as.length
    · rw [List.getElem?_append_left hi] at h; exact .inl h
    · rw [List.getElem?_append_right (by omega)] at h; exact .inr (List.eq_of_mem_replicate (List.mem_of_getElem? h))
  have gv : ∀ (i : Nat) (x : Sl), as[i]? = some x → ∃ v, vs[i]? = some v ∧ (L2.start N vs)[i]? = some (some v) := fun i x h => by
    have hi := (List.getElem?_eq_some_iff.mp h).1
    have hv : i < vs.length := by rw [← A.len]; exact hi
    refine ⟨vs[i], by simp [hv], ?_⟩
    unfold L2.start
    rw [List.getElem?_append_left (by simpa using hv)]
    simp [hv]
  have gr : ∀ (i : Nat) (x : Sl) (a : Addr), as[i]? = some x → (L2.start N vs)[i]? = some (some (.ref a)) → vs[i]? = some (.ref a) := fun i x a h h' => by
    obtain ⟨v, h1, h2⟩ := gv i x h; rw [h2] at h'; cases h'; exact h1
  have hl : (L2.start N vs).length = N.length := by unfold L2.start; simp; omega
  have hlen : (L2.start N vs).length = (as ++ List.replicate (N.length - vs.length) Sl.no).length := by rw [hl]; simp [A.len]; omega
  refine ⟨⟨Evl.Ex.refl B, e, fun _ _ => rfl, fun _ _ h _ => h, fun _ h => h, by simpa using hlen, fun i x y hx hy => ?_, fun i j x x' a hx hx' ho ho' e1 e2 => ?_, fun j a hj => ?_, fun i x a hx ho e1 => ?_⟩, hlen, fun j a hj => ?_⟩
  · simp only [List.append_nil] at hx hy
    rcases gs i x hx with h | h
    · obtain ⟨v, h1, h2⟩ := gv i x h
      rw [h2] at hy; cases hy
      exact A.ok i x v h h1
    · subst h; trivial
  · simp only [List.append_nil] at hx hx' e1 e2
    rcases gs i x hx with h | h
    · rcases gs j x' hx' with h' | h'
      · exact A.nd i j x x' a h h' ho ho' (gr i x a h e1) (gr j x' a h' e2)
      · subst h'; cases ho'
    · subst h; cases ho
  · simp only [List.append_nil]
    obtain ⟨x, h1, h2, h3⟩ := ioOf_some hj
    obtain ⟨v, h4, h5⟩ := gv j x h1
    rw [h3] at h4; cases h4
    exact ⟨h5, x, app_some h1, h2⟩
  · simp only [List.append_nil] at hx e1
    rcases gs i x hx with h | h
    · exact .inr ⟨i, ioOf_of h ho (gr i x a h e1)⟩
    · subst h; cases ho
  · obtain ⟨x, h1, _⟩ := ioOf_some hj
    have := (List.getElem?_eq_some_iff.mp h1).1
    rw [hl]; have := A.len; omega
theorem Rel.after {as : List Sl} {vs : List V} {B0 H0 : Hp} {np : Nat} (R : Rel g (tx0 B0 H0 as vs) B H σ s) (hn : as.length = np) (A : ArgsOk g B0 H0 as vs) : After g B0 H0 B H as vs (s.take np) where
  eB := R.b0
  eBH := R.bh
  nw := R.r.nw
  hh := fun a o h hj => R.r.hh a o h fun j z => by
    obtain ⟨x, h1, h2, h3⟩ := ioOf_some z
    exact hj j x h1 h2 h3
  dom := R.dom
  io := fun j x v h1 h2 h3 => by
    have hj := (List.getElem?_eq_some_iff.mp h1).1
    cases v with
    | ref a =>
      obtain ⟨e, y, hy, ho⟩ := R.r.iok j a (ioOf_of h1 h2 h3)
      simp only [List.append_nil] at e hy
      refine ⟨y, by rw [List.getElem?_take]; rw [if_pos (by omega)]; exact hy, ho, R.r.sl j y _ (by simpa using hy) (by simpa using e)⟩
    | _ =>
      exfalso
      have q := A.ok j x _ h1 h3
      cases x with
      | l ds => obtain ⟨_, _, e, _⟩ := q; cases e
      | o c ds => obtain ⟨_, _, _, e, _⟩ := q; cases e
      | _ => cases h2
end TW

set_option Elab.async false
set_option linter.all false
set_option autoImplicit false
set_option maxRecDepth 100000
set_option maxHeartbeats 1000000
namespace TW
open PySem PySem.Spec PyProof.Rows L2
variable {g : G} {T : Tx} {B B' H H' : Hp} {σ : L2.St} {s : S} {W : WX} {α β γ δ : Type} {P : PP α β}

theorem RvOk.ret {as : List Sl} {vs : List V} {B0 H0 : Hp} {r : Rv} {v : V} (R : Rel g (tx0 B0 H0 as vs) B H σ s) (h : RvOk g (tx0 B0 H0 as vs) σ s r B H v) : RetOk g H0 B H r v := by
  cases r with
  | v d => exact h
  | l ds => obtain ⟨p, us, rfl, F, hd⟩ := h; exact ⟨p, us, rfl, F.h0, F.b, F.at_, hd⟩
  | o c ds => obtain ⟨p, dx, us, rfl, F, hd⟩ := h; exact ⟨p, dx, us, rfl, F.h0, F.b, F.at_, hd⟩
/-- a def keeps the promise of what describes its body -/
theorem fnD_ok {P : Program} {w : World} {base : Heap} {x qual : Str} {st : Stmt} {f : Addr} {fd : FuncData} {N ps : List Str} {k : Nat} {body : MS} (F : Fun g.K x qual st f fd) (Sc : FnScope N ps (defScope st)) (hps : ps.length ≤ N.length)
    (hbody : ∀ (cdv : Value) (A : Around) (outer : List Env) (s : Shared) (H : Hp) (E : XK) (T : Tx), Room k (A.deeper (envOfC qual (defScope st) s.heap.objs.size f cdv)) → (∀ i, ps.length ≤ i → T.io i = none) →
      JSs (cxOf (L2.CX P w) P w g.K g.mg base N qual (defScope st) f cdv A outer s H E) g T (fun cls d _ H => E cls d H) (defBody st) body) :
    FnOk P w g.K g.mg base (L2.CX P w) (k + 1) f fd ps (spD g (fnD N.length ps.length body)) := by
  refine F.okX Sc (fun vs H Q E h => ?_) (fun cdv A outer s H vs Q E hr h => ?_)
  · obtain ⟨B, as, e, A, p⟩ := h
    unfold fnD at p
    by_cases hl : as.length = ps.length
    · rw [← A.len]; exact hl
    · rw [if_neg hl] at p; exact p.elim
  · obtain ⟨B, as, e, Ao, p⟩ := h
    unfold fnD at p
    by_cases hl : as.length = ps.length
    · rw [if_pos hl] at p
      refine ⟨_, hbody cdv A outer s H E (tx0 B H as vs) hr (fun i hi => ioOf_ge (by omega)), B, _, Rel.start e Ao (by rw [← Ao.len]; omega), ?_⟩
      have hv : N.length - vs.length = N.length - ps.length := by rw [← Ao.len]; omega
      rw [hv]
      cases q : body (as ++ List.replicate (N.length - ps.length) Sl.no) with
      | nx s' =>
        rw [q] at p
        intro σ' B' H' R' e'
        exact p .non B' H' (R'.after hl Ao) rfl
      | rt r s' =>
        rw [q] at p
        intro v σ' B' H' R' e' hr
        exact p v B' H' (R'.after hl Ao) (RvOk.ret R' hr)
      | ex c ds s' =>
        rw [q] at p
        intro x σ' B' H' R' e' hx
        exact p x B' H' (R'.after hl Ao) hx
      | bk s' => rw [q] at p; exact p.elim
      | ct s' => rw [q] at p; exact p.elim
      | bad => rw [q] at p; exact p.elim
    · rw [if_neg hl] at p; exact p.elim

/-! ## calls -/
def Opd.isS (k : Nat) : Opd → Bool
  | .s j => j == k
  | .d _ => false
def Sl.some? : Sl → Option Sl
  | .no => none
  | x => some x
def argOf (s : S) : Opd → Option Sl
  | .d x => some (.v x)
  | .s k => (s[k]?).bind Sl.some?
def argsOf (s : S) : List Opd → Option (List Sl)
  | [] => some []
  | o :: r => match argOf s o, argsOf s r with
    | some x, some xs => some (x :: xs)
    | _, _ => none
/-- no list goes to two parameters -/
def dupFree (s : S) : List Opd → Bool
  | [] => true
  | .d _ :: r => dupFree s r
  | .s k :: r => (!((s[k]?).getD .no).own || r.all fun o => !o.isS k) && dupFree s r
def putBack (s : S) (os : List Opd) (post : List Sl) : S := s.mapIdx fun i x => if x.own = true then (match os.findIdx? (Opd.isS i) with
  | some j => post.getD j .no
  | none => x) else x
def mcall (f : Fd) (dds : List D) (fa : M (List Opd)) : M Rv := mbind fa fun os s => if dupFree s os = true then (match argsOf s os with
  | none => .bad
  | some as => match f (as ++ dds.map .v) with
    | .ret r post => .ok r (putBack s os post)
    | .ex c ds post => .ex c ds (putBack s os post)
    | .bad => .bad) else .bad
theorem argsOf_get : ∀ {os : List Opd} {s : S} {as : List Sl}, argsOf s os = some as → as.length = os.length ∧ ∀ (i : Nat) (o : Opd), os[i]? = some o → argOf s o = as[i]?
  | [], s, as, h => by cases h; exact ⟨rfl, fun i o h => by simp at h⟩
  | o :: r, s, as, h => by
    unfold argsOf at h
    cases e1 : argOf s o with
    | none => rw [e1] at h; simp at h
    | some x =>
      cases e2 : argsOf s r with
      | none => rw [e1, e2] at h; simp at h
      | some xs =>
        rw [e1, e2] at h
        simp at h
        subst h
        obtain ⟨h1, h2⟩ := argsOf_get e2
        refine ⟨by simp [h1], fun i o' hi => ?_⟩
        cases i with
        | zero => simp at hi; subst hi; simpa using e1
        | succ i => simp at hi ⊢; exact h2 i o' hi
theorem argOf_own {o : Opd} {x : Sl} (h : argOf s o = some x) (ho : x.own = true) : ∃ k, o = .s k ∧ s[k]? = some x := by
  cases o with
  | d y => cases h; cases ho
  | s k =>
    cases e : s[k]? with
    | none => simp [argOf, e] at h
    | some y =>
      have h' : y.some? = some x := by simpa [argOf, e] using h
      cases y with
      | no => cases h'
      | v d => cases h'; cases ho
      | l ds => cases h'; exact ⟨k, rfl, e⟩
      | o c ds => cases h'; exact ⟨k, rfl, e⟩
theorem dup_at : ∀ {os : List Opd} {i j k : Nat} {x : Sl}, dupFree s os = true → s[k]? = some x → x.own = true → os[i]? = some (.s k) → os[j]? = some (.s k) → i = j
  | [], i, _, _, _, _, _, _, h, _ => by simp at h
  | o :: r, i, j, k, x, hd, hk, ho, hi, hj => by
    have key : ∀ (m : Nat), r[m]? = some (.s k) → o = .s k → False := fun m hm e => by
      subst e
      unfold dupFree at hd
      rw [hk] at hd
      simp only [Option.getD_some, ho, Bool.not_true, Bool.false_or, Bool.and_eq_true] at hd
      have := List.all_eq_true.mp hd.1 _ (List.mem_of_getElem? hm)
      simp [Opd.isS] at this
    have hd' : dupFree s r = true := by
      cases o with
      | d y => exact hd
      | s m => unfold dupFree at hd; exact (Bool.and_eq_true_iff.mp hd).2
    cases i with
    | zero =>
      cases j with
      | zero => rfl
      | succ j => simp at hi hj; exact (key j hj hi).elim
    | succ i =>
      cases j with
      | zero => simp at hi hj; exact (key i hi hj).elim
      | succ j => simp at hi hj; rw [dup_at hd' hk ho hi hj]
theorem Rel0.args_ok {os : List Opd} {vs : List V} {as : List Sl} {dds : List D} {dvs : List V} (R : Rel0 g T B H σ s) (hp : PAs g σ s os B H vs) (hd : dupFree s os = true) (ha : argsOf s os = some as) (hdd : Dens g B dds dvs) : ArgsOk g B H (as ++ dds.map .v) (vs ++ dvs) := by
  obtain ⟨hl, hg⟩ := argsOf_get ha
  have hl2 : as.length = vs.length := hl.trans hp.1
  have sp : ∀ (i : Nat) (x : Sl), (as ++ dds.map Sl.v)[i]? = some x → (as[i]? = some x ∧ i < as.length) ∨ (as.length ≤ i ∧ ∃ d, dds[i - as.length]? = some d ∧ x = .v d) := fun i x h => by
    by_cases hi : i < as.length
    · rw [List.getElem?_append_left hi] at h; exact .inl ⟨h, hi⟩
    · rw [List.getElem?_append_right (by omega), List.getElem?_map] at h
      cases e : dds[i - as.length]? with
      | none => rw [e] at h; cases h
      | some d => rw [e] at h; cases h; exact .inr ⟨by omega, d, rfl, rfl⟩
  have vl : ∀ (i : Nat), i < as.length → (vs ++ dvs)[i]? = vs[i]? := fun i hi => List.getElem?_append_left (by omega)
  have one : ∀ (i : Nat) (x : Sl) (v : V), as[i]? = some x → vs[i]? = some v → SlOk g B H x (some v) ∧ (x.own = true → ∃ k, os[i]? = some (.s k) ∧ s[k]? = some x ∧ σ[k]? = some (some v)) := fun i x v h1 h2 => by
    have hi := (List.getElem?_eq_some_iff.mp h1).1
    have ho : i < os.length := by omega
    have e1 := hg i os[i] (by simp [ho])
    rw [h1] at e1
    have q := hp.2 i os[i] v (by simp [ho]) h2
    cases eo : os[i] with
    | d y =>
      rw [eo] at e1 q
      cases e1
      exact ⟨⟨v, rfl, q⟩, fun z => by cases z⟩
    | s k =>
      rw [eo] at e1 q
      have q' : σ[k]? = some (some v) := q
      cases es : s[k]? with
      | none => simp [argOf, es] at e1
      | some y =>
        have e2 : y.some? = some x := by simpa [argOf, es] using e1
        have fin : y = x → SlOk g B H x (some v) ∧ (x.own = true → ∃ k, os[i]? = some (.s k) ∧ s[k]? = some x ∧ σ[k]? = some (some v)) := fun e => by
          subst e
          exact ⟨R.sl k y _ es q', fun _ => ⟨k, by simp [ho, eo], es, q'⟩⟩
        cases y with
        | no => cases e2
        | v d => cases e2; exact fin rfl
        | l ds => cases e2; exact fin rfl
        | o c ds => cases e2; exact fin rfl
  refine ⟨by simp [hl2, hdd.length], fun i x v h1 h2 => ?_, fun i j x y a h1 h2 o1 o2 e1 e2 => ?_⟩
  · rcases sp i x h1 with ⟨h, hi⟩ | ⟨hi, d, hd, rfl⟩
    · rw [vl i hi] at h2; exact (one i x v h h2).1
    · rw [List.getElem?_append_right (by omega), ← hl2] at h2
      obtain ⟨v', hv, q⟩ := hdd.get hd
      have ev : v' = v := by rw [hv] at h2; exact Option.some.inj h2
      subst ev
      exact ⟨_, rfl, q⟩
  · rcases sp i x h1 with ⟨h, hi⟩ | ⟨hi, d, _, rfl⟩
    · rcases sp j y h2 with ⟨h', hj⟩ | ⟨hj, d, _, rfl⟩
      · rw [vl i hi] at e1
        rw [vl j hj] at e2
        obtain ⟨k, k1, k2, k3⟩ := (one i x _ h e1).2 o1
        obtain ⟨m, m1, m2, m3⟩ := (one j y _ h' e2).2 o2
        have : k = m := R.nd k m x y a k2 m2 o1 o2 k3 m3
        subst this
        exact dup_at hd k2 o1 k1 m1
      · cases o2
    · cases o1
theorem putBack_get (s : S) (os : List Opd) (post : List Sl) (i : Nat) : (putBack s os post)[i]? = (s[i]?).map fun x => if x.own = true then (match os.findIdx? (Opd.isS i) with
    | some j => post.getD j .no
    | none => x) else x := by
  unfold putBack; rw [List.getElem?_mapIdx]
theorem putBack_own {s t : S} {os : List Opd} {post : List Sl} {i : Nat} {y : Sl} (h : (putBack s os post ++ t)[i]? = some y) (ho : y.own = true) : ∃ x, (s ++ t)[i]? = some x ∧ x.own = true := by
  have plen : (putBack s os post).length = s.length := by unfold putBack; simp
  by_cases hi : i < s.length
  · rw [List.getElem?_append_left (by omega), putBack_get] at h
    refine ⟨s[i], by rw [List.getElem?_append_left hi]; simp [hi], ?_⟩
    simp [hi] at h
    cases q : s[i].own with
    | true => rfl
    | false =>
      rw [if_neg (by simp [q])] at h
      rw [← h, q] at ho; cases ho
  · rw [List.getElem?_append_right (by omega), plen] at h
    exact ⟨y, by rw [List.getElem?_append_right (by omega)]; exact h, ho⟩
/-- behind a call -/
theorem Rel0.called {os : List Opd} {vs : List V} {as : List Sl} {dds : List D} {dvs : List V} {post : List Sl} (R : Rel0 g T B H σ s) (hp : PAs g σ s os B H vs) (hd : dupFree s os = true) (ha : argsOf s os = some as) (hdd : Dens g B dds dvs)
    (A : After g B H B' H' (as ++ dds.map .v) (vs ++ dvs) post) : Rel0 g T B' H' σ (putBack s os post) := by
  obtain ⟨hl, hg⟩ := argsOf_get ha
  have hl2 : as.length = vs.length := hl.trans hp.1
  -- an argument that is own is a slot
  have own_of : ∀ (j : Nat) (x : Sl) (a : Addr), (as ++ dds.map Sl.v)[j]? = some x → x.own = true → (vs ++ dvs)[j]? = some (.ref a) → ∃ k, os[j]? = some (.s k) ∧ s[k]? = some x ∧ σ[k]? = some (some (.ref a)) := fun j x a h1 h2 h3 => by
    by_cases hj : j < as.length
    · rw [List.getElem?_append_left hj] at h1
      rw [List.getElem?_append_left (by omega)] at h3
      have ho : j < os.length := by omega
      have e1 := hg j os[j] (by simp [ho])
      rw [h1] at e1
      obtain ⟨k, k1, k2⟩ := argOf_own e1 h2
      have q := hp.2 j os[j] _ (by simp [ho]) h3
      rw [k1] at q
      exact ⟨k, by rw [← k1]; simp [ho], k2, q⟩
    · rw [List.getElem?_append_right (by omega), List.getElem?_map] at h1
      cases e : dds[j - as.length]? with
      | none => rw [e] at h1; cases h1
      | some d => rw [e] at h1; cases h1; cases h2
  have pb : ∀ (i : Nat) (y : Sl), (putBack s os post)[i]? = some y → ∃ x, s[i]? = some x ∧ (x.own = false → y = x) ∧ (x.own = true → (y = x ∧ os.findIdx? (Opd.isS i) = none) ∨ ∃ j, os.findIdx? (Opd.isS i) = some j ∧ y = post.getD j .no) := fun i y h => by
    have plen : (putBack s os post).length = s.length := by unfold putBack; simp
    have hi : i < s.length := by rw [← plen]; exact (List.getElem?_eq_some_iff.mp h).1
    rw [putBack_get] at h
    refine ⟨s[i], by simp [hi], ?_⟩
    simp [hi] at h
    by_cases ho : s[i].own = true
    · rw [if_pos ho] at h
      refine ⟨fun z => (by rw [ho] at z; cases z), fun _ => ?_⟩
      cases q : os.findIdx? (Opd.isS i) with
      | none => rw [q] at h; exact .inl ⟨h.symm, rfl⟩
      | some j => rw [q] at h; exact .inr ⟨j, rfl, h.symm⟩
    · rw [if_neg ho] at h
      exact ⟨fun _ => h.symm, fun z => absurd z ho⟩
  -- the slot that goes to a parameter
  have slot_of : ∀ (i j : Nat) (x : Sl) (a : Addr), s[i]? = some x → x.own = true → σ[i]? = some (some (.ref a)) → os.findIdx? (Opd.isS i) = some j → (as ++ dds.map Sl.v)[j]? = some x ∧ (vs ++ dvs)[j]? = some (.ref a) := fun i j x a h1 h2 h3 hf => by
    obtain ⟨hj, hj2, _⟩ := List.findIdx?_eq_some_iff_getElem.mp hf
    have eo : os[j] = .s i := by
      cases q : os[j] with
      | d y => rw [q] at hj2; cases hj2
      | s k =>
        rw [q] at hj2
        have e : k = i := by simpa [Opd.isS] using hj2
        rw [e]
    have e1 := hg j os[j] (by simp [hj])
    rw [eo] at e1
    have e2 : argOf s (.s i) = some x := by
      show (s[i]?).bind Sl.some? = some x
      rw [h1]
      cases x <;> first | rfl | cases h2
    rw [e2] at e1
    have hv : j < vs.length := by rw [← hp.1]; exact hj
    have q := hp.2 j os[j] vs[j] (by simp [hj]) (by simp [hv])
    rw [eo] at q
    have q' : σ[i]? = some (some vs[j]) := q
    rw [h3] at q'
    have ev : vs[j] = .ref a := (Option.some.inj (Option.some.inj q')).symm
    refine ⟨by rw [List.getElem?_append_left (by omega)]; exact e1.symm, by rw [List.getElem?_append_left hv]; simp [hv, ev]⟩
  have keepA : ∀ (i : Nat) (x : Sl) (a : Addr), s[i]? = some x → x.own = true → σ[i]? = some (some (.ref a)) → os.findIdx? (Opd.isS i) = none → ∀ (j : Nat) (z : Sl), (as ++ dds.map Sl.v)[j]? = some z → z.own = true → (vs ++ dvs)[j]? ≠ some (.ref a) := fun i x a h1 h2 h3 hf j z hz1 hz2 hz3 => by
    obtain ⟨k, k1, k2, k3⟩ := own_of j z a hz1 hz2 hz3
    have : i = k := R.nd i k x z a h1 k2 h2 hz2 h3 k3
    subst this
    have := hf
    rw [List.findIdx?_eq_none_iff] at this
    have := this _ (List.mem_of_getElem? k1)
    simp [Opd.isS] at this
  have plen : (putBack s os post).length = s.length := by unfold putBack; simp
  refine ⟨R.b0.trans A.eB, A.eBH, fun a h => by rw [A.nw a (R.dom a h)]; exact R.nw a h, fun a o h hj => A.hh a o (R.hh a o h hj) fun j x h1 h2 h3 => ?_, fun a h => A.dom a (R.dom a h), by rw [plen]; exact R.len, fun i y v hy hv => ?_, fun i j y y' a h1 h2 o1 o2 e1 e2 => ?_, fun j a h => ?_, fun i y a h1 o1 e1 => ?_⟩
  · obtain ⟨k, k1, k2, k3⟩ := own_of j x a h1 h2 h3
    rcases R.ow k x a k2 h2 k3 with z | ⟨m, z⟩
    · rw [z] at h; cases h
    · exact hj m z
  · obtain ⟨x, hx, c1, c2⟩ := pb i y hy
    have q := R.sl i x v hx hv
    by_cases ho : x.own = true
    · rcases c2 ho with ⟨rfl, hf⟩ | ⟨j, hf, rfl⟩
      · cases y with
        | no => cases ho
        | v d => cases ho
        | l ds =>
          obtain ⟨a, us, rfl, b0, h0, hds⟩ := q
          exact ⟨a, us, rfl, by rw [A.nw a (by rw [h0]; simp)]; exact b0, A.hh a _ h0 (keepA i _ a hx ho hv hf), hds.mono A.eB⟩
        | o c ds =>
          obtain ⟨a, dx, us, rfl, b0, h0, hds⟩ := q
          exact ⟨a, dx, us, rfl, by rw [A.nw a (by rw [h0]; simp)]; exact b0, A.hh a _ h0 (keepA i _ a hx ho hv hf), hds.mono A.eB⟩
      · have hr : ∃ a, v = some (.ref a) := by
          cases x with
          | no => cases ho
          | v d => cases ho
          | l ds => obtain ⟨a, _, e, _⟩ := q; exact ⟨a, e⟩
          | o c ds => obtain ⟨a, _, _, e, _⟩ := q; exact ⟨a, e⟩
        obtain ⟨a, rfl⟩ := hr
        obtain ⟨e1, e2⟩ := slot_of i j x a hx ho hv hf
        obtain ⟨x', p1, p2, p3⟩ := A.io j x _ e1 ho e2
        rw [List.getD_eq_getElem?_getD, p1]
        exact p3
    · have : y = x := c1 (by simpa using ho)
      subst this
      cases y with
      | no => trivial
      | v d => obtain ⟨u, e, h1⟩ := q; exact ⟨u, e, h1.mono A.eB⟩
      | l ds => exact absurd rfl ho
      | o c ds => exact absurd rfl ho
  · obtain ⟨x, hx, c1, c2⟩ := pb i y h1
    obtain ⟨x', hx', c1', c2'⟩ := pb j y' h2
    have back : ∀ (m : Nat) (z z' : Sl), (z.own = false → z' = z) → z'.own = true → z.own = true := fun m z z' hh ho => by
      cases q : z.own with
      | true => rfl
      | false => rw [hh q, q] at ho; cases ho
    exact R.nd i j x x' a hx hx' (back i x y c1 o1) (back j x' y' c1' o2) e1 e2
  · obtain ⟨e, x, hx, ho⟩ := R.iok j a h
    refine ⟨e, ?_⟩
    have ea := e
    rw [putBack_get, hx]
    simp only [Option.map_some, ho, if_true]
    cases q : os.findIdx? (Opd.isS j) with
    | none => exact ⟨x, rfl, ho⟩
    | some m =>
      obtain ⟨f1, f2⟩ := slot_of j m x a hx ho ea q
      obtain ⟨x', p1, p2, p3⟩ := A.io m x _ f1 ho f2
      exact ⟨x', by simp [List.getD_eq_getElem?_getD, p1], p2⟩
  · obtain ⟨x, hx, c1, c2⟩ := pb i y h1
    have ho : x.own = true := by
      cases q : x.own with
      | true => rfl
      | false => rw [c1 q, q] at o1; cases o1
    exact R.ow i x a hx ho e1
theorem argsOf_app {s t : S} : ∀ {os : List Opd} {as : List Sl}, argsOf s os = some as → argsOf (s ++ t) os = some as ∧ ∀ k, Opd.s k ∈ os → k < s.length
  | [], as, h => by cases h; exact ⟨rfl, fun k h => by simp at h⟩
  | o :: r, as, h => by
    unfold argsOf at h
    cases e1 : argOf s o with
    | none => rw [e1] at h; simp at h
    | some x =>
      cases e2 : argsOf s r with
      | none => rw [e1, e2] at h; simp at h
      | some xs =>
        rw [e1, e2] at h
        simp at h
        subst h
        obtain ⟨h1, h2⟩ := argsOf_app (t := t) e2
        have one : argOf (s ++ t) o = some x ∧ ∀ k, o = .s k → k < s.length := by
          cases o with
          | d y => exact ⟨e1, fun k z => by cases z⟩
          | s k =>
            cases es : s[k]? with
            | none => simp [argOf, es] at e1
            | some y =>
              refine ⟨?_, fun m z => by cases z; exact (List.getElem?_eq_some_iff.mp es).1⟩
              have e3 : y.some? = some x := by simpa [argOf, es] using e1
              show ((s ++ t)[k]?).bind Sl.some? = some x
              rw [app_some es]; exact e3
        refine ⟨?_, fun k hk => ?_⟩
        · unfold argsOf; rw [one.1, h1]
        · rcases List.mem_cons.mp hk with z | z
          · exact one.2 k z.symm
          · exact h2 k z
theorem dupFree_app {s t : S} : ∀ {os : List Opd}, (∀ k, Opd.s k ∈ os → k < s.length) → dupFree s os = true → dupFree (s ++ t) os = true
  | [], _, _ => rfl
  | .d y :: r, hk, h => dupFree_app (os := r) (fun k z => hk k (List.mem_cons_of_mem _ z)) h
  | .s k :: r, hk, h => by
    unfold dupFree at h ⊢
    obtain ⟨h1, h2⟩ := Bool.and_eq_true_iff.mp h
    have hl := hk k List.mem_cons_self
    rw [List.getElem?_append_left hl, h1, dupFree_app (os := r) (fun k z => hk k (List.mem_cons_of_mem _ z)) h2]; rfl
theorem putBack_app {s t : S} {os : List Opd} {post : List Sl} (hk : ∀ k, Opd.s k ∈ os → k < s.length) : putBack (s ++ t) os post = putBack s os post ++ t := by
  have plen : (putBack s os post).length = s.length := by unfold putBack; simp
  apply List.ext_getElem?
  intro i
  rw [putBack_get]
  by_cases hi : i < s.length
  · rw [List.getElem?_append_left hi, List.getElem?_append_left (by omega), putBack_get]
  · rw [List.getElem?_append_right (by omega), List.getElem?_append_right (by omega), plen]
    have hn : os.findIdx? (Opd.isS i) = none := by
      rw [List.findIdx?_eq_none_iff]
      intro o ho
      cases o with
      | d y => rfl
      | s k =>
        have := hk k ho
        simp [Opd.isS]; omega
    rw [hn]
    cases t[i - s.length]? <;> simp
theorem PAs.app {os : List Opd} {vs : List V} {τ : L2.St} (h : PAs g σ s os B H vs) : PAs g (σ ++ τ) s os B H vs := ⟨h.1, fun i o v h1 h2 => by
  have q := h.2 i o v h1 h2
  cases o with
  | d y => exact q
  | s k => exact app_some q⟩
theorem args_ok {os : List Opd} {vs : List V} {as : List Sl} {dds : List D} {dvs : List V} (R : Rel g T B H σ s) (hp : PAs g σ s os B H vs) (hd : dupFree s os = true) (ha : argsOf s os = some as) (hdd : Dens g B dds dvs) : ArgsOk g B H (as ++ dds.map .v) (vs ++ dvs) := by
  obtain ⟨h1, h2⟩ := argsOf_app (t := T.t) ha
  exact R.r.args_ok (PAs.app hp) (dupFree_app h2 hd) h1 hdd
theorem Rel.called {os : List Opd} {vs : List V} {as : List Sl} {dds : List D} {dvs : List V} {post : List Sl} (R : Rel g T B H σ s) (hp : PAs g σ s os B H vs) (hd : dupFree s os = true) (ha : argsOf s os = some as) (hdd : Dens g B dds dvs)
    (A : After g B H B' H' (as ++ dds.map .v) (vs ++ dvs) post) : Rel g T B' H' σ (putBack s os post) := by
  obtain ⟨h1, h2⟩ := argsOf_app (t := T.t) ha
  have r := R.r.called (PAs.app hp) (dupFree_app h2 hd) h1 hdd A
  rw [putBack_app h2] at r
  exact ⟨r, by unfold putBack; simp [R.ln], R.iob⟩
theorem RetOk.rv {os : List Opd} {vs : List V} {as : List Sl} {post : List Sl} {r : Rv} {v : V} (R : Rel g T B H σ s) (R' : Rel g T B' H' σ (putBack s os post)) (h : RetOk g H B' H' r v)
    (sl : ∀ (i : Nat) (x : Sl) (p : Addr), (putBack s os post ++ T.t)[i]? = some x → x.own = true → (σ ++ T.τ)[i]? = some (some (.ref p)) → H p ≠ none) : RvOk g T σ (putBack s os post) r B' H' v := by
  cases r with
  | v d => exact h
  | l ds => obtain ⟨p, us, rfl, n, b, e, hd⟩ := h; exact ⟨p, us, rfl, ⟨b, R.h0_of n, fun i x h1 h2 h3 => sl i x p h1 h2 h3 n, e⟩, hd⟩
  | o c ds => obtain ⟨p, dx, us, rfl, n, b, e, hd⟩ := h; exact ⟨p, dx, us, rfl, ⟨b, R.h0_of n, fun i x h1 h2 h3 => sl i x p h1 h2 h3 n, e⟩, hd⟩
variable {X : Cx} {e : Expr} {es : List Expr}
/-- a call by values: what a rule of HandS leaves to show -/
theorem jr_call {f : Fd} {dds : List D} {dvs : List V} {fa : M (List Opd)} (hpe : ∀ ta, PA X es ta → PE X e (tCallSD (spD g f) dvs (WE W) ta)) (hdd : ∀ B, Dens g B dds dvs) (ha : JA X g T W es fa) : JR X g T W e (mcall f dds fa) :=
  fun τ t => PE.imp (hpe _ (ha τ t)) fun σ H Q ⟨B, s, R, p⟩ => (PostM.bind (P := PAs g) R p).mono fun vs H1 ⟨os, B1, s1, R1, e1, q, p1⟩ => by
    by_cases hd : dupFree s1 os = true
    · rw [if_pos hd] at p1
      cases ea : argsOf s1 os with
      | none => rw [ea] at p1; exact p1.elim
      | some as =>
        rw [ea] at p1
        dsimp only at p1
        refine ⟨B1, as ++ dds.map .v, R1.bh, args_ok R1 q hd ea (hdd B1), ?_⟩
        cases ef : f (as ++ dds.map .v) with
        | bad => rw [ef] at p1; exact p1.elim
        | ret r post =>
          rw [ef] at p1
          intro v B' H' A hr
          have R' := R1.called q hd ea (hdd B1) A
          refine p1 v B' H' R' A.eB (RetOk.rv (vs := vs) (as := as) R1 R' hr fun i x p h1 h2 h3 hn => ?_)
          obtain ⟨x0, k1, k2⟩ := putBack_own h1 h2
          obtain ⟨_, o, ho⟩ := R1.r.ownH k1 k2 h3
          rw [ho] at hn; cases hn
        | ex c ds post =>
          rw [ef] at p1
          intro x B' H' A hx
          exact p1 x B' H' (R1.called q hd ea (hdd B1) A) A.eB hx
    · rw [if_neg hd] at p1; exact p1.elim
end TW

set_option Elab.async false
set_option linter.all false
set_option autoImplicit false
set_option maxRecDepth 100000
set_option maxHeartbeats 1000000
namespace TW
open PySem PySem.Spec PyProof.Rows L2
variable {g : G} {T : Tx} {B B' H H' : Hp} {σ : L2.St} {s : S} {W : WX} {α β γ δ : Type} {P : PP α β}
variable {X : Cx} {e a b c : Expr} {es : List Expr} {pos : Pos}

/-! ## operations on ints -/
def dInt2 (c : Int → Int → Bool) (h : Int → Int → Int) : D → D → Option D
  | .int i, .int j => if c i j = true then some (.int (h i j)) else none
  | _, _ => none
def dCmp2 (h : Int → Int → Bool) : D → D → Option D
  | .int i, .int j => some (.bl (h i j))
  | _, _ => none
theorem opd_int {f : Value → Value → Sem Value} {C : Int → Int → Prop} {h : Int → Int → Int} {c : Int → Int → Bool} (hr : OpR X f (rI C fun i j => .int (h i j))) (hc : ∀ i j, c i j = true → C i j) : OpD X g f (dInt2 c h) :=
  ⟨_, hr, fun T B H σ s x y dx dy d Q R h1 h2 e q => by
    cases dx with
    | int i =>
      cases dy with
      | int j =>
        cases h1; cases h2
        have e' : (if c i j = true then some (D.int (h i j)) else none) = some d := e
        by_cases hij : c i j = true
        · rw [if_pos hij] at e'; cases e'
          exact ⟨i, j, rfl, rfl, hc i j hij, q _ B H R (Evl.Ex.refl _) rfl⟩
        · rw [if_neg hij] at e'; cases e'
      | _ => cases e
    | _ => cases e⟩
theorem opd_cmp {f : Value → Value → Sem Value} {h : Int → Int → Bool} (hr : OpR X f (rI0 fun i j => .bl (h i j))) : OpD X g f (dCmp2 h) :=
  ⟨_, hr, fun T B H σ s x y dx dy d Q R h1 h2 e q => by
    cases dx with
    | int i =>
      cases dy with
      | int j =>
        cases h1; cases h2
        cases e
        exact ⟨i, j, rfl, rfl, q _ B H R (Evl.Ex.refl _) rfl⟩
      | _ => cases e
    | _ => cases e⟩
theorem rI0_rI {f : Value → Value → Sem Value} {h : Int → Int → Int} (hr : OpR X f (rI0 fun i j => .int (h i j))) : OpR X f (rI (fun _ _ => True) fun i j => .int (h i j)) :=
  fun pins s σ H x y v u Q I rx ry ⟨i, j, e1, e2, _, q⟩ => hr pins s σ H x y v u Q I rx ry ⟨i, j, e1, e2, q⟩
abbrev ctt : Int → Int → Bool := fun _ _ => true
abbrev dAdd := dInt2 ctt (fun i j => i + j)
abbrev dSub := dInt2 ctt (fun i j => i - j)
abbrev cMul : Int → Int → Bool := fun i j => decide (i.natAbs.log2 + j.natAbs.log2 < 134217000)
theorem op_mulX : OpR X (binaryOp .Mult) (rI IntMulOk fun i j => .int (i * j)) := opI fun _ _ _ _ _ _ _ hc q => mul_int q hc
theorem mul_okX {i j : Int} (h3 : i.natAbs.log2 + j.natAbs.log2 < 134217000) : IntMulOk i j := by
  have b : ∀ x : Int, Builtin.Int.intBits x ≤ x.natAbs.log2 + 1 := fun x => by
    unfold Builtin.Int.intBits
    split <;> omega
  have h1 := b i
  have h2 := b j
  have e : bitsLine = 134217728 := by decide
  unfold IntMulOk
  intro z
  rw [Bool.and_eq_true] at z
  have z2 := z.2
  unfold Builtin.Int.intTooBig at z2
  have z3 := of_decide_eq_true z2
  rw [e] at z3
  omega
abbrev cDiv : Int → Int → Bool := fun i j => decide (0 < j) && decide (j.natAbs.log2 < 9000)
abbrev cMod : Int → Int → Bool := fun _ j => decide (0 < j)
abbrev cPow : Int → Int → Bool := fun i j => decide (0 ≤ j) && (decide (j ≤ 1000000) && decide (i.natAbs < 2 ^ 64))
abbrev dMul := dInt2 cMul (fun i j => i * j)
abbrev dDiv := dInt2 cDiv (fun i j => i / j)
abbrev dMod := dInt2 cMod (fun i j => i % j)
abbrev dPow := dInt2 cPow (fun i j => i ^ j.toNat)
theorem o_add : OpD X g (binaryOp .Add) dAdd := opd_int (rI0_rI op_add) fun _ _ _ => trivial
theorem o_sub : OpD X g (binaryOp .Sub) dSub := opd_int (rI0_rI op_sub) fun _ _ _ => trivial
theorem o_mul : OpD X g (binaryOp .Mult) dMul := opd_int op_mulX fun i j h => mul_okX (of_decide_eq_true h)
theorem o_div : OpD X g (binaryOp .FloorDiv) dDiv := opd_int op_fdivW fun _ _ h => by
  obtain ⟨h1, h2⟩ := Bool.and_eq_true_iff.mp h
  exact ⟨of_decide_eq_true h1, of_decide_eq_true h2⟩
theorem o_mod : OpD X g (binaryOp .Mod) dMod := opd_int op_mod fun _ _ h => of_decide_eq_true h
theorem o_pow : OpD X g (binaryOp .Pow) dPow := opd_int op_pow fun _ _ h => by
  obtain ⟨h1, h2⟩ := Bool.and_eq_true_iff.mp h
  obtain ⟨h3, h4⟩ := Bool.and_eq_true_iff.mp h2
  exact ⟨of_decide_eq_true h1, of_decide_eq_true h3, of_decide_eq_true h4⟩
abbrev dLt := dCmp2 (fun i j => decide (i < j))
abbrev dLe := dCmp2 (fun i j => decide (i ≤ j))
abbrev dGt := dCmp2 (fun i j => decide (j < i))
abbrev dGe := dCmp2 (fun i j => decide (j ≤ i))
theorem o_lt : OpD X g (compareOp .Lt) dLt := opd_cmp op_lt
theorem o_le : OpD X g (compareOp .LtE) dLe := opd_cmp op_le
theorem o_gt : OpD X g (compareOp .Gt) dGt := opd_cmp op_gt
theorem o_ge : OpD X g (compareOp .GtE) dGe := opd_cmp op_ge

/-! ## == of data -/
mutual
def toPy : D → Option PyData
  | .non => some .none
  | .bl b => some (.bool b)
  | .int i => some (.int i)
  | .str x => some (.str x)
  | .tup ds => (toPys ds).map .tuple
  | .lst ds => (toPys ds).map .list
  | .arg ds => (toPys ds).map .list
  | .obj _ _ => none
  | .exc _ _ _ _ => none
def toPys : List D → Option (List PyData)
  | [] => some []
  | d :: ds => match toPy d, toPys ds with
    | some x, some xs => some (x :: xs)
    | _, _ => none
end
mutual
theorem dp_of {K : PySem.W.Frag} (hK : K = g.K) (eB : Ex B H) : ∀ {d : D} {p : PyData} {v : V}, toPy d = some p → Den g B d v → Dp K H v p
  | .non, p, v, e, h => by cases e; cases h; exact .non
  | .bl b, p, v, e, h => by cases e; cases h; exact .bl b
  | .int i, p, v, e, h => by cases e; cases h; exact .int i
  | .str x, p, v, e, h => by cases e; cases h; exact .str x
  | .tup ds, p, v, e, h => by
    subst hK
    obtain ⟨a, vs, rfl, h1, h2⟩ := h
    have e' : (toPys ds).map PyData.tuple = some p := e
    cases q : toPys ds with
    | none => rw [q] at e'; cases e'
    | some ps => rw [q] at e'; cases e'; exact .tup (Evl.ex_t eB h1) (dps_of rfl eB q h2)
  | .lst ds, p, v, e, h => by
    subst hK
    obtain ⟨a, vs, rfl, h1, h2⟩ := h
    have e' : (toPys ds).map PyData.list = some p := e
    cases q : toPys ds with
    | none => rw [q] at e'; cases e'
    | some ps => rw [q] at e'; cases e'; exact .lst (.inl (.inl (eB _ _ h1))) (dps_of rfl eB q h2)
  | .arg ds, p, v, e, h => by
    subst hK
    obtain ⟨a, vs, rfl, h1, h2⟩ := h
    have e' : (toPys ds).map PyData.list = some p := e
    cases q : toPys ds with
    | none => rw [q] at e'; cases e'
    | some ps => rw [q] at e'; cases e'; exact .lst (Evl.ex_l eB h1) (dps_of rfl eB q h2)
  | .obj _ _, p, v, e, h => by cases e
  | .exc _ _ _ _, p, v, e, h => by cases e
theorem dps_of {K : PySem.W.Frag} (hK : K = g.K) (eB : Ex B H) : ∀ {ds : List D} {ps : List PyData} {vs : List V}, toPys ds = some ps → Dens g B ds vs → DpAll K H vs ps
  | [], ps, vs, e, h => by cases e; cases h; exact .nil
  | d :: ds, ps, vs, e, h => by
    obtain ⟨v, r, rfl, h1, h2⟩ := h
    have e' : (match toPy d, toPys ds with
      | some x, some xs => some (x :: xs)
      | _, _ => none) = some ps := e
    cases q1 : toPy d with
    | none => rw [q1] at e'; cases e'
    | some x =>
      cases q2 : toPys ds with
      | none => rw [q1, q2] at e'; cases e'
      | some xs => rw [q1, q2] at e'; cases e'; exact .cons (dp_of hK eB q1 h1) (dps_of hK eB q2 h2)
end
theorem dpw_of {K : PySem.W.Frag} (hK : K = g.K) (eB : Ex B H) {d : D} {p : PyData} {v : V} (e : toPy d = some p) (h : DenW g B H d v) : Dp K H v p := by
  subst hK
  cases d with
  | lst ds =>
    obtain ⟨a, vs, rfl, h1, h2⟩ := h
    have e' : (toPys ds).map PyData.list = some p := e
    cases q : toPys ds with
    | none => rw [q] at e'; cases e'
    | some ps => rw [q] at e'; cases e'; exact .lst (.inl (.inl h1)) (dps_of rfl eB q h2)
  | obj c ds => cases e
  | _ => exact dp_of rfl eB e h
def eqP (x y : D) : Option Bool := match toPy x, toPy y with
  | some p, some q => if (SeqAt.shaped p && SeqAt.shaped q) = true then some (PyData.eqv p q) else none
  | _, _ => none
def dEq (x y : D) : Option D := (eqP x y).map .bl
def dNe (x y : D) : Option D := (eqP x y).map fun b => .bl (!b)
theorem eqP_some {x y : D} {b : Bool} (h : eqP x y = some b) : ∃ p q, toPy x = some p ∧ toPy y = some q ∧ SeqAt.shaped p = true ∧ SeqAt.shaped q = true ∧ b = PyData.eqv p q := by
  unfold eqP at h
  cases e1 : toPy x with
  | none => rw [e1] at h; cases h
  | some p =>
    cases e2 : toPy y with
    | none => rw [e1, e2] at h; cases h
    | some q =>
      rw [e1, e2] at h
      have h' : (if (SeqAt.shaped p && SeqAt.shaped q) = true then some (PyData.eqv p q) else none) = some b := h
      by_cases c : (SeqAt.shaped p && SeqAt.shaped q) = true
      · rw [if_pos c] at h'; cases h'
        obtain ⟨c1, c2⟩ := Bool.and_eq_true_iff.mp c
        exact ⟨p, q, rfl, rfl, c1, c2, rfl⟩
      · rw [if_neg c] at h'; cases h'
theorem o_eq (hK : X.K = g.K) (hu : X.A.units + 64 < cLine) : OpD X g (compareOp .Eq) dEq := ⟨_, op_eqD hu, fun T B H σ s x y dx dy d Q R h1 h2 e q => by
  unfold dEq at e
  cases eb : eqP dx dy with
  | none => rw [eb] at e; cases e
  | some b =>
    rw [eb] at e; cases e
    obtain ⟨p, p', e1, e2, s1, s2, rfl⟩ := eqP_some eb
    exact ⟨p, p', dpw_of hK R.bh e1 h1, dpw_of hK R.bh e2 h2, s1, s2, q _ B H R (Evl.Ex.refl _) rfl⟩⟩
theorem o_ne (hK : X.K = g.K) (hu : X.A.units + 64 < cLine) : OpD X g (compareOp .NotEq) dNe := ⟨_, op_neD hu, fun T B H σ s x y dx dy d Q R h1 h2 e q => by
  unfold dNe at e
  cases eb : eqP dx dy with
  | none => rw [eb] at e; cases e
  | some b =>
    rw [eb] at e; cases e
    obtain ⟨p, p', e1, e2, s1, s2, rfl⟩ := eqP_some eb
    exact ⟨p, p', dpw_of hK R.bh e1 h1, dpw_of hK R.bh e2 h2, s1, s2, q _ B H R (Evl.Ex.refl _) rfl⟩⟩
/-- is None -/
def D.isNon : D → Bool
  | .non => true
  | _ => false
theorem isNon_den {d : D} {v : V} (h : DenW g B H d v) : decide (v = .non) = d.isNon := by
  cases d with
  | non => cases h; rfl
  | bl b => cases h; rfl
  | int i => cases h; rfl
  | str x => cases h; rfl
  | tup ds => obtain ⟨a, vs, rfl, _⟩ := h; rfl
  | lst ds => obtain ⟨a, vs, rfl, _⟩ := h; rfl
  | arg ds => obtain ⟨a, vs, rfl, _⟩ := h; rfl
  | obj c ds => obtain ⟨a, dx, vs, rfl, _⟩ := h; rfl
  | exc a x c ds => obtain ⟨rfl, _⟩ := h; rfl
def dIsN (x y : D) : Option D := if y.isNon = true then some (.bl x.isNon) else none
def dNotN (x y : D) : Option D := if y.isNon = true then some (.bl (!x.isNon)) else none
theorem o_isN : OpD X g (compareOp .Is) dIsN := ⟨_, op_isN, fun T B H σ s x y dx dy d Q R h1 h2 e q => by
  unfold dIsN at e
  by_cases c : dy.isNon = true
  · rw [if_pos c] at e; cases e
    refine ⟨of_decide_eq_true ((isNon_den h2).trans c), q _ B H R (Evl.Ex.refl _) ?_⟩
    show V.bl (decide (x = .non)) = .bl dx.isNon
    rw [isNon_den h1]
  · rw [if_neg c] at e; cases e⟩
theorem o_notN : OpD X g (compareOp .IsNot) dNotN := ⟨_, op_notN, fun T B H σ s x y dx dy d Q R h1 h2 e q => by
  unfold dNotN at e
  by_cases c : dy.isNon = true
  · rw [if_pos c] at e; cases e
    refine ⟨of_decide_eq_true ((isNon_den h2).trans c), q _ B H R (Evl.Ex.refl _) ?_⟩
    show V.bl (!decide (x = .non)) = .bl (!dx.isNon)
    rw [isNon_den h1]
  · rw [if_neg c] at e; cases e⟩
/-- one of two -/
def dOr (f f' : D → D → Option D) : D → D → Option D := fun x y => match f x y with
  | some d => some d
  | none => f' x y
theorem OpD.or {f : Value → Value → Sem Value} {h h' : D → D → Option D} (o : OpD X g f h) (o' : OpD X g f h') : OpD X g f (dOr h h') := by
  obtain ⟨r, h1, h2⟩ := o
  obtain ⟨r', h1', h2'⟩ := o'
  refine ⟨_, h1.or h1', fun T B H σ s x y dx dy d Q R a1 a2 e q => ?_⟩
  unfold dOr at e
  cases e1 : h dx dy with
  | some d' => rw [e1] at e; cases e; exact .inl (h2 T B H σ s x y dx dy _ Q R a1 a2 e1 q)
  | none => rw [e1] at e; exact .inr (h2' T B H σ s x y dx dy d Q R a1 a2 e q)

/-! ## operations that give a new list, a new tuple -/
def OpRv (X : Cx) (g : G) (f : Value → Value → Sem Value) (g2 : D → D → Option Rv) : Prop :=
  ∃ r : R2, OpR X f r ∧ ∀ (T : Tx) (B H : Hp) (σ : L2.St) (s : S) (x y : V) (dx dy : D) (d : Rv) (Q : VK), Rel g T B H σ s → DenW g B H dx x → DenW g B H dy y → g2 dx dy = some d →
    (∀ v B' H', Rel g T B' H' σ s → Ex B B' → RvOk g T σ s d B' H' v → Q v H') → r x y H Q
def mbinR (f : D → D → Option Rv) (fa fb : M Opd) : M Rv := mbind fa fun oa => mbind fb fun ob => mbind (res oa) fun x => mbind (res ob) fun y => mopt (f x y)
theorem jr_bin {op : Operator} {f : D → D → Option Rv} {fa fb : M Opd} (ho : OpRv X g (binaryOp op) f) (ha : JO X g T W a fa) (hb : JO X g T W b fb) : JR X g T W (.BinOp a op b pos) (mbinR f fa fb) := by
  obtain ⟨r, h1, hr⟩ := ho
  refine fun τ t => PE.imp (pe_op h1 (ha τ t) (hb τ t)) fun σ H Q ⟨B, s, R, p⟩ => ?_
  refine (PostM.bind (P := PO' g) R p).mono fun x H1 ⟨oa, B1, s1, R1, e1, q1, p1⟩ => ?_
  refine (PostM.bind (P := PO' g) R1 p1).mono fun y H2 ⟨ob, B2, s2, R2, e2, q2, p2⟩ => ?_
  rcases res_cases (o := oa) (s := s2) with ⟨dx, w1⟩ | w1
  · rw [mbind_ok w1] at p2
    rcases res_cases (o := ob) (s := s2) with ⟨dy, w2⟩ | w2
    · rw [mbind_ok w2] at p2
      cases ef : f dx dy with
      | none => rw [ef] at p2; exact p2.elim
      | some d =>
        rw [ef] at p2
        exact hr _ B2 H2 σ s2 x y dx dy d Q R2 (res_ok R2 (q1.mono e2) w1).2 (res_ok R2 q2 w2).2 ef fun v B' H' R' e' hd => p2 v B' H' R' e' hd
    · exfalso
      have z : mbind (res ob) (fun y => mopt (f dx y)) s2 = .bad := by unfold mbind; rw [w2]
      rw [z] at p2; exact p2
  · exfalso
    have z : mbind (res oa) (fun x => mbind (res ob) fun y => mopt (f x y)) s2 = .bad := by unfold mbind; rw [w1]
    rw [z] at p2; exact p2
theorem sz16 {n : Nat} (h : n ≤ 16000000) : n ≤ sizeLine := Nat.le_trans h (by decide)
theorem Rel.newl (R : Rel g T B H σ s) {p : Addr} {ds : List D} {vs : List V} (hp : H p = none) (hd : Dens g B ds vs) : Rel g T B (upd H p (.lst vs)) σ s ∧ RvOk g T σ s (.l ds) B (upd H p (.lst vs)) (.ref p) :=
  ⟨R.newH hp, p, vs, rfl, R.fsh hp, hd⟩
theorem Rel.newt (R : Rel g T B H σ s) {p : Addr} {ds : List D} {vs : List V} (hp : H p = none) (hd : Dens g B ds vs) : ∃ B', Rel g T B' (upd H p (.tup vs)) σ s ∧ Ex B B' ∧ Den g B' (.tup ds) (.ref p) :=
  ⟨_, R.new hp, Evl.Ex.new (Evl.fresh_back R.bh hp), p, vs, rfl, .inl (.inl upd_same), hd.mono (Evl.Ex.new (Evl.fresh_back R.bh hp))⟩
/-- list + list -/
def dCat : D → D → Option Rv
  | .lst xs, .lst ys => if xs.length + ys.length ≤ 16000000 then some (.l (xs ++ ys)) else none
  | _, _ => none
theorem o_cat : OpRv X g (binaryOp .Add) dCat := ⟨_, op_cat, fun T B H σ s x y dx dy d Q R h1 h2 e q => by
  cases dx with
  | lst xs =>
    cases dy with
    | lst ys =>
      have e' : (if xs.length + ys.length ≤ 16000000 then some (Rv.l (xs ++ ys)) else none) = some d := e
      by_cases c : xs.length + ys.length ≤ 16000000
      · rw [if_pos c] at e'; cases e'
        obtain ⟨a, vs, rfl, k1, k2⟩ := h1
        obtain ⟨b, us, rfl, k3, k4⟩ := h2
        refine ⟨a, b, vs, us, rfl, rfl, k1, k3, by rw [k2.length, k4.length]; exact sz16 c, fun p hp => ?_⟩
        obtain ⟨R', r⟩ := R.newl hp (k2.append k4)
        exact q _ B _ R' (Evl.Ex.refl _) r
      · rw [if_neg c] at e'; cases e'
    | _ => cases e
  | _ => cases e⟩
/-- list * int -/
def dRep : D → D → Option Rv
  | .lst xs, .int k => if k < 16000000 ∧ -16000000 < k ∧ xs.length * k.toNat ≤ 16000000 then some (.l (List.replicate k.toNat xs).flatten) else none
  | _, _ => none
theorem Dens.rep {ds : List D} {vs : List V} (h : Dens g B ds vs) : ∀ n : Nat, Dens g B (List.replicate n ds).flatten (List.replicate n vs).flatten
  | 0 => by simp [Dens]
  | n + 1 => by rw [List.replicate_succ, List.replicate_succ, List.flatten_cons, List.flatten_cons]; exact h.append (Dens.rep h n)
theorem o_rep : OpRv X g (binaryOp .Mult) dRep := ⟨_, op_rep, fun T B H σ s x y dx dy d Q R h1 h2 e q => by
  cases dx with
  | lst xs =>
    cases dy with
    | int k =>
      have e' : (if k < 16000000 ∧ -16000000 < k ∧ xs.length * k.toNat ≤ 16000000 then some (Rv.l (List.replicate k.toNat xs).flatten) else none) = some d := e
      by_cases c : k < 16000000 ∧ -16000000 < k ∧ xs.length * k.toNat ≤ 16000000
      · rw [if_pos c] at e'; cases e'
        obtain ⟨a, vs, rfl, k1, k2⟩ := h1
        cases h2
        refine ⟨a, k, vs, rfl, rfl, k1, by omega, by omega, by rw [k2.length]; exact sz16 c.2.2, fun p hp => ?_⟩
        obtain ⟨R', r⟩ := R.newl hp (k2.rep k.toNat)
        exact q _ B _ R' (Evl.Ex.refl _) r
      · rw [if_neg c] at e'; cases e'
    | _ => cases e
  | _ => cases e⟩
/-- tuple + tuple -/
def dCatT : D → D → Option Rv
  | .tup xs, .tup ys => if xs.length + ys.length ≤ 16000000 then some (.v (.tup (xs ++ ys))) else none
  | _, _ => none
theorem dens_nil {ds : List D} (h : Dens g B ds []) : ds = [] := by have := h.length; cases ds; rfl; simp at this
theorem o_catT (hK : X.K = g.K) : OpRv X g (binaryOp .Add) dCatT := ⟨_, op_catA, fun T B H σ s x y dx dy d Q R h1 h2 e q => by
  cases dx with
  | tup xs =>
    cases dy with
    | tup ys =>
      have e' : (if xs.length + ys.length ≤ 16000000 then some (Rv.v (.tup (xs ++ ys))) else none) = some d := e
      by_cases c : xs.length + ys.length ≤ 16000000
      · rw [if_pos c] at e'; cases e'
        obtain ⟨a, vs, rfl, k1, k2⟩ := h1
        obtain ⟨b, us, rfl, k3, k4⟩ := h2
        have j1 := Evl.ex_t R.bh k1
        have j3 := Evl.ex_t R.bh k3
        rw [← hK] at j1 j3
        refine ⟨a, b, vs, us, rfl, rfl, j1, j3, by rw [k2.length, k4.length]; exact sz16 c, fun z => ?_, fun z z' => ?_, fun z z' p hp => ?_⟩
        · subst z
          have := dens_nil k2
          subst this
          exact q _ B H R (Evl.Ex.refl _) ⟨b, us, rfl, k3, k4⟩
        · subst z'
          have := dens_nil k4
          subst this
          rw [List.append_nil] at q
          exact q _ B H R (Evl.Ex.refl _) ⟨a, vs, rfl, k1, k2⟩
        · obtain ⟨B', R', e', r⟩ := R.newt hp (k2.append k4)
          exact q _ B' _ R' e' r
      · rw [if_neg c] at e'; cases e'
    | _ => cases e
  | _ => cases e⟩
/-- - i -/
def UnD (X : Cx) (g : G) (f : Value → Sem Value) (g2 : D → Option D) : Prop :=
  ∃ r : V → Hp → VK → Prop, UnR X f r ∧ ∀ (T : Tx) (B H : Hp) (σ : L2.St) (s : S) (x : V) (dx d : D) (Q : VK), Rel g T B H σ s → DenW g B H dx x → g2 dx = some d →
    (∀ v B' H', Rel g T B' H' σ s → Ex B B' → Den g B' d v → Q v H') → r x H Q
def mun (f : D → Option D) (fa : M Opd) : M D := mbind fa fun oa => mbind (res oa) fun x => mopt (f x)
theorem un_post {f : D → Option D} {o : Opd} {x : V} {r : V → Hp → VK → Prop} {Q : VK} (hr : ∀ (T : Tx) (B H : Hp) (σ : L2.St) (s : S) (x : V) (dx d : D) (Q : VK), Rel g T B H σ s → DenW g B H dx x → f dx = some d →
    (∀ v B' H', Rel g T B' H' σ s → Ex B B' → Den g B' d v → Q v H') → r x H Q) (R : Rel g T B H σ s) (q : OpdOk g B σ o x) (p : PostM g T W (PD g) σ B (mbind (res o) (fun x => mopt (f x)) s) Q) : r x H Q := by
  rcases res_cases (o := o) (s := s) with ⟨dx, w⟩ | w
  · rw [mbind_ok w] at p
    cases ef : f dx with
    | none => rw [ef] at p; exact p.elim
    | some d => rw [ef] at p; exact hr T B H σ s x dx d Q R (res_ok R q w).2 ef fun v B' H' R' e' hd => p v B' H' R' e' hd
  · exfalso
    have z : mbind (res o) (fun x => mopt (f x)) s = .bad := by unfold mbind; rw [w]
    rw [z] at p; exact p
theorem je_un {op : UnaryOp} {f : D → Option D} {fa : M Opd} (ho : UnD X g (unaryOp op) f) (ha : JO X g T W a fa) : JE X g T W (.UnaryOp op a pos) (mun f fa) := by
  obtain ⟨r, h1, hr⟩ := ho
  exact fun τ t => PE.imp (pe_un h1 (ha τ t)) fun σ H Q ⟨B, s, R, p⟩ => (PostM.bind (P := PO' g) R p).mono fun x H1 ⟨o, B1, s1, R1, e1, q1, p1⟩ => un_post hr R1 q1 p1
def dNeg : D → Option D
  | .int i => some (.int (-i))
  | _ => none
theorem o_neg : UnD X g (unaryOp .USub) dNeg := ⟨_, un_neg, fun T B H σ s x dx d Q R h e q => by
  cases dx with
  | int i => cases h; cases e; exact ⟨i, rfl, q _ B H R (Evl.Ex.refl _) rfl⟩
  | _ => cases e⟩
end TW

set_option Elab.async false
set_option linter.all false
set_option autoImplicit false
set_option maxRecDepth 100000
set_option maxHeartbeats 1000000
namespace TW
open PySem PySem.Spec PyProof.Rows L2
variable {g : G} {T : Tx} {B B' H H' : Hp} {σ : L2.St} {s : S} {W : WX} {α β γ δ : Type} {P : PP α β}
variable {X : Cx} {e a b c : Expr} {es : List Expr} {pos : Pos}

/-! ## argument lists -/
theorem PAs.nil : PAs g σ s [] B H [] := ⟨rfl, fun i o v h => by simp at h⟩
theorem PAs.cons {o : Opd} {v : V} {os : List Opd} {vs : List V} (h : OpdOk g B σ o v) (hs : PAs g σ s os B H vs) : PAs g σ s (o :: os) B H (v :: vs) := ⟨by simp [hs.1], fun i o' v' h1 h2 => by
  cases i with
  | zero => simp at h1 h2; subst h1; subst h2; exact h
  | succ i => simp at h1 h2; exact hs.2 i o' v' h1 h2⟩
theorem PAs.mono {os : List Opd} {vs : List V} {s' : S} {H' : Hp} (e : Ex B B') (h : PAs g σ s os B H vs) : PAs g σ s' os B' H' vs := ⟨h.1, fun i o v h1 h2 => (h.2 i o v h1 h2).mono e⟩
theorem PAs.append {os os' : List Opd} {vs vs' : List V} (h : PAs g σ s os B H vs) (h' : PAs g σ s os' B H vs') : PAs g σ s (os ++ os') B H (vs ++ vs') := ⟨by simp [h.1, h'.1], fun i o v h1 h2 => by
  by_cases hi : i < os.length
  · rw [List.getElem?_append_left hi] at h1
    rw [List.getElem?_append_left (by rw [← h.1]; exact hi)] at h2
    exact h.2 i o v h1 h2
  · rw [List.getElem?_append_right (by omega)] at h1
    rw [List.getElem?_append_right (by rw [← h.1]; omega), ← h.1] at h2
    exact h'.2 _ o v h1 h2⟩
theorem PAs.of_dens {ds : List D} {vs : List V} (h : Dens g B ds vs) : PAs g σ s (ds.map .d) B H vs := ⟨by simp [h.length], fun i o v h1 h2 => by
  rw [List.getElem?_map] at h1
  cases e : ds[i]? with
  | none => rw [e] at h1; cases h1
  | some d =>
    rw [e] at h1; cases h1
    obtain ⟨v', e', q⟩ := h.get e
    rw [h2] at e'; cases e'; exact q⟩
theorem ja_nil : JA X g T W [] (mret []) := fun τ t => PA.imp pa_nil fun σ H Q ⟨B, s, R, p⟩ => p [] B H R (Evl.Ex.refl _) .nil
def mcons (fa : M Opd) (fr : M (List Opd)) : M (List Opd) := mbind fa fun o => mbind fr fun os => mret (o :: os)
theorem ja_cons {fa : M Opd} {fr : M (List Opd)} (ha : JO X g T W e fa) (hr : JA X g T W es fr) (hs : starEach (e :: es) X.env = (false, eval e X.env) :: starEach es X.env := by rfl) : JA X g T W (e :: es) (mcons fa fr) :=
  fun τ t => PA.imp (pa_cons (ha τ t) (hr τ t) hs) fun σ H Q ⟨B, s, R, p⟩ => (PostM.bind (P := PO' g) R p).mono fun v H1 ⟨o, B1, s1, R1, e1, q1, p1⟩ =>
    (PostM.bind (P := PAs g) R1 p1).mono fun vs H2 ⟨os, B2, s2, R2, e2, q2, p2⟩ => p2 (v :: vs) B2 H2 R2 (Evl.Ex.refl _) ((q2.cons (q1.mono e2)))
def itemsD : D → Option (List D)
  | .tup ds => some ds
  | .lst ds => some ds
  | .arg ds => some ds
  | _ => none
def mstar (fa : M Opd) (fr : M (List Opd)) : M (List Opd) := mbind fa fun o => mbind (res o) fun d => mbind (mopt (itemsD d)) fun ds => mbind fr fun os => mret (ds.map .d ++ os)
theorem items_den {d : D} {v : V} {ds : List D} (eB : Ex B H) (h : DenW g B H d v) (e : itemsD d = some ds) : ∃ a vs, v = .ref a ∧ (SqT g.K H a vs ∨ SqL g.K H a vs) ∧ Dens g B ds vs := by
  cases d with
  | tup ds' => cases e; obtain ⟨a, vs, rfl, h1, h2⟩ := h; exact ⟨a, vs, rfl, .inl (Evl.ex_t eB h1), h2⟩
  | lst ds' => cases e; obtain ⟨a, vs, rfl, h1, h2⟩ := h; exact ⟨a, vs, rfl, .inr (.inl (.inl h1)), h2⟩
  | arg ds' => cases e; obtain ⟨a, vs, rfl, h1, h2⟩ := h; exact ⟨a, vs, rfl, .inr (Evl.ex_l eB h1), h2⟩
  | _ => cases e
theorem ja_star {fa : M Opd} {fr : M (List Opd)} {p' : Pos} (hK : X.K = g.K) (ha : JO X g T W e fa) (hr : JA X g T W es fr) (hs : starEach (.Starred e p' :: es) X.env = (true, eval e X.env) :: starEach es X.env := by rfl) : JA X g T W (.Starred e p' :: es) (mstar fa fr) :=
  fun τ t => PA.imp (StX.pa_star (ha τ t) (hr τ t) hs) fun σ H Q ⟨B, s, R, p⟩ => (PostM.bind (P := PO' g) R p).mono fun v H1 ⟨o, B1, s1, R1, e1, q1, p1⟩ => by
    rcases res_cases (o := o) (s := s1) with ⟨d, w⟩ | w
    · rw [mbind_ok w] at p1
      cases ei : itemsD d with
      | none => rw [ei] at p1; exact p1.elim
      | some ds =>
        rw [ei] at p1
        obtain ⟨a, vs, rfl, hv, hd⟩ := items_den R1.bh (res_ok R1 q1 w).2 ei
        rw [← hK] at hv
        refine ⟨a, vs, rfl, hv, ?_⟩
        exact (PostM.bind (P := PAs g) R1 p1).mono fun us H2 ⟨os, B2, s2, R2, e2, q2, p2⟩ => p2 _ B2 H2 R2 (Evl.Ex.refl _) ((PAs.of_dens (hd.mono e2)).append q2)
    · exfalso
      have z : mbind (res o) (fun d => mbind (mopt (itemsD d)) fun ds => mbind fr fun os => mret (ds.map Opd.d ++ os)) s1 = .bad := by unfold mbind; rw [w]
      rw [z] at p1; exact p1
/-! ### displays -/
def strongs : List Opd → M (List D)
  | [] => mret []
  | o :: r => mbind (strong o) fun d => mbind (strongs r) fun ds => mret (d :: ds)
theorem strongs_ok : ∀ {os : List Opd} {vs : List V} {ds : List D} {s' : S}, Rel g T B H σ s → PAs g σ s os B H vs → strongs os s = .ok ds s' → s' = s ∧ Dens g B ds vs
  | [], vs, ds, s', R, h, e => by
    cases e
    have : vs = [] := by have := h.1; cases vs; rfl; simp at this
    subst this
    exact ⟨rfl, Dens.nil⟩
  | o :: r, vs, ds, s', R, h, e => by
    cases vs with
    | nil => have := h.1; simp at this
    | cons v vs =>
      have h1 := h.2 0 o v rfl rfl
      have h2 : PAs g σ s r B H vs := ⟨by have := h.1; simpa using this, fun i o' v' a1 a2 => h.2 (i + 1) o' v' (by simpa using a1) (by simpa using a2)⟩
      unfold strongs at e
      rcases strong_cases (o := o) (s := s) with ⟨d, w⟩ | w
      · rw [mbind_ok w] at e
        cases er : strongs r s with
        | ok ds' s2 =>
          rw [mbind_ok er] at e
          cases e
          obtain ⟨rfl, q⟩ := strongs_ok R h2 er
          exact ⟨rfl, Dens.cons (strong_ok R h1 w).2 q⟩
        | ex c cs s2 => unfold mbind at e; rw [er] at e; cases e
        | bad => unfold mbind at e; rw [er] at e; cases e
      · unfold mbind at e; rw [w] at e; cases e
theorem strongs_ex : ∀ {os : List Opd}, (∃ ds, strongs os s = .ok ds s) ∨ strongs os s = .bad
  | [] => .inl ⟨[], rfl⟩
  | o :: r => by
    unfold strongs
    rcases strong_cases (o := o) (s := s) with ⟨d, w⟩ | w
    · rw [mbind_ok w]
      rcases strongs_ex (os := r) with ⟨ds, w2⟩ | w2
      · exact .inl ⟨_, by rw [mbind_ok w2]; rfl⟩
      · exact .inr (by unfold mbind; rw [w2])
    · exact .inr (by unfold mbind; rw [w])
def mlst (fa : M (List Opd)) : M Rv := mbind fa fun os => mbind (strongs os) fun ds => if ds.length ≤ 16000000 then mret (.l ds) else mbad
def mtup (fa : M (List Opd)) : M D := mbind fa fun os => mbind (strongs os) fun ds => if ds.length ≤ 16000000 then mret (.tup ds) else mbad
theorem jr_lst {fa : M (List Opd)} (ha : JA X g T W es fa) : JR X g T W (.List es pos) (mlst fa) :=
  fun τ t => PE.imp (pe_lst (ha τ t)) fun σ H Q ⟨B, s, R, p⟩ => (PostM.bind (P := PAs g) R p).mono fun vs H1 ⟨os, B1, s1, R1, e1, q1, p1⟩ => by
    rcases strongs_ex (s := s1) (os := os) with ⟨ds, w⟩ | w
    · rw [mbind_ok w] at p1
      have hd := (strongs_ok R1 q1 w).2
      by_cases c : ds.length ≤ 16000000
      · rw [if_pos c] at p1
        refine ⟨by rw [hd.length]; exact sz16 c, fun p hp => ?_⟩
        obtain ⟨R', r⟩ := R1.newl hp hd
        exact p1 _ B1 _ R' (Evl.Ex.refl _) r
      · rw [if_neg c] at p1; exact p1.elim
    · exfalso
      have z : mbind (strongs os) (fun ds => if ds.length ≤ 16000000 then mret (Rv.l ds) else mbad) s1 = .bad := by unfold mbind; rw [w]
      rw [z] at p1; exact p1
theorem je_tup {x1} {fa : M (List Opd)} (ha : JA X g T W es fa) : JE X g T W (.Tuple es x1 pos) (mtup fa) :=
  fun τ t => PE.imp (pe_tup (ha τ t)) fun σ H Q ⟨B, s, R, p⟩ => (PostM.bind (P := PAs g) R p).mono fun vs H1 ⟨os, B1, s1, R1, e1, q1, p1⟩ => by
    rcases strongs_ex (s := s1) (os := os) with ⟨ds, w⟩ | w
    · rw [mbind_ok w] at p1
      have hd := (strongs_ok R1 q1 w).2
      by_cases c : ds.length ≤ 16000000
      · rw [if_pos c] at p1
        refine ⟨by rw [hd.length]; exact sz16 c, fun p hp => ?_⟩
        obtain ⟨B', R', e', r⟩ := R1.newt hp hd
        exact p1 _ B' _ R' e' r
      · rw [if_neg c] at p1; exact p1.elim
    · exfalso
      have z : mbind (strongs os) (fun ds => if ds.length ≤ 16000000 then mret (D.tup ds) else mbad) s1 = .bad := by unfold mbind; rw [w]
      rw [z] at p1; exact p1
/-! ### subscripts -/
def dIx : D → D → Option D
  | .tup ds, .int i => atI ds i
  | .lst ds, .int i => atI ds i
  | .arg ds, .int i => atI ds i
  | .str x, .int i => if x.length ≤ 100000 then (atI x.cps.toList i).map fun c => .str ⟨#[c]⟩ else none
  | _, _ => none
theorem atI_dens {ds : List D} {vs : List V} {i : Int} {d : D} (h : Dens g B ds vs) (e : atI ds i = some d) : ∃ v, atI vs i = some v ∧ Den g B d v := by
  unfold atI at e ⊢
  rw [h.length]
  cases q : ixN ds.length i with
  | none => rw [q] at e; cases e
  | some j => rw [q] at e; exact h.get e
theorem ix_rd (hK : X.K = g.K) (T : Tx) (B H : Hp) (σ : L2.St) (s : S) (x y : V) (dx dy d : D) (Q : VK) (R : Rel g T B H σ s) (h1 : DenW g B H dx x) (h2 : DenW g B H dy y) (e : dIx dx dy = some d)
    (q : ∀ v B' H', Rel g T B' H' σ s → Ex B B' → Den g B' d v → Q v H') : rIx X.K x y H Q := by
  rw [hK]
  cases dx with
  | tup ds =>
    cases dy with
    | int i =>
      cases h2
      obtain ⟨a, vs, rfl, k1, k2⟩ := h1
      obtain ⟨v, e1, hv⟩ := atI_dens k2 e
      exact .inr (.inl ⟨a, vs, i, v, rfl, rfl, Evl.ex_t R.bh k1, e1, q v B H R (Evl.Ex.refl _) hv⟩)
    | _ => cases e
  | lst ds =>
    cases dy with
    | int i =>
      cases h2
      obtain ⟨a, vs, rfl, k1, k2⟩ := h1
      obtain ⟨v, e1, hv⟩ := atI_dens k2 e
      exact .inl ⟨a, vs, i, v, rfl, rfl, .inl (.inl k1), e1, q v B H R (Evl.Ex.refl _) hv⟩
    | _ => cases e
  | arg ds =>
    cases dy with
    | int i =>
      cases h2
      obtain ⟨a, vs, rfl, k1, k2⟩ := h1
      obtain ⟨v, e1, hv⟩ := atI_dens k2 e
      exact .inl ⟨a, vs, i, v, rfl, rfl, Evl.ex_l R.bh k1, e1, q v B H R (Evl.Ex.refl _) hv⟩
    | _ => cases e
  | str x =>
    cases dy with
    | int i =>
      cases h1; cases h2
      have e' : (if x.length ≤ 100000 then (atI x.cps.toList i).map fun c => D.str ⟨#[c]⟩ else none) = some d := e
      by_cases c : x.length ≤ 100000
      · rw [if_pos c] at e'
        cases q1 : atI x.cps.toList i with
        | none => rw [q1] at e'; cases e'
        | some ch =>
          rw [q1] at e'; cases e'
          exact .inr (.inr ⟨x, i, ch, rfl, rfl, Evl.sz_of c, q1, q _ B H R (Evl.Ex.refl _) rfl⟩)
      · rw [if_neg c] at e'; cases e'
    | _ => cases e
  | _ => cases dy <;> cases e
theorem je_ix {fa fb : M Opd} (hK : X.K = g.K) (ha : JO X g T W a fa) (hb : JO X g T W b fb) (hs : PlainIx b) : JE X g T W (.Subscript a b pos) (mbin dIx fa fb) :=
  fun τ t => PE.imp (pe_ix ix_seq (ha τ t) (hb τ t) hs) fun σ H Q h => bin_rd (ix_rd hK) h
/-- the parts of a slice -/
def POpt : PP (Option Int) (Option Int) := fun _ _ o _ _ o' => o' = o
def JP (X : Cx) (g : G) (T : Tx) (W : WX) (e : Option Expr) (f : M (Option Int)) : Prop := ∀ τ t, L2.PO X e (RdM g (T.tmp τ t) W POpt f)
theorem PO.imp {X : Cx} {e : Option Expr} {t t' : TO} (h : L2.PO X e t) (hi : ∀ σ H Q, t' σ H Q → t σ H Q) : L2.PO X e t' := ⟨fun pins s σ H Q I q => h.run pins s σ H Q I (hi _ _ _ q)⟩
theorem jp_none : JP X g T W none (mret none) := fun τ t => PO.imp po_none fun σ H Q ⟨B, s, R, p⟩ => p none B H R (Evl.Ex.refl _) rfl
def intD : D → Option Int
  | .int i => some i
  | _ => none
def mpart (f : M D) : M (Option Int) := mbind f fun d => mbind (mopt (intD d)) fun i => mret (some i)
theorem jp_some {f : M D} (h : JE X g T W e f) : JP X g T W (some e) (mpart f) := fun τ t => PO.imp (po_some (h τ t)) fun σ H Q ⟨B, s, R, p⟩ => (PostM.bind (P := PD g) R p).mono fun v H1 ⟨d, B1, s1, R1, e1, q1, p1⟩ => by
  cases d with
  | int i => exact ⟨i, q1, p1 (some i) B1 H1 R1 (Evl.Ex.refl _) rfl⟩
  | _ => exact p1.elim
def cutD {α : Type} (xs : List α) (lo hi : Option Int) : List α := (xs.drop (HT.sIx xs.length 0 lo)).take (HT.sIx xs.length xs.length hi - HT.sIx xs.length 0 lo)
theorem cut_dens {ds : List D} {vs : List V} (h : Dens g B ds vs) (lo hi : Option Int) : Dens g B (cutD ds lo hi) (cutV vs lo hi) := by
  unfold cutD cutV
  rw [h.length]
  exact (h.drop _).take _
def dSl : D → Option Int → Option Int → Option Rv
  | .tup ds, lo, hi => some (.v (.tup (cutD ds lo hi)))
  | .lst ds, lo, hi => some (.l (cutD ds lo hi))
  | .arg ds, lo, hi => some (.l (cutD ds lo hi))
  | _, _, _ => none
def mslice (fa : M Opd) (fl fh : M (Option Int)) : M Rv := mbind fa fun o => mbind fl fun lo => mbind fh fun hi => mbind (res o) fun d => mopt (dSl d lo hi)
theorem cutV_whole {xs : List V} {lo hi : Option Int} (h : HT.sIx xs.length 0 lo = 0 ∧ HT.sIx xs.length xs.length hi = xs.length) : cutV xs lo hi = xs := by
  unfold cutV; rw [h.1, h.2]; simp
theorem jr_slice {fa : M Opd} {fl fh : M (Option Int)} {lo hi : Option Expr} {p2 : Pos} (hK : X.K = g.K) (ha : JO X g T W a fa) (hl : JP X g T W lo fl) (hh : JP X g T W hi fh) : JR X g T W (.Subscript a (.Slice lo hi none p2) pos) (mslice fa fl fh) :=
  fun τ t => PE.imp (pe_slice (SlR.or sl_list sl_tupA) (ha τ t) (hl τ t) (hh τ t)) fun σ H Q ⟨B, s, R, p⟩ => (PostM.bind (P := PO' g) R p).mono fun v H1 ⟨o, B1, s1, R1, e1, q1, p1⟩ =>
    (PostM.bind (P := POpt) R1 p1).mono fun l H2 ⟨lo', B2, s2, R2, e2, q2, p2⟩ => (PostM.bind (P := POpt) R2 p2).mono fun u H3 ⟨hi', B3, s3, R3, e3, q3, p3⟩ => by
      subst q2; subst q3
      rcases res_cases (o := o) (s := s3) with ⟨d, w⟩ | w
      · rw [mbind_ok w] at p3
        have hd := (res_ok R3 ((q1.mono e2).mono e3) w).2
        cases d with
        | tup ds =>
          obtain ⟨b, vs, rfl, k1, k2⟩ := hd
          have j1 := Evl.ex_t R3.bh k1
          rw [← hK] at j1
          refine .inr ⟨b, vs, rfl, j1, fun c => ?_, fun c p hp => ?_⟩
          · have hc := cut_dens k2 l u
            rw [cutV_whole c] at hc
            exact p3 _ B3 H3 R3 (Evl.Ex.refl _) ⟨b, vs, rfl, k1, hc⟩
          · obtain ⟨B', R', e', r⟩ := R3.newt hp (cut_dens k2 l u)
            exact p3 _ B' _ R' e' r
        | lst ds =>
          obtain ⟨b, vs, rfl, k1, k2⟩ := hd
          refine .inl ⟨b, vs, rfl, .inl (.inl k1), fun p hp => ?_⟩
          obtain ⟨R', r⟩ := R3.newl hp (cut_dens k2 l u)
          exact p3 _ B3 _ R' (Evl.Ex.refl _) r
        | arg ds =>
          obtain ⟨b, vs, rfl, k1, k2⟩ := hd
          have j1 := Evl.ex_l R3.bh k1
          rw [← hK] at j1
          refine .inl ⟨b, vs, rfl, j1, fun p hp => ?_⟩
          obtain ⟨R', r⟩ := R3.newl hp (cut_dens k2 l u)
          exact p3 _ B3 _ R' (Evl.Ex.refl _) r
        | _ => exact p3.elim
      · exfalso
        have z : mbind (res o) (fun d => mopt (dSl d l u)) s3 = .bad := by unfold mbind; rw [w]
        rw [z] at p3; exact p3
/-! ### built-ins by values -/
def ress : List Opd → M (List D)
  | [] => mret []
  | o :: r => mbind (res o) fun d => mbind (ress r) fun ds => mret (d :: ds)
def DensW (g : G) (B H : Hp) : List D → List V → Prop
  | [], vs => vs = []
  | d :: ds, vs => ∃ v r, vs = v :: r ∧ DenW g B H d v ∧ DensW g B H ds r
theorem ress_ok : ∀ {os : List Opd} {vs : List V} {ds : List D} {s' : S}, Rel g T B H σ s → PAs g σ s os B H vs → ress os s = .ok ds s' → s' = s ∧ DensW g B H ds vs
  | [], vs, ds, s', R, h, e => by
    cases e
    have : vs = [] := by have := h.1; cases vs; rfl; simp at this
    exact ⟨rfl, this⟩
  | o :: r, vs, ds, s', R, h, e => by
    cases vs with
    | nil => have := h.1; simp at this
    | cons v vs =>
      have h1 := h.2 0 o v rfl rfl
      have h2 : PAs g σ s r B H vs := ⟨by have := h.1; simpa using this, fun i o' v' a1 a2 => h.2 (i + 1) o' v' (by simpa using a1) (by simpa using a2)⟩
      unfold ress at e
      rcases res_cases (o := o) (s := s) with ⟨d, w⟩ | w
      · rw [mbind_ok w] at e
        cases er : ress r s with
        | ok ds' s2 =>
          rw [mbind_ok er] at e
          cases e
          obtain ⟨rfl, q⟩ := ress_ok R h2 er
          exact ⟨rfl, v, vs, rfl, (res_ok R h1 w).2, q⟩
        | ex c cs s2 => unfold mbind at e; rw [er] at e; cases e
        | bad => unfold mbind at e; rw [er] at e; cases e
      · unfold mbind at e; rw [w] at e; cases e
theorem ress_ex : ∀ {os : List Opd}, (∃ ds, ress os s = .ok ds s) ∨ ress os s = .bad
  | [] => .inl ⟨[], rfl⟩
  | o :: r => by
    unfold ress
    rcases res_cases (o := o) (s := s) with ⟨d, w⟩ | w
    · rw [mbind_ok w]
      rcases ress_ex (os := r) with ⟨ds, w2⟩ | w2
      · exact .inl ⟨_, by rw [mbind_ok w2]; rfl⟩
      · exact .inr (by unfold mbind; rw [w2])
    · exact .inr (by unfold mbind; rw [w])
def CbD (X : Cx) (g : G) (f : Value) (h : List D → Option Rv) : Prop :=
  ∃ r, CallR X f r ∧ ∀ (T : Tx) (B H : Hp) (σ : L2.St) (s : S) (vs : List V) (ds : List D) (d : Rv) (Q : VK), Rel g T B H σ s → DensW g B H ds vs → h ds = some d →
    (∀ v B' H', Rel g T B' H' σ s → Ex B B' → RvOk g T σ s d B' H' v → Q v H') → r vs H Q
def mcb (h : List D → Option Rv) (fa : M (List Opd)) : M Rv := mbind fa fun os => mbind (ress os) fun ds => mopt (h ds)
theorem jr_cb {f : Value} {h : List D → Option Rv} {fa : M (List Opd)} (ho : CbD X g f h) (hpe : ∀ r ta, CallR X f r → PA X es ta → PE X e (tCB r ta)) (ha : JA X g T W es fa) : JR X g T W e (mcb h fa) := by
  obtain ⟨r, h1, hr⟩ := ho
  exact fun τ t => PE.imp (hpe r _ h1 (ha τ t)) fun σ H Q ⟨B, s, R, p⟩ => (PostM.bind (P := PAs g) R p).mono fun vs H1 ⟨os, B1, s1, R1, e1, q1, p1⟩ => by
    rcases ress_ex (s := s1) (os := os) with ⟨ds, w⟩ | w
    · rw [mbind_ok w] at p1
      cases ef : h ds with
      | none => rw [ef] at p1; exact p1.elim
      | some d => rw [ef] at p1; exact hr _ B1 H1 σ s1 vs ds d Q R1 (ress_ok R1 q1 w).2 ef fun v B' H' R' e' hd => p1 v B' H' R' e' hd
    · exfalso
      have z : mbind (ress os) (fun ds => mopt (h ds)) s1 = .bad := by unfold mbind; rw [w]
      rw [z] at p1; exact p1
theorem cb1 {f : Value} {h : D → Option Rv} {r : List V → Hp → VK → Prop} (hr : CallR X f r) (hq : ∀ (T : Tx) (B H : Hp) (σ : L2.St) (s : S) (v : V) (d : D) (o : Rv) (Q : VK), Rel g T B H σ s → DenW g B H d v → h d = some o →
    (∀ v B' H', Rel g T B' H' σ s → Ex B B' → RvOk g T σ s o B' H' v → Q v H') → r [v] H Q) : CbD X g f (fun ds => match ds with | [d] => h d | _ => none) :=
  ⟨r, hr, fun T B H σ s vs ds o Q R hd e q => by
    cases ds with
    | nil => cases e
    | cons d ds =>
      cases ds with
      | nil => obtain ⟨v, w, rfl, h1, h2⟩ := hd; cases h2; exact hq T B H σ s v d o Q R h1 e q
      | cons d' ds => cases e⟩
def lenD : D → Option Rv
  | .tup ds => some (.v (.int ds.length))
  | .lst ds => some (.v (.int ds.length))
  | .arg ds => some (.v (.int ds.length))
  | .str x => if x.length ≤ 100000 then some (.v (.int x.length)) else none
  | _ => none
abbrev on1 (h : D → Option Rv) : List D → Option Rv := fun ds => match ds with
  | [d] => h d
  | _ => none
theorem o_len (hK : X.K = g.K) : CbD X g (.builtin "len") (on1 lenD) := cb1 call_len fun T B H σ s v d o Q R h e q => by
  cases d with
  | tup ds => obtain ⟨a, vs, rfl, k1, k2⟩ := h; cases e; exact ⟨_, vs.length, rfl, .inr ⟨vs, by rw [hK]; exact Evl.ex_t R.bh k1, rfl⟩, q _ B H R (Evl.Ex.refl _) (by rw [k2.length]; rfl)⟩
  | lst ds => obtain ⟨a, vs, rfl, k1, k2⟩ := h; cases e; exact ⟨_, vs.length, rfl, .inl ⟨vs, .inl (.inl k1), rfl⟩, q _ B H R (Evl.Ex.refl _) (by rw [k2.length]; rfl)⟩
  | arg ds => obtain ⟨a, vs, rfl, k1, k2⟩ := h; cases e; exact ⟨_, vs.length, rfl, .inl ⟨vs, by rw [hK]; exact Evl.ex_l R.bh k1, rfl⟩, q _ B H R (Evl.Ex.refl _) (by rw [k2.length]; rfl)⟩
  | str x =>
    cases h
    have e' : (if x.length ≤ 100000 then some (Rv.v (.int x.length)) else none) = some o := e
    by_cases c : x.length ≤ 100000
    · rw [if_pos c] at e'; cases e'
      exact ⟨_, x.length, rfl, ⟨Evl.sz_of c, rfl⟩, q _ B H R (Evl.Ex.refl _) rfl⟩
    · rw [if_neg c] at e'; cases e'
  | _ => cases e
def absD : D → Option Rv
  | .int i => some (.v (.int (if i < 0 then -i else i)))
  | _ => none
theorem o_abs : CbD X g (.builtin "abs") (on1 absD) := cb1 call_abs fun T B H σ s v d o Q R h e q => by
  cases d with
  | int i => cases h; cases e; exact ⟨i, rfl, q _ B H R (Evl.Ex.refl _) rfl⟩
  | _ => cases e
def intOf : D → Option Rv
  | .int i => some (.v (.int i))
  | .bl b => some (.v (.int (if b then 1 else 0)))
  | _ => none
theorem o_int : CbD X g (.type "int") (on1 intOf) := cb1 call_int1 fun T B H σ s v d o Q R h e q => by
  cases d with
  | int i => cases h; cases e; exact .inl ⟨i, rfl, q _ B H R (Evl.Ex.refl _) rfl⟩
  | bl b => cases h; cases e; exact .inr ⟨b, rfl, q _ B H R (Evl.Ex.refl _) rfl⟩
  | _ => cases e
def listOf : D → Option Rv
  | .tup ds => some (.l ds)
  | .lst ds => some (.l ds)
  | .arg ds => some (.l ds)
  | _ => none
theorem o_list (hK : X.K = g.K) : CbD X g (.type "list") (on1 listOf) := cb1 call_list_of fun T B H σ s v d o Q R h e q => by
  cases d with
  | tup ds => obtain ⟨a, vs, rfl, k1, k2⟩ := h; cases e; exact ⟨a, vs, rfl, .inr (by rw [hK]; exact Evl.ex_t R.bh k1), fun p hp => q _ B _ (R.newl hp k2).1 (Evl.Ex.refl _) (R.newl hp k2).2⟩
  | lst ds => obtain ⟨a, vs, rfl, k1, k2⟩ := h; cases e; exact ⟨a, vs, rfl, .inl (.inl (.inl k1)), fun p hp => q _ B _ (R.newl hp k2).1 (Evl.Ex.refl _) (R.newl hp k2).2⟩
  | arg ds => obtain ⟨a, vs, rfl, k1, k2⟩ := h; cases e; exact ⟨a, vs, rfl, .inl (by rw [hK]; exact Evl.ex_l R.bh k1), fun p hp => q _ B _ (R.newl hp k2).1 (Evl.Ex.refl _) (R.newl hp k2).2⟩
  | _ => cases e
def tupOf : D → Option Rv
  | .tup ds => some (.v (.tup ds))
  | .lst ds => some (.v (.tup ds))
  | .arg ds => some (.v (.tup ds))
  | _ => none
theorem o_tuple (hK : X.K = g.K) : CbD X g (.type "tuple") (on1 tupOf) := cb1 call_tuple_of fun T B H σ s v d o Q R h e q => by
  cases d with
  | tup ds => obtain ⟨a, vs, rfl, k1, k2⟩ := h; cases e; exact ⟨a, vs, rfl, .inr ⟨by rw [hK]; exact Evl.ex_t R.bh k1, q _ B H R (Evl.Ex.refl _) ⟨a, vs, rfl, k1, k2⟩⟩⟩
  | lst ds => obtain ⟨a, vs, rfl, k1, k2⟩ := h; cases e; exact ⟨a, vs, rfl, .inl ⟨.inl (.inl k1), fun p hp => by obtain ⟨B', R', e', r⟩ := R.newt hp k2; exact q _ B' _ R' e' r⟩⟩
  | arg ds => obtain ⟨a, vs, rfl, k1, k2⟩ := h; cases e; exact ⟨a, vs, rfl, .inl ⟨by rw [hK]; exact Evl.ex_l R.bh k1, fun p hp => by obtain ⟨B', R', e', r⟩ := R.newt hp k2; exact q _ B' _ R' e' r⟩⟩
  | _ => cases e
/-- lists of ints, of bools -/
def intsD : List D → Option (List Int)
  | [] => some []
  | .int i :: r => (intsD r).map (i :: ·)
  | _ => none
def blsD : List D → Option (List Bool)
  | [] => some []
  | .bl b :: r => (blsD r).map (b :: ·)
  | _ => none
theorem ints_den : ∀ {ds : List D} {vs : List V} {ns : List Int}, Dens g B ds vs → intsD ds = some ns → vs = ns.map V.int
  | [], vs, ns, h, e => by cases h; cases e; rfl
  | .int i :: r, vs, ns, ⟨v, w, e1, h1, h2⟩, e => by
    subst e1; cases h1
    have e' : (intsD r).map (i :: ·) = some ns := e
    cases q : intsD r with
    | none => rw [q] at e'; cases e'
    | some ms => rw [q] at e'; cases e'; rw [ints_den h2 q]; rfl
  | .non :: _, _, _, _, e => by cases e
  | .bl _ :: _, _, _, _, e => by cases e
  | .str _ :: _, _, _, _, e => by cases e
  | .tup _ :: _, _, _, _, e => by cases e
  | .lst _ :: _, _, _, _, e => by cases e
  | .arg _ :: _, _, _, _, e => by cases e
  | .obj _ _ :: _, _, _, _, e => by cases e
  | .exc _ _ _ _ :: _, _, _, _, e => by cases e
theorem bls_den : ∀ {ds : List D} {vs : List V} {ns : List Bool}, Dens g B ds vs → blsD ds = some ns → vs = ns.map V.bl
  | [], vs, ns, h, e => by cases h; cases e; rfl
  | .bl i :: r, vs, ns, ⟨v, w, e1, h1, h2⟩, e => by
    subst e1; cases h1
    have e' : (blsD r).map (i :: ·) = some ns := e
    cases q : blsD r with
    | none => rw [q] at e'; cases e'
    | some ms => rw [q] at e'; cases e'; rw [bls_den h2 q]; rfl
  | .non :: _, _, _, _, e => by cases e
  | .int _ :: _, _, _, _, e => by cases e
  | .str _ :: _, _, _, _, e => by cases e
  | .tup _ :: _, _, _, _, e => by cases e
  | .lst _ :: _, _, _, _, e => by cases e
  | .arg _ :: _, _, _, _, e => by cases e
  | .obj _ _ :: _, _, _, _, e => by cases e
  | .exc _ _ _ _ :: _, _, _, _, e => by cases e
def onInts (h : List Int → Option Int) : D → Option Rv
  | .lst ds => (intsD ds).bind fun ns => (h ns).map fun i => .v (.int i)
  | _ => none
def onBls (h : List Bool → Bool) : D → Option Rv
  | .lst ds => (blsD ds).map fun ns => .v (.bl (h ns))
  | _ => none
theorem onInts_some {h : List Int → Option Int} {d : D} {o : Rv} (e : onInts h d = some o) : ∃ ds ns i, d = .lst ds ∧ intsD ds = some ns ∧ h ns = some i ∧ o = .v (.int i) := by
  cases d with
  | lst ds =>
    have e' : ((intsD ds).bind fun ns => (h ns).map fun i => Rv.v (.int i)) = some o := e
    cases q : intsD ds with
    | none => rw [q] at e'; cases e'
    | some ns =>
      rw [q] at e'
      cases q2 : h ns with
      | none => simp [q2] at e'
      | some i => simp [q2] at e'; exact ⟨ds, ns, i, rfl, q, q2, e'.symm⟩
  | _ => cases e
abbrev sumD := onInts fun ns => some ns.sum
def maxL (ns : List Int) : Option Int := ns.max?
def minL (ns : List Int) : Option Int := ns.min?
theorem o_sum (hc : X.calm = true) : CbD X g (.builtin "sum") (on1 sumD) := cb1 (cr_sum hc) fun T B H σ s v d o Q R h e q => by
  obtain ⟨ds, ns, i, rfl, e1, e2, rfl⟩ := onInts_some e
  obtain ⟨a, vs, rfl, k1, k2⟩ := h
  cases e2
  have := ints_den k2 e1
  subst this
  exact ⟨a, ns, rfl, .inl (.inl k1), q _ B H R (Evl.Ex.refl _) rfl⟩
theorem max_is {ns : List Int} {i m : Int} (h : ns.max? = some i) (h1 : m ∈ ns) (h2 : ∀ y, y ∈ ns → y ≤ m) : m = i := by
  obtain ⟨a1, a2⟩ := List.max?_eq_some_iff.mp h
  have := a2 m h1
  have := h2 i a1
  omega
theorem min_is {ns : List Int} {i m : Int} (h : ns.min? = some i) (h1 : m ∈ ns) (h2 : ∀ y, y ∈ ns → m ≤ y) : m = i := by
  obtain ⟨a1, a2⟩ := List.min?_eq_some_iff.mp h
  have := a2 m h1
  have := h2 i a1
  omega
theorem o_max1 (hc : X.calm = true) : CbD X g (.builtin "max") (on1 (onInts maxL)) := cb1 (cr_max hc) fun T B H σ s v d o Q R h e q => by
  obtain ⟨ds, ns, i, rfl, e1, e2, rfl⟩ := onInts_some e
  obtain ⟨a, vs, rfl, k1, k2⟩ := h
  have := ints_den k2 e1
  subst this
  refine ⟨a, ns, rfl, .inl (.inl k1), ?_, fun m h1 h2 => ?_⟩
  · cases ns with
    | nil => cases e2
    | cons x r => simp
  · have := max_is e2 h1 h2
    subst this
    exact q _ B H R (Evl.Ex.refl _) rfl
theorem o_min1 (hc : X.calm = true) : CbD X g (.builtin "min") (on1 (onInts minL)) := cb1 (cr_min hc) fun T B H σ s v d o Q R h e q => by
  obtain ⟨ds, ns, i, rfl, e1, e2, rfl⟩ := onInts_some e
  obtain ⟨a, vs, rfl, k1, k2⟩ := h
  have := ints_den k2 e1
  subst this
  refine ⟨a, ns, rfl, .inl (.inl k1), ?_, fun m h1 h2 => ?_⟩
  · cases ns with
    | nil => cases e2
    | cons x r => simp
  · have := min_is e2 h1 h2
    subst this
    exact q _ B H R (Evl.Ex.refl _) rfl
theorem o_all (hc : X.calm = true) : CbD X g (.builtin "all") (on1 (onBls fun bs => bs.all id)) := cb1 (cr_all hc) fun T B H σ s v d o Q R h e q => by
  cases d with
  | lst ds =>
    have e' : ((blsD ds).map fun ns => Rv.v (.bl (ns.all id))) = some o := e
    cases q1 : blsD ds with
    | none => rw [q1] at e'; cases e'
    | some bs =>
      rw [q1] at e'; cases e'
      obtain ⟨a, vs, rfl, k1, k2⟩ := h
      have := bls_den k2 q1
      subst this
      exact ⟨a, bs, rfl, .inl (.inl k1), q _ B H R (Evl.Ex.refl _) rfl⟩
  | _ => cases e
theorem o_any (hc : X.calm = true) : CbD X g (.builtin "any") (on1 (onBls fun bs => bs.any id)) := cb1 (cr_any hc) fun T B H σ s v d o Q R h e q => by
  cases d with
  | lst ds =>
    have e' : ((blsD ds).map fun ns => Rv.v (.bl (ns.any id))) = some o := e
    cases q1 : blsD ds with
    | none => rw [q1] at e'; cases e'
    | some bs =>
      rw [q1] at e'; cases e'
      obtain ⟨a, vs, rfl, k1, k2⟩ := h
      have := bls_den k2 q1
      subst this
      exact ⟨a, bs, rfl, .inl (.inl k1), q _ B H R (Evl.Ex.refl _) rfl⟩
  | _ => cases e
/-- two ints -/
def on2 (h : Int → Int → Int) : List D → Option Rv
  | [.int i, .int j] => some (.v (.int (h i j)))
  | _ => none
theorem on2_some {h : Int → Int → Int} {ds : List D} {vs : List V} {o : Rv} (e : on2 h ds = some o) (hd : DensW g B H ds vs) : ∃ i j, vs = [.int i, .int j] ∧ o = .v (.int (h i j)) := by
  unfold on2 at e
  split at e
  · cases e
    rename_i i j
    obtain ⟨v, r, rfl, h1, v', r', rfl, h2, h3⟩ := hd
    cases h1; cases h2; cases h3
    exact ⟨i, j, rfl, rfl⟩
  · cases e
theorem o_max2 (hc : X.calm = true) : CbD X g (.builtin "max") (on2 fun i j => if j > i then j else i) := ⟨_, call_max2 hc, fun T B H σ s vs ds o Q R hd e q => by
  obtain ⟨i, j, rfl, rfl⟩ := on2_some e hd
  exact ⟨i, j, rfl, q _ B H R (Evl.Ex.refl _) rfl⟩⟩
theorem o_min2 (hc : X.calm = true) : CbD X g (.builtin "min") (on2 fun i j => if j < i then j else i) := ⟨_, call_min2 hc, fun T B H σ s vs ds o Q R hd e q => by
  obtain ⟨i, j, rfl, rfl⟩ := on2_some e hd
  exact ⟨i, j, rfl, q _ B H R (Evl.Ex.refl _) rfl⟩⟩
end TW

set_option Elab.async false
set_option linter.all false
set_option autoImplicit false
set_option maxRecDepth 100000
set_option maxHeartbeats 1000000
namespace TW
open PySem PySem.Spec PyProof.Rows L2
variable {g : G} {T : Tx} {B B' H H' : Hp} {σ : L2.St} {s : S} {W : WX} {α β γ δ : Type} {P : PP α β}
variable {X : Cx} {e a b c tg iter : Expr} {es : List Expr} {pos : Pos}

/-! ## targets -/
/-- what a target leaves: all (none), or all slots but these -/
def Lvs : Option (List Nat) → L2.St → L2.St → Prop
  | none, _, _ => True
  | some vs, σ, σ' => wipe σ' vs = wipe σ vs
theorem Lvs.refl {o : Option (List Nat)} : Lvs o σ σ := by cases o; trivial; rfl
theorem Lvs.trans {o : Option (List Nat)} {σ1 σ2 : L2.St} (h : Lvs o σ σ1) (h' : Lvs o σ1 σ2) : Lvs o σ σ2 := by
  cases o with
  | none => trivial
  | some vs => exact Eq.trans (show wipe σ2 vs = wipe σ1 vs from h') h
theorem wipe_get {σ : L2.St} : ∀ {vs : List Nat} {i : Nat}, (wipe σ vs)[i]? = if i ∈ vs then (σ[i]?).map fun _ => none else σ[i]?
  | [], i => by simp [wipe]
  | v :: vs, i => by
    unfold wipe
    rw [List.getElem?_set, wipe_length, wipe_get]
    by_cases h : v = i
    · subst h
      by_cases hv : v < σ.length <;> simp [hv]
    · by_cases h2 : i ∈ vs
      · simp [h, h2]
      · simp [h, h2, Ne.symm h]
theorem Lvs.set {o : Option (List Nat)} {i : Nat} {x : Option V} (h : ∀ vs, o = some vs → i ∈ vs) : Lvs o σ (σ.set i x) := by
  cases o with
  | none => trivial
  | some vs =>
    have hi := h vs rfl
    show wipe (σ.set i x) vs = wipe σ vs
    apply List.ext_getElem?
    intro j
    rw [wipe_get, wipe_get]
    by_cases hj : j ∈ vs
    · rw [if_pos hj, if_pos hj, List.getElem?_set]
      by_cases e : i = j
      · subst e
        by_cases hl : i < σ.length <;> simp [hl]
      · simp [e]
    · rw [if_neg hj, if_neg hj, List.getElem?_set_ne (fun (e : i = j) => hj (by rw [← e]; exact hi))]
def PostG (g : G) (T : Tx) (o : Option (List Nat)) (σ : L2.St) (B : Hp) : Option S → (L2.St → Hp → Prop) → Prop
  | some s', Q => ∀ σ' B' H', Rel g T B' H' σ' s' → Ex B B' → Lvs o σ σ' → Q σ' H'
  | none, _ => False
def RdG (g : G) (T : Tx) (o : Option (List Nat)) (tm : D → S → Option S) : TG := fun v σ H Q => ∃ B s d, Rel g T B H σ s ∧ Den g B d v ∧ PostG g T o σ B (tm d s) Q
def RdGs (g : G) (T : Tx) (o : Option (List Nat)) (tm : List D → S → Option S) : TGs := fun vs σ H Q => ∃ B s ds, Rel g T B H σ s ∧ Dens g B ds vs ∧ PostG g T o σ B (tm ds s) Q
def JG (X : Cx) (g : G) (T : Tx) (o : Option (List Nat)) (tg : Expr) (tm : D → S → Option S) : Prop := ∀ τ t, PG X tg (RdG g (T.tmp τ t) o tm)
def JGs (X : Cx) (g : G) (T : Tx) (o : Option (List Nat)) (tgs : List Expr) (tm : List D → S → Option S) : Prop := ∀ τ t, PGs X tgs (RdGs g (T.tmp τ t) o tm)
variable {o : Option (List Nat)}
theorem PG.imp {tg : Expr} {t t' : TG} (h : PG X tg t) (hi : ∀ v σ H Q, t' v σ H Q → t v σ H Q) : PG X tg t' := ⟨fun pins s σ H v u Q I r q => h.run pins s σ H v u Q I r (hi _ _ _ _ q)⟩
theorem PGs.imp {tg : List Expr} {t t' : TGs} (h : PGs X tg t) (hi : ∀ v σ H Q, t' v σ H Q → t v σ H Q) : PGs X tg t' := ⟨fun pins s σ H v u Q I r q => h.run pins s σ H v u Q I r (hi _ _ _ _ q)⟩
theorem PG.or {tg : Expr} {t t' : TG} (h : PG X tg t) (h' : PG X tg t') : PG X tg (fun v σ H Q => t v σ H Q ∨ t' v σ H Q) := ⟨fun pins s σ H v u Q I r q => by
  rcases q with q | q
  · exact h.run pins s σ H v u Q I r q
  · exact h'.run pins s σ H v u Q I r q⟩
theorem PostG.base {r : Option S} {Q : L2.St → Hp → Prop} {σ1 : L2.St} (e : Ex B B') (l : Lvs o σ σ1) (h : PostG g T o σ B r Q) : PostG g T o σ1 B' r Q := by
  cases r with
  | none => exact h
  | some s' => exact fun σ' B1 H1 R1 e1 l1 => h σ' B1 H1 R1 (e.trans e1) (l.trans l1)
def tgName (i : Nat) : D → S → Option S := fun d s => if i < s.length then some (s.set i (.v d)) else none
theorem jg_name {i : Nat} (hpg : PG X tg (gName i)) (hio : T.io i = none) (ho : ∀ vs, o = some vs → i ∈ vs) : JG X g T o tg (tgName i) := fun τ t => PG.imp hpg fun v σ H Q ⟨B, s, d, R, hd, p⟩ => by
  unfold tgName at p
  by_cases hi : i < s.length
  · rw [if_pos hi] at p; exact p _ B H (R.storev hi hio hd) (Evl.Ex.refl _) (Lvs.set ho)
  · rw [if_neg hi] at p; exact p.elim
def tgNil : List D → S → Option S := fun ds s => match ds with
  | [] => some s
  | _ => none
def tgCons (f : D → S → Option S) (r : List D → S → Option S) : List D → S → Option S := fun ds s => match ds with
  | d :: ds => (f d s).bind fun s' => r ds s'
  | [] => none
theorem jgs_nil : JGs X g T o [] tgNil := fun τ t => PGs.imp pgs_nil fun vs σ H Q ⟨B, s, ds, R, hd, p⟩ => by
  cases ds with
  | nil => cases hd; exact ⟨rfl, p σ B H R (Evl.Ex.refl _) Lvs.refl⟩
  | cons d ds => exact p.elim
theorem jgs_cons {f : D → S → Option S} {r : List D → S → Option S} (h1 : JG X g T o e f) (h2 : JGs X g T o es r) (hs : (assignEach (e :: es) X.env).map (·.2) = assign e X.env :: (assignEach es X.env).map (·.2) := by rfl) : JGs X g T o (e :: es) (tgCons f r) :=
  fun τ t => PGs.imp (pgs_cons (h1 τ t) (h2 τ t) hs) fun vs σ H Q ⟨B, s, ds, R, hd, p⟩ => by
    cases ds with
    | nil => exact p.elim
    | cons d ds =>
      obtain ⟨v, w, rfl, q1, q2⟩ := hd
      refine ⟨v, w, rfl, B, s, d, R, q1, ?_⟩
      have p' : PostG g (T.tmp τ t) o σ B ((f d s).bind fun s' => r ds s') Q := p
      cases ef : f d s with
      | none => rw [ef] at p'; exact p'.elim
      | some s' =>
        rw [ef] at p'
        exact fun σ' B' H' R' e' l' => ⟨B', s', ds, R', q2.mono e', PostG.base e' l' p'⟩
def tgTup (n : Nat) (r : List D → S → Option S) : D → S → Option S := fun d s => match itemsD d with
  | some ds => if ds.length = n then r ds s else none
  | none => none
theorem jg_tup {n k : Nat} {r : List D → S → Option S} (hK : X.K = g.K) (hc : X.calm = true) (h : JGs X g T o es r) (hn : (assignEach es X.env).length = n := by rfl) (hst : (assignEach es X.env).findIdx? (·.1) = none := by rfl) : JG X g T o (.Tuple es k pos) (tgTup n r) :=
  fun τ t => PG.imp (PG.or (pg_tup (n := n) hc (h τ t) hn hst) (pg_lst (n := n) hc (h τ t) hn hst)) fun v σ H Q ⟨B, s, d, R, hd, p⟩ => by
    unfold tgTup at p
    cases ei : itemsD d with
    | none => rw [ei] at p; exact p.elim
    | some ds =>
      rw [ei] at p
      dsimp only at p
      by_cases hl : ds.length = n
      · rw [if_pos hl] at p
        cases d with
        | tup ds' => cases ei; obtain ⟨a, vs, rfl, k1, k2⟩ := hd; exact .inl ⟨a, vs, rfl, by rw [hK]; exact Evl.ex_t R.bh k1, by rw [k2.length, hl], B, s, ds, R, k2, p⟩
        | lst ds' => cases ei; obtain ⟨a, vs, rfl, k1, k2⟩ := hd; exact .inr ⟨a, vs, rfl, .inl (.inl (R.bh _ _ k1)), by rw [k2.length, hl], B, s, ds, R, k2, p⟩
        | arg ds' => cases ei; obtain ⟨a, vs, rfl, k1, k2⟩ := hd; exact .inr ⟨a, vs, rfl, by rw [hK]; exact Evl.ex_l R.bh k1, by rw [k2.length, hl], B, s, ds, R, k2, p⟩
        | _ => cases ei
      · rw [if_neg hl] at p; exact p.elim
/-- target = value, the value data -/
def masg (f : M D) (tm : D → S → Option S) : MS := ms f fun d s => match tm d s with
  | some s' => .nx s'
  | none => .bad
theorem js_asg {st : Stmt} {f : M D} {tm : D → S → Option S} (hps : ∀ te gt, PE X e te → PG X tg gt → PS X st (tAsg te gt)) (he : JE X g T W e f) (hg : JG X g T none tg tm) : JS X g T W st (masg f tm) :=
  PS.imp (hps _ _ (he T.τ T.t) (hg T.τ T.t)) fun D σ H ⟨B, s, R, p⟩ => (PostS.bind (P := PD g) R p).mono fun v H1 ⟨d, B1, s1, R1, e1, q, p1⟩ => by
    refine ⟨B1, s1, d, R1, q, ?_⟩
    cases et : tm d s1 with
    | none => rw [et] at p1; exact p1.elim
    | some s' => rw [et] at p1; exact fun σ' B' H' R' e' _ => p1 σ' B' H' R' e'

/-! ## what is walked -/
structure Wk (g : G) (B : Hp) (J : It) (ds : List D) : Prop where
  go : ∀ (B' H' : Hp) (i : Nat), Ex B B' → Ex B' H' → i < ds.length → J.go i H'
  stop : ∀ (B' H' : Hp), Ex B B' → Ex B' H' → J.stop ds.length H'
  yld : ∀ (B' H' : Hp) (i : Nat) (d : D) (x : V) (H2 : Hp), Ex B B' → Ex B' H' → ds[i]? = some d → J.yld i H' x H2 →
    (H2 = H' ∧ Den g B' d x) ∨ ∃ p o, H' p = none ∧ H2 = upd H' p o ∧ Den g (upd B' p o) d x
abbrev PI' (g : G) : PP (List D) It := fun _ _ ds B _ J => Wk g B J ds
def JI (X : Cx) (g : G) (T : Tx) (W : WX) (tg iter : Expr) (f : M (List D)) : Prop := ∀ τ t, PI X tg iter (RdM g (T.tmp τ t) W (PI' g) f)
theorem PI.imp {t t' : TI} (h : PI X tg iter t) (hi : ∀ σ H R, t' σ H R → t σ H R) : PI X tg iter t' := ⟨fun pins s σ H R I q => h.run pins s σ H R I (hi _ _ _ q)⟩
theorem Wk.list {K : PySem.W.Frag} (hK : K = g.K) {a : Addr} {vs : List V} {ds : List D} (h : SqL K B a vs) (hd : Dens g B ds vs) : Wk g B (Itl K a) ds where
  go := fun B' H' i e e' hi => ⟨vs, vs[i]'(by rw [hd.length]; exact hi), Evl.ex_l (e.trans e') h, by simp [hd.length, hi]⟩
  stop := fun B' H' e e' => ⟨vs, Evl.ex_l (e.trans e') h, by rw [hd.length]; exact Nat.le_refl _⟩
  yld := fun B' H' i d x H2 e e' hi hy => by
    obtain ⟨rfl, hy⟩ := hy
    obtain ⟨v, hv, q⟩ := hd.get hi
    have := hy vs (Evl.ex_l (e.trans e') h)
    rw [hv] at this; cases this
    exact .inl ⟨rfl, q.mono e⟩
theorem Wk.tup {K : PySem.W.Frag} (hK : K = g.K) {a : Addr} {vs : List V} {ds : List D} (h : SqT K B a vs) (hd : Dens g B ds vs) : Wk g B (Itt K a) ds where
  go := fun B' H' i e e' hi => ⟨vs, vs[i]'(by rw [hd.length]; exact hi), Evl.ex_t (e.trans e') h, by simp [hd.length, hi]⟩
  stop := fun B' H' e e' => ⟨vs, Evl.ex_t (e.trans e') h, by rw [hd.length]; exact Nat.le_refl _⟩
  yld := fun B' H' i d x H2 e e' hi hy => by
    obtain ⟨rfl, hy⟩ := hy
    obtain ⟨v, hv, q⟩ := hd.get hi
    have := hy vs (Evl.ex_t (e.trans e') h)
    rw [hv] at this; cases this
    exact .inl ⟨rfl, q.mono e⟩
theorem PI.or {t t' : TI} (h : PI X tg iter t) (h' : PI X tg iter t') : PI X tg iter (fun σ H R => t σ H R ∨ t' σ H R) := ⟨fun pins s σ H R I q => by
  rcases q with q | q
  · exact h.run pins s σ H R I q
  · exact h'.run pins s σ H R I q⟩
def strItems (x : Str) : List D := x.cps.toList.map fun c => .str ⟨#[c]⟩
def walkD : D → Option (List D)
  | .str x => some (strItems x)
  | d => itemsD d
def mwalk (f : M D) : M (List D) := mbind f fun d => mopt (walkD d)
theorem ji_seq {f : M D} (hK : X.K = g.K) (he : JE X g T W iter f) : JI X g T W tg iter (mwalk f) := fun τ t =>
  PI.imp (PI.or (pi_list (he τ t)) (PI.or (pi_tup (he τ t)) (pi_str (he τ t)))) fun σ H R ⟨B, s, Rl, p⟩ => by
    unfold mwalk at p
    cases ef : f s with
    | bad => unfold mbind at p; rw [ef] at p; exact p.elim
    | ex c ds s' => unfold mbind at p; rw [ef] at p; exact .inl ⟨B, s, Rl, by rw [ef]; exact p⟩
    | ok d s' =>
      rw [mbind_ok ef] at p
      cases d with
      | str x =>
        refine .inr (.inr ⟨B, s, Rl, ?_⟩)
        rw [ef]
        intro v B' H' R' e' hd
        cases hd
        refine ⟨x, rfl, p _ B' H' R' e' ⟨fun B2 H2 i _ _ hi => by show i < x.cps.size; simpa [strItems] using hi, fun B2 H2 _ _ => by show x.cps.size ≤ _; simp [strItems], fun B2 H2 i d v H3 _ _ hi hy => ?_⟩⟩
        obtain ⟨rfl, c, hc, rfl⟩ := hy
        refine .inl ⟨rfl, ?_⟩
        have : d = .str ⟨#[c]⟩ := by
          unfold strItems at hi
          rw [List.getElem?_map] at hi
          have h2 : x.cps.toList[i]? = some c := by simpa using hc
          rw [h2] at hi
          exact (Option.some.inj hi).symm
        subst this; rfl
      | tup ds =>
        refine .inr (.inl ⟨B, s, Rl, ?_⟩)
        rw [ef]
        intro v B' H' R' e' hd
        obtain ⟨a, vs, rfl, k1, k2⟩ := hd
        rw [← hK] at k1
        exact ⟨a, rfl, ⟨vs, Evl.ex_t R'.bh k1⟩, p _ B' H' R' e' (Wk.tup hK k1 k2)⟩
      | lst ds =>
        refine .inl ⟨B, s, Rl, ?_⟩
        rw [ef]
        intro v B' H' R' e' hd
        obtain ⟨a, vs, rfl, k1, k2⟩ := hd
        exact ⟨a, rfl, ⟨vs, .inl (.inl (R'.bh _ _ k1))⟩, p _ B' H' R' e' (Wk.list hK (.inl (.inl k1)) k2)⟩
      | arg ds =>
        refine .inl ⟨B, s, Rl, ?_⟩
        rw [ef]
        intro v B' H' R' e' hd
        obtain ⟨a, vs, rfl, k1, k2⟩ := hd
        rw [← hK] at k1
        exact ⟨a, rfl, ⟨vs, Evl.ex_l R'.bh k1⟩, p _ B' H' R' e' (Wk.list hK k1 k2)⟩
      | _ => exact p.elim
/-- range -/
def rangeD (lo : Int) (n : Nat) : List D := (List.range n).map fun i => .int (lo + (i : Nat))
theorem Wk.range {lo : Int} {n : Nat} : Wk g B (Itr lo n) (rangeD lo n) where
  go := fun B' H' i _ _ hi => by show i < n; simpa [rangeD] using hi
  stop := fun B' H' _ _ => by show n ≤ _; simp [rangeD]
  yld := fun B' H' i d x H2 _ _ hi hy => by
    obtain ⟨rfl, rfl⟩ := hy
    refine .inl ⟨rfl, ?_⟩
    unfold rangeD at hi
    rw [List.getElem?_map] at hi
    cases q : (List.range n)[i]? with
    | none => rw [q] at hi; cases hi
    | some j =>
      rw [q] at hi; cases hi
      have : j = i := by
        obtain ⟨h1, h2⟩ := List.getElem?_eq_some_iff.mp q
        simp at h2; exact h2.symm
      subst this; rfl
def rangeC (lo c : Int) (n : Nat) : List D := (List.range n).map fun i => .int (lo + (i : Nat) * c)
theorem Wk.rangeC {lo c : Int} {n : Nat} : Wk g B (Itc lo c n) (rangeC lo c n) where
  go := fun B' H' i _ _ hi => by show i < n; simpa [TW.rangeC] using hi
  stop := fun B' H' _ _ => by show n ≤ _; simp [TW.rangeC]
  yld := fun B' H' i d x H2 _ _ hi hy => by
    obtain ⟨rfl, rfl⟩ := hy
    refine .inl ⟨rfl, ?_⟩
    unfold TW.rangeC at hi
    rw [List.getElem?_map] at hi
    cases q : (List.range n)[i]? with
    | none => rw [q] at hi; cases hi
    | some j =>
      rw [q] at hi; cases hi
      have : j = i := by
        obtain ⟨h1, h2⟩ := List.getElem?_eq_some_iff.mp q
        simp at h2; exact h2.symm
      subst this; rfl
/-- by natAbs: the kernel must not unfold a great literal -/
def okR (i : Int) : Bool := Nat.ble i.natAbs 900000000000
theorem okR_ok {i : Int} (h : okR i = true) : -(2 ^ 62) ≤ i ∧ i < 2 ^ 62 := by
  have := Nat.le_of_ble_eq_true h
  omega
def rng1 : List D → Option (List D)
  | [.int j] => if okR j = true then some (rangeD 0 j.toNat) else none
  | _ => none
def rng2 : List D → Option (List D)
  | [.int i, .int j] => if (okR i && okR j) = true then some (rangeD i (j - i).toNat) else none
  | _ => none
def rng3 : List D → Option (List D)
  | [.int i, .int j, .int c] => if (okR i && okR j && decide (c = -1)) = true then some (rangeC i (-1) (i - j).toNat) else none
  | _ => none
def mrng (h : List D → Option (List D)) (f : M (List Opd)) : M (List D) := mbind f fun os => mbind (ress os) fun ds => mopt (h ds)
theorem ji_range1 {f : M (List Opd)} {p : Pos} (hg : Gl X "range") (hm : X.mg "range" = none) (ha : JA X g T W [a] f) (hs : starEach [a] X.env = [(false, eval a X.env)] := by rfl) : JI X g T W tg (.Call (.Name "range" p) [a] [] pos) (mrng rng1 f) := fun τ t =>
  PI.imp (pi_range1 hg hm (ha τ t) hs) fun σ H R ⟨B, s, Rl, p⟩ => (PostM.bind (P := PAs g) Rl p).mono fun vs H1 ⟨os, B1, s1, R1, e1, q1, p1⟩ => by
    rcases ress_ex (s := s1) (os := os) with ⟨ds, w⟩ | w
    · rw [mbind_ok w] at p1
      cases ef : rng1 ds with
      | none => rw [ef] at p1; exact p1.elim
      | some ws =>
        rw [ef] at p1
        have hd := (ress_ok R1 q1 w).2
        unfold rng1 at ef
        split at ef
        · rename_i j
          by_cases hj : okR j = true
          · rw [if_pos hj] at ef; cases ef
            obtain ⟨v, r, rfl, h1, h2⟩ := hd
            cases h1; cases h2
            obtain ⟨j1, j2⟩ := okR_ok hj
            exact ⟨j, rfl, j1, j2, p1 _ B1 H1 R1 (Evl.Ex.refl _) Wk.range⟩
          · rw [if_neg hj] at ef; cases ef
        · cases ef
    · exfalso
      have z : mbind (ress os) (fun ds => mopt (rng1 ds)) s1 = .bad := by unfold mbind; rw [w]
      rw [z] at p1; exact p1
theorem ji_range2 {f : M (List Opd)} {p : Pos} (hg : Gl X "range") (hm : X.mg "range" = none) (ha : JA X g T W [a, b] f) (hs : starEach [a, b] X.env = [(false, eval a X.env), (false, eval b X.env)] := by rfl) (hs2 : starEach [b] X.env = [(false, eval b X.env)] := by rfl) : JI X g T W tg (.Call (.Name "range" p) [a, b] [] pos) (mrng rng2 f) := fun τ t =>
  PI.imp (pi_range2 hg hm (ha τ t) hs hs2) fun σ H R ⟨B, s, Rl, p⟩ => (PostM.bind (P := PAs g) Rl p).mono fun vs H1 ⟨os, B1, s1, R1, e1, q1, p1⟩ => by
    rcases ress_ex (s := s1) (os := os) with ⟨ds, w⟩ | w
    · rw [mbind_ok w] at p1
      cases ef : rng2 ds with
      | none => rw [ef] at p1; exact p1.elim
      | some ws =>
        rw [ef] at p1
        have hd := (ress_ok R1 q1 w).2
        unfold rng2 at ef
        split at ef
        · rename_i i j
          by_cases hj : (okR i && okR j) = true
          · rw [if_pos hj] at ef; cases ef
            obtain ⟨v, r, rfl, h1, v', r', rfl, h2, h3⟩ := hd
            cases h1; cases h2; cases h3
            obtain ⟨c1, c2⟩ := Bool.and_eq_true_iff.mp hj
            obtain ⟨i1, i2⟩ := okR_ok c1
            obtain ⟨j1, j2⟩ := okR_ok c2
            exact ⟨i, j, rfl, ⟨i1, i2, j1, j2⟩, p1 _ B1 H1 R1 (Evl.Ex.refl _) Wk.range⟩
          · rw [if_neg hj] at ef; cases ef
        · cases ef
    · exfalso
      have z : mbind (ress os) (fun ds => mopt (rng2 ds)) s1 = .bad := by unfold mbind; rw [w]
      rw [z] at p1; exact p1
theorem ji_range3 {f : M (List Opd)} {p : Pos} (hg : Gl X "range") (hm : X.mg "range" = none) (ha : JA X g T W [a, b, c] f)
    (hs : starEach [a, b, c] X.env = (false, eval a X.env) :: starEach [b, c] X.env := by rfl) (hpl : (backTo pos (starEach [b, c] X.env)).any (·.1) = false := by rfl) : JI X g T W tg (.Call (.Name "range" p) [a, b, c] [] pos) (mrng rng3 f) := fun τ t =>
  PI.imp (pi_range3 hg hm (ha τ t) hs hpl) fun σ H R ⟨B, s, Rl, p⟩ => (PostM.bind (P := PAs g) Rl p).mono fun vs H1 ⟨os, B1, s1, R1, e1, q1, p1⟩ => by
    rcases ress_ex (s := s1) (os := os) with ⟨ds, w⟩ | w
    · rw [mbind_ok w] at p1
      cases ef : rng3 ds with
      | none => rw [ef] at p1; exact p1.elim
      | some ws =>
        rw [ef] at p1
        have hd := (ress_ok R1 q1 w).2
        unfold rng3 at ef
        split at ef
        · rename_i i j c
          by_cases hj : (okR i && okR j && decide (c = -1)) = true
          · rw [if_pos hj] at ef; cases ef
            obtain ⟨v, r, rfl, h1, v', r', rfl, h2, v2, r2, rfl, h3, h4⟩ := hd
            cases h1; cases h2; cases h3; cases h4
            obtain ⟨c1, c3⟩ := Bool.and_eq_true_iff.mp hj
            obtain ⟨c1, c2⟩ := Bool.and_eq_true_iff.mp c1
            have c3 := of_decide_eq_true c3
            subst c3
            obtain ⟨i1, i2⟩ := okR_ok c1
            obtain ⟨j1, j2⟩ := okR_ok c2
            exact ⟨i, j, -1, _, rfl, RgC.neg i1 i2 j1 j2, p1 _ B1 H1 R1 (Evl.Ex.refl _) Wk.rangeC⟩
          · rw [if_neg hj] at ef; cases ef
        · cases ef
    · exfalso
      have z : mbind (ress os) (fun ds => mopt (rng3 ds)) s1 = .bad := by unfold mbind; rw [w]
      rw [z] at p1; exact p1
/-! ## loops -/
def forD (tm : D → S → Option S) (bd : MS) : List D → MS
  | [] => fun s => .nx s
  | d :: r => fun s => match tm d s with
    | none => .bad
    | some s0 => match bd s0 with
      | .nx s' => forD tm bd r s'
      | .ct s' => forD tm bd r s'
      | .bk s' => .nx s'
      | o => o
def mfor (fi : M (List D)) (tm : D → S → Option S) (bd : MS) : MS := ms fi fun ds => forD tm bd ds
theorem js_for {fi : M (List D)} {tm : D → S → Option S} {bd : MS} {body : List Stmt} (hp : PassesOwn (model X.prog X.w) X.A X.env X.xe) (hc : X.calm = true) (hi : JI X g T W tg iter fi) (hg : JG X g T none tg tm) (hb : JSs X g T W body bd)
    (hs : ∀ x, foldedSetIterable iter X.env x = pure x := by intro _; rfl) : JS X g T W (.For tg iter body [] pos) (mfor fi tm bd) :=
  PS.imp (ps_for hp hc (hi T.τ T.t) (hg T.τ T.t) hb hs) fun D σ H ⟨B, s, R, p⟩ => (PostS.bind (P := PI' g) R p).mono fun J H1 ⟨ds, B1, s1, R1, e1, q, p1⟩ => by
    refine ⟨fun i m σ' H' => i ≤ ds.length ∧ m = ds.length - i ∧ ∃ B' s', Rel g T B' H' σ' s' ∧ Ex B1 B' ∧ PostS g T W B' (forD tm bd (ds.drop i) s') D, ⟨_, Nat.zero_le _, rfl, B1, s1, R1, Evl.Ex.refl _, p1⟩, ?_⟩
    rintro i m σ' H' ⟨hi, rfl, B', s', R', e', p'⟩
    by_cases hlt : i < ds.length
    · refine .inr ⟨q.go B' H' i e' R'.bh hlt, fun σ2 H2 => ∃ B2 s2, Rel g T B2 H2 σ2 s2 ∧ Ex B1 B2 ∧ PostS g T W B2 (forD tm bd (ds.drop (i + 1)) s2) D, fun σ2 H2 ⟨B2, s2, R2, e2, p2⟩ => ⟨_, by omega, hlt, rfl, B2, s2, R2, e2, p2⟩, fun x H2 hy => ?_⟩
      have hd : ds[i]? = some ds[i] := by simp [hlt]
      have hdrop : ds.drop i = ds[i] :: ds.drop (i + 1) := List.drop_eq_getElem_cons hlt
      rw [hdrop] at p'
      have step : ∀ B2 H2, Rel g T B2 H2 σ' s' → Ex B' B2 → Den g B2 ds[i] x → RdG g (T.tmp T.τ T.t) none tm x σ' H2 fun σ3 H3 => RdS g T W bd { D with nx := fun σ2 H2 => ∃ B2 s2, Rel g T B2 H2 σ2 s2 ∧ Ex B1 B2 ∧ PostS g T W B2 (forD tm bd (ds.drop (i + 1)) s2) D, ct := fun σ2 H2 => ∃ B2 s2, Rel g T B2 H2 σ2 s2 ∧ Ex B1 B2 ∧ PostS g T W B2 (forD tm bd (ds.drop (i + 1)) s2) D, bk := D.nx } σ3 H3 := fun B2 H2 R2 e2 hx => by
        refine ⟨B2, s', ds[i], R2, hx, ?_⟩
        have p2 := PostS.base e2 p'
        unfold forD at p2
        cases et : tm ds[i] s' with
        | none => rw [et] at p2; exact p2.elim
        | some s0 =>
          rw [et] at p2
          intro σ3 B3 H3 R3 e3 _
          refine ⟨B3, s0, R3, ?_⟩
          have p3 := PostS.base e3 p2
          dsimp only at p3
          cases eb : bd s0 with
          | nx s2 => rw [eb] at p3; exact fun σ4 B4 H4 R4 e4 => ⟨B4, s2, R4, ((e'.trans e2).trans e3).trans e4, PostS.base e4 p3⟩
          | ct s2 => rw [eb] at p3; exact fun σ4 B4 H4 R4 e4 => ⟨B4, s2, R4, ((e'.trans e2).trans e3).trans e4, PostS.base e4 p3⟩
          | bk s2 => rw [eb] at p3; exact p3
          | rt r s2 => rw [eb] at p3; exact p3
          | ex c cs s2 => rw [eb] at p3; exact p3
          | bad => rw [eb] at p3; exact p3
      rcases q.yld B' H' i ds[i] x H2 e' R'.bh hd hy with ⟨rfl, hx⟩ | ⟨p, o, hp, rfl, hx⟩
      · exact step B' _ R' (Evl.Ex.refl _) hx
      · exact step _ _ (R'.new hp) (Evl.Ex.new (Evl.fresh_back R'.bh hp)) hx
    · have : i = ds.length := by omega
      subst this
      refine .inl ⟨q.stop B' H' e' R'.bh, ?_⟩
      rw [List.drop_length] at p'
      exact p' σ' B' H' R' (Evl.Ex.refl _)
def whileD (ft : M Bool) (bd : MS) : Nat → MS
  | 0 => fun _ => .bad
  | n + 1 => fun s => match ft s with
    | .ok true s0 => (match bd s0 with
      | .nx s' => whileD ft bd n s'
      | .ct s' => whileD ft bd n s'
      | .bk s' => .nx s'
      | o => o)
    | .ok false s0 => .nx s0
    | .ex c ds s0 => .ex c ds s0
    | .bad => .bad
theorem js_while {ft : M Bool} {bd : MS} {body : List Stmt} (n : Nat) (hp : PassesOwn (model X.prog X.w) X.A X.env X.xe) (hc : JT X g T W c ft) (hb : JSs X g T W body bd) : JS X g T W (.While c body [] pos) (whileD ft bd n) :=
  PS.imp (ps_while hp (hc T.τ T.t) hb) fun D σ H ⟨B, s, R, p⟩ => by
    refine ⟨fun m σ' H' => ∃ B' s', Rel g T B' H' σ' s' ∧ PostS g T W B' (whileD ft bd m s') D, ⟨n, B, s, R, p⟩, ?_⟩
    rintro m σ' H' ⟨B', s', R', p'⟩
    cases m with
    | zero => exact p'.elim
    | succ m =>
      refine ⟨B', s', R', ?_⟩
      unfold whileD at p'
      cases et : ft s' with
      | bad => rw [et] at p'; exact p'.elim
      | ex c ds s0 => rw [et] at p'; exact fun x B2 H2 R2 e2 hx => p' x σ' B2 H2 R2 e2 hx
      | ok k s0 =>
        rw [et] at p'
        cases k with
        | false =>
          intro b B2 H2 R2 e2 hb
          subst hb
          exact p' σ' B2 H2 R2 e2
        | true =>
          intro b B2 H2 R2 e2 hb
          subst hb
          refine ⟨fun σ3 H3 => ∃ B3 s3, Rel g T B3 H3 σ3 s3 ∧ PostS g T W B3 (whileD ft bd m s3) D, fun σ3 H3 h => ⟨m, Nat.lt_succ_self _, h⟩, B2, s0, R2, ?_⟩
          have p3 := PostS.base e2 p'
          dsimp only at p3
          cases eb : bd s0 with
          | nx s2 => rw [eb] at p3; exact fun σ4 B4 H4 R4 e4 => ⟨B4, s2, R4, PostS.base e4 p3⟩
          | ct s2 => rw [eb] at p3; exact fun σ4 B4 H4 R4 e4 => ⟨B4, s2, R4, PostS.base e4 p3⟩
          | bk s2 => rw [eb] at p3; exact p3
          | rt r s2 => rw [eb] at p3; exact p3
          | ex c cs s2 => rw [eb] at p3; exact p3
          | bad => rw [eb] at p3; exact p3
end TW

set_option Elab.async false
set_option linter.all false
set_option autoImplicit false
set_option maxRecDepth 100000
set_option maxHeartbeats 1000000
namespace TW
open PySem PySem.Spec PyProof.Rows L2
variable {g : G} {T : Tx} {B B' H H' : Hp} {σ : L2.St} {s : S} {W : WX} {α β γ δ : Type} {P : PP α β}
variable {X : Cx} {e a b c tg iter elt : Expr} {es : List Expr} {pos : Pos}

/-! ## comprehensions -/
def wipeS (s : S) (vs : List Nat) : S := s.mapIdx fun i x => if i ∈ vs then .no else x
def restoreS (s0 s : S) (vs : List Nat) : S := s.mapIdx fun i x => if i ∈ vs then s0.getD i .no else x
/-- none of these slots is own -/
def plainS (s : S) (vs : List Nat) : Bool := vs.all fun i => !((s[i]?).getD .no).own
def compD (vs : List Nat) (tm : D → S → Option S) (tt : M Bool) (te : M D) : List D → List D → S → Out (List D)
  | [], acc, s => .ok acc s
  | d :: r, acc, s => match tm d s with
    | none => .bad
    | some s1 => match tt s1 with
      | .ok true s2 => (match te s2 with
        | .ok y s3 => if (decide (acc.length < 16000000) && plainS s3 vs) = true then compD vs tm tt te r (acc ++ [y]) (wipeS s3 vs) else .bad
        | _ => .bad)
      | .ok false s2 => if plainS s2 vs = true then compD vs tm tt te r acc (wipeS s2 vs) else .bad
      | _ => .bad
def mlc (vs : List Nat) (fi : M (List D)) (tm : D → S → Option S) (tt : M Bool) (te : M D) : M Rv := mbind fi fun ds s => if plainS s vs = true then (match compD vs tm tt te ds [] (wipeS s vs) with
  | .ok acc s' => .ok (.l acc) (restoreS s s' vs)
  | _ => .bad) else .bad
theorem wipeS_get {vs : List Nat} {i : Nat} : (wipeS s vs)[i]? = if i ∈ vs then (s[i]?).map fun _ => .no else s[i]? := by
  unfold wipeS; rw [List.getElem?_mapIdx]
  by_cases h : i ∈ vs
  · simp [h]
  · simp [h]
theorem restoreS_get {s0 : S} {vs : List Nat} {i : Nat} : (restoreS s0 s vs)[i]? = if i ∈ vs then (s[i]?).map fun _ => s0.getD i .no else s[i]? := by
  unfold restoreS; rw [List.getElem?_mapIdx]
  by_cases h : i ∈ vs
  · simp [h]
  · simp [h]
theorem plain_at {vs : List Nat} {i : Nat} {x : Sl} (h : plainS s vs = true) (hi : i ∈ vs) (hx : s[i]? = some x) : x.own = false := by
  have := List.all_eq_true.mp h i hi
  rw [hx] at this
  simpa using this
/-- the slots of a block forgotten -/
theorem Rel.wipe (R : Rel g T B H σ s) {vs : List Nat} (hp : ∀ (i : Nat) (x : Sl), i ∈ vs → s[i]? = some x → x.own = false) : Rel g T B H (L2.wipe σ vs) (wipeS s vs) := by
  have l1 : (L2.wipe σ vs).length = σ.length := wipe_length σ vs
  have l2 : (wipeS s vs).length = s.length := by unfold wipeS; simp
  have gs : ∀ (i : Nat) (x : Sl), (wipeS s vs ++ T.t)[i]? = some x → ((s ++ T.t)[i]? = some x ∧ (i < s.length → i ∉ vs)) ∨ (x = .no ∧ i < s.length ∧ i ∈ vs) := fun i x h => by
    by_cases hi : i < s.length
    · rw [List.getElem?_append_left (by omega), wipeS_get] at h
      by_cases hv : i ∈ vs
      · rw [if_pos hv] at h
        simp [hi] at h
        exact .inr ⟨h.symm, hi, hv⟩
      · rw [if_neg hv] at h
        exact .inl ⟨app_some h, fun _ => hv⟩
    · rw [List.getElem?_append_right (by omega), l2] at h
      exact .inl ⟨by rw [List.getElem?_append_right (by omega)]; exact h, fun z => absurd z hi⟩
  have gσ : ∀ (i : Nat), (i < s.length → i ∉ vs) → (L2.wipe σ vs ++ T.τ)[i]? = (σ ++ T.τ)[i]? := fun i hv => by
    by_cases hi : i < s.length
    · rw [List.getElem?_append_left (by rw [l1, R.ln]; exact hi), List.getElem?_append_left (by rw [R.ln]; exact hi), wipe_get, if_neg (hv hi)]
    · rw [List.getElem?_append_right (by rw [l1, R.ln]; omega), List.getElem?_append_right (by rw [R.ln]; omega), l1]
  refine ⟨⟨R.r.b0, R.r.bh, R.r.nw, R.r.hh, R.r.dom, by have := R.r.len; simp at this ⊢; omega, fun i x y hx hy => ?_, fun i j x x' a hx hx' ho ho' e1 e2 => ?_, fun j a h => ?_, fun i x a hx ho e1 => ?_⟩, by rw [l1, l2]; exact R.ln, fun j a h => by rw [l1]; exact R.iob j a h⟩
  · rcases gs i x hx with ⟨h, hv⟩ | ⟨rfl, _⟩
    · rw [gσ i hv] at hy; exact R.r.sl i x y h hy
    · trivial
  · rcases gs i x hx with ⟨h, hv⟩ | ⟨rfl, _⟩
    · rcases gs j x' hx' with ⟨h', hv'⟩ | ⟨rfl, _⟩
      · rw [gσ i hv] at e1; rw [gσ j hv'] at e2
        exact R.r.nd i j x x' a h h' ho ho' e1 e2
      · cases ho'
    · cases ho
  · obtain ⟨e, x, hx, ho⟩ := R.r.iok j a h
    have hj : j < s.length := by rw [← R.ln]; exact R.iob j a h
    rw [List.getElem?_append_left hj] at hx
    have hv : j ∉ vs := fun z => by rw [hp j x z hx] at ho; cases ho
    refine ⟨by rw [gσ j fun _ => hv]; exact e, x, ?_, ho⟩
    rw [List.getElem?_append_left (by omega), wipeS_get, if_neg hv]; exact hx
  · rcases gs i x hx with ⟨h, hv⟩ | ⟨rfl, _⟩
    · rw [gσ i hv] at e1; exact R.r.ow i x a h ho e1
    · cases ho
/-- .. and told again -/
theorem Rel.unwipe {B0 H0 : Hp} {s0 : S} {vs : List Nat} (R0 : Rel g T B0 H0 σ s0) (hp : plainS s0 vs = true) (e : Ex B0 B) (R : Rel g T B H (L2.wipe σ vs) s) : Rel g T B H σ (restoreS s0 s vs) := by
  have l1 : (L2.wipe σ vs).length = σ.length := wipe_length σ vs
  have l2 : (restoreS s0 s vs).length = s.length := by unfold restoreS; simp
  have l3 : s.length = σ.length := by rw [← R.ln, l1]
  have l4 : s0.length = σ.length := R0.ln.symm
  have gs : ∀ (i : Nat) (x : Sl), (restoreS s0 s vs ++ T.t)[i]? = some x → ((s ++ T.t)[i]? = some x ∧ (i < s.length → i ∉ vs)) ∨ (i ∈ vs ∧ s0[i]? = some x ∧ i < s.length) := fun i x h => by
    by_cases hi : i < s.length
    · rw [List.getElem?_append_left (by omega), restoreS_get] at h
      by_cases hv : i ∈ vs
      · rw [if_pos hv] at h
        simp [hi] at h
        have h0 : i < s0.length := by omega
        refine .inr ⟨hv, ?_, hi⟩
        rw [List.getElem?_eq_getElem h0] at h ⊢
        simpa using h
      · rw [if_neg hv] at h
        exact .inl ⟨app_some h, fun _ => hv⟩
    · rw [List.getElem?_append_right (by omega), l2] at h
      exact .inl ⟨by rw [List.getElem?_append_right (by omega)]; exact h, fun z => absurd z hi⟩
  have gσ : ∀ (i : Nat), (i < s.length → i ∉ vs) → (L2.wipe σ vs ++ T.τ)[i]? = (σ ++ T.τ)[i]? := fun i hv => by
    by_cases hi : i < s.length
    · rw [List.getElem?_append_left (by omega), List.getElem?_append_left (by omega), wipe_get, if_neg (hv hi)]
    · rw [List.getElem?_append_right (by omega), List.getElem?_append_right (by omega), l1]
  refine ⟨⟨R.r.b0, R.r.bh, R.r.nw, R.r.hh, R.r.dom, by have := R.r.len; simp at this ⊢; omega, fun i x y hx hy => ?_, fun i j x x' a hx hx' ho ho' e1 e2 => ?_, fun j a h => ?_, fun i x a hx ho e1 => ?_⟩, by omega, fun j a h => by have := R.iob j a h; omega⟩
  · rcases gs i x hx with ⟨h, hv⟩ | ⟨hv, h, hi⟩
    · rw [← gσ i hv] at hy; exact R.r.sl i x y h hy
    · have hy' : σ[i]? = some y := by rw [List.getElem?_append_left (by omega)] at hy; exact hy
      have q := R0.r.sl i x y (app_some h) (app_some hy')
      have ho := plain_at hp hv h
      cases x with
      | no => trivial
      | v d => obtain ⟨v, e', q'⟩ := q; exact ⟨v, e', q'.mono e⟩
      | l ds => cases ho
      | o c ds => cases ho
  · rcases gs i x hx with ⟨h, hv⟩ | ⟨hv, h, _⟩
    · rcases gs j x' hx' with ⟨h', hv'⟩ | ⟨hv', h', _⟩
      · rw [← gσ i hv] at e1; rw [← gσ j hv'] at e2
        exact R.r.nd i j x x' a h h' ho ho' e1 e2
      · rw [plain_at hp hv' h'] at ho'; cases ho'
    · rw [plain_at hp hv h] at ho; cases ho
  · obtain ⟨e1, x, hx, ho⟩ := R.r.iok j a h
    have hj : j < s.length := by rw [← R.ln]; exact R.iob j a h
    rw [List.getElem?_append_left hj] at hx
    have hv : j ∉ vs := fun z => by
      rw [List.getElem?_append_left (by omega), wipe_get, if_pos z] at e1
      simp at e1
    refine ⟨by rw [← gσ j fun _ => hv]; exact e1, x, ?_, ho⟩
    rw [List.getElem?_append_left (by omega), restoreS_get, if_neg hv]; exact hx
  · rcases gs i x hx with ⟨h, hv⟩ | ⟨hv, h, _⟩
    · rw [← gσ i hv] at e1; exact R.r.ow i x a h ho e1
    · rw [plain_at hp hv h] at ho; cases ho
/-- what is held last is let go, is written -/
theorem Rel.pop {τ : L2.St} {t : S} {x : Sl} {p : Addr} (R : Rel g (T.tmp (τ ++ [some (.ref p)]) (t ++ [x])) B H σ s) (hx : x.own = true) : Rel g (T.tmp τ t) B H σ s ∧ T.H0 p = none ∧
    (∀ (i : Nat) (y : Sl), (s ++ t)[i]? = some y → y.own = true → (σ ++ τ)[i]? ≠ some (some (.ref p))) ∧ SlOk g B H x (some (.ref p)) := by
  have r := R.r
  simp only [Tx.tmp, ← List.append_assoc] at r
  have r' : Rel0 g (T.tmp τ t) B H (σ ++ τ ++ [some (.ref p)]) (s ++ t ++ [x]) := ⟨r.b0, r.bh, r.nw, r.hh, r.dom, r.len, r.sl, r.nd, r.iok, r.ow⟩
  obtain ⟨h1, h2, h3, h4⟩ := r'.pop hx (fun j a h => by have := R.iob j a h; simp; omega)
  exact ⟨⟨h1, R.ln, R.iob⟩, h2, h3, h4⟩
theorem Rel.push {τ : L2.St} {t : S} {x : Sl} {p : Addr} (R : Rel g (T.tmp τ t) B H σ s) (h0 : T.H0 p = none) (hsl : ∀ (i : Nat) (y : Sl), (s ++ t)[i]? = some y → y.own = true → (σ ++ τ)[i]? ≠ some (some (.ref p))) (ok : SlOk g B H x (some (.ref p))) : Rel g (T.tmp (τ ++ [some (.ref p)]) (t ++ [x])) B H σ s := by
  have r := Rel0.push R.r h0 hsl ok
  have r' : Rel0 g (T.tmp (τ ++ [some (.ref p)]) (t ++ [x])) B H (σ ++ τ ++ [some (.ref p)]) (s ++ t ++ [x]) := ⟨r.b0, r.bh, r.nw, r.hh, r.dom, r.len, r.sl, r.nd, r.iok, r.ow⟩
  rw [List.append_assoc, List.append_assoc] at r'
  exact ⟨r', R.ln, R.iob⟩
theorem Rel.held {τ : L2.St} {t : S} {ds es : List D} {p : Addr} {us : List V} (R : Rel g (T.tmp (τ ++ [some (.ref p)]) (t ++ [.l ds])) B H σ s) (hd : Dens g B es us) : Rel g (T.tmp (τ ++ [some (.ref p)]) (t ++ [.l es])) B (upd H p (.lst us)) σ s := by
  have l := R.r.len
  simp at l
  have e1 : (s ++ (t ++ [Sl.l ds]))[s.length + t.length]? = some (.l ds) := by rw [← List.append_assoc]; simp
  have e2 : (σ ++ (τ ++ [some (V.ref p)]))[s.length + t.length]? = some (some (.ref p)) := by
    have : s.length + t.length = (σ ++ τ).length := by simp; have := R.ln; omega
    rw [← List.append_assoc, this]; simp
  have r := R.r.write e1 rfl e2 (x' := .l es) rfl ⟨p, us, rfl, (R.r.ownH e1 rfl e2).1, upd_same, hd⟩
  have e3 : (s ++ (t ++ [Sl.l ds])).set (s.length + t.length) (.l es) = s ++ (t ++ [.l es]) := by
    rw [← List.append_assoc, ← List.append_assoc]
    rw [List.set_append_right _ _ (by simp)]
    simp
  rw [e3] at r
  exact ⟨⟨r.b0, r.bh, r.nw, r.hh, r.dom, r.len, r.sl, r.nd, r.iok, r.ow⟩, R.ln, R.iob⟩
theorem pts_yes : PTs X [] (RdM g T W PB (mret true)) := ⟨fun pins s σ H Q I ⟨B, s', R, p⟩ => wpAny_tests_nil ⟨H, I, p true B H R (Evl.Ex.refl _) rfl⟩⟩
theorem wipe_wipe {vs : List Nat} : L2.wipe (L2.wipe σ vs) vs = L2.wipe σ vs := by
  apply List.ext_getElem?
  intro i
  rw [wipe_get, wipe_get]
  by_cases h : i ∈ vs
  · simp only [h, if_true]; cases σ[i]? <;> rfl
  · simp [h]
/-- [elt for tg in iter if ..] -/
theorem lc_rd {vs : List Nat} {fi : M (List D)} {tm : D → S → Option S} {tt : M Bool} {te : M D} {τ : L2.St} {t : S} {Q : VK} (h : RdM g (T.tmp τ t) W (RvOk g (T.tmp τ t)) (mlc vs fi tm tt te) σ H Q) :
    (RdM g (T.tmp τ t) W (PI' g) fi) σ H fun J H1 => ∀ D, H1 D = none → ∃ W' : Nat → Nat → Hp → Prop, (∃ m, W' 0 m (upd H1 D (.lst []))) ∧ ∀ i m H, W' i m H →
      (J.stop i H ∧ Q (.ref D) H) ∨ (J.go i H ∧ ∃ Nx : Hp → Prop, (∀ H', Nx H' → ∃ m', m' < m ∧ W' (i + 1) m' H') ∧ ∀ x H', J.yld i H x H' → ∃ q : L2.St × S, RdG g (T.tmp q.1 q.2) (some vs) tm x (L2.wipe σ vs) H' fun σ2 H2 => L2.wipe σ2 vs = L2.wipe σ vs ∧ ∃ q : L2.St × S, RdM g (T.tmp q.1 q.2) W0 PB tt σ2 H2 fun b H3 =>
        if b = true then ∃ q : L2.St × S, RdM g (T.tmp q.1 q.2) W0 (PD g) te σ2 H3 fun y H4 => ∃ acc, H4 D = some (.lst acc) ∧ acc.length < sizeLine ∧ Nx (upd H4 D (.lst (acc ++ [y]))) else Nx H3) := by
  obtain ⟨B, s, R, p⟩ := h
  refine (PostM.bind (P := PI' g) R p).mono fun J H1 ⟨ds, B1, s1, R1, e1, q, p1⟩ => ?_
  intro p0 hp0
  by_cases hpl : plainS s1 vs = true
  · rw [if_pos hpl] at p1
    -- the invariant
    refine ⟨fun i m H' => i ≤ ds.length ∧ m = ds.length - i ∧ ∃ B' s' acc, Rel g (T.tmp (τ ++ [some (.ref p0)]) (t ++ [.l acc])) B' H' (L2.wipe σ vs) s' ∧ Ex B1 B' ∧
      PostM g (T.tmp τ t) W (RvOk g (T.tmp τ t)) σ B1 (match compD vs tm tt te (ds.drop i) acc s' with | .ok acc s' => .ok (.l acc) (restoreS s1 s' vs) | _ => .bad) Q, ⟨_, Nat.zero_le _, rfl, B1, wipeS s1 vs, [], ?_, Evl.Ex.refl _, p1⟩, ?_⟩
    · have Rw := (R1.newH (o := .lst []) hp0).wipe (vs := vs) (fun i x hi hx => plain_at hpl hi hx)
      refine Rw.push (R1.h0_of hp0) (fun i y h1 h2 h3 => ?_) ⟨p0, [], rfl, Evl.fresh_back R1.bh hp0, upd_same, rfl⟩
      have Rw2 := R1.wipe (vs := vs) (fun i x hi hx => plain_at hpl hi hx)
      obtain ⟨_, o, z⟩ := Rw2.r.ownH h1 h2 h3
      rw [hp0] at z; cases z
    · rintro i m H' ⟨hi, rfl, B', s', acc, R', e', p'⟩
      by_cases hlt : i < ds.length
      · refine .inr ⟨q.go B' H' i e' R'.bh hlt, fun H2 => ∃ B2 s2 acc2, Rel g (T.tmp (τ ++ [some (.ref p0)]) (t ++ [.l acc2])) B2 H2 (L2.wipe σ vs) s2 ∧ Ex B1 B2 ∧
          PostM g (T.tmp τ t) W (RvOk g (T.tmp τ t)) σ B1 (match compD vs tm tt te (ds.drop (i + 1)) acc2 s2 with | .ok acc s' => .ok (.l acc) (restoreS s1 s' vs) | _ => .bad) Q,
          fun H2 ⟨B2, s2, acc2, R2, e2, p2⟩ => ⟨_, by omega, hlt, rfl, B2, s2, acc2, R2, e2, p2⟩, fun x H2 hy => ⟨(τ ++ [some (.ref p0)], t ++ [.l acc]), ?_⟩⟩
        have hd : ds[i]? = some ds[i] := by simp [hlt]
        have hdrop : ds.drop i = ds[i] :: ds.drop (i + 1) := List.drop_eq_getElem_cons hlt
        rw [hdrop] at p'
        have step : ∀ B2 H2, Rel g (T.tmp (τ ++ [some (.ref p0)]) (t ++ [.l acc])) B2 H2 (L2.wipe σ vs) s' → Ex B1 B2 → Den g B2 ds[i] x →
            RdG g (T.tmp (τ ++ [some (.ref p0)]) (t ++ [.l acc])) (some vs) tm x (L2.wipe σ vs) H2 fun σ2 H2 => L2.wipe σ2 vs = L2.wipe σ vs ∧ ∃ q : L2.St × S, RdM g (T.tmp q.1 q.2) W0 PB tt σ2 H2 fun b H3 =>
              if b = true then ∃ q : L2.St × S, RdM g (T.tmp q.1 q.2) W0 (PD g) te σ2 H3 fun y H4 => ∃ acc, H4 p0 = some (.lst acc) ∧ acc.length < sizeLine ∧ (∃ B2 s2 acc2, Rel g (T.tmp (τ ++ [some (.ref p0)]) (t ++ [.l acc2])) B2 (upd H4 p0 (.lst (acc ++ [y]))) (L2.wipe σ vs) s2 ∧ Ex B1 B2 ∧
                PostM g (T.tmp τ t) W (RvOk g (T.tmp τ t)) σ B1 (match compD vs tm tt te (ds.drop (i + 1)) acc2 s2 with | .ok acc s' => .ok (.l acc) (restoreS s1 s' vs) | _ => .bad) Q)
              else ∃ B2 s2 acc2, Rel g (T.tmp (τ ++ [some (.ref p0)]) (t ++ [.l acc2])) B2 H3 (L2.wipe σ vs) s2 ∧ Ex B1 B2 ∧
                PostM g (T.tmp τ t) W (RvOk g (T.tmp τ t)) σ B1 (match compD vs tm tt te (ds.drop (i + 1)) acc2 s2 with | .ok acc s' => .ok (.l acc) (restoreS s1 s' vs) | _ => .bad) Q := fun B2 H2 R2 e2 hx => by
          refine ⟨B2, s', ds[i], R2, hx, ?_⟩
          unfold compD at p'
          cases et : tm ds[i] s' with
          | none => rw [et] at p'; exact p'.elim
          | some s0 =>
            rw [et] at p'
            dsimp only at p'
            intro σ2 B3 H3 R3 e3 l3
            have hw : L2.wipe σ2 vs = L2.wipe σ vs := Eq.trans (show L2.wipe σ2 vs = L2.wipe (L2.wipe σ vs) vs from l3) wipe_wipe
            refine ⟨hw, (τ ++ [some (.ref p0)], t ++ [.l acc]), B3, s0, R3, ?_⟩
            cases ett : tt s0 with
            | bad => rw [ett] at p'; exact p'.elim
            | ex c cs s2 => rw [ett] at p'; exact p'.elim
            | ok k s2 =>
              rw [ett] at p'
              intro b B4 H4 R4 e4 hb
              subst hb
              cases b with
              | false =>
                dsimp only at p'
                by_cases hq : plainS s2 vs = true
                · rw [if_pos hq] at p'
                  rw [if_neg Bool.false_ne_true]
                  have Rw := R4.wipe (vs := vs) (fun i x hi hx => plain_at hq hi hx)
                  rw [hw] at Rw
                  exact ⟨B4, wipeS s2 vs, acc, Rw, (e2.trans e3).trans e4, p'⟩
                · rw [if_neg hq] at p'; exact p'.elim
              | true =>
                dsimp only at p'
                rw [if_pos rfl]
                refine ⟨(τ ++ [some (.ref p0)], t ++ [.l acc]), B4, s2, R4, ?_⟩
                cases ete : te s2 with
                | bad => rw [ete] at p'; exact p'.elim
                | ex c cs s3 => rw [ete] at p'; exact p'.elim
                | ok y s3 =>
                  rw [ete] at p'
                  dsimp only at p'
                  by_cases hq : (decide (acc.length < 16000000) && plainS s3 vs) = true
                  · rw [if_pos hq] at p'
                    obtain ⟨hq1, hq2⟩ := Bool.and_eq_true_iff.mp hq
                    have hq1 := of_decide_eq_true hq1
                    intro v B5 H5 R5 e5 hv
                    obtain ⟨_, _, _, a', us, ea, f1, f2, f3⟩ := R5.pop rfl
                    cases ea
                    refine ⟨us, f2, by rw [f3.length]; exact Nat.lt_of_lt_of_le hq1 (by decide), B5, wipeS s3 vs, acc ++ [y], ?_, ((e2.trans e3).trans e4).trans e5, p'⟩
                    have Rw := R5.wipe (vs := vs) (fun i x hi hx => plain_at hq2 hi hx)
                    rw [hw] at Rw
                    exact Rw.held (f3.append (Dens.cons hv Dens.nil))
                  · rw [if_neg hq] at p'; exact p'.elim
        rcases q.yld B' H' i ds[i] x H2 e' R'.bh hd hy with ⟨rfl, hx⟩ | ⟨p, o, hp, rfl, hx⟩
        · exact step B' _ R' e' hx
        · exact step _ _ (R'.new hp) (e'.trans (Evl.Ex.new (Evl.fresh_back R'.bh hp))) hx
      · have : i = ds.length := by omega
        subst this
        refine .inl ⟨q.stop B' H' e' R'.bh, ?_⟩
        rw [List.drop_length] at p'
        obtain ⟨k1, k2, k3, k4⟩ := R'.pop rfl
        obtain ⟨a', us, ea, f1, f2, f3⟩ := k4
        cases ea
        have Rf := Rel.unwipe R1 hpl e' k1
        refine p' (.ref p0) B' H' Rf e' ⟨p0, us, rfl, ⟨f1, k2, fun i y h1 h2 h3 => ?_, f2⟩, f3⟩
        have l2 : (restoreS s1 s' vs).length = s'.length := by unfold restoreS; simp
        have l3 : s'.length = σ.length := by rw [← k1.ln, wipe_length]
        by_cases hi : i < s'.length
        · rw [List.getElem?_append_left (by omega), restoreS_get] at h1
          by_cases hv : i ∈ vs
          · rw [if_pos hv] at h1
            simp [hi] at h1
            have h0 : i < s1.length := by have := R1.ln; omega
            rw [List.getElem?_eq_getElem h0] at h1
            have := plain_at hpl hv (x := y) (by rw [List.getElem?_eq_getElem h0]; simpa using h1)
            rw [h2] at this; cases this
          · rw [if_neg hv] at h1
            refine k3 i y (app_some h1) h2 ?_
            rw [List.getElem?_append_left (by rw [wipe_length]; omega), wipe_get, if_neg hv]
            rw [List.getElem?_append_left (by omega)] at h3
            exact h3
        · rw [List.getElem?_append_right (by omega), l2] at h1
          refine k3 i y (by rw [List.getElem?_append_right (by omega)]; exact h1) h2 ?_
          rw [List.getElem?_append_right (by rw [wipe_length]; omega), wipe_length]
          rw [List.getElem?_append_right (by omega)] at h3
          exact h3
  · rw [if_neg hpl] at p1; exact p1.elim
theorem PE.ex {ι : Type} {t : ι → TE} (h : ∀ i, PE X e (t i)) : PE X e (fun σ H Q => ∃ i, t i σ H Q) := ⟨fun pins s σ H Q I ⟨i, q⟩ => (h i).run pins s σ H Q I q⟩
theorem PTs.ex {ι : Type} {es : List Expr} {t : ι → TT} (h : ∀ i, PTs X es (t i)) : PTs X es (fun σ H Q => ∃ i, t i σ H Q) := ⟨fun pins s σ H Q I ⟨i, q⟩ => (h i).run pins s σ H Q I q⟩
theorem PG.ex {ι : Type} {t : ι → TG} (h : ∀ i, PG X tg (t i)) : PG X tg (fun v σ H Q => ∃ i, t i v σ H Q) := ⟨fun pins s σ H v u Q I r ⟨i, q⟩ => (h i).run pins s σ H v u Q I r q⟩
/-- a clause's tests -/
def JTs (X : Cx) (g : G) (T : Tx) (W : WX) (es : List Expr) (f : M Bool) : Prop := ∀ τ t, PTs X es (RdM g (T.tmp τ t) W PB f)
theorem jts_nil : JTs X g T W [] (mret true) := fun τ t => ⟨fun pins s σ H Q I ⟨B, s', R, p⟩ => wpAny_tests_nil ⟨H, I, p true B H R (Evl.Ex.refl _) rfl⟩⟩
theorem jts_one {f : M Bool} (h : JT X g T W e f) : JTs X g T W [e] f := fun τ t => pts_one (h τ t)
theorem jr_lc {vs : List Nat} {own : List (Str × Nat)} {ifs : List Expr} {scope : Scope} {fi : M (List D)} {tm : D → S → Option S} {tt : M Bool} {te : M D} (hc : X.calm = true) (hN : X.N.Nodup) (hi : JI X g T W tg iter fi) (ok : BlkOk X.N X.env.scope scope own) (hv : own.map (·.2) = vs)
    (hg : ∀ (s : Shared) (H : Hp) (C : Addr) (cl : List (Str × Addr)) (fp : List Addr), JG (X.blk s H scope (compEnvC scope cl C X.env) fp) g T (some vs) tg tm)
    (ht : ∀ (s : Shared) (H : Hp) (C : Addr) (cl : List (Str × Addr)) (fp : List Addr), JTs (X.blk s H scope (compEnvC scope cl C X.env) fp) g T W0 ifs tt)
    (he : ∀ (s : Shared) (H : Hp) (C : Addr) (cl : List (Str × Addr)) (fp : List Addr), JE (X.blk s H scope (compEnvC scope cl C X.env) fp) g T W0 elt te)
    (hs : ∀ x, foldedSetIterable iter X.env x = pure x := by intro _; rfl) : JR X g T W (.ListComp elt [⟨tg, iter, ifs, 0⟩] scope pos) (mlc vs fi tm tt te) := fun τ t => by
  subst hv
  exact PE.imp (pe_lc hc hN (hi τ t) ok (fun s H C cl fp => PG.ex fun q : L2.St × S => hg s H C cl fp q.1 q.2) (fun s H C cl fp => PTs.ex fun q : L2.St × S => ht s H C cl fp q.1 q.2) (fun s H C cl fp => PE.ex fun q : L2.St × S => he s H C cl fp q.1 q.2) hs) fun σ H Q h => lc_rd h
/-- name = [..] on one line -/
theorem js_setLc {i : Nat} {y : Str} {py : Pos} {vs : List Nat} {own : List (Str × Nat)} {ifs : List Expr} {scope : Scope} {spos : Pos} {fi : M (List D)} {tm : D → S → Option S} {tt : M Bool} {te : M D} (hc : X.calm = true) (hN : X.N.Nodup) (hy : X.N[i]? = some y) (hyl : X.env.scope.names.lookup y = some .local)
    (hsw : swapsWith (.ListComp elt [⟨tg, iter, ifs, 0⟩] scope pos) (some (.Name y py)) spos.line X.env = pure true) (hi : JI X g T W tg iter fi) (ok : BlkOk X.N X.env.scope scope own) (hv : own.map (·.2) = vs)
    (hg : ∀ (s : Shared) (H : Hp) (C : Addr) (cl : List (Str × Addr)) (fp : List Addr), JG (X.blk s H scope (compEnvC scope cl C X.env) fp) g T (some vs) tg tm)
    (ht : ∀ (s : Shared) (H : Hp) (C : Addr) (cl : List (Str × Addr)) (fp : List Addr), JTs (X.blk s H scope (compEnvC scope cl C X.env) fp) g T W0 ifs tt)
    (he : ∀ (s : Shared) (H : Hp) (C : Addr) (cl : List (Str × Addr)) (fp : List Addr), JE (X.blk s H scope (compEnvC scope cl C X.env) fp) g T W0 elt te) (hio : T.io i = none)
    (hs : ∀ x, foldedSetIterable iter X.env x = pure x := by intro _; rfl) : JS X g T W (.Assign [.Name y py] (.ListComp elt [⟨tg, iter, ifs, 0⟩] scope pos) spos) (ms (mlc vs fi tm tt te) fun r => stSet i r.sl) := by
  subst hv
  refine PS.imp (ps_setLc hc hN hy hyl hsw (hi T.τ T.t) ok (fun s H C cl fp => PG.ex fun q : L2.St × S => hg s H C cl fp q.1 q.2) (fun s H C cl fp => PTs.ex fun q : L2.St × S => ht s H C cl fp q.1 q.2) (fun s H C cl fp => PE.ex fun q : L2.St × S => he s H C cl fp q.1 q.2) hs) fun D σ H ⟨B, s, R, p⟩ => ?_
  have key : ∀ Q : VK, RdM g (T.tmp T.τ T.t) W (RvOk g (T.tmp T.τ T.t)) (mlc (own.map (·.2)) fi tm tt te) σ H Q → tLc (RdM g (T.tmp T.τ T.t) W (PI' g) fi) (fun v σ H Q => ∃ q : L2.St × S, RdG g (T.tmp q.1 q.2) (some (own.map (·.2))) tm v σ H Q) (fun σ H Q => ∃ q : L2.St × S, RdM g (T.tmp q.1 q.2) W0 PB tt σ H Q) (fun σ H Q => ∃ q : L2.St × S, RdM g (T.tmp q.1 q.2) W0 (PD g) te σ H Q) (own.map (·.2)) σ H Q := fun Q h => lc_rd h
  refine key (fun x H1 => gName i x σ H1 D.nx) ((PostS.bind (P := RvOk g T) R p).mono fun v H1 ⟨r, B1, s1, R1, e1, q, p1⟩ => ?_)
  unfold stSet at p1
  by_cases hi : i < s1.length
  · rw [if_pos hi] at p1; exact p1 _ B1 H1 (R1.stored hi hio q) (Evl.Ex.refl _)
  · rw [if_neg hi] at p1; exact p1.elim
end TW

set_option Elab.async false
set_option linter.all false
set_option autoImplicit false
set_option maxRecDepth 100000
set_option maxHeartbeats 1000000
namespace TW
open PySem PySem.Spec PyProof.Rows L2
variable {g : G} {T : Tx} {B B' H H' : Hp} {σ : L2.St} {s : S} {W : WX} {α β γ δ : Type} {P : PP α β}
variable {X : Cx} {e a b c tg iter elt : Expr} {es : List Expr} {pos : Pos}

/-! ## attributes -/
def fldD (ns : Nat → List Str) (f : Str) : D → Option D
  | .obj c ds => ((ns c).zip ds).lookup f
  | _ => none
theorem lookup_dens {f : Str} {d : D} : ∀ {ns : List Str} {ds : List D} {vs : List V}, Dens g B ds vs → (ns.zip ds).lookup f = some d → f ∈ ns ∧ ∃ v, (ns.zip vs).lookup f = some v ∧ Den g B d v
  | [], ds, vs, h, e => by simp at e
  | n :: ns, [], vs, h, e => by simp at e
  | n :: ns, x :: ds, vs, ⟨v, w, e1, h1, h2⟩, e => by
    subst e1
    rw [List.zip_cons_cons] at e ⊢
    simp only [List.lookup] at e ⊢
    cases q : (f == n) with
    | true =>
      rw [q] at e
      cases e
      have : f = n := by simpa using q
      exact ⟨by rw [this]; exact List.mem_cons_self, v, rfl, h1⟩
    | false =>
      rw [q] at e
      obtain ⟨k1, k2⟩ := lookup_dens h2 e
      exact ⟨List.mem_cons_of_mem _ k1, k2⟩
/-- what of the text the classes with this attribute must have -/
def FldF (g : G) (f : Str) : Prop := ∀ c, f ∈ g.names c → Cls g.K (g.cn c) ∧ NoAttr g.K (g.cn c) f
def mfld (ns : Nat → List Str) (f : Str) (fo : M Opd) : M D := mun (fldD ns f) fo
theorem je_fld {f : Str} {fo : M Opd} (hK : X.K = g.K) (hF : FldF g f) (he : JO X g T W e fo) (hb : attributeBase e f X.env (eval e X.env) = eval e X.env) : JE X g T W (.Attribute e f pos) (mfld g.names f fo) :=
  fun τ t => PE.imp (pe_fld (he τ t) hb) fun σ H Q ⟨B, s, R, p⟩ => (PostM.bind (P := PO' g) R p).mono fun x H1 ⟨o, B1, s1, R1, e1, q1, p1⟩ => by
    rw [hK]
    refine un_post (f := fldD g.names f) (r := fun x H1 Q => ∃ a C dx fs v, x = .ref a ∧ H1 a = some (.ins C dx fs) ∧ Cls g.K C ∧ NoAttr g.K C f ∧ fs.lookup f = some v ∧ Q v H1) (fun T B H σ s x dx d Q R h e q => ?_) R1 q1 p1
    cases dx with
    | obj c ds =>
      obtain ⟨a, dx, vs, rfl, k1, k3⟩ := h
      obtain ⟨m, v, l, hv⟩ := lookup_dens k3 e
      exact ⟨a, g.cn c, dx, _, v, rfl, k1, (hF c m).1, (hF c m).2, l, q v B H R (Evl.Ex.refl _) hv⟩
    | _ => cases e
def putO : List Str → Str → List D → D → Option (List D)
  | n :: _, f, [], d => if n = f then some [d] else none
  | n :: ns, f, x :: xs, d => if n = f then some (d :: xs) else (putO ns f xs d).map (x :: ·)
  | [], _, _, _ => none
theorem putO_dens {f : Str} {d : D} {v : V} (hv : Den g B d v) : ∀ {ns : List Str} {ds ds' : List D} {vs : List V}, Dens g B ds vs → putO ns f ds d = some ds' → f ∈ ns ∧ ∃ vs', putF f v (ns.zip vs) = ns.zip vs' ∧ Dens g B ds' vs'
  | [], ds, ds', vs, h, e => by unfold putO at e; cases e
  | n :: ns, [], ds', vs, h, e => by
    cases h
    unfold putO at e
    by_cases c : n = f
    · rw [if_pos c] at e; cases e
      subst c
      exact ⟨List.mem_cons_self, [v], by simp [putF], Dens.cons hv Dens.nil⟩
    · rw [if_neg c] at e; cases e
  | n :: ns, x :: ds, ds', vs, ⟨u, w, e1, h1, h2⟩, e => by
    subst e1
    unfold putO at e
    rw [List.zip_cons_cons]
    by_cases c : n = f
    · rw [if_pos c] at e; cases e
      refine ⟨by rw [c]; exact List.mem_cons_self, v :: w, ?_, Dens.cons hv h2⟩
      rw [List.zip_cons_cons]; unfold putF; rw [if_pos c]
    · rw [if_neg c] at e
      cases q : putO ns f ds d with
      | none => rw [q] at e; cases e
      | some es =>
        rw [q] at e; cases e
        obtain ⟨m, vs', k1, k2⟩ := putO_dens hv h2 q
        refine ⟨List.mem_cons_of_mem _ m, u :: vs', ?_, Dens.cons h1 k2⟩
        rw [List.zip_cons_cons]; unfold putF; rw [if_neg c, k1]
def mputf (ns : Nat → List Str) (k : Nat) (f : Str) (fv : M D) : MS := ms fv fun d s => match s[k]? with
  | some (.o c ds) => (match putO (ns c) f ds d with
    | some ds' => .nx (s.set k (.o c ds'))
    | none => .bad)
  | _ => .bad
theorem js_putf {k : Nat} {f : Str} {st : Stmt} {fv : M D} (hK : X.K = g.K) (hF : FldF g f) (hlen : ∀ c, (g.names c).length < 1000) (ho : PE X b (tVar k)) (hps : ∀ ta tv, PE X b ta → PE X e tv → PS X st (sFld X.K ta tv f)) (hv : JE X g T W e fv) : JS X g T W st (mputf g.names k f fv) :=
  PS.imp (hps _ _ ho (hv T.τ T.t)) fun D σ H ⟨B, s, R, p⟩ => (PostS.bind (P := PD g) R p).mono fun y H1 ⟨d, B1, s1, R1, e1, q1, p1⟩ => by
    rw [hK]
    cases hs : s1[k]? with
    | none => rw [hs] at p1; exact p1.elim
    | some x =>
      rw [hs] at p1
      cases x with
      | o c ds =>
        dsimp only at p1
        cases ep : putO (g.names c) f ds d with
        | none => rw [ep] at p1; exact p1.elim
        | some ds' =>
          rw [ep] at p1
          obtain ⟨a, dx, vs, ha, b0, h0, hd⟩ := R1.geto hs
          obtain ⟨m, vs', k1, k2⟩ := putO_dens q1 hd ep
          refine ⟨.ref a, ha, a, g.cn c, dx, _, rfl, h0, (hF c m).1, (hF c m).2, ?_, ?_⟩
          · rw [List.length_zip]; exact Nat.lt_of_le_of_lt (Nat.min_le_left _ _) (hlen c)
          · rw [k1]
            exact p1 σ B1 _ (R1.write hs rfl ha rfl ⟨a, dx, vs', rfl, b0, upd_same, k2⟩) (Evl.Ex.refl _)
      | _ => exact p1.elim
/-! ## instances made -/
theorem run_makeS {CX : CXT} {k : Nat} {f C : Addr} {fd : FuncData} {ps : List Str} {sp : Sp} {dvs : List V} {ds : List Value} {E : XK} {pins : List (Addr × Obj)} {σ : L2.St} {H : Hp} {s : Shared} {Q : VK} {us : List Value} {vs : List V} (M : Mk X.K C f) (F : FnOk X.prog X.w X.K X.mg X.base CX k f fd ps sp) (hr : Room (k + 1) X.A) (hb : Binds X.K fd ps ds) (hd : Vals dvs ds)
    (hx : PassesAt CX X σ E) (I : Inv X pins σ H s) (r : Vals vs us)
    (h : ∀ x dx, H x = none → H dx = none → dx ≠ x → sp (.ref x :: (vs ++ dvs)) (upd (upd H dx (.own x)) x (.ins C dx [])) (fun v H2 => v = .non ∧ Q (.ref x) H2) E) :
    wpAny (model X.prog X.w) X.A (call (.ref C) us) (EP X pins σ Q) X.xe s := by
  have hq := h (s.heap.objs.size + 1) s.heap.objs.size (I.hok.fresh (Nat.le_succ _)) (I.hok.fresh (Nat.le_refl _)) (Nat.ne_of_lt (Nat.lt_succ_self _))
  have I2 := Inv.made (C := C) I
  have r2 : Vals (V.ref (s.heap.objs.size + 1) :: (vs ++ dvs)) (Value.ref (s.heap.objs.size + 1) :: (us ++ ds)) := .cons rfl (r.append hd)
  have hl : (Value.ref (s.heap.objs.size + 1) :: us ++ ds).length = ps.length := by
    have e := r2.length
    rw [F.len _ _ _ _ hq] at e
    exact e.symm
  refine wpAny_call (make_map (f := f) I.kIn M.makes M.init (beq_iff_eq.mp M.fn) (codeAny_mono (F.run _ X.stack _ _ ⟨Value.ref (s.heap.objs.size + 1) :: us, []⟩ (Value.ref (s.heap.objs.size + 1) :: (us ++ ds)) _ _ E (hr.make C us [])
    (I2.env0.make C us []) (hb _ (Value.ref (s.heap.objs.size + 1) :: us) I2.kIn hl) r2 hq) fun r s' hq' => ?_))
  cases r with
  | error e => exact hx pins _ _ e s' I2 hq'
  | ok fl =>
    cases fl with
    | ret u =>
      obtain ⟨v, H', I3, rv, ev, q3⟩ := I2.after hq'
      subst ev
      exact ⟨rv, ⟨V.ref (s.heap.objs.size + 1), H', I3, rfl, q3⟩⟩
    | next => exact False.elim hq'
    | brk => exact False.elim hq'
    | cont => exact False.elim hq'
def tMakeS (C : Addr) (sp : Sp) (dvs : List V) (E : L2.St → XK) (t : TA) : TE := fun σ H Q => t σ H fun vs H1 => ∀ x dx, H1 x = none → H1 dx = none → dx ≠ x →
  sp (.ref x :: (vs ++ dvs)) (upd (upd H1 dx (.own x)) x (.ins C dx [])) (fun v H2 => v = .non ∧ Q (.ref x) H2) (E σ)
theorem pe_makeS {CX : CXT} {k : Nat} {f C : Addr} {fd : FuncData} {ps : List Str} {sp : Sp} {dvs : List V} {ds : List Value} {E : L2.St → XK} {x : Str} {p : Pos} {t : TA} (M : Mk X.K C f) (F : FnOk X.prog X.w X.K X.mg X.base CX k f fd ps sp) (hr : Room (k + 1) X.A) (hg : Gl X x) (hm : X.mg x = some (.ref C)) (hb : Binds X.K fd ps ds) (hd : Vals dvs ds) (hx : ∀ σ, PassesAt CX X σ (E σ))
    (ha : PA X (e :: es) t) (hdb : (x == ("__debug__" : Str)) = false := by decide) (he : starEach (e :: es) X.env = (false, eval e X.env) :: starEach es X.env := by rfl) (hpl : (backTo pos (starEach es X.env)).any (·.1) = false := by rfl) :
    PE X (.Call (.Name x p) (e :: es) [] pos) (tMakeS C sp dvs E t) := by
  refine ⟨fun pins s σ H Q I h => ?_⟩
  refine wpAny_Call_Name_kw (ld_glob I hg hm ?_ hdb)
  refine PySem.W.callWith_K (h₀ := X.base) I.ok.mod.kin M.kp (thn (ha.run pos pins s σ H _ I h) fun us s1 ⟨vs, H1, I1, r, q⟩ => ⟨I1.kIn, ?_⟩) he hpl
  exact run_makeS M F hr hb hd (hx σ) I1 r q
def mmake (c : Nat) (f : Fd) (dds : List D) (fa : M (List Opd)) : M Rv := mbind fa fun os s => if dupFree s os = true then (match argsOf s os with
  | none => .bad
  | some as => match f (.o c [] :: (as ++ dds.map .v)) with
    | .ret (.v .non) (.o c' ds :: post) => if c' = c then .ok (.o c ds) (putBack s os post) else .bad
    | .ex c' ds post => .ex c' ds (putBack s os (post.drop 1))
    | _ => .bad) else .bad
theorem dupFree_new {s : S} {os : List Opd} {x : Sl} (hk : ∀ k, Opd.s k ∈ os → k < s.length) (h : dupFree s os = true) : dupFree (s ++ [x]) (.s s.length :: os) = true := by
  have h1 := dupFree_app (t := [x]) hk h
  unfold dupFree
  rw [h1, Bool.and_true, Bool.or_eq_true]
  right
  rw [List.all_eq_true]
  intro o ho
  cases o with
  | d y => rfl
  | s k => have := hk k ho; simp [Opd.isS]; omega
/-- a new instance is handed to __init__: what stands behind -/
theorem Rel.made {os : List Opd} {vs : List V} {as : List Sl} {dds : List D} {dvs : List V} {post : List Sl} {x dx : Addr} {cc : Nat} (R : Rel g T B H σ s) (hp : PAs g σ s os B H vs) (hd : dupFree s os = true) (ha : argsOf s os = some as) (hdd : Dens g B dds dvs)
    (nx : H x = none) (ndx : H dx = none) (ne : dx ≠ x) :
    ArgsOk g B (upd (upd H dx (.own x)) x (.ins (g.cn cc) dx [])) (.o cc [] :: (as ++ dds.map .v)) (.ref x :: (vs ++ dvs)) ∧
    (After g B (upd (upd H dx (.own x)) x (.ins (g.cn cc) dx [])) B' H' (.o cc [] :: (as ++ dds.map .v)) (.ref x :: (vs ++ dvs)) post → Rel g T B' H' σ (putBack s os (post.drop 1)) ∧ ∀ ds, post[0]? = some (.o cc ds) → RvOk g T σ (putBack s os (post.drop 1)) (.o cc ds) B' H' (.ref x)) := by
  obtain ⟨h1, h2⟩ := argsOf_app (t := T.t) ha
  have R2 : Rel g T B (upd (upd H dx (.own x)) x (.ins (g.cn cc) dx [])) σ s := (R.newH ndx).newH (by rw [upd_ne ne.symm]; exact nx)
  have hx0 : T.H0 x = none := R.h0_of nx
  have hdx0 : T.H0 dx = none := R.h0_of ndx
  have ok0 : SlOk g B (upd (upd H dx (.own x)) x (.ins (g.cn cc) dx [])) (.o cc []) (some (.ref x)) := ⟨x, dx, [], rfl, Evl.fresh_back R.bh nx, by rw [upd_same]; simp, Dens.nil⟩
  have hsl : ∀ (i : Nat) (y : Sl), (s ++ T.t)[i]? = some y → y.own = true → (σ ++ T.τ)[i]? ≠ some (some (.ref x)) := fun i y a1 a2 a3 => by
    obtain ⟨_, o, z⟩ := R.r.ownH a1 a2 a3
    rw [nx] at z; cases z
  have Rp : Rel0 g T B (upd (upd H dx (.own x)) x (.ins (g.cn cc) dx [])) (σ ++ T.τ ++ [some (.ref x)]) (s ++ T.t ++ [.o cc []]) := Rel0.push R2.r hx0 hsl ok0
  -- the arguments with the new one ahead
  have hl : (s ++ T.t).length = (σ ++ T.τ).length := by have := R.ln; have := R.r.len; omega
  have ps' : PAs g (σ ++ T.τ ++ [some (.ref x)]) (s ++ T.t ++ [.o cc []]) (.s (s ++ T.t).length :: os) B (upd (upd H dx (.own x)) x (.ins (g.cn cc) dx [])) (.ref x :: vs) := by
    refine PAs.cons (show (σ ++ T.τ ++ [some (V.ref x)])[(s ++ T.t).length]? = some (some (.ref x)) by rw [hl]; simp) ?_
    exact (PAs.app (PAs.app hp)).mono (Evl.Ex.refl B)
  have hos : ∀ k, Opd.s k ∈ os → k < (s ++ T.t).length := fun k hk => by have := h2 k hk; simp; omega
  have hd' : dupFree (s ++ T.t ++ [.o cc []]) (.s (s ++ T.t).length :: os) = true := dupFree_new hos (dupFree_app h2 hd)
  have ha' : argsOf (s ++ T.t ++ [.o cc []]) (.s (s ++ T.t).length :: os) = some (.o cc [] :: as) := by
    unfold argsOf
    have e1 : argOf (s ++ T.t ++ [.o cc []]) (.s (s ++ T.t).length) = some (.o cc []) := by
      show ((s ++ T.t ++ [Sl.o cc []])[(s ++ T.t).length]?).bind Sl.some? = _
      simp [Sl.some?]
    rw [e1, (argsOf_app (t := [.o cc []]) h1).1]
  have A0 := Rp.args_ok ps' hd' ha' hdd
  refine ⟨A0, fun A => ?_⟩
  have r := Rp.called ps' hd' ha' hdd A
  have hk' : ∀ k, Opd.s k ∈ os → k < s.length := h2
  have plen : (putBack s os (post.drop 1)).length = s.length := by unfold putBack; simp
  -- the state behind
  have est : putBack (s ++ T.t ++ [.o cc []]) (.s (s ++ T.t).length :: os) post = putBack s os (post.drop 1) ++ T.t ++ [post.getD 0 .no] := by
    apply List.ext_getElem?
    intro i
    rw [putBack_get]
    by_cases hi : i < (s ++ T.t).length
    · rw [List.getElem?_append_left hi, List.getElem?_append_left (l₁ := putBack s os (post.drop 1) ++ T.t) (by rw [List.length_append, plen]; rw [List.length_append] at hi; exact hi)]
      have hne : Opd.isS i (.s (s ++ T.t).length) = false := by simp [Opd.isS]; simp at hi; omega
      rw [← putBack_app hk', putBack_get]
      congr 1
      funext y
      by_cases hy : y.own = true
      · rw [if_pos hy, if_pos hy, List.findIdx?_cons, hne]
        simp only [Bool.false_eq_true, if_false]
        cases os.findIdx? (Opd.isS i) with
        | none => rfl
        | some j =>
          simp [List.getD_eq_getElem?_getD, List.getElem?_drop, Nat.add_comm]
      · rw [if_neg hy, if_neg hy]
    · rw [List.getElem?_append_right (by omega), List.getElem?_append_right (l₁ := putBack s os (post.drop 1) ++ T.t) (by rw [List.length_append, plen]; rw [List.length_append] at hi; omega)]
      have e2 : (putBack s os (post.drop 1) ++ T.t).length = (s ++ T.t).length := by rw [List.length_append, plen, List.length_append]
      rw [e2]
      cases q : i - (s ++ T.t).length with
      | zero =>
        have : i = (s ++ T.t).length := by omega
        subst this
        simp [Sl.own, List.findIdx?_cons, Opd.isS, List.getD_eq_getElem?_getD]
      | succ n => simp
  rw [est] at r
  obtain ⟨x', p1, p2, p3⟩ := A.io 0 (.o cc []) (.ref x) rfl rfl rfl
  have ex : post.getD 0 .no = x' := by rw [List.getD_eq_getElem?_getD, p1]; rfl
  rw [ex] at r
  obtain ⟨r1, r2, r3, r4⟩ := r.pop p2 (fun j a h => by have := R.iob j a h; simp; omega)
  refine ⟨⟨r1, by rw [plen]; exact R.ln, R.iob⟩, fun ds e0 => ?_⟩
  rw [p1] at e0; cases e0
  obtain ⟨a', dx', us, ea, f1, f3, f5⟩ := r4
  cases ea
  exact ⟨x, dx', us, rfl, ⟨f1, r2, r3, f3⟩, f5⟩
end TW

set_option Elab.async false
set_option linter.all false
set_option autoImplicit false
set_option maxRecDepth 100000
set_option maxHeartbeats 1000000
namespace TW
open PySem PySem.Spec PyProof.Rows L2
open Sem (wp)
variable {g : G} {T : Tx} {B B' H H' : Hp} {σ : L2.St} {s : S} {W : WX} {α β γ δ : Type} {P : PP α β}
variable {X : Cx} {e a b c tg iter elt : Expr} {es : List Expr} {pos : Pos}

/-! ## enumerate of a tuple -/
theorem meets_enumT {v : Value} {o : Obj} {H : Heap → Prop} (B : Begins v o H) :
    Meets (Builtin.«enumerate.__new__» ⟨[.type "enumerate", v], []⟩) (fun _ R s => H s.heap ∧
      R (.ok (.ret (.ref (s.heap.push o).objs.size))) { s with heap := (s.heap.push o).push { cls := .type "enumerate", data := .fields #[.none, .bool false, .ref s.heap.objs.size, rawInt 0, .none, .none] } }) :=
  .of_wp fun prog w A R s h => by
    obtain ⟨hp, g, d, tk, os⟩ := s; obtain ⟨h1, h⟩ := h
    have hsub := sub_enumerate
    have q1 : ∀ {A' : Around} {E : Value → Shared → Prop} {Q : Value → Shared → Prop}, Q (.ref hp.objs.size) ⟨hp.push o, g, d, tk, os⟩ → wpAny (model prog w) A' (pyIter v) Q E ⟨hp, g, d, tk, os⟩ :=
      fun q => B.iter prog w _ _ ⟨hp, g, d, tk, os⟩ _ h1 q
    wp_walk using q1
    refine wpAny_stack_any fun st => wpAny_pure ?_
    split
    · rename_i c _ _ _ _ _
      cases (c == Value.type "enumerate")
      · wp_walk using q1
        exact ⟨_, rfl, h⟩
      · wp_walk using q1
        exact ⟨_, rfl, h⟩
    · wp_walk using q1
      exact ⟨_, rfl, h⟩
theorem call_enumT {prog : Program} {w : World} {A : Around} {E : Value → Shared → Prop} {s : Shared} {v : Value} {o : Obj} {H : Heap → Prop} {Q : Value → Shared → Prop} (B : Begins v o H) (h1 : H s.heap)
    (h : ∀ h', IsEnum h' (s.heap.objs.size + 1) s.heap.objs.size 0 .none → h'.get? s.heap.objs.size = some o → h'.objs.size = s.heap.objs.size + 2 →
      (∀ b o, s.heap.get? b = some o → h'.get? b = some o) → Q (.ref (s.heap.objs.size + 1)) { s with heap := h' }) :
    wpAny (model prog w) A (call (.type "enumerate") [v]) Q E s := by
  refine callType_new F.called_enumerate (by decide) (F.typeCall_enumerate_1 _) (F.newCall_enumerate_1 _) (fun obj => F.args_object_init_2 obj _) F.entry_enumerate_new
    (meets_enumT B) ⟨h1, ?_⟩
  have hz : (s.heap.push o).objs.size = s.heap.objs.size + 1 := Heap.size_push ..
  show _ ∧ _
  rw [hz]
  have he : IsEnum ((s.heap.push o).push { cls := .type "enumerate", data := .fields #[.none, .bool false, .ref s.heap.objs.size, rawInt 0, .none, .none] }) (s.heap.objs.size + 1) s.heap.objs.size 0 .none := by
    have := Heap.get?_push_size (s.heap.push o) (o := { cls := .type "enumerate", data := .fields #[.none, .bool false, .ref s.heap.objs.size, rawInt 0, .none, .none] }) rfl
    rw [hz] at this; exact this
  refine ⟨⟨_, he, rfl⟩, h _ he (Heap.get?_push_of_some _ (Heap.get?_push_size _ B.free)) (by rw [Heap.size_push, hz]) fun b o x => Heap.get?_push_of_some _ (Heap.get?_push_of_some _ x)⟩
def IteT (K : PySem.W.Frag) (a : Addr) : It :=
  ⟨fun i H => ∃ (xs : List V) (x : V), SqT K H a xs ∧ xs[i]? = some x, fun i H v H' => ∃ T x, v = .ref T ∧ H T = none ∧ H' = upd H T (.tup [.int (i : Nat), x]) ∧ ∀ xs, SqT K H a xs → xs[i]? = some x, fun i H => ∃ xs : List V, SqT K H a xs ∧ xs.length ≤ i⟩
theorem turn_enumT {P : Program} {w : World} {K : PySem.W.Frag} {elts : List Expr} {kk : Nat} {tpos : Pos} (a e it : Addr) :
    Turn P w K (.Tuple elts kk tpos) (IteT K a) [e, it] e (fun i h => (∃ old, IsEnum h e it ((i : Nat) : Int) old) ∧ h.IsTupleIter it a i ∧ e ≠ it) where
  mem := by simp
  obj := fun i h st b hb => by
    obtain ⟨⟨old, he⟩, ⟨o, ho, hc, hd⟩, _⟩ := st
    have e' : b = e ∨ b = it := by simpa using hb
    rcases e' with z | z
    · rw [z]; exact ⟨_, he, fun v q => nomatch q⟩
    · rw [z]; exact ⟨o, ho, fun v q => by rw [hd] at q; cases q⟩
  keep := fun i h h' st k => let ⟨⟨old, he⟩, hi, hne⟩ := st; ⟨⟨old, k e (by simp) _ he⟩, hi.at fun o q => k it (by simp) o q, hne⟩
  item := by
    intro X hP hw hK hc i pins s σ H E I hf st hg
    subst hP hw hK
    obtain ⟨⟨old, he⟩, hit, hne⟩ := st
    obtain ⟨xs, x, hq, hx⟩ := hg
    obtain ⟨its, rv, p, hz⟩ := I.tuple hq
    obtain ⟨u, hu, ru⟩ := rv.get hx
    have hel : e < s.heap.objs.size := Heap.lt_size he
    have hil : it < s.heap.objs.size := by obtain ⟨_, q, _⟩ := hit; exact Heap.lt_size q
    have pT : s.heap.IsTuple a its.toArray := p
    have hai : a ≠ it := fun z => by
      obtain ⟨o, h1, h2, _⟩ := pT
      obtain ⟨o', h3, h4, _⟩ := hit
      rw [z, h3] at h1; cases h1
      rw [h4] at h2; exact absurd (Value.type.inj h2) (by decide)
    have hae : a ≠ e := fun z => by
      obtain ⟨o, h1, h2, _⟩ := pT
      rw [z] at h1
      have he2 : s.heap.get? e = some _ := he
      rw [he2] at h1; cases h1
      exact absurd (Value.type.inj h2) (by decide)
    have hlt : i < its.toArray.size := by
      have := (List.getElem?_eq_some_iff.mp hu).1
      simpa using this
    refine wpAny_pyNext_enum_itemC (Draws.tuple (A := X.A.in1) (I.ok.hd hc) it a hai its.toArray) he ⟨hit, pT⟩ hlt hne (by simp; exact ⟨hne, Ne.symm hae⟩) fun y h' tk hP ho hit' hT hsz hk => ?_
    have ey : y = u := by
      have : its.toArray[i]? = some u := by simpa using hu
      rw [this] at hP; cases hP; rfl
    subst ey
    refine ⟨_, rfl, wpAny_letOwnedTupleGo_enum (s := { s with heap := h', toks := tk + 1 }) ho fun h'' he' sb => ?_⟩
    have hT2 : h''.get? s.heap.objs.size = some { cls := .type "tuple", data := .seq #[.int i tk, y] } := (sb.2 _ (Nat.ne_of_gt hel)).trans hT
    have new : ObjOk X.prog X.w (upd H s.heap.objs.size (.tup [.int (i : Nat), x])) h'' s.heap.objs.size (.tup [.int (i : Nat), x]) :=
      ⟨by show 2 ≤ sizeLine; decide, [.int i tk, y], .cons ⟨_, rfl⟩ (.cons ru .nil), ⟨_, hT2, rfl, _, rfl⟩⟩
    have I1 : Inv X pins σ (upd H s.heap.objs.size (.tup [.int (i : Nat), x])) { s with heap := h'', toks := tk + 1 } :=
      I.turnedNew (ch := [e, it]) (fun b ob hb q => (sb.2 b (fun z => hb (by simp [z]))).trans (hk b ob (fun z => hb (by simp [z])) (fun z => hb (by simp [z])) q)) hf (Nat.le_refl _) new
    refine ⟨.ref s.heap.objs.size, _, I1, rfl, ⟨_, x, rfl, I.hok.fresh (Nat.le_refl _), rfl, fun ys hy => by rw [I.tuple_inj hy hq]; exact hx⟩, ⟨⟨y, ?_⟩, hit'.1.at fun o q => (sb.2 it (Ne.symm hne)).trans q, hne⟩, fun b hb => ?_⟩
    · have e1 : ((i + 1 : Nat) : Int) = (i : Int) + 1 := by omega
      rw [e1]; exact he'
    · have hb' : b < s.heap.objs.size := by
        have e' : b = e ∨ b = it := by simpa using hb
        rcases e' with z | z
        · rw [z]; exact hel
        · rw [z]; exact hil
      rw [upd_ne (Nat.ne_of_lt hb')]
      exact (hf b hb).1
  done := by
    intro X hP hw hK hc i pins s σ H E I hf st hg
    subst hP hw hK
    obtain ⟨⟨old, he⟩, hit, hne⟩ := st
    obtain ⟨xs, hq, hx⟩ := hg
    obtain ⟨its, rv, p, hz⟩ := I.tuple hq
    obtain ⟨f0, f1, f2, f3, f4, f5⟩ := hf it (by simp)
    have hl := rv.length
    have pT : s.heap.IsTuple a its.toArray := p
    have hai : a ≠ it := fun z => by
      obtain ⟨o, h1, h2, _⟩ := pT
      obtain ⟨o', h3, h4, _⟩ := hit
      rw [z, h3] at h1; cases h1
      rw [h4] at h2; exact absurd (Value.type.inj h2) (by decide)
    -- the iterator stands at its own count; done wants it at the size: by the tuple's end
    have hT : s.TypeIs (.ref e) "enumerate" := ⟨_, he, rfl⟩
    unfold pyNext
    refine wpAny_bind (wpAny_attempt (wpAny_callSpecial?_slot (name := Str.ofString "__next__") hT F.slot_enumerate_next
      (wpAny_call_entry F.slot_enumerate_next hT F.entry_enumerate_next ?_ (F.args_enumerate_next_1 _))))
    show wpAny _ _ (field (.ref e) 2 >>= _) _ _ _
    refine wpAny_bind (wpAny_field he rfl (x := .ref it) rfl ?_)
    refine wpAny_bind (wpAny_nextOf_tuple_end (A := X.A.in1) (I.ok.hd hc) hit pT (by simp; omega) fun h' x he' hx' => ?_)
    obtain ⟨o, ho, hc'⟩ := hx'
    refine wpAny_bind (wpAny_isInstance (T := "StopIteration") (b := true) ⟨o, ho, hc'⟩ isSubtype_stop ?_)
    exact wpAny_pure ⟨rfl, I.turned (t' := s.toks) (fun b o hb q => he' b o hb q) f0 f1 f3 f4 f5⟩
  self := fun A i s Q E st h => let ⟨⟨_, he⟩, _⟩ := st; wpAny_pyIter_enum he h
def iEnumT (K : PySem.W.Frag) (ta : TA) : TI := fun σ H R => ta σ H fun vs H1 => ∃ a xs, vs = [.ref a] ∧ SqT K H1 a xs ∧ R (IteT K a) H1
theorem pi_enumT {X : Cx} {e : Expr} {ta : TA} {p pos tpos : Pos} {elts : List Expr} {kk : Nat} (hg : Gl X "enumerate") (hm : X.mg "enumerate" = none) (ha : PA X [e] ta) (hs : starEach [e] X.env = [(false, eval e X.env)] := by rfl) :
    PI X (.Tuple elts kk tpos) (.Call (.Name "enumerate" p) [e] [] pos) (iEnumT X.K ta) := by
  refine ⟨fun pins s σ H R I h => ?_⟩
  refine Call_ (ld_blt I hg hm boot_enumerate (PyProof.Rows.callWith_type1 (thn (ha.run pos pins s σ H _ I h) fun us s1 ⟨vs, H1, I1, r1, q1⟩ => ?_) hs rfl))
  obtain ⟨a, xs, ex, hq, q⟩ := q1
  subst ex
  cases r1 with
  | cons r rr =>
    cases rr
    cases r
    obtain ⟨its, rv, p', hz⟩ := I1.tuple hq
    refine call_enumT (begins_tuple a its.toArray) (show s1.heap.IsTuple a its.toArray from p') fun h' he hit hsz hk => wpAny_pyIter_enum he ?_
    have I2 : Inv X pins σ H1 { s1 with heap := h' } := I1.kept (t' := s1.toks) hk
    refine ⟨s1.heap.objs.size + 1, [s1.heap.objs.size + 1, s1.heap.objs.size], _, _, H1, rfl, I2, turn_enumT a (s1.heap.objs.size + 1) s1.heap.objs.size, ⟨⟨.none, he⟩, ⟨_, hit, rfl, rfl⟩, Nat.succ_ne_self _⟩, fun b hb => ?_, q⟩
    have e' : b = s1.heap.objs.size + 1 ∨ b = s1.heap.objs.size := by simpa using hb
    have hle : s1.heap.objs.size ≤ b := by
      rcases e' with z | z
      · rw [z]; exact Nat.le_add_right _ _
      · rw [z]; exact Nat.le_refl _
    exact I1.fpOk hle (I1.hok.fresh hle)
/-! ## enumerate, by data -/
def enumD (ds : List D) : List D := ds.mapIdx fun i d => .tup [.int (i : Nat), d]
theorem enumD_get {ds : List D} {i : Nat} {d : D} (h : (enumD ds)[i]? = some d) : ∃ d', ds[i]? = some d' ∧ d = .tup [.int (i : Nat), d'] := by
  unfold enumD at h
  rw [List.getElem?_mapIdx] at h
  cases q : ds[i]? with
  | none => rw [q] at h; cases h
  | some d' => rw [q] at h; cases h; exact ⟨d', rfl, rfl⟩
theorem Wk.enumL {K : PySem.W.Frag} (hK : K = g.K) {a : Addr} {vs : List V} {ds : List D} (h : SqL K B a vs) (hd : Dens g B ds vs) : Wk g B (Ite K a) (enumD ds) where
  go := fun B' H' i e e' hi => ⟨vs, vs[i]'(by rw [hd.length]; simpa [enumD] using hi), Evl.ex_l (e.trans e') h, List.getElem?_eq_getElem _⟩
  stop := fun B' H' e e' => ⟨vs, Evl.ex_l (e.trans e') h, by rw [hd.length]; simp [enumD]⟩
  yld := fun B' H' i d x H2 e e' hi hy => by
    obtain ⟨d', hd', rfl⟩ := enumD_get hi
    obtain ⟨p, y, rfl, hn, rfl, hy⟩ := hy
    obtain ⟨v, hv, q⟩ := hd.get hd'
    have := hy vs (Evl.ex_l (e.trans e') h)
    rw [hv] at this; cases this
    have nb : B' p = none := Evl.fresh_back e' hn
    exact .inr ⟨p, _, hn, rfl, p, _, rfl, .inl (.inl upd_same), Dens.cons rfl (Dens.cons ((q.mono e).mono (Evl.Ex.new nb)) Dens.nil)⟩
theorem Wk.enumT {K : PySem.W.Frag} (hK : K = g.K) {a : Addr} {vs : List V} {ds : List D} (h : SqT K B a vs) (hd : Dens g B ds vs) : Wk g B (IteT K a) (enumD ds) where
  go := fun B' H' i e e' hi => ⟨vs, vs[i]'(by rw [hd.length]; simpa [enumD] using hi), Evl.ex_t (e.trans e') h, List.getElem?_eq_getElem _⟩
  stop := fun B' H' e e' => ⟨vs, Evl.ex_t (e.trans e') h, by rw [hd.length]; simp [enumD]⟩
  yld := fun B' H' i d x H2 e e' hi hy => by
    obtain ⟨d', hd', rfl⟩ := enumD_get hi
    obtain ⟨p, y, rfl, hn, rfl, hy⟩ := hy
    obtain ⟨v, hv, q⟩ := hd.get hd'
    have := hy vs (Evl.ex_t (e.trans e') h)
    rw [hv] at this; cases this
    have nb : B' p = none := Evl.fresh_back e' hn
    exact .inr ⟨p, _, hn, rfl, p, _, rfl, .inl (.inl upd_same), Dens.cons rfl (Dens.cons ((q.mono e).mono (Evl.Ex.new nb)) Dens.nil)⟩
def menum (fa : M Opd) : M (List D) := mbind (mbind fa strong) fun d => mopt ((itemsD d).map enumD)
theorem ji_enum {elts : List Expr} {kk : Nat} {p tpos : Pos} {fa : M Opd} (hK : X.K = g.K) (hg : Gl X "enumerate") (hm : X.mg "enumerate" = none) (ha : JO X g T W e fa) (hs : starEach [e] X.env = [(false, eval e X.env)] := by rfl) :
    JI X g T W (.Tuple elts kk tpos) (.Call (.Name "enumerate" p) [e] [] pos) (menum fa) := fun τ t =>
  PI.imp (PI.or (pi_enum hg hm (pa_cons (je_of ha τ t) pa_nil hs) hs) (pi_enumT hg hm (pa_cons (je_of ha τ t) pa_nil hs) hs)) fun σ H R ⟨B, s, Rl, p⟩ => by
    unfold menum at p
    cases ef : mbind fa strong s with
    | bad => unfold mbind at p ef; rw [ef] at p; exact p.elim
    | ex c ds s' => have p' := p; unfold mbind at p ef; rw [ef] at p; exact .inl ⟨B, s, Rl, by unfold mbind; rw [ef]; exact p⟩
    | ok d s' =>
      rw [mbind_ok ef] at p
      cases d with
      | tup ds =>
        refine .inr ⟨B, s, Rl, ?_⟩
        rw [ef]
        intro v B' H' R' e' hd
        obtain ⟨a, vs, rfl, k1, k2⟩ := hd
        rw [← hK] at k1
        exact ⟨a, vs, rfl, Evl.ex_t R'.bh k1, p _ B' H' R' e' (Wk.enumT hK k1 k2)⟩
      | lst ds =>
        refine .inl ⟨B, s, Rl, ?_⟩
        rw [ef]
        intro v B' H' R' e' hd
        obtain ⟨a, vs, rfl, k1, k2⟩ := hd
        exact ⟨a, vs, rfl, .inl (.inl (R'.bh _ _ k1)), p _ B' H' R' e' (Wk.enumL hK (.inl (.inl k1)) k2)⟩
      | arg ds =>
        refine .inl ⟨B, s, Rl, ?_⟩
        rw [ef]
        intro v B' H' R' e' hd
        obtain ⟨a, vs, rfl, k1, k2⟩ := hd
        rw [← hK] at k1
        exact ⟨a, vs, rfl, Evl.ex_l R'.bh k1, p _ B' H' R' e' (Wk.enumL hK k1 k2)⟩
      | _ => exact p.elim
end TW

set_option Elab.async false
set_option linter.all false
set_option autoImplicit false
set_option maxRecDepth 100000
set_option maxHeartbeats 1000000
namespace TW
open PySem PySem.Spec PyProof.Rows L2
variable {g : G} {T : Tx} {B B' H H' : Hp} {σ : L2.St} {s : S} {W : WX} {α β γ δ : Type} {P : PP α β}
variable {X : Cx} {e a b c tg iter elt : Expr} {es : List Expr} {pos : Pos}

/-! ## an instance made -/
theorem jr_make {c : Nat} {f : Fd} {dds : List D} {dvs : List V} {fa : M (List Opd)} (hpe : ∀ ta, PA X es ta → PE X e (tMakeS (g.cn c) (spD g f) dvs (WE W) ta)) (hdd : ∀ B, Dens g B dds dvs) (ha : JA X g T W es fa) : JR X g T W e (mmake c f dds fa) :=
  fun τ t => PE.imp (hpe _ (ha τ t)) fun σ H Q ⟨B, s, R, p⟩ => (PostM.bind (P := PAs g) R p).mono fun vs H1 ⟨os, B1, s1, R1, e1, q, p1⟩ => by
    by_cases hd : dupFree s1 os = true
    · rw [if_pos hd] at p1
      cases ea : argsOf s1 os with
      | none => rw [ea] at p1; exact p1.elim
      | some as =>
        rw [ea] at p1
        dsimp only at p1
        intro x dx nx ndx ne
        have eH : Ex H1 (upd (upd H1 dx (.own x)) x (.ins (g.cn c) dx [])) := (Evl.Ex.new ndx).trans (Evl.Ex.new (by rw [upd_ne ne.symm]; exact nx))
        refine ⟨B1, .o c [] :: (as ++ dds.map .v), R1.bh.trans eH, ?_, ?_⟩
        · exact (Rel.made (B' := B1) (H' := H1) (post := []) (cc := c) R1 q hd ea (hdd B1) nx ndx ne).1
        cases ef : f (.o c [] :: (as ++ dds.map .v)) with
        | bad => rw [ef] at p1; exact p1.elim
        | ex cc ds post =>
          rw [ef] at p1
          intro y B' H' A hx
          exact p1 y B' H' ((Rel.made (cc := c) R1 q hd ea (hdd B1) nx ndx ne).2 A).1 A.eB hx
        | ret r post =>
          rw [ef] at p1
          intro v B' H' A hr
          cases r with
          | v d =>
            cases d with
            | non =>
              refine ⟨hr, ?_⟩
              cases post with
              | nil => exact p1.elim
              | cons y post =>
                cases y with
                | o c' ds =>
                  dsimp only at p1
                  by_cases ec : c' = c
                  · rw [if_pos ec] at p1
                    subst ec
                    have k := (Rel.made (cc := c') R1 q hd ea (hdd B1) nx ndx ne).2 A
                    exact p1 (.ref x) B' H' k.1 A.eB (k.2 ds rfl)
                  · rw [if_neg ec] at p1; exact p1.elim
                | _ => exact p1.elim
            | _ => exact p1.elim
          | _ => exact p1.elim
    · rw [if_neg hd] at p1; exact p1.elim
/-! ## own lists: append, pop, x[i] = v -/
def mappend (k : Nat) (fv : M D) : MS := fun s => match s[k]? with
  | some (.l _) => ms fv (fun d s1 => match s1[k]? with
    | some (.l ds) => if ds.length < 16000000 then .nx (s1.set k (.l (ds ++ [d]))) else .bad
    | _ => .bad) s
  | _ => .bad
theorem szlt {n : Nat} (h : n < 16000000) : n < sizeLine := Nat.lt_of_lt_of_le h (by decide)
theorem js_append {k : Nat} {o : Expr} {apos cpos pos' : Pos} {fv : M D} (hK : X.K = g.K) (ho : PE X o (tVar k)) (hv : JE X g T W e fv)
    (hbase : attributeBase o "append" X.env (eval o X.env) = eval o X.env := by rfl)
    (hfew : ((backTo cpos (starEach [e] X.env)).all (fun x => !x.1) && (backToKw cpos (keywordEach [] X.env)).all (fun x => x.1.isSome)
      && decide ([e].length + ([] : List Keyword).length + (if ([] : List Keyword).isEmpty then 0 else 1) < 30)) = true := by rfl)
    (hline : (apos.endLine == cpos.line) = true := by rfl) (hs : starEach [e] X.env = (false, eval e X.env) :: starEach [] X.env := by rfl)
    (hsw : swapsWith (.Call (.Attribute o "append" apos) [e] [] cpos) none pos'.line X.env = pure false := by rfl) : JS X g T W (.Expr (.Call (.Attribute o "append" apos) [e] [] cpos) pos') (mappend k fv) := by
  refine PS.imp (ps_expr (pe_bm PySem.F.plainAttrs_list PySem.F.slot_list_append PySem.F.type_list_append mt_append ho (pa_cons (hv T.τ T.t) pa_nil hs) hbase hfew hline hs rfl) hsw) fun D σ H ⟨B, s, R, p⟩ => ?_
  unfold mappend at p
  cases hk : s[k]? with
  | none => rw [hk] at p; exact p.elim
  | some y =>
    rw [hk] at p
    cases y with
    | l ds0 =>
      obtain ⟨l, us0, ha, _, hl, _⟩ := R.getl hk
      refine ⟨.ref l, ha, .inl ⟨rfl, us0, .inl (.inl hl)⟩, (PostS.bind (P := PD g) R p).mono fun v H1 ⟨d, B1, s1, R1, e1, q, p1⟩ => ?_⟩
      cases hk1 : s1[k]? with
      | none => rw [hk1] at p1; exact p1.elim
      | some y1 =>
        rw [hk1] at p1
        cases y1 with
        | l ds =>
          dsimp only at p1
          obtain ⟨l', us, ha', _, hl', hd⟩ := R1.getl hk1
          rw [ha] at ha'; cases ha'
          by_cases hz : ds.length < 16000000
          · rw [if_pos hz] at p1
            refine ⟨l, us, v, rfl, rfl, hl', szlt (by rw [hd.length]; exact hz), ?_⟩
            exact p1 σ B1 _ (R1.wrl hk1 ha (hd.append (Dens.cons q Dens.nil))) (Evl.Ex.refl _)
          · rw [if_neg hz] at p1; exact p1.elim
        | _ => exact p1.elim
    | _ => exact p.elim
def mpop (k : Nat) : M D := fun s => match s[k]? with
  | some (.l ds) => (match ds[ds.length - 1]? with
    | some d => .ok d (s.set k (.l ds.dropLast))
    | none => .bad)
  | _ => .bad
theorem Dens.dropLast {ds : List D} {vs : List V} (h : Dens g B ds vs) : Dens g B ds.dropLast vs.dropLast := by
  rw [List.dropLast_eq_take, List.dropLast_eq_take, h.length]; exact h.take _
theorem je_pop {k : Nat} {o : Expr} {apos cpos : Pos} (ho : PE X o (tVar k))
    (hbase : attributeBase o "pop" X.env (eval o X.env) = eval o X.env := by rfl) (hline : (apos.endLine == cpos.line) = true := by rfl) : JE X g T W (.Call (.Attribute o "pop" apos) [] [] cpos) (mpop k) :=
  fun τ t => PE.imp (pe_bm0 PySem.F.plainAttrs_list PySem.F.slot_list_pop PySem.F.type_list_pop mt_pop ho hbase hline) fun σ H Q ⟨B, s, R, p⟩ => by
    unfold mpop at p
    cases hk : s[k]? with
    | none => rw [hk] at p; exact p.elim
    | some y =>
      rw [hk] at p
      cases y with
      | l ds =>
        dsimp only at p
        obtain ⟨l, us, ha, _, hl, hd⟩ := R.getl hk
        cases hy : ds[ds.length - 1]? with
        | none => rw [hy] at p; exact p.elim
        | some d =>
          rw [hy] at p
          obtain ⟨v, hv, q⟩ := hd.get hy
          refine ⟨.ref l, ha, .inl ⟨rfl, us, .inl (.inl hl)⟩, l, us, v, rfl, rfl, hl, by rw [hd.length]; exact hv, ?_⟩
          exact p v B _ (R.wrl hk ha hd.dropLast) (Evl.Ex.refl _) q
      | _ => exact p.elim
def mseti (k : Nat) (fv fi : M D) : MS := ms fv fun d s1 => match s1[k]? with
  | some (.l _) => ms fi (fun i s => match i with
    | .int i => (match s[k]? with
      | some (.l ds) => (match ixN ds.length i with
        | some j => .nx (s.set k (.l (ds.set j d)))
        | none => .bad)
      | _ => .bad)
    | _ => .bad) s1
  | _ => .bad
theorem js_seti {k : Nat} {i : Expr} {st : Stmt} {fv fi : M D} (hps : ∀ te ti, PE X e te → PE X i ti → PS X st (tAsg te (gSub (tVar k) ti rSetL))) (hi : JE X g T W i fi) (hv : JE X g T W e fv) : JS X g T W st (mseti k fv fi) :=
  PS.imp (hps _ _ (hv T.τ T.t) (hi T.τ T.t)) fun D σ H ⟨B, s, R, p⟩ => (PostS.bind (P := PD g) R p).mono fun v H1 ⟨d, B1, s1, R1, e1, q1, p1⟩ => by
    cases hk0 : s1[k]? with
    | none => rw [hk0] at p1; exact p1.elim
    | some y0 =>
      rw [hk0] at p1
      cases y0 with
      | l ds0 =>
        dsimp only at p1
        obtain ⟨l, us0, hl, _⟩ := R1.getl hk0
        refine ⟨.ref l, hl, (PostS.bind (P := PD g) R1 p1).mono fun iv H2 ⟨di, B2, s2, R2, e2, q2, p2⟩ => ?_⟩
        cases di with
        | int i =>
          dsimp only at p2
          cases hk : s2[k]? with
          | none => rw [hk] at p2; exact p2.elim
          | some y =>
            rw [hk] at p2
            cases y with
            | l ds =>
              dsimp only at p2
              cases hj : ixN ds.length i with
              | none => rw [hj] at p2; exact p2.elim
              | some j =>
                rw [hj] at p2
                obtain ⟨l', us, ha', _, hl', hd⟩ := R2.getl hk
                rw [hl] at ha'; cases ha'
                refine ⟨l, us, i, j, rfl, q2, hl', by rw [hd.length]; exact hj, ?_⟩
                exact p2 σ B2 _ (R2.wrl hk hl (Dens.set (q1.mono e2) j hd)) (Evl.Ex.refl _)
            | _ => exact p2.elim
        | _ => exact p2.elim
      | _ => exact p1.elim
/-! ## a list that is changed no more -/
def mfrz (k : Nat) : M Opd := fun s => match s[k]? with
  | some (.l ds) => .ok (.d (.lst ds)) (s.set k (.v (.lst ds)))
  | _ => .bad
theorem jo_frz {k : Nat} (h : PE X e (tVar k)) (hio : T.io k = none) : JO X g T W e (mfrz k) := fun τ t => PE.imp h fun σ H Q ⟨B, s, R, p⟩ => by
  unfold mfrz at p
  cases hk : s[k]? with
  | none => rw [hk] at p; exact p.elim
  | some y =>
    rw [hk] at p
    cases y with
    | l ds =>
      obtain ⟨B', R', e'⟩ := R.frz hk hio
      have hk' : (s.set k (.v (.lst ds)))[k]? = some (.v (.lst ds)) := by
        have := (List.getElem?_eq_some_iff.mp hk).1
        simp [this]
      obtain ⟨v, hv, q⟩ := R'.getv hk'
      exact ⟨v, hv, p v B' H R' e' q⟩
    | _ => exact p.elim
/-! ## a, b = x, y -/
def stPar2 (i j : Nat) : List D → MS
  | [d1, d2] => fun s => if i < s.length ∧ j < s.length then .nx ((s.set i (.v d1)).set j (.v d2)) else .bad
  | _ => fun _ => .bad
theorem ms_ok {α : Type} {fa : M α} {k : α → MS} {a : α} {s s' : S} (h : fa s = .ok a s') : ms fa k s = k a s' := by unfold ms; rw [h]
theorem ms_bad {α : Type} {fa : M α} {k : α → MS} {s : S} (h : fa s = .bad) : ms fa k s = .bad := by unfold ms; rw [h]
def mpar2 (i j : Nat) (fa : M (List Opd)) : MS := ms fa fun os => ms (strongs os) (stPar2 i j)
theorem js_par2 {i j : Nat} {st : Stmt} {fa : M (List Opd)} (hps : ∀ ta, PA X es ta → PS X st (tPar i j ta)) (hi : T.io i = none) (hj : T.io j = none) (ha : JA X g T W es fa) : JS X g T W st (mpar2 i j fa) :=
  PS.imp (hps _ (ha T.τ T.t)) fun D σ H ⟨B, s, R, p⟩ => (PostS.bind (P := PAs g) R p).mono fun vs H1 ⟨os, B1, s1, R1, e1, q1, p1⟩ => by
    rcases strongs_ex (os := os) (s := s1) with ⟨ds, w⟩ | w
    · rw [ms_ok w] at p1
      obtain ⟨_, hd⟩ := strongs_ok R1 q1 w
      match ds, hd, p1 with
      | [d1, d2], hd, p1 =>
        obtain ⟨v1, r1, rfl, h1, v2, r2, rfl, h2, h3⟩ := hd
        cases h3
        replace p1 : PostS g T W B1 (if i < s1.length ∧ j < s1.length then .nx ((s1.set i (.v d1)).set j (.v d2)) else .bad) D := p1
        by_cases hl : i < s1.length ∧ j < s1.length
        · rw [if_pos hl] at p1
          refine ⟨v1, v2, rfl, p1 _ B1 H1 ?_ (Evl.Ex.refl _)⟩
          exact (R1.storev hl.1 hi h1).storev (by rw [List.length_set]; exact hl.2) hj h2
        · rw [if_neg hl] at p1; exact p1.elim
      | [], hd, p1 => exact p1.elim
      | [_], hd, p1 => exact p1.elim
      | _ :: _ :: _ :: _, hd, p1 => exact p1.elim
    · rw [ms_bad w] at p1; exact p1.elim
end TW

set_option Elab.async false
set_option linter.all false
set_option autoImplicit false
set_option maxRecDepth 100000
set_option maxHeartbeats 1000000
namespace TW
open PySem PySem.Spec PyProof.Rows L2
variable {g : G} {T : Tx} {B B' H H' : Hp} {σ : L2.St} {s : S} {W : WX} {α β γ δ : Type} {P : PP α β}
variable {X : Cx} {e a b c tg iter elt : Expr} {es : List Expr} {pos : Pos}

/-! ## isinstance -/
/-- what of the text a class of instances must have -/
structure InsC (K : PySem.W.Frag) (C : Addr) : Prop where
  cl : Cls K C
  ha : PySem.W.findIn K (.ref C) "__class__" = some (some (.builtin "object.__class__"))
  hn : PySem.W.specialIn K (.builtin "object.__class__") "__get__" = some (some (.builtin "getset_descriptor.__get__"))
  htk : PySem.W.takesIn K (.builtin "object.__class__") = some true
  hm : PySem.W.mroIn K C (.type "object") = some true
def tyD (cn : Nat → Addr) : D → Option Value
  | .non => some (.type "NoneType")
  | .bl _ => some (.type "bool")
  | .int _ => some (.type "int")
  | .str _ => some (.type "str")
  | .tup _ => some (.type "tuple")
  | .lst _ => some (.type "list")
  | .arg _ => some (.type "list")
  | .obj c _ => if c < 100 then some (.ref (cn c)) else none
  | .exc _ _ _ _ => none
theorem tyx_seqT {K : PySem.W.Frag} {a : Addr} {xs : List V} (h : SqT K H a xs) : TyX K H (.ref a) (.type "tuple") := by
  rcases h with h | ⟨o, its, n, hk, hc, _⟩
  · rcases h with h | ⟨o, h⟩
    · exact .base (.tup h)
    · exact .fTuple h
  · exact .kTuple hk hc
theorem tyx_seqL {K : PySem.W.Frag} {a : Addr} {xs : List V} (h : SqL K H a xs) : TyX K H (.ref a) (.type "list") := by
  rcases h with h | ⟨o, its, n, hk, hc, _⟩
  · rcases h with h | ⟨o, h⟩
    · exact .base (.lst h)
    · exact .base (.frz h)
  · exact .kList hk hc
theorem tyx_den (hI : ∀ c, c < 100 → InsC g.K (g.cn c)) {d : D} {v : V} {t : Value} (eB : Ex B H) (h : DenW g B H d v) (e : tyD g.cn d = some t) : TyX g.K H v t := by
  cases d with
  | non => cases e; cases h; exact .base .non
  | bl b => cases e; cases h; exact .base (.bl b)
  | int i => cases e; cases h; exact .base (.int i)
  | str x => cases e; cases h; exact .base (.str x)
  | tup ds => cases e; obtain ⟨a, vs, rfl, k1, _⟩ := h; exact tyx_seqT (Evl.ex_t eB k1)
  | lst ds => cases e; obtain ⟨a, vs, rfl, k1, _⟩ := h; exact .base (.lst k1)
  | arg ds => cases e; obtain ⟨a, vs, rfl, k1, _⟩ := h; exact tyx_seqL (Evl.ex_l eB k1)
  | obj c ds =>
    by_cases hc : c < 100
    · rw [show tyD g.cn (.obj c ds) = some (.ref (g.cn c)) from if_pos hc] at e
      cases e; obtain ⟨a, dx, vs, rfl, k1, _⟩ := h; exact .base (.ins k1 (hI c hc).cl (hI c hc).ha (hI c hc).hn (hI c hc).htk (hI c hc).hm)
    · rw [show tyD g.cn (.obj c ds) = none from if_neg hc] at e; cases e
  | exc _ _ _ _ => cases e
/-- the types of data, by numbers -/
inductive Ty where
  | non | bl | int | str | tup | lst | obj (c : Nat)
def dTy : D → Option Ty
  | .non => some .non
  | .bl _ => some .bl
  | .int _ => some .int
  | .str _ => some .str
  | .tup _ => some .tup
  | .lst _ => some .lst
  | .arg _ => some .lst
  | .obj c _ => if c < 100 then some (.obj c) else none
  | .exc _ _ _ _ => none
def Ty.val (cn : Nat → Addr) : Ty → Value
  | .non => .type "NoneType"
  | .bl => .type "bool"
  | .int => .type "int"
  | .str => .type "str"
  | .tup => .type "tuple"
  | .lst => .type "list"
  | .obj c => .ref (cn c)
theorem tyD_dTy {cn : Nat → Addr} {d : D} {t : Ty} (h : dTy d = some t) : tyD cn d = some (t.val cn) := by
  cases d with
  | obj c ds =>
    by_cases hc : c < 100
    · rw [show dTy (.obj c ds) = some (.obj c) from if_pos hc] at h; cases h
      exact if_pos hc
    · rw [show dTy (.obj c ds) = none from if_neg hc] at h; cases h
  | _ => cases h <;> rfl
/-- isinstance of a class: which types are below it -/
def Isi (g : G) (u : Value) (f : Ty → Option Bool) : Prop := ∀ t b, f t = some b → PySem.W.kitOne g.K (t.val g.cn) u = some b
def isiD (f : Ty → Option Bool) (d : D) : Option D := ((dTy d).bind f).map .bl
theorem tup2 {P1 : Hp} (h : P1 = P1) : True := trivial
theorem je_isi {f : Ty → Option Bool} {u : Value} {v : V} {fo : M Opd} {c : Expr} {p : Pos} (hK : X.K = g.K) (hI : ∀ c, c < 100 → InsC g.K (g.cn c)) (hf : Isi g u f) (hv : ClsV v u) (hg : Gl X "isinstance") (hm : X.mg "isinstance" = none) (hc : PE X c (tC v)) (ho : JO X g T W e fo)
    (hs : starEach (e :: [c]) X.env = (false, eval e X.env) :: starEach [c] X.env := by rfl) (hs2 : starEach [c] X.env = (false, eval c X.env) :: starEach [] X.env := by rfl) (hpl : (backTo pos (starEach [c] X.env)).any (·.1) = false := by rfl) :
    JE X g T W (.Call (.Name "isinstance" p) [e, c] [] pos) (mun (isiD f) fo) :=
  fun τ t => PE.imp (pe_callB call_isi hg hm rfl (pa_cons (ho τ t) (pa_cons hc pa_nil hs2) hs) (by decide) (by decide) hs hpl) fun σ H Q ⟨B, s, R, p⟩ => (PostM.bind (P := PO' g) R p).mono fun x H1 ⟨o, B1, s1, R1, e1, q1, p1⟩ => by
    rcases res_cases (o := o) (s := s1) with ⟨d, w⟩ | w
    · rw [mbind_ok w] at p1
      unfold isiD at p1
      cases et : dTy d with
      | none => rw [et] at p1; exact p1.elim
      | some t =>
        rw [et] at p1
        cases eb : f t with
        | none => have p1' := p1; rw [show (some t).bind f = none from eb] at p1'; exact p1'.elim
        | some b =>
          rw [show (some t).bind f = some b from eb] at p1
          refine ⟨x, v, t.val g.cn, u, b, rfl, hv, ?_, ?_, p1 (.bl b) B1 H1 R1 (Evl.Ex.refl _) rfl⟩
          · rw [hK]; exact tyx_den hI R1.bh (res_ok R1 q1 w).2 (tyD_dTy et)
          · rw [hK]; exact hf t b eb
    · exfalso
      have z : mbind (res o) (fun x => mopt (isiD f x)) s1 = .bad := by unfold mbind; rw [w]
      rw [z] at p1; exact p1
/-- isinstance(x, (c1, c2)) -/
def or2 (f1 f2 : Ty → Option Bool) : Ty → Option Bool := fun t => match f1 t with
  | some true => some true
  | some false => f2 t
  | none => none
theorem je_isi2 {f1 f2 : Ty → Option Bool} {u1 u2 : Value} {v1 v2 : V} {fo : M Opd} {c1 c2 : Expr} {kk : Nat} {p tpos : Pos} (hK : X.K = g.K) (hI : ∀ c, c < 100 → InsC g.K (g.cn c)) (hf1 : Isi g u1 f1) (hf2 : Isi g u2 f2) (hv1 : ClsV v1 u1) (hv2 : ClsV v2 u2) (hg : Gl X "isinstance") (hm : X.mg "isinstance" = none)
    (hc1 : PE X c1 (tC v1)) (hc2 : PE X c2 (tC v2)) (ho : JO X g T W e fo)
    (hs : starEach (e :: [.Tuple [c1, c2] kk tpos]) X.env = (false, eval e X.env) :: starEach [.Tuple [c1, c2] kk tpos] X.env := by rfl) (hs2 : starEach [.Tuple [c1, c2] kk tpos] X.env = (false, eval (.Tuple [c1, c2] kk tpos) X.env) :: starEach [] X.env := by rfl)
    (hs3 : starEach [c1, c2] X.env = (false, eval c1 X.env) :: starEach [c2] X.env := by rfl) (hs4 : starEach [c2] X.env = (false, eval c2 X.env) :: starEach [] X.env := by rfl) (hpl : (backTo pos (starEach [.Tuple [c1, c2] kk tpos] X.env)).any (·.1) = false := by rfl) :
    JE X g T W (.Call (.Name "isinstance" p) [e, .Tuple [c1, c2] kk tpos] [] pos) (mun (isiD (or2 f1 f2)) fo) :=
  fun τ t => PE.imp (pe_callB call_isiT hg hm rfl (pa_cons (ho τ t) (pa_cons (pe_tup (pa_cons hc1 (pa_cons hc2 pa_nil hs4) hs3)) pa_nil hs2) hs) (by decide) (by decide) hs hpl) fun σ H Q ⟨B, s, R, p⟩ => (PostM.bind (P := PO' g) R p).mono fun x H1 ⟨o, B1, s1, R1, e1, q1, p1⟩ => by
    rcases res_cases (o := o) (s := s1) with ⟨d, w⟩ | w
    · rw [mbind_ok w] at p1
      unfold isiD at p1
      cases et : dTy d with
      | none => rw [et] at p1; exact p1.elim
      | some t =>
        rw [et] at p1
        cases eb : or2 f1 f2 t with
        | none => have p1' := p1; rw [show (some t).bind (or2 f1 f2) = none from eb] at p1'; exact p1'.elim
        | some b =>
          rw [show (some t).bind (or2 f1 f2) = some b from eb] at p1
          refine ⟨by show 2 ≤ sizeLine; decide, fun q hq => ?_⟩
          have R2 := R1.new (o := .tup [v1, v2]) hq
          refine ⟨x, q, [v1, v2], t.val g.cn, [u1, u2], b, rfl, upd_same, .cons hv1 (.cons hv2 .nil), ?_, ?_, p1 (.bl b) _ _ R2 (Evl.Ex.new (Evl.fresh_back R1.bh hq)) rfl⟩
          · rw [hK]
            have hd := (res_ok R1 q1 w).2
            have e2 : Ex H1 (upd H1 q (.tup [v1, v2])) := Evl.Ex.new hq
            refine tyx_den (B := upd B1 q (.tup [v1, v2])) hI R2.bh ?_ (tyD_dTy et)
            cases d with
            | lst ds => obtain ⟨a, vs, rfl, k1, k2⟩ := hd; exact ⟨a, vs, rfl, e2 _ _ k1, k2.mono (Evl.Ex.new (Evl.fresh_back R1.bh hq))⟩
            | obj c ds => obtain ⟨a, dx, vs, rfl, k1, k2⟩ := hd; exact ⟨a, dx, vs, rfl, e2 _ _ k1, k2.mono (Evl.Ex.new (Evl.fresh_back R1.bh hq))⟩
            | _ => exact Den.mono (Evl.Ex.new (Evl.fresh_back R1.bh hq)) hd
          · rw [hK]
            unfold or2 at eb
            cases e1 : f1 t with
            | none => rw [e1] at eb; cases eb
            | some b1 =>
              rw [e1] at eb
              refine kitAny_cons (hf1 t b1 e1) (fun hb => ?_) (fun hb => ?_)
              · subst hb
                refine kitAny_cons (hf2 t b eb) (fun hb => ?_) (fun hb => hb)
                rw [hb]; exact kitAny_nil
              · subst hb; exact (Option.some.inj eb).symm
    · exfalso
      have z : mbind (res o) (fun x => mopt (isiD (or2 f1 f2) x)) s1 = .bad := by unfold mbind; rw [w]
      rw [z] at p1; exact p1
theorem pe_bty {n : Str} {T : String} {p : Pos} (hg : Gl X n) (hm : X.mg n = none) (hv : bootBuiltins n = some (.type T)) (hn : n ≠ "__name__" := by decide) (hdb : (n == ("__debug__" : Str)) = false := by decide) : PE X (.Name n p) (tC (.ty T)) :=
  ⟨fun pins s σ H Q I h => ld_blt I hg hm hv ⟨V.ty T, H, I, rfl, h⟩ hn hdb⟩
/-- types below built-in ones -/
def isiInt : Ty → Option Bool
  | .int => some true
  | .bl => some true
  | .obj _ => none
  | _ => some false
def isiBl : Ty → Option Bool
  | .bl => some true
  | .obj _ => none
  | _ => some false
def isiLst : Ty → Option Bool
  | .lst => some true
  | .obj _ => none
  | _ => some false
def isiTup : Ty → Option Bool
  | .tup => some true
  | .obj _ => none
  | _ => some false
def isiStr : Ty → Option Bool
  | .str => some true
  | .obj _ => none
  | _ => some false
theorem isi_int : Isi g (.type "int") isiInt := fun t b h => by
  cases t <;> cases h <;> exact kit_ty (by decide +kernel)
theorem isi_bl : Isi g (.type "bool") isiBl := fun t b h => by
  cases t <;> cases h <;> exact kit_ty (by decide +kernel)
theorem isi_lst : Isi g (.type "list") isiLst := fun t b h => by
  cases t <;> cases h <;> exact kit_ty (by decide +kernel)
theorem isi_tup : Isi g (.type "tuple") isiTup := fun t b h => by
  cases t <;> cases h <;> exact kit_ty (by decide +kernel)
theorem isi_str : Isi g (.type "str") isiStr := fun t b h => by
  cases t <;> cases h <;> exact kit_ty (by decide +kernel)
/-- an own class without classes below it, by its number -/
def isiObj (c : Nat) : Ty → Option Bool
  | .obj c' => if c' = c then some true else none
  | _ => some false
theorem isi_obj {c : Nat} (h : ∀ n ∈ ["NoneType", "bool", "int", "str", "tuple", "list"], PySem.W.kitOne g.K (.type n) (.ref (g.cn c)) = some false) : Isi g (.ref (g.cn c)) (isiObj c) := fun t b e => by
  cases t with
  | obj c' =>
    by_cases z : c' = c
    · subst z
      have : isiObj c' (.obj c') = some true := if_pos rfl
      rw [this] at e; cases e
      unfold PySem.W.kitOne
      exact if_pos (beq_iff_eq.mpr rfl)
    · have : isiObj c (.obj c') = none := if_neg z
      rw [this] at e; cases e
  | non => cases e; exact h "NoneType" (by simp)
  | bl => cases e; exact h "bool" (by simp)
  | int => cases e; exact h "int" (by simp)
  | str => cases e; exact h "str" (by simp)
  | tup => cases e; exact h "tuple" (by simp)
  | lst => cases e; exact h "list" (by simp)
end TW

set_option Elab.async false
set_option linter.all false
set_option autoImplicit false
set_option maxRecDepth 100000
set_option maxHeartbeats 1000000
namespace TW
open PySem PySem.Spec PyProof.Rows L2
variable {g : G} {T : Tx} {B B' H H' : Hp} {σ : L2.St} {s : S} {W : WX} {α β γ δ : Type} {P : PP α β}
variable {X : Cx} {e a b c tg iter elt : Expr} {es : List Expr} {pos : Pos}

/-! ## what is never reached -/
theorem js_never {st : Stmt} : JS X g T W st (fun _ => .bad) := ⟨fun pins s σ H D I ⟨B, s', R, p⟩ => p.elim⟩
theorem jss_never {st : List Stmt} : JSs X g T W st (fun _ => .bad) := ⟨fun pins s σ H D I ⟨B, s', R, p⟩ => p.elim⟩
theorem je_never : JE X g T W e (fun _ => .bad) := fun τ t => ⟨fun pins s σ H Q I ⟨B, s', R, p⟩ => p.elim⟩

/-! ## errors of own classes whose __init__ stores its parameters -/
/-- __init__ of an error: one field -/
def spI1 (C : Addr) (f : Str) : Sp := fun vs H Q _ => ∃ (a : Addr) (u : V), vs = [.ref a, u] ∧ H a = some (exo a C none) ∧ ∀ dx, H dx = none → dx ≠ a → Q .non (upd (upd H dx (exd dx [(f, u)])) a (exo a C (some dx)))
theorem upd_del {H : Hp} {a d : Addr} {x y z : HO} (ha : H a = none) (h : d ≠ a) : upd (del (upd (upd H d x) a y) a) d z = upd H d z := by
  funext b
  by_cases hb : b = d
  · subst hb; rw [upd_same, upd_same]
  · rw [upd_ne hb, upd_ne hb]
    by_cases hc : b = a
    · subst hc; rw [del_same, ha]
    · rw [del_ne hc, upd_ne hc, upd_ne hb]
theorem upd_upd {H : Hp} {a : Addr} {x y : HO} : upd (upd H a x) a y = upd H a y := by
  funext b
  by_cases hb : b = a
  · subst hb; rw [upd_same, upd_same]
  · rw [upd_ne hb, upd_ne hb, upd_ne hb]
def mraise (c n : Nat) (fa : M (List Opd)) : MS := ms fa fun os => ms (strongs os) fun ds s => if ds.length = n then .ex c ds s else .bad
theorem js_raise1 {x f : Str} {ci fI : Nat → Addr} {C fi : Addr} {k cc : Nat} {fd : FuncData} {ps : List Str} {p p2 : Pos} {fa : M (List Opd)} (hc : X.calm = true) (tk : Takes X W) (T' : OexC X.K C) (hC : C = g.cn cc) (hn : g.names cc = [f]) (iC : PySem.W.findIn X.K (.ref C) "__init__" = some (some (.ref fi)))
    (tI : PySem.W.typeIn X.K (.ref fi) = some (.type "function")) (F1 : FnOk X.prog X.w X.K X.mg X.base CX0 k fi fd ps (spI1 C f)) (hb : Binds X.K fd ps []) (hr : Room (k + 1) X.A) (hg : Gl X x) (hm : X.mg x = some (.ref C)) (ha : JA X g T W (e :: es) fa)
    (hdb : (x == ("__debug__" : Str)) = false := by decide) (he : starEach (e :: es) X.env = (false, eval e X.env) :: starEach es X.env := by rfl) (hpl : (backTo pos (starEach es X.env)).any (·.1) = false := by rfl) :
    JS X g T W (.Raise (some (.Call (.Name x p) (e :: es) [] pos)) none p2) (mraise cc 1 fa) :=
  PS.imp (ps_raise hc tk (pmk_oex T' iC tI F1 hr hb .nil pass0 hg hm (ha T.τ T.t) hdb he hpl)) fun D σ H ⟨B, s, R, p⟩ => (PostS.bind (P := PAs g) R p).mono fun vs H1 ⟨os, B1, s1, R1, e1, q1, p1⟩ => by
    subst hC
    rcases strongs_ex (os := os) (s := s1) with ⟨ds, w⟩ | w
    · rw [ms_ok w] at p1
      obtain ⟨_, hd⟩ := strongs_ok R1 q1 w
      by_cases hl : ds.length = 1
      · rw [if_pos hl] at p1
        match ds, hd, hl, p1 with
        | [d], ⟨u, r, hr1, h1, h2⟩, _, p1 =>
          subst hr1
          cases h2
          refine ⟨by show 1 ≤ 1000; decide, fun a na => ⟨a, u, rfl, upd_same, fun dx ndx ne => ⟨rfl, dx, [(f, u)], upd_same, ?_, ?_, ?_⟩⟩⟩
          · rw [upd_ne ne, upd_same]
          · rw [upd_ne ne] at ndx; exact ndx
          · rw [upd_ne ne] at ndx
            have eh : upd (del (upd (upd (upd H1 a (exo a (g.cn cc) none)) dx (exd dx [(f, u)])) a (exo a (g.cn cc) (some dx))) a) dx (.xd [(f, u)]) = upd H1 dx (.xd [(f, u)]) := by
              funext b
              by_cases hb : b = dx
              · subst hb; rw [upd_same, upd_same]
              · rw [upd_ne hb, upd_ne hb]
                by_cases hc : b = a
                · subst hc; rw [del_same, na]
                · rw [del_ne hc, upd_ne hc, upd_ne hb, upd_ne hc]
            rw [eh]
            have nb : B1 dx = none := Evl.fresh_back R1.bh ndx
            refine p1 (some dx) σ _ _ (R1.new ndx) (Evl.Ex.new nb) (.inr ⟨dx, [(f, u)], [u], rfl, upd_same, Dens.cons (h1.mono (Evl.Ex.new nb)) Dens.nil, fun j f' v hf hv => ?_⟩)
            rw [hn] at hf
            match j, hf, hv with
            | 0, hf, hv => cases hf; cases hv; simp [List.lookup]
            | j + 1, hf, hv => simp at hf
      · rw [if_neg hl] at p1; exact p1.elim
    · rw [ms_bad w] at p1; exact p1.elim
/-! ## try -/
theorem PSs.ex {ι : Type} {st : List Stmt} {t : ι → TS} (h : ∀ i, PSs X st (t i)) : PSs X st (fun D σ H => ∃ i, t i D σ H) := ⟨fun pins s σ H D I ⟨i, q⟩ => (h i).run pins s σ H D I q⟩
def clrS (k : Nat) (s : S) : Option S := match s[k]? with
  | some x => if x.own = true then none else some (s.set k .no)
  | none => none
def clr (k : Nat) : OutS → OutS
  | .nx s => (match clrS k s with | some s' => .nx s' | none => .bad)
  | .bk s => (match clrS k s with | some s' => .bk s' | none => .bad)
  | .ct s => (match clrS k s with | some s' => .ct s' | none => .bad)
  | o => o
def mtry (catches : Nat → Option Bool) (k : Nat) (fb : MS) (fs : Addr → Option Addr → Nat → List D → MS) : MS := fun s => match fb s with
  | .ex c ds s1 => (match catches c with
    | some true => if k < s1.length then clr k (fs 0 none c ds (s1.set k (.v (.exc 0 none c ds)))) else .bad
    | some false => .ex c ds s1
    | none => .bad)
  | o => o
theorem Rel.clear {k : Nat} {s' : S} (R : Rel g T B H σ s) (h : clrS k s = some s') : Rel g T B H (σ.set k none) s' := by
  unfold clrS at h
  cases hk : s[k]? with
  | none => rw [hk] at h; cases h
  | some x =>
    rw [hk] at h
    dsimp only at h
    by_cases ho : x.own = true
    · rw [if_pos ho] at h; cases h
    · rw [if_neg ho] at h; cases h
      have w := R.wipe (vs := [k]) fun i y hi hy => by
        have : i = k := by simpa using hi
        subst this
        rw [hk] at hy; cases hy
        simpa using ho
      have e1 : L2.wipe σ [k] = σ.set k none := by
        apply List.ext_getElem?
        intro i
        rw [wipe_get, List.getElem?_set]
        by_cases hi : i = k
        · subst hi
          rw [if_pos (by simp), if_pos rfl]
          by_cases hl : i < σ.length
          · rw [if_pos hl, List.getElem?_eq_getElem hl]; rfl
          · rw [if_neg hl, List.getElem?_eq_none (by omega)]; rfl
        · rw [if_neg (by simpa using hi), if_neg (fun z => hi z.symm)]
      have e2 : wipeS s [k] = s.set k .no := by
        apply List.ext_getElem?
        intro i
        rw [wipeS_get, List.getElem?_set]
        by_cases hi : i = k
        · subst hi
          rw [if_pos (by simp), if_pos rfl]
          by_cases hl : i < s.length
          · rw [if_pos hl, List.getElem?_eq_getElem hl]; rfl
          · rw [if_neg hl, List.getElem?_eq_none (by omega)]; rfl
        · rw [if_neg (by simpa using hi), if_neg (fun z => hi z.symm)]
      rw [e1, e2] at w
      exact w
theorem post_clr {k : Nat} {o : OutS} {D : Ends} (h : PostS g T W B (clr k o) D) : PostS g T W B o { nx := fun σ' H' => D.nx (σ'.set k none) H', rt := D.rt, bk := fun σ' H' => D.bk (σ'.set k none) H', ct := fun σ' H' => D.ct (σ'.set k none) H' } := by
  cases o with
  | nx s' =>
    replace h : PostS g T W B (match clrS k s' with | some s' => OutS.nx s' | none => .bad) D := h
    cases e : clrS k s' with
    | none => rw [e] at h; exact h.elim
    | some s2 => rw [e] at h; exact fun σ' B' H' R' e' => h _ B' H' (R'.clear e) e'
  | bk s' =>
    replace h : PostS g T W B (match clrS k s' with | some s' => OutS.bk s' | none => .bad) D := h
    cases e : clrS k s' with
    | none => rw [e] at h; exact h.elim
    | some s2 => rw [e] at h; exact fun σ' B' H' R' e' => h _ B' H' (R'.clear e) e'
  | ct s' =>
    replace h : PostS g T W B (match clrS k s' with | some s' => OutS.ct s' | none => .bad) D := h
    cases e : clrS k s' with
    | none => rw [e] at h; exact h.elim
    | some s2 => rw [e] at h; exact fun σ' B' H' R' e' => h _ B' H' (R'.clear e) e'
  | rt r s' => exact h
  | ex c ds s' => exact h
  | bad => exact h
theorem js_tryAs {x n : Str} {cv : Value} {k : Nat} {body suite : List Stmt} {b₀ : Stmt} {np pos' : Pos} {catches : Nat → Option Bool} {fb : MS} {fs : Addr → Option Addr → Nat → List D → MS} (hs : X.stack = X.env :: X.outer) (hf : X.env.frame = some X.env.locals) (hN : X.N.Nodup) (hi : X.N[k]? = some n) (hln : X.env.kindOf n = some .local)
    (hc : Names X x cv) (tk : Takes X W) (hio : T.io k = none) (hcat : ∀ c b, catches c = some b → PySem.W.exmOne X.K (.ref (g.cn c)) cv = some b) (hsame : ∀ (a : Addr) (x : Option Addr) (c : Nat) (ds : List D) (s1 : S), clr k (fs a x c ds (s1.set k (.v (.exc a x c ds)))) = clr k (fs 0 none c ds (s1.set k (.v (.exc 0 none c ds)))))
    (hb : ∀ (W : WX) (pn : List (Addr × Obj)) (xe : Value → Shared → Prop), Takes (X.tr pn xe) W → PassesOwn (model X.prog X.w) X.A X.env xe → JSs (X.tr pn xe) g T W body fb)
    (hsu : ∀ (a : Addr) (oe : Obj) (c : Nat) (ds : List D) (d : Option Addr) (pn : List (Addr × Obj)), Zc (.ref (g.cn c)) d oe → (∃ vs, oe.data = .fields vs) → JSs (X.suite a ((a, oe) :: pn)) g T W (b₀ :: suite) (fs a d c ds)) :
    JS X g T W (.Try body [.ExceptHandler (some (.Name x np)) (some n) (b₀ :: suite) pos'] [] [] pos) (mtry catches k fb fs) := by
  refine PS.imp (ps_try_as (i := k) (tb := fun W => RdS g T W fb) (ts := fun a cls d => fun D σ H => ∃ q : {q : Nat × List TW.D // cls = .ref (g.cn q.1)}, RdS g T W (fs a d q.1.1 q.1.2) D σ H) (Wout := W) hs hf hN hi hln hc tk (fun W pn xe tk po => hb W pn xe tk po) (fun a oe cls d pn hz hfl => PSs.ex fun q => ?_)) fun D σ H ⟨B, s, R, p⟩ => ⟨B, s, R, ?_⟩
  · have hq := q.2
    exact hsu a oe q.1.1 q.1.2 d pn (hq ▸ hz) hfl
  · unfold mtry at p
    cases ef : fb s with
    | nx s' => rw [ef] at p; exact p
    | bk s' => rw [ef] at p; exact p
    | ct s' => rw [ef] at p; exact p
    | rt r s' => rw [ef] at p; exact p
    | bad => rw [ef] at p; exact p
    | ex c ds s1 =>
      rw [ef] at p
      intro x σ' B' H' R' e' hx
      cases ec : catches c with
      | none => have p' := p; dsimp only at p'; rw [ec] at p'; exact p'.elim
      | some b =>
        refine ⟨b, hcat c b ec, fun hb' a na => ?_, fun hb' => ?_⟩
        · subst hb'
          have p' := p; dsimp only at p'; rw [ec] at p'
          dsimp only at p'
          by_cases hk : k < s1.length
          · rw [if_pos hk] at p'
            rw [← hsame a x c ds s1] at p'
            refine ⟨⟨(c, ds), rfl⟩, B', _, R'.storev hk hio (show Den g B' (.exc a x c ds) (.ref a) from ⟨rfl, hx⟩), ?_⟩
            exact post_clr (PostS.base e' p')
          · rw [if_neg hk] at p'; exact p'.elim
        · subst hb'
          have p' := p; dsimp only at p'; rw [ec] at p'
          exact p' x σ' B' H' R' e' hx
/-- err.f in the suite -/
def mxf (k cc j : Nat) (a : Addr) (x : Option Addr) : M D := fun s => match s[k]? with
  | some (.v (.exc a' x' c' ds)) => if a' = a ∧ x' = x ∧ c' = cc then (match ds[j]? with | some d => .ok d s | none => .bad) else .bad
  | _ => .bad
theorem je_xf {k cc j : Nat} {a : Addr} {c : Nat} {oe : Obj} {d : Option Addr} {pn : List (Addr × Obj)} {f : Str} (hXf : XfC X.K (g.cn cc)) (hno : PySem.W.findIn X.K (.ref (g.cn cc)) f = some none) (hj : (g.names cc)[j]? = some f) (hz : Zc (.ref (g.cn c)) d oe) (hf : ∃ vs, oe.data = .fields vs)
    (hcc : c = cc) (he : PE (X.suite a ((a, oe) :: pn)) e (tVar k)) (hb : attributeBase e f X.env (eval e X.env) = eval e X.env := by rfl) :
    JE (X.suite a ((a, oe) :: pn)) g T W (.Attribute e f pos) (mxf k cc j a d) := fun τ t => by
  subst hcc
  refine PE.imp (pe_xf hXf hno hz hf he hb) fun σ H Q ⟨B, s, R, p⟩ => ?_
  unfold mxf at p
  cases hk : s[k]? with
  | none => rw [hk] at p; exact p.elim
  | some y =>
    rw [hk] at p
    cases y with
    | v dd =>
      cases dd with
      | exc a' x' c' ds =>
        dsimp only at p
        by_cases hq : a' = a ∧ x' = d ∧ c' = c
        · rw [if_pos hq] at p
          obtain ⟨rfl, rfl, rfl⟩ := hq
          obtain ⟨v, hv, q⟩ := R.getv hk
          obtain ⟨rfl, q⟩ := q
          cases hd : ds[j]? with
          | none => rw [hd] at p; exact p.elim
          | some d0 =>
            rw [hd] at p
            rcases q with q | ⟨dx, fs, vs, h1, h2, h3, h4⟩
            · subst q; cases hd
            · obtain ⟨w, hw, hdw⟩ := h3.get hd
              exact ⟨.ref a', hv, rfl, rfl, dx, fs, w, h1, R.bh _ _ h2, h4 j f w hj hw, p w B H R (Evl.Ex.refl _) hdw⟩
        · rw [if_neg hq] at p; exact p.elim
      | _ => exact p.elim
    | _ => exact p.elim
end TW

set_option Elab.async false
set_option linter.all false
set_option autoImplicit false
set_option maxRecDepth 100000
set_option maxHeartbeats 1000000
namespace TW
open PySem PySem.Spec PyProof.Rows L2
variable {g : G} {T : Tx} {B B' H H' : Hp} {σ : L2.St} {s : S} {W : WX} {α β γ δ : Type} {P : PP α β}
variable {X : Cx} {e a b c tg iter elt : Expr} {es : List Expr} {pos : Pos}

/-! ## what may be called -/
/-- the def named x keeps f -/
structure Cl (P : Program) (w : World) (g : G) (base : Heap) (k : Nat) (x : Str) (ps : List Str) (f : Fd) : Prop where
  ex : ∃ (a : Addr) (fd : FuncData), FnOk P w g.K g.mg base (L2.CX P w) k a fd ps (spD g f) ∧ g.mg x = some (.ref a) ∧ PySem.W.keepIn g.K (.ref a) = true ∧ Binds g.K fd ps [] ∧ ∀ (us : List Value), us.length = ps.length → ∀ s : Shared, BindsTo s fd ⟨[], ps.zip us⟩ (ps.zip us)
theorem jr_callC {k j : Nat} {x : Str} {ps : List Str} {f : Fd} {fa : M (List Opd)} {p : Pos} (c : Cl X.prog X.w g X.base k x ps f) (hr : Room j X.A) (hk : k ≤ j) (hK : X.K = g.K) (hmg : X.mg = g.mg) (hg : Gl X x) (tk : Takes X W) (ha : JA X g T W (e :: es) fa)
    (hdb : (x == ("__debug__" : Str)) = false := by decide) (he : starEach (e :: es) X.env = (false, eval e X.env) :: starEach es X.env := by rfl) (hpl : (backTo pos (starEach es X.env)).any (·.1) = false := by rfl) :
    JR X g T W (.Call (.Name x p) (e :: es) [] pos) (mcall f [] fa) := by
  obtain ⟨a, fd, F, hm, kp, b, _⟩ := c
  rw [← hK, ← hmg] at F
  rw [← hmg] at hm
  rw [← hK] at kp b
  exact jr_call (fun ta h => pe_callSD F (hr.mono hk) hg hm kp b .nil (fun σ => passAt tk σ) h hdb he hpl) (fun _ => rfl) ha
/-! ### by keywords, all of them, in the parameters' order -/
def JK (X : Cx) (g : G) (T : Tx) (W : WX) (kws : List Keyword) (f : M (List Opd)) : Prop := ∀ τ t, PK X kws (RdM g (T.tmp τ t) W (PAs g) f)
theorem PK.imp {kws : List Keyword} {t t' : TA} (h : PK X kws t) (hi : ∀ σ H Q, t' σ H Q → t σ H Q) : PK X kws t' := ⟨fun pos pins s σ H Q I q => h.run pos pins s σ H Q I (hi _ _ _ q)⟩
theorem jk_nil : JK X g T W [] (mret []) := fun τ t => PK.imp pk_nil fun σ H Q ⟨B, s, R, p⟩ => p [] B H R (Evl.Ex.refl _) .nil
theorem jk_cons {nm : Option Str} {kpos : Pos} {kws : List Keyword} {fa : M Opd} {fr : M (List Opd)} (ha : JO X g T W e fa) (hr : JK X g T W kws fr) : JK X g T W (⟨nm, e, kpos⟩ :: kws) (mcons fa fr) :=
  fun τ t => PK.imp (pk_cons (ha τ t) (hr τ t)) fun σ H Q ⟨B, s, R, p⟩ => (PostM.bind (P := PO' g) R p).mono fun x H1 ⟨o, B1, s1, R1, e1, q1, p1⟩ =>
    (PostM.bind (P := PAs g) R1 p1).mono fun xs H2 ⟨os, B2, s2, R2, e2, q2, p2⟩ => p2 (x :: xs) B2 H2 R2 (Evl.Ex.refl _) (.cons (q1.mono e2) q2)
theorem pe_callK0 {CX : CXT} {k : Nat} {f : Addr} {fd : FuncData} {ps : List Str} {sp : Sp} {E : L2.St → XK} {x : Str} {p : Pos} {kws : List Keyword} {t : TA} (F : FnOk X.prog X.w X.K X.mg X.base CX k f fd ps sp) (hr : Room k X.A) (hg : Gl X x) (hm : X.mg x = some (.ref f)) (hk : PySem.W.keepIn X.K (.ref f) = true)
    (hb : ∀ (us : List Value), us.length = ps.length → ∀ s : Shared, BindsTo s fd ⟨[], ps.zip us⟩ (ps.zip us)) (hx : ∀ σ, PassesAt CX X σ (E σ)) (hkw : PK X kws t) (hall : (backToKw pos (keywordEach kws X.env)).all (·.1.isSome) = true := by rfl) (hks : (backToKw pos (keywordEach kws X.env)).filterMap (·.1) = ps := by rfl)
    (hdb : (x == ("__debug__" : Str)) = false := by decide) (hpl : ((backTo pos (starEach [] X.env)).any (·.1) || (backToKw pos (keywordEach kws X.env)).any (·.1.isNone)) = false := by rfl) :
    PE X (.Call (.Name x p) [] kws pos) (tCallSD sp [] E t) := by
  refine ⟨fun pins s σ H Q I h => ?_⟩
  refine wpAny_Call_Name_kw (ld_glob I hg hm ?_ hdb)
  refine PySem.W.callWith_KW0 (h₀ := X.base) I.ok.mod.kin hk hall ?_ hpl
  refine thn (hkw.run pos pins s σ H _ I h) fun ws s2 ⟨zs, H2, I2, rz, q2⟩ => ⟨I2.kIn, ?_⟩
  rw [hks]
  have q2 : sp zs H2 Q (E σ) := by have z : sp (zs ++ []) H2 Q (E σ) := q2; rwa [List.append_nil] at z
  have hl : ws.length = ps.length := by rw [← rz.length]; exact F.len _ _ _ _ q2
  refine wpAny_call (codeAny_mono (F.run X.A X.stack s2 H2 ⟨[], ps.zip ws⟩ ws zs Q (E σ) hr I2.env0 (hb ws hl s2) rz q2) fun r s' hq => ?_)
  cases r with
  | error e => exact hx σ pins H2 s2 e s' I2 hq
  | ok fl =>
    cases fl with
    | ret u => exact I2.after hq
    | next => exact False.elim hq
    | brk => exact False.elim hq
    | cont => exact False.elim hq
theorem jr_callK {k j : Nat} {x : Str} {ps : List Str} {f : Fd} {fa : M (List Opd)} {p : Pos} {kws : List Keyword} (c : Cl X.prog X.w g X.base k x ps f) (hr : Room j X.A) (hk : k ≤ j) (hK : X.K = g.K) (hmg : X.mg = g.mg) (hg : Gl X x) (tk : Takes X W) (ha : JK X g T W kws fa)
    (hall : (backToKw pos (keywordEach kws X.env)).all (·.1.isSome) = true := by rfl) (hks : (backToKw pos (keywordEach kws X.env)).filterMap (·.1) = ps := by rfl)
    (hdb : (x == ("__debug__" : Str)) = false := by decide) (hpl : ((backTo pos (starEach [] X.env)).any (·.1) || (backToKw pos (keywordEach kws X.env)).any (·.1.isNone)) = false := by rfl) :
    JR X g T W (.Call (.Name x p) [] kws pos) (mcall f [] fa) := by
  obtain ⟨a, fd, F, hm, kp, _, b⟩ := c
  rw [← hK, ← hmg] at F
  rw [← hmg] at hm
  rw [← hK] at kp
  have key : ∀ ta, PK X kws ta → PE X (.Call (.Name x p) [] kws pos) (tCallSD (spD g f) [] (WE W) ta) := fun ta h => pe_callK0 F (hr.mono hk) hg hm kp b (fun σ => passAt tk σ) h hall hks hdb hpl
  -- jr_call's reading, the arguments by keywords
  exact fun τ t => PE.imp (key _ (ha τ t)) fun σ H Q ⟨B, s, R, p⟩ => (PostM.bind (P := PAs g) R p).mono fun vs H1 ⟨os, B1, s1, R1, e1, q, p1⟩ => by
    by_cases hd : dupFree s1 os = true
    · rw [if_pos hd] at p1
      cases ea : argsOf s1 os with
      | none => rw [ea] at p1; exact p1.elim
      | some as =>
        rw [ea] at p1
        dsimp only at p1
        refine ⟨B1, as ++ ([] : List D).map .v, R1.bh, args_ok (dds := []) R1 q hd ea (rfl : Dens g B1 [] []), ?_⟩
        cases ef : f (as ++ ([] : List D).map .v) with
        | bad => rw [ef] at p1; exact p1.elim
        | ret r post =>
          rw [ef] at p1
          intro v B' H' A hr
          have R' := R1.called q hd ea (dds := []) (rfl : Dens g B1 [] []) A
          refine p1 v B' H' R' A.eB (RetOk.rv (vs := vs) (as := as) R1 R' hr fun i x p h1 h2 h3 hn => ?_)
          obtain ⟨x0, k1, k2⟩ := putBack_own h1 h2
          obtain ⟨_, o, ho⟩ := R1.r.ownH k1 k2 h3
          rw [ho] at hn; cases hn
        | ex c ds post =>
          rw [ef] at p1
          intro x B' H' A hx
          exact p1 x B' H' (R1.called q hd ea (dds := []) (rfl : Dens g B1 [] []) A) A.eB hx
    · rw [if_neg hd] at p1; exact p1.elim
/-! ### classes -/
structure Cm (P : Program) (w : World) (g : G) (base : Heap) (k : Nat) (x : Str) (c : Nat) (ps : List Str) (f : Fd) : Prop where
  ex : ∃ (a : Addr) (fd : FuncData), Mk g.K (g.cn c) a ∧ FnOk P w g.K g.mg base (L2.CX P w) k a fd ps (spD g f) ∧ g.mg x = some (.ref (g.cn c)) ∧ Binds g.K fd ps []
theorem jr_makeC {k j c : Nat} {x : Str} {ps : List Str} {f : Fd} {fa : M (List Opd)} {p : Pos} (cm : Cm X.prog X.w g X.base k x c ps f) (hr : Room j X.A) (hk : k + 1 ≤ j) (hK : X.K = g.K) (hmg : X.mg = g.mg) (hg : Gl X x) (tk : Takes X W) (ha : JA X g T W (e :: es) fa)
    (hdb : (x == ("__debug__" : Str)) = false := by decide) (he : starEach (e :: es) X.env = (false, eval e X.env) :: starEach es X.env := by rfl) (hpl : (backTo pos (starEach es X.env)).any (·.1) = false := by rfl) :
    JR X g T W (.Call (.Name x p) (e :: es) [] pos) (mmake c f [] fa) := by
  obtain ⟨a, fd, M, F, hm, b⟩ := cm
  rw [← hK, ← hmg] at F
  rw [← hmg] at hm
  rw [← hK] at b M
  exact jr_make (fun ta h => pe_makeS M F (hr.mono hk) hg hm b .nil (fun σ => passAt tk σ) h hdb he hpl) (fun _ => rfl) ha
/-! ### max(xs, default=d) -/
def rMaxDef (K : PySem.W.Frag) : List V → List V → Hp → VK → Prop := fun xs zs H Q => ∃ (a : Addr) (ns : List Int) (d : V), xs = [.ref a] ∧ zs = [d] ∧ SqL K H a (ns.map V.int) ∧ (ns = [] → Q d H) ∧ ∀ n ns', ns = n :: ns' → Q (.int (PySem.W.maxOf n ns')) H
theorem hold_ints {h : Heap} : ∀ {ns : List Int} {us : List Value}, Vals (ns.map V.int) us → PySem.W.HoldAll h us ns
  | [], us, r => by cases r; exact PySem.W.HoldAll.nil
  | n :: ns, us, r => by
    rw [List.map_cons] at r
    cases r with
    | cons r t =>
      obtain ⟨tk, rfl⟩ := r
      exact PySem.W.HoldAll.cons (PySem.W.holds_int n tk) (hold_ints t)
theorem cr_maxDef (hc : X.calm = true) (hu : X.A.units + 64 < cLine) : CallRK X (.builtin "max") [Str.ofString "default"] (rMaxDef X.K) := by
  intro pins s σ H xs zs us ws Q I r rz h
  obtain ⟨a, ns, d, rfl, rfl, hs, h0, h1⟩ := h
  obtain ⟨u2, rfl, ru⟩ := rz.one
  obtain ⟨its, rv, hl, _⟩ := I.list hs
  rw [Vals.ref1 r]
  refine PySem.W.max_list_datum_default (α := Int) (I.ok.hd hc) hl.isList (by simpa using hold_ints rv) (by show X.A.units + 1 + 0 < cLine; omega) (fun e h' tk k => ?_) (fun y ys i v h' tk e hi hv k => ?_)
  · exact ⟨d, H, I.kept k, ru, h0 e⟩
  · obtain ⟨t, rfl⟩ := PySem.W.int_of_holds hv
    exact ⟨.int _, H, I.kept k, ⟨_, rfl⟩, h1 y ys e⟩
def maxDef (x : D) (d : D) : Option D := match x with
  | .lst ds => (intsD ds).map fun ns => match ns with
    | [] => d
    | n :: ns' => .int (PySem.W.maxOf n ns')
  | _ => none
def mmaxd (fa : M Opd) (fd : M D) : M D := mbind fa fun o => mbind fd fun d => mbind (res o) fun x => mopt (maxDef x d)
theorem je_maxd {fa : M Opd} {fd : M D} {dv : Expr} {p kpos : Pos} (hc : X.calm = true) (hu : X.A.units + 64 < cLine) (hg : Gl X "max") (hm : X.mg "max" = none) (ha : JO X g T W e fa) (hd : JE X g T W dv fd)
    (hs : starEach [e] X.env = (false, eval e X.env) :: starEach [] X.env := by rfl) (he : backTo pos (starEach [e] X.env) = (false, eval e X.env) :: backTo pos (starEach [] X.env) := by rfl) (hpl : (backTo pos (starEach [e] X.env)).any (·.1) = false := by rfl)
    (hall : (backToKw pos (keywordEach [⟨some (Str.ofString "default"), dv, kpos⟩] X.env)).all (·.1.isSome) = true := by rfl) (hnone : (backToKw pos (keywordEach [⟨some (Str.ofString "default"), dv, kpos⟩] X.env)).any (·.1.isNone) = false := by rfl) (hks : (backToKw pos (keywordEach [⟨some (Str.ofString "default"), dv, kpos⟩] X.env)).filterMap (·.1) = [Str.ofString "default"] := by rfl) :
    JE X g T W (.Call (.Name "max" p) [e] [⟨some (Str.ofString "default"), dv, kpos⟩] pos) (mmaxd fa fd) :=
  fun τ t => PE.imp (pe_callBK (cr_maxDef hc hu) hg hm rfl (pa_cons (ha τ t) pa_nil hs) (pk_cons (hd τ t) pk_nil) (by decide) (by decide) he hpl hall hnone hks) fun σ H Q ⟨B, s, R, p⟩ => (PostM.bind (P := PO' g) R p).mono fun x H1 ⟨o, B1, s1, R1, e1, q1, p1⟩ =>
    (PostM.bind (P := PD g) R1 p1).mono fun y H2 ⟨d, B2, s2, R2, e2, q2, p2⟩ => by
      rcases res_cases (o := o) (s := s2) with ⟨dx, w⟩ | w
      · rw [mbind_ok w] at p2
        have hx := (res_ok R2 (q1.mono e2) w).2
        cases dx with
        | lst ds =>
          obtain ⟨a, vs, rfl, k1, k2⟩ := hx
          unfold maxDef at p2
          cases ei : intsD ds with
          | none => dsimp only at p2; rw [ei] at p2; exact p2.elim
          | some ns =>
            dsimp only at p2
            rw [ei] at p2
            have ev := ints_den k2 ei
            subst ev
            refine ⟨a, ns, y, rfl, rfl, .inl (.inl k1), fun e0 => ?_, fun n ns' e0 => ?_⟩
            · subst e0; exact p2 y B2 H2 R2 (Evl.Ex.refl _) q2
            · subst e0; exact p2 _ B2 H2 R2 (Evl.Ex.refl _) rfl
        | _ => exact p2.elim
      · exfalso
        have z : mbind (res o) (fun x => mopt (maxDef x d)) s2 = .bad := by unfold mbind; rw [w]
        rw [z] at p2; exact p2
theorem hu64 {k : Nat} {A : Around} (h : Room k A) : A.units + 64 < cLine := by have := h.un; omega
end TW

set_option Elab.async false
set_option linter.all false
set_option autoImplicit false
set_option maxRecDepth 100000
set_option maxHeartbeats 4000000
namespace K30
open PySem PySem.Spec PyProof.Rows L2 TW
def top (i : Nat) : Stmt := PySem.Challenge.pw_thincoins_k30_above_from_some_m_on.main.body.getD i (.Pass ⟨0, 0, 0, 0⟩)
theorem try_same {i k : Nat} {a : Addr} {x : Option Addr} {c : Nat} {ds : List D} {s1 : S} (h : i ≠ k) :
    clr i ((if c = 101 then (ms (mbind (mxf i 101 0 a x) fun d => mret (Rv.v d)) fun r => stSet k (Rv.sl r)) else fun _ => OutS.bad) (s1.set i (.v (.exc a x c ds)))) =
    clr i ((if c = 101 then (ms (mbind (mxf i 101 0 0 none) fun d => mret (Rv.v d)) fun r => stSet k (Rv.sl r)) else fun _ => OutS.bad) (s1.set i (.v (.exc 0 none c ds)))) := by
  by_cases hc : c = 101
  · subst hc
    rw [if_pos rfl, if_pos rfl]
    by_cases hi : i < s1.length
    · have e1 : ∀ a x, (s1.set i (.v (.exc a x 101 ds)))[i]? = some (.v (.exc a x 101 ds)) := fun a x => by simp [hi]
      unfold ms mbind mxf
      rw [e1, e1]
      dsimp only
      rw [if_pos ⟨rfl, rfl, rfl⟩, if_pos ⟨rfl, rfl, rfl⟩]
      cases hd : ds[0]? with
      | none => rfl
      | some d =>
        dsimp only [mret, stSet]
        rw [List.length_set, List.length_set]
        by_cases hk : k < s1.length
        · rw [if_pos hk, if_pos hk]
          show (match clrS i _ with | some s' => OutS.nx s' | none => .bad) = (match clrS i _ with | some s' => OutS.nx s' | none => .bad)
          have e2 : ∀ a x, ((s1.set i (.v (.exc a x 101 ds))).set k (Rv.v d).sl)[i]? = some (.v (.exc a x 101 ds)) := fun a x => by
            rw [List.getElem?_set_ne (Ne.symm h)]; exact e1 a x
          unfold clrS
          rw [e2, e2]
          dsimp only
          rw [if_neg (show ¬ (Sl.v (D.exc a x 101 ds)).own = true from Bool.false_ne_true), if_neg (show ¬ (Sl.v (D.exc 0 none 101 ds)).own = true from Bool.false_ne_true)]
          dsimp only
          rw [List.set_comm _ _ h, List.set_comm _ _ h, List.set_set, List.set_set]
        · rw [if_neg hk, if_neg hk]
    · have e1 : ∀ y, s1.set i y = s1 := fun y => List.set_eq_of_length_le (by omega)
      rw [e1, e1]
      have e2 : s1[i]? = none := List.getElem?_eq_none (by omega)
      unfold ms mbind mxf
      rw [e2]
  · rw [if_neg hc, if_neg hc]
def nm : Nat → List Str
  | 0 => ["numbers", "degree"]
  | 101 => ["part"]
  | _ => []
section
abbrev s_is_integer : Stmt := top 7
abbrev N_is_integer : List Str := ["value"]
abbrev p_is_integer : List Str := ["value"]
def b_is_integer (fu : Nat) : MS :=
    (ms (mbind (mandV (mun (isiD isiInt) (mvar 0)) (mnotV (mun (isiD isiBl) (mvar 0)))) fun d => mret (Rv.v d)) fun r s => OutS.rt r s)
def d_is_integer (fu : Nat) : Fd := fnD 1 1 (b_is_integer fu)

abbrev s_are_integers : Stmt := top 9
abbrev N_are_integers : List Str := ["value", "each"]
abbrev p_are_integers : List Str := ["value"]
def ci_are_integers_1 (fu : Nat) : M (List D) :=
    (mwalk (mbind (mvar 0) strong))
def ct_are_integers_1 (fu : Nat) : M Bool :=
    (mret true)
def ce_are_integers_1 (fu : Nat) : M D :=
    (mbind (mcall (d_is_integer fu) [] (mcons (mvar 1) (mret []))) fun r => mret (Rv.d r))
def c_are_integers_1 (fu : Nat) : M Rv :=
    mlc [1] (ci_are_integers_1 fu) (tgName 1) (ct_are_integers_1 fu) (ce_are_integers_1 fu)
def b_are_integers (fu : Nat) : MS :=
    (ms (mbind (mandV (mun (isiD (or2 isiLst isiTup)) (mvar 0)) (mbind (mcb (on1 (onBls fun bs => bs.all id)) (mcons (mbind (mbind (c_are_integers_1 fu) fun r => mret (Rv.d r)) fun d => mret (Opd.d d)) (mret []))) fun r => mret (Rv.d r))) fun d => mret (Rv.v d)) fun r s => OutS.rt r s)
def d_are_integers (fu : Nat) : Fd := fnD 2 1 (b_are_integers fu)

abbrev s_need_polynomial : Stmt := top 14
abbrev N_need_polynomial : List Str := ["value", "part"]
abbrev p_need_polynomial : List Str := ["value", "part"]
def b_need_polynomial (fu : Nat) : MS :=
    (mcond (mbind (mbind (mbind (mun (isiD (isiObj 0)) (mvar 0)) fun d => mret (Opd.d d)) fun o => mbind (res o) fun d => mopt (truD d)) fun b => mret (!b)) (mraise 101 1 (mcons (mvar 1) (mret []))) (fun s => OutS.nx s))
def d_need_polynomial (fu : Nat) : Fd := fnD 2 2 (b_need_polynomial fu)

abbrev s_trimmed : Stmt := top 15
abbrev N_trimmed : List Str := ["numbers", "found"]
abbrev p_trimmed : List Str := ["numbers"]
def lt_trimmed_1 (fu : Nat) : M Bool :=
    (mif (mbind (mbin dNe (mvar 1) (mbind (mbind (mlst (mret [])) fun r => mret (Rv.d r)) fun d => mret (Opd.d d))) tob) (mbind (mbin dEq (mbind (mbin dIx (mvar 1) (mbind (mun dNeg (mbind (mret (D.int 1)) fun d => mret (Opd.d d))) fun d => mret (Opd.d d))) fun d => mret (Opd.d d)) (mbind (mret (D.int 0)) fun d => mret (Opd.d d))) tob) (mret false))
def lb_trimmed_1 (fu : Nat) : MS :=
    (ms (mpop 1) fun _ s => OutS.nx s)
def l_trimmed_1 (fu : Nat) : MS :=
    whileD (lt_trimmed_1 fu) (lb_trimmed_1 fu) fu
def b_trimmed (fu : Nat) : MS :=
    (mseq (ms (mcb (on1 listOf) (mcons (mvar 0) (mret []))) fun r => stSet 1 (Rv.sl r))
    (mseq (l_trimmed_1 fu)
    (ms (mcb (on1 tupOf) (mcons (mvar 1) (mret []))) fun r s => OutS.rt r s)))
def d_trimmed (fu : Nat) : Fd := fnD 2 1 (b_trimmed fu)

abbrev s_shifted_by : Stmt := top 18
abbrev N_shifted_by : List Str := ["numbers", "by", "found", "low", "place"]
abbrev p_shifted_by : List Str := ["numbers", "by"]
def li_shifted_by_1 (fu : Nat) : M (List D) :=
    (mrng rng3 (mcons (mbind (mbin dSub (mbind (mbind (mcb (on1 lenD) (mcons (mvar 2) (mret []))) fun r => mret (Rv.d r)) fun d => mret (Opd.d d)) (mbind (mret (D.int 2)) fun d => mret (Opd.d d))) fun d => mret (Opd.d d)) (mcons (mbind (mbin dSub (mvar 3) (mbind (mret (D.int 1)) fun d => mret (Opd.d d))) fun d => mret (Opd.d d)) (mcons (mbind (mun dNeg (mbind (mret (D.int 1)) fun d => mret (Opd.d d))) fun d => mret (Opd.d d)) (mret [])))))
def lb_shifted_by_1 (fu : Nat) : MS :=
    (mseti 2 (mbin dAdd (mbind (mbin dIx (mvar 2) (mvar 4)) fun d => mret (Opd.d d)) (mbind (mbin dMul (mvar 1) (mbind (mbin dIx (mvar 2) (mbind (mbin dAdd (mvar 4) (mbind (mret (D.int 1)) fun d => mret (Opd.d d))) fun d => mret (Opd.d d))) fun d => mret (Opd.d d))) fun d => mret (Opd.d d))) (mbind (mvar 4) strong))
def l_shifted_by_1 (fu : Nat) : MS :=
    mfor (li_shifted_by_1 fu) (tgName 4) (lb_shifted_by_1 fu)
def li_shifted_by_2 (fu : Nat) : M (List D) :=
    (mrng rng1 (mcons (mbind (mbin dSub (mbind (mbind (mcb (on1 lenD) (mcons (mvar 2) (mret []))) fun r => mret (Rv.d r)) fun d => mret (Opd.d d)) (mbind (mret (D.int 1)) fun d => mret (Opd.d d))) fun d => mret (Opd.d d)) (mret [])))
def lb_shifted_by_2 (fu : Nat) : MS :=
    (l_shifted_by_1 fu)
def l_shifted_by_2 (fu : Nat) : MS :=
    mfor (li_shifted_by_2 fu) (tgName 3) (lb_shifted_by_2 fu)
def b_shifted_by (fu : Nat) : MS :=
    (mseq (ms (mcb (on1 listOf) (mcons (mvar 0) (mret []))) fun r => stSet 2 (Rv.sl r))
    (mseq (l_shifted_by_2 fu)
    (ms (mbind (mbind (mfrz 2) strong) fun d => mret (Rv.v d)) fun r s => OutS.rt r s)))
def d_shifted_by (fu : Nat) : Fd := fnD 5 2 (b_shifted_by fu)

abbrev s_PolynomialX_initX : Stmt := inClass (top 20) 0
abbrev N_PolynomialX_initX : List Str := ["self", "numbers"]
abbrev p_PolynomialX_initX : List Str := ["self", "numbers"]
def b_PolynomialX_initX (fu : Nat) : MS :=
    (mseq (mcond (mbind (mbind (mbind (mbind (mcall (d_are_integers fu) [] (mcons (mvar 1) (mret []))) fun r => mret (Rv.d r)) fun d => mret (Opd.d d)) fun o => mbind (res o) fun d => mopt (truD d)) fun b => mret (!b)) (mraise 101 1 (mcons (mbind (mret (D.str "numbers")) fun d => mret (Opd.d d)) (mret []))) (fun s => OutS.nx s))
    (mseq (mputf nm 0 "numbers" (mbind (mcall (d_trimmed fu) [] (mcons (mvar 1) (mret []))) fun r => mret (Rv.d r)))
    (mputf nm 0 "degree" (mbin dSub (mbind (mbind (mcb (on1 lenD) (mcons (mbind (mfld nm "numbers" (mvar 0)) fun d => mret (Opd.d d)) (mret []))) fun r => mret (Rv.d r)) fun d => mret (Opd.d d)) (mbind (mret (D.int 1)) fun d => mret (Opd.d d))))))
def d_PolynomialX_initX (fu : Nat) : Fd := fnD 2 2 (b_PolynomialX_initX fu)

abbrev s_is_above : Stmt := top 22
abbrev N_is_above : List Str := ["numbers", "m", "found"]
abbrev p_is_above : List Str := ["numbers", "m"]
def b_is_above (fu : Nat) : MS :=
    (mseq (ms (mcall (d_shifted_by fu) [] (mcons (mvar 0) (mcons (mvar 1) (mret [])))) fun r => stSet 2 (Rv.sl r))
    (ms (mbind (mandV (mbin dNe (mvar 2) (mbind (mbind (mlst (mret [])) fun r => mret (Rv.d r)) fun d => mret (Opd.d d))) (mandV (mbin dGt (mbind (mbin dIx (mvar 2) (mbind (mret (D.int 0)) fun d => mret (Opd.d d))) fun d => mret (Opd.d d)) (mbind (mret (D.int 0)) fun d => mret (Opd.d d))) (mbin dGe (mbind (mbind (mcb (on1 (onInts minL)) (mcons (mvar 2) (mret []))) fun r => mret (Rv.d r)) fun d => mret (Opd.d d)) (mbind (mret (D.int 0)) fun d => mret (Opd.d d))))) fun d => mret (Rv.v d)) fun r s => OutS.rt r s))
def d_is_above (fu : Nat) : Fd := fnD 3 2 (b_is_above fu)

abbrev s_least_above : Stmt := top 23
abbrev N_least_above : List Str := ["numbers", "low", "high", "middle"]
abbrev p_least_above : List Str := ["numbers"]
def lt_least_above_1 (fu : Nat) : M Bool :=
    (mbind (mbin dGt (mbind (mbin dSub (mvar 2) (mvar 1)) fun d => mret (Opd.d d)) (mbind (mret (D.int 1)) fun d => mret (Opd.d d))) tob)
def lb_least_above_1 (fu : Nat) : MS :=
    (mseq (ms (mbind (mbin dDiv (mbind (mbin dAdd (mvar 1) (mvar 2)) fun d => mret (Opd.d d)) (mbind (mret (D.int 2)) fun d => mret (Opd.d d))) fun d => mret (Rv.v d)) fun r => stSet 3 (Rv.sl r))
    (mcond (mbind (mbind (mbind (mcall (d_is_above fu) [] (mcons (mvar 0) (mcons (mvar 3) (mret [])))) fun r => mret (Rv.d r)) fun d => mret (Opd.d d)) fun o => mbind (res o) fun d => mopt (truD d)) (ms (mbind (mbind (mvar 3) strong) fun d => mret (Rv.v d)) fun r => stSet 2 (Rv.sl r)) (ms (mbind (mbind (mvar 3) strong) fun d => mret (Rv.v d)) fun r => stSet 1 (Rv.sl r))))
def l_least_above_1 (fu : Nat) : MS :=
    whileD (lt_least_above_1 fu) (lb_least_above_1 fu) fu
def lt_least_above_2 (fu : Nat) : M Bool :=
    (mbind (mbind (mbind (mbind (mcall (d_is_above fu) [] (mcons (mvar 0) (mcons (mvar 2) (mret [])))) fun r => mret (Rv.d r)) fun d => mret (Opd.d d)) fun o => mbind (res o) fun d => mopt (truD d)) fun b => mret (!b))
def lb_least_above_2 (fu : Nat) : MS :=
    (mpar2 1 2 (mcons (mvar 2) (mcons (mbind (mbin dMul (mbind (mret (D.int 2)) fun d => mret (Opd.d d)) (mvar 2)) fun d => mret (Opd.d d)) (mret []))))
def l_least_above_2 (fu : Nat) : MS :=
    whileD (lt_least_above_2 fu) (lb_least_above_2 fu) fu
def b_least_above (fu : Nat) : MS :=
    (mseq (mpar2 1 2 (mcons (mbind (mbin dSub (mbind (mret (D.int 2)) fun d => mret (Opd.d d)) (mbind (mret (D.int 1)) fun d => mret (Opd.d d))) fun d => mret (Opd.d d)) (mcons (mbind (mret (D.int 2)) fun d => mret (Opd.d d)) (mret []))))
    (mseq (l_least_above_2 fu)
    (mseq (l_least_above_1 fu)
    (ms (mbind (mbind (mvar 2) strong) fun d => mret (Rv.v d)) fun r s => OutS.rt r s))))
def d_least_above (fu : Nat) : Fd := fnD 4 1 (b_least_above fu)

abbrev s_above_from : Stmt := top 24
abbrev N_above_from : List Str := ["polynomial"]
abbrev p_above_from : List Str := ["polynomial"]
def b_above_from (fu : Nat) : MS :=
    (mseq (ms (mbind (mcall (d_need_polynomial fu) [] (mcons (mvar 0) (mcons (mbind (mret (D.str "polynomial")) fun d => mret (Opd.d d)) (mret [])))) fun r => mret (Rv.d r)) fun _ s => OutS.nx s)
    (mseq (mcond (mif (mbind (mbin dLt (mbind (mfld nm "degree" (mvar 0)) fun d => mret (Opd.d d)) (mbind (mret (D.int 0)) fun d => mret (Opd.d d))) tob) (mret true) (mbind (mbin dLt (mbind (mbin dIx (mbind (mfld nm "numbers" (mvar 0)) fun d => mret (Opd.d d)) (mbind (mun dNeg (mbind (mret (D.int 1)) fun d => mret (Opd.d d))) fun d => mret (Opd.d d))) fun d => mret (Opd.d d)) (mbind (mret (D.int 0)) fun d => mret (Opd.d d))) tob)) (ms (mbind (mret D.non) fun d => mret (Rv.v d)) fun r s => OutS.rt r s) (fun s => OutS.nx s))
    (ms (mcall (d_least_above fu) [] (mcons (mbind (mfld nm "numbers" (mvar 0)) fun d => mret (Opd.d d)) (mret []))) fun r s => OutS.rt r s)))
def d_above_from (fu : Nat) : Fd := fnD 1 1 (b_above_from fu)

abbrev s__law_jug : Stmt := top 26
abbrev N__law_jug : List Str := ["_law_script", "_law_cell"]
abbrev p__law_jug : List Str := ["_law_script"]
def ci__law_jug_1 (fu : Nat) : M (List D) :=
    (mwalk (mbind (mslice (mvar 0) (mret none) (mpart (mret (D.int 59)))) fun r => mret (Rv.d r)))
def ct__law_jug_1 (fu : Nat) : M Bool :=
    (mret true)
def ce__law_jug_1 (fu : Nat) : M D :=
    (mbind (mcb (on1 intOf) (mcons (mvar 1) (mret []))) fun r => mret (Rv.d r))
def c__law_jug_1 (fu : Nat) : M Rv :=
    mlc [1] (ci__law_jug_1 fu) (tgName 1) (ct__law_jug_1 fu) (ce__law_jug_1 fu)
def b__law_jug (fu : Nat) : MS :=
    (ms (mlst (mcons (mbind (mbind (c__law_jug_1 fu) fun r => mret (Rv.d r)) fun d => mret (Opd.d d)) (mcons (mbind (mret (D.int 0)) fun d => mret (Opd.d d)) (mcons (mbind (mret (D.int 0)) fun d => mret (Opd.d d)) (mret []))))) fun r s => OutS.rt r s)
def d__law_jug (fu : Nat) : Fd := fnD 2 1 (b__law_jug fu)

abbrev s__law_pour : Stmt := top 27
abbrev N__law_pour : List Str := ["_law_jug_here", "_law_many", "_law_rest", "_law_turn", "_law_cell", "_law_mixed"]
abbrev p__law_pour : List Str := ["_law_jug_here", "_law_many"]
def b__law_pour (fu : Nat) : MS :=
    (mseq (mcond (mbind (mbin dGt (mbind (mbin dIx (mvar 0) (mbind (mret (D.int 2)) fun d => mret (Opd.d d))) fun d => mret (Opd.d d)) (mbind (mret (D.int 0)) fun d => mret (Opd.d d))) tob) (mseq (ms (mbind (mbin dIx (mvar 0) (mbind (mret (D.int 2)) fun d => mret (Opd.d d))) fun d => mret (Rv.v d)) fun r => stSet 2 (Rv.sl r))
    (mseq (mseti 0 (mbin dDiv (mbind (mbind (mcb (on1 intOf) (mcons (mvar 2) (mret []))) fun r => mret (Rv.d r)) fun d => mret (Opd.d d)) (mvar 1)) (mret (D.int 2)))
    (ms (mbind (mbin dMod (mbind (mbind (mcb (on1 intOf) (mcons (mvar 2) (mret []))) fun r => mret (Rv.d r)) fun d => mret (Opd.d d)) (mvar 1)) fun d => mret (Rv.v d)) fun r s => OutS.rt r s))) (fun s => OutS.nx s))
    (mseq (ms (mbind (mbin dIx (mvar 0) (mbind (mret (D.int 1)) fun d => mret (Opd.d d))) fun d => mret (Rv.v d)) fun r => stSet 3 (Rv.sl r))
    (mseq (mseti 0 (mbin dAdd (mvar 3) (mbind (mret (D.int 1)) fun d => mret (Opd.d d))) (mret (D.int 1)))
    (mseq (ms (mbind (mbin dAdd (mbind (mbin dMul (mbind (mret (D.int 71039)) fun d => mret (Opd.d d)) (mvar 3)) fun d => mret (Opd.d d)) (mbind (mret (D.int 3319)) fun d => mret (Opd.d d))) fun d => mret (Rv.v d)) fun r => stSet 4 (Rv.sl r))
    (mseq (mcond (mbind (mbin dNe (mbind (mbin dIx (mvar 0) (mbind (mret (D.int 0)) fun d => mret (Opd.d d))) fun d => mret (Opd.d d)) (mbind (mbind (mlst (mret [])) fun r => mret (Rv.d r)) fun d => mret (Opd.d d))) tob) (ms (mbind (mbin dIx (mbind (mbin dIx (mvar 0) (mbind (mret (D.int 0)) fun d => mret (Opd.d d))) fun d => mret (Opd.d d)) (mbind (mbin dMod (mbind (mbind (mcb (on1 intOf) (mcons (mvar 3) (mret []))) fun r => mret (Rv.d r)) fun d => mret (Opd.d d)) (mbind (mbind (mcb (on1 lenD) (mcons (mbind (mbin dIx (mvar 0) (mbind (mret (D.int 0)) fun d => mret (Opd.d d))) fun d => mret (Opd.d d)) (mret []))) fun r => mret (Rv.d r)) fun d => mret (Opd.d d))) fun d => mret (Opd.d d))) fun d => mret (Rv.v d)) fun r => stSet 4 (Rv.sl r)) (fun s => OutS.nx s))
    (mseq (mcond (mif (mbind (mbin dLt (mvar 3) (mbind (mbind (mcb (on1 lenD) (mcons (mbind (mbin dIx (mvar 0) (mbind (mret (D.int 0)) fun d => mret (Opd.d d))) fun d => mret (Opd.d d)) (mret []))) fun r => mret (Rv.d r)) fun d => mret (Opd.d d))) tob) (mbind (mbin dGe (mbind (mbind (mcb (on1 absD) (mcons (mvar 4) (mret []))) fun r => mret (Rv.d r)) fun d => mret (Opd.d d)) (mbind (mbin dPow (mbind (mret (D.int 10)) fun d => mret (Opd.d d)) (mbind (mret (D.int 18)) fun d => mret (Opd.d d))) fun d => mret (Opd.d d))) tob) (mret false)) (mseq (ms (mbind (mbin dAdd (mbind (mbin dMul (mbind (mret (D.int 2)) fun d => mret (Opd.d d)) (mbind (mbin dSub (mbind (mbind (mcb (on1 absD) (mcons (mvar 4) (mret []))) fun r => mret (Rv.d r)) fun d => mret (Opd.d d)) (mbind (mbin dPow (mbind (mret (D.int 10)) fun d => mret (Opd.d d)) (mbind (mret (D.int 18)) fun d => mret (Opd.d d))) fun d => mret (Opd.d d))) fun d => mret (Opd.d d))) fun d => mret (Opd.d d)) (mbind (mbind (mcb (on1 intOf) (mcons (mbind (mbin dLt (mvar 4) (mbind (mret (D.int 0)) fun d => mret (Opd.d d))) fun d => mret (Opd.d d)) (mret []))) fun r => mret (Rv.d r)) fun d => mret (Opd.d d))) fun d => mret (Rv.v d)) fun r => stSet 2 (Rv.sl r))
    (mseq (mseti 0 (mbin dDiv (mbind (mbind (mcb (on1 intOf) (mcons (mvar 2) (mret []))) fun r => mret (Rv.d r)) fun d => mret (Opd.d d)) (mvar 1)) (mret (D.int 2)))
    (ms (mbind (mbin dMod (mbind (mbind (mcb (on1 intOf) (mcons (mvar 2) (mret []))) fun r => mret (Rv.d r)) fun d => mret (Opd.d d)) (mvar 1)) fun d => mret (Rv.v d)) fun r s => OutS.rt r s))) (fun s => OutS.nx s))
    (mseq (ms (mbind (mbin dMod (mbind (mbind (mcb (on1 intOf) (mcons (mbind (mbin dPow (mbind (mbin dAdd (mbind (mbin dAdd (mbind (mbin dMod (mbind (mbind (mcb (on1 intOf) (mcons (mvar 4) (mret []))) fun r => mret (Rv.d r)) fun d => mret (Opd.d d)) (mbind (mret (D.int 2147483563)) fun d => mret (Opd.d d))) fun d => mret (Opd.d d)) (mbind (mbin dMul (mbind (mret (D.int 50429)) fun d => mret (Opd.d d)) (mvar 3)) fun d => mret (Opd.d d))) fun d => mret (Opd.d d)) (mbind (mret (D.int 3319)) fun d => mret (Opd.d d))) fun d => mret (Opd.d d)) (mbind (mret (D.int 5)) fun d => mret (Opd.d d))) fun d => mret (Opd.d d)) (mret []))) fun r => mret (Rv.d r)) fun d => mret (Opd.d d)) (mbind (mret (D.int 2147483629)) fun d => mret (Opd.d d))) fun d => mret (Rv.v d)) fun r => stSet 5 (Rv.sl r))
    (mseq (ms (mbind (mbin dMod (mbind (mbind (mcb (on1 intOf) (mcons (mbind (mbin dPow (mbind (mbin dAdd (mbind (mbin dAdd (mbind (mbin dMul (mvar 5) (mbind (mbin dAdd (mbind (mbin dMul (mbind (mret (D.int 2)) fun d => mret (Opd.d d)) (mvar 3)) fun d => mret (Opd.d d)) (mbind (mret (D.int 2333)) fun d => mret (Opd.d d))) fun d => mret (Opd.d d))) fun d => mret (Opd.d d)) (mbind (mbin dMul (mbind (mbin dMul (mbind (mret (D.int 71039)) fun d => mret (Opd.d d)) (mvar 3)) fun d => mret (Opd.d d)) (mvar 3)) fun d => mret (Opd.d d))) fun d => mret (Opd.d d)) (mbind (mret (D.int 50429)) fun d => mret (Opd.d d))) fun d => mret (Opd.d d)) (mbind (mret (D.int 3)) fun d => mret (Opd.d d))) fun d => mret (Opd.d d)) (mret []))) fun r => mret (Rv.d r)) fun d => mret (Opd.d d)) (mbind (mret (D.int 2147483549)) fun d => mret (Opd.d d))) fun d => mret (Rv.v d)) fun r => stSet 5 (Rv.sl r))
    (ms (mbind (mbin dMod (mbind (mbind (mcb (on1 intOf) (mcons (mbind (mbin dDiv (mvar 5) (mbind (mret (D.int 64)) fun d => mret (Opd.d d))) fun d => mret (Opd.d d)) (mret []))) fun r => mret (Rv.d r)) fun d => mret (Opd.d d)) (mvar 1)) fun d => mret (Rv.v d)) fun r s => OutS.rt r s)))))))))
def d__law_pour (fu : Nat) : Fd := fnD 6 2 (b__law_pour fu)

abbrev s__law_of : Stmt := top 28
abbrev N__law_of : List Str := ["_law_jug_here", "_law_some"]
abbrev p__law_of : List Str := ["_law_jug_here", "_law_some"]
def b__law_of (fu : Nat) : MS :=
    (ms (mbind (mbin dIx (mvar 1) (mbind (mbind (mcall (d__law_pour fu) [] (mcons (mvar 0) (mcons (mbind (mbind (mcb (on1 lenD) (mcons (mvar 1) (mret []))) fun r => mret (Rv.d r)) fun d => mret (Opd.d d)) (mret [])))) fun r => mret (Rv.d r)) fun d => mret (Opd.d d))) fun d => mret (Rv.v d)) fun r s => OutS.rt r s)
def d__law_of (fu : Nat) : Fd := fnD 2 2 (b__law_of fu)

abbrev s__law_cut : Stmt := top 29
abbrev N__law_cut : List Str := ["_law_row_here", "_law_last", "_law_spot", "_law_number"]
abbrev p__law_cut : List Str := ["_law_row_here"]
def ci__law_cut_1 (fu : Nat) : M (List D) :=
    (menum (mvar 0))
def ct__law_cut_1 (fu : Nat) : M Bool :=
    (mbind (mbin dNe (mvar 3) (mbind (mret (D.int 0)) fun d => mret (Opd.d d))) tob)
def ce__law_cut_1 (fu : Nat) : M D :=
    (mbind (mvar 2) strong)
def c__law_cut_1 (fu : Nat) : M Rv :=
    mlc [2, 3] (ci__law_cut_1 fu) (tgTup 2 (tgCons (tgName 2) (tgCons (tgName 3) tgNil))) (ct__law_cut_1 fu) (ce__law_cut_1 fu)
def b__law_cut (fu : Nat) : MS :=
    (mseq (ms (mbind (mmaxd (mbind (mbind (c__law_cut_1 fu) fun r => mret (Rv.d r)) fun d => mret (Opd.d d)) (mun dNeg (mbind (mret (D.int 1)) fun d => mret (Opd.d d)))) fun d => mret (Rv.v d)) fun r => stSet 1 (Rv.sl r))
    (ms (mcb (on1 tupOf) (mcons (mbind (mbind (mslice (mvar 0) (mret none) (mpart (mbin dAdd (mvar 1) (mbind (mret (D.int 1)) fun d => mret (Opd.d d))))) fun r => mret (Rv.d r)) fun d => mret (Opd.d d)) (mret []))) fun r s => OutS.rt r s))
def d__law_cut (fu : Nat) : Fd := fnD 4 1 (b__law_cut fu)

abbrev s__law_worth : Stmt := top 30
abbrev N__law_worth : List Str := ["_law_row_here", "_law_m", "_law_total", "_law_power_here", "_law_number"]
abbrev p__law_worth : List Str := ["_law_row_here", "_law_m"]
def li__law_worth_1 (fu : Nat) : M (List D) :=
    (mwalk (mbind (mvar 0) strong))
def lb__law_worth_1 (fu : Nat) : MS :=
    (mpar2 2 3 (mcons (mbind (mbin dAdd (mvar 2) (mbind (mbin dMul (mvar 4) (mvar 3)) fun d => mret (Opd.d d))) fun d => mret (Opd.d d)) (mcons (mbind (mbin dMul (mvar 3) (mvar 1)) fun d => mret (Opd.d d)) (mret []))))
def l__law_worth_1 (fu : Nat) : MS :=
    mfor (li__law_worth_1 fu) (tgName 4) (lb__law_worth_1 fu)
def b__law_worth (fu : Nat) : MS :=
    (mseq (masg (mtup (mcons (mbind (mret (D.int 0)) fun d => mret (Opd.d d)) (mcons (mbind (mret (D.int 1)) fun d => mret (Opd.d d)) (mret [])))) (tgTup 2 (tgCons (tgName 2) (tgCons (tgName 3) tgNil))))
    (mseq (l__law_worth_1 fu)
    (ms (mbind (mbind (mvar 2) strong) fun d => mret (Rv.v d)) fun r s => OutS.rt r s)))
def d__law_worth (fu : Nat) : Fd := fnD 5 2 (b__law_worth fu)

abbrev s__law_power : Stmt := top 31
abbrev N__law_power : List Str := ["_law_base", "_law_many", "_law_found", "_law_turn"]
abbrev p__law_power : List Str := ["_law_base", "_law_many"]
def li__law_power_1 (fu : Nat) : M (List D) :=
    (mrng rng1 (mcons (mvar 1) (mret [])))
def lb__law_power_1 (fu : Nat) : MS :=
    (ms (mbind (mbin dMul (mvar 2) (mvar 0)) fun d => mret (Rv.v d)) fun r => stSet 2 (Rv.sl r))
def l__law_power_1 (fu : Nat) : MS :=
    mfor (li__law_power_1 fu) (tgName 3) (lb__law_power_1 fu)
def b__law_power (fu : Nat) : MS :=
    (mseq (ms (mbind (mret (D.int 1)) fun d => mret (Rv.v d)) fun r => stSet 2 (Rv.sl r))
    (mseq (l__law_power_1 fu)
    (ms (mbind (mbind (mvar 2) strong) fun d => mret (Rv.v d)) fun r s => OutS.rt r s)))
def d__law_power (fu : Nat) : Fd := fnD 4 2 (b__law_power fu)

abbrev s__law_times : Stmt := top 32
abbrev N__law_times : List Str := ["_law_one", "_law_other", "_law_found", "_law_spot", "_law_at", "_law_mine", "_law_its"]
abbrev p__law_times : List Str := ["_law_one", "_law_other"]
def li__law_times_1 (fu : Nat) : M (List D) :=
    (menum (mvar 1))
def lb__law_times_1 (fu : Nat) : MS :=
    (mseti 2 (mbin dAdd (mbind (mbin dIx (mvar 2) (mbind (mbin dAdd (mvar 4) (mvar 3)) fun d => mret (Opd.d d))) fun d => mret (Opd.d d)) (mbind (mbin dMul (mvar 5) (mvar 6)) fun d => mret (Opd.d d))) (mbin dAdd (mvar 4) (mvar 3)))
def l__law_times_1 (fu : Nat) : MS :=
    mfor (li__law_times_1 fu) (tgTup 2 (tgCons (tgName 3) (tgCons (tgName 6) tgNil))) (lb__law_times_1 fu)
def li__law_times_2 (fu : Nat) : M (List D) :=
    (menum (mvar 0))
def lb__law_times_2 (fu : Nat) : MS :=
    (l__law_times_1 fu)
def l__law_times_2 (fu : Nat) : MS :=
    mfor (li__law_times_2 fu) (tgTup 2 (tgCons (tgName 4) (tgCons (tgName 5) tgNil))) (lb__law_times_2 fu)
def ci__law_times_3 (fu : Nat) : M (List D) :=
    (mrng rng1 (mcons (mbind (mbin dAdd (mbind (mbind (mcb (on1 lenD) (mcons (mvar 0) (mret []))) fun r => mret (Rv.d r)) fun d => mret (Opd.d d)) (mbind (mbind (mcb (on1 lenD) (mcons (mvar 1) (mret []))) fun r => mret (Rv.d r)) fun d => mret (Opd.d d))) fun d => mret (Opd.d d)) (mret [])))
def ct__law_times_3 (fu : Nat) : M Bool :=
    (mret true)
def ce__law_times_3 (fu : Nat) : M D :=
    (mret (D.int 0))
def c__law_times_3 (fu : Nat) : M Rv :=
    mlc [3] (ci__law_times_3 fu) (tgName 3) (ct__law_times_3 fu) (ce__law_times_3 fu)
def b__law_times (fu : Nat) : MS :=
    (mseq (ms (c__law_times_3 fu) fun r => stSet 2 (Rv.sl r))
    (mseq (l__law_times_2 fu)
    (ms (mcall (d__law_cut fu) [] (mcons (mfrz 2) (mret []))) fun r s => OutS.rt r s)))
def d__law_times (fu : Nat) : Fd := fnD 7 2 (b__law_times fu)

abbrev s__law_choose : Stmt := top 33
abbrev N__law_choose : List Str := ["_law_many", "_law_some", "_law_found", "_law_at"]
abbrev p__law_choose : List Str := ["_law_many", "_law_some"]
def li__law_choose_1 (fu : Nat) : M (List D) :=
    (mrng rng1 (mcons (mvar 1) (mret [])))
def lb__law_choose_1 (fu : Nat) : MS :=
    (ms (mbind (mbin dDiv (mbind (mbin dMul (mvar 2) (mbind (mbin dSub (mvar 0) (mvar 3)) fun d => mret (Opd.d d))) fun d => mret (Opd.d d)) (mbind (mbin dAdd (mvar 3) (mbind (mret (D.int 1)) fun d => mret (Opd.d d))) fun d => mret (Opd.d d))) fun d => mret (Rv.v d)) fun r => stSet 2 (Rv.sl r))
def l__law_choose_1 (fu : Nat) : MS :=
    mfor (li__law_choose_1 fu) (tgName 3) (lb__law_choose_1 fu)
def b__law_choose (fu : Nat) : MS :=
    (mseq (ms (mbind (mret (D.int 1)) fun d => mret (Rv.v d)) fun r => stSet 2 (Rv.sl r))
    (mseq (l__law_choose_1 fu)
    (ms (mbind (mbind (mvar 2) strong) fun d => mret (Rv.v d)) fun r s => OutS.rt r s)))
def d__law_choose (fu : Nat) : Fd := fnD 4 2 (b__law_choose fu)

abbrev s__law_moved : Stmt := top 34
abbrev N__law_moved : List Str := ["_law_row_here", "_law_by", "_law_found", "_law_low", "_law_at"]
abbrev p__law_moved : List Str := ["_law_row_here", "_law_by"]
def ci__law_moved_1 (fu : Nat) : M (List D) :=
    (mrng rng2 (mcons (mvar 3) (mcons (mbind (mbind (mcb (on1 lenD) (mcons (mvar 0) (mret []))) fun r => mret (Rv.d r)) fun d => mret (Opd.d d)) (mret []))))
def ct__law_moved_1 (fu : Nat) : M Bool :=
    (mret true)
def ce__law_moved_1 (fu : Nat) : M D :=
    (mbin dMul (mbind (mbin dMul (mbind (mbin dIx (mvar 0) (mvar 4)) fun d => mret (Opd.d d)) (mbind (mbind (mcall (d__law_choose fu) [] (mcons (mvar 4) (mcons (mvar 3) (mret [])))) fun r => mret (Rv.d r)) fun d => mret (Opd.d d))) fun d => mret (Opd.d d)) (mbind (mbind (mcall (d__law_power fu) [] (mcons (mvar 1) (mcons (mbind (mbin dSub (mvar 4) (mvar 3)) fun d => mret (Opd.d d)) (mret [])))) fun r => mret (Rv.d r)) fun d => mret (Opd.d d)))
def c__law_moved_1 (fu : Nat) : M Rv :=
    mlc [4] (ci__law_moved_1 fu) (tgName 4) (ct__law_moved_1 fu) (ce__law_moved_1 fu)
def li__law_moved_2 (fu : Nat) : M (List D) :=
    (mrng rng1 (mcons (mbind (mbind (mcb (on1 lenD) (mcons (mvar 0) (mret []))) fun r => mret (Rv.d r)) fun d => mret (Opd.d d)) (mret [])))
def lb__law_moved_2 (fu : Nat) : MS :=
    (mappend 2 (mbind (mcb (on1 sumD) (mcons (mbind (mbind (c__law_moved_1 fu) fun r => mret (Rv.d r)) fun d => mret (Opd.d d)) (mret []))) fun r => mret (Rv.d r)))
def l__law_moved_2 (fu : Nat) : MS :=
    mfor (li__law_moved_2 fu) (tgName 3) (lb__law_moved_2 fu)
def b__law_moved (fu : Nat) : MS :=
    (mseq (ms (mlst (mret [])) fun r => stSet 2 (Rv.sl r))
    (mseq (l__law_moved_2 fu)
    (ms (mbind (mbind (mfrz 2) strong) fun d => mret (Rv.v d)) fun r s => OutS.rt r s)))
def d__law_moved (fu : Nat) : Fd := fnD 5 2 (b__law_moved fu)

abbrev s__law_is_above : Stmt := top 35
abbrev N__law_is_above : List Str := ["_law_row_here", "_law_m", "_law_found", "_law_number"]
abbrev p__law_is_above : List Str := ["_law_row_here", "_law_m"]
def ci__law_is_above_1 (fu : Nat) : M (List D) :=
    (mwalk (mbind (mvar 2) strong))
def ct__law_is_above_1 (fu : Nat) : M Bool :=
    (mbind (mbin dLt (mvar 3) (mbind (mret (D.int 0)) fun d => mret (Opd.d d))) tob)
def ce__law_is_above_1 (fu : Nat) : M D :=
    (mbind (mvar 3) strong)
def c__law_is_above_1 (fu : Nat) : M Rv :=
    mlc [3] (ci__law_is_above_1 fu) (tgName 3) (ct__law_is_above_1 fu) (ce__law_is_above_1 fu)
def b__law_is_above (fu : Nat) : MS :=
    (mseq (ms (mcall (d__law_moved fu) [] (mcons (mvar 0) (mcons (mvar 1) (mret [])))) fun r => stSet 2 (Rv.sl r))
    (ms (mbind (mandV (mbin dNe (mvar 2) (mbind (mbind (mlst (mret [])) fun r => mret (Rv.d r)) fun d => mret (Opd.d d))) (mandV (mbin dGt (mbind (mbin dIx (mvar 2) (mbind (mret (D.int 0)) fun d => mret (Opd.d d))) fun d => mret (Opd.d d)) (mbind (mret (D.int 0)) fun d => mret (Opd.d d))) (mbin dEq (mbind (mbind (c__law_is_above_1 fu) fun r => mret (Rv.d r)) fun d => mret (Opd.d d)) (mbind (mbind (mlst (mret [])) fun r => mret (Rv.d r)) fun d => mret (Opd.d d))))) fun d => mret (Rv.v d)) fun r s => OutS.rt r s))
def d__law_is_above (fu : Nat) : Fd := fnD 4 2 (b__law_is_above fu)

abbrev s__law_row : Stmt := top 36
abbrev N__law_row : List Str := ["_law_jug_here", "_law_spot", "_law_row_here", "_law_turn"]
abbrev p__law_row : List Str := ["_law_jug_here"]
def ci__law_row_1 (fu : Nat) : M (List D) :=
    (mrng rng1 (mcons (mbind (mbind (mcall (d__law_pour fu) [] (mcons (mvar 0) (mcons (mbind (mret (D.int 8)) fun d => mret (Opd.d d)) (mret [])))) fun r => mret (Rv.d r)) fun d => mret (Opd.d d)) (mret [])))
def ct__law_row_1 (fu : Nat) : M Bool :=
    (mret true)
def ce__law_row_1 (fu : Nat) : M D :=
    (mbin dSub (mbind (mbind (mcall (d__law_pour fu) [] (mcons (mvar 0) (mcons (mbind (mret (D.int 41)) fun d => mret (Opd.d d)) (mret [])))) fun r => mret (Rv.d r)) fun d => mret (Opd.d d)) (mbind (mret (D.int 20)) fun d => mret (Opd.d d)))
def c__law_row_1 (fu : Nat) : M Rv :=
    mlc [1] (ci__law_row_1 fu) (tgName 1) (ct__law_row_1 fu) (ce__law_row_1 fu)
def st__law_row_1 (fu : Nat) : MS :=
    (mcond (mbind (mbin dEq (mbind (mbind (mcall (d__law_pour fu) [] (mcons (mvar 0) (mcons (mbind (mret (D.int 4)) fun d => mret (Opd.d d)) (mret [])))) fun r => mret (Rv.d r)) fun d => mret (Opd.d d)) (mbind (mret (D.int 0)) fun d => mret (Opd.d d))) tob) (ms (mcall (d__law_cut fu) [] (mcons (mbind (mbind (c__law_row_1 fu) fun r => mret (Rv.d r)) fun d => mret (Opd.d d)) (mret []))) fun r s => OutS.rt r s) (fun s => OutS.nx s))
def st__law_row_2 (fu : Nat) : MS :=
    (ms (mbind (mtup (mcons (mbind (mbind (mcall (d__law_of fu) [] (mcons (mvar 0) (mcons (mbind (mbind (mlst (mcons (mbind (mret (D.int 1)) fun d => mret (Opd.d d)) (mcons (mbind (mret (D.int 2)) fun d => mret (Opd.d d)) (mcons (mbind (mret (D.int 7)) fun d => mret (Opd.d d)) (mcons (mbind (mbin dPow (mbind (mret (D.int 10)) fun d => mret (Opd.d d)) (mbind (mret (D.int 9)) fun d => mret (Opd.d d))) fun d => mret (Opd.d d)) (mret [])))))) fun r => mret (Rv.d r)) fun d => mret (Opd.d d)) (mret [])))) fun r => mret (Rv.d r)) fun d => mret (Opd.d d)) (mret []))) fun d => mret (Rv.v d)) fun r => stSet 2 (Rv.sl r))
def li__law_row_2 (fu : Nat) : M (List D) :=
    (mrng rng1 (mcons (mbind (mbind (mcall (d__law_pour fu) [] (mcons (mvar 0) (mcons (mbind (mret (D.int 4)) fun d => mret (Opd.d d)) (mret [])))) fun r => mret (Rv.d r)) fun d => mret (Opd.d d)) (mret [])))
def lb__law_row_2 (fu : Nat) : MS :=
    (mseq (ms (mcall (d__law_of fu) [] (mcons (mvar 0) (mcons (mbind (mbind (mlst (mcons (mbind (mbind (mcall (d__law_pour fu) [] (mcons (mvar 0) (mcons (mbind (mret (D.int 9)) fun d => mret (Opd.d d)) (mret [])))) fun r => mret (Rv.d r)) fun d => mret (Opd.d d)) (mcons (mbind (mbind (mcall (d__law_pour fu) [] (mcons (mvar 0) (mcons (mbind (mret (D.int 100)) fun d => mret (Opd.d d)) (mret [])))) fun r => mret (Rv.d r)) fun d => mret (Opd.d d)) (mcons (mbind (mbin dAdd (mbind (mbin dPow (mbind (mret (D.int 10)) fun d => mret (Opd.d d)) (mbind (mret (D.int 6)) fun d => mret (Opd.d d))) fun d => mret (Opd.d d)) (mbind (mbind (mcall (d__law_pour fu) [] (mcons (mvar 0) (mcons (mbind (mret (D.int 9)) fun d => mret (Opd.d d)) (mret [])))) fun r => mret (Rv.d r)) fun d => mret (Opd.d d))) fun d => mret (Opd.d d)) (mcons (mbind (mun dNeg (mbind (mbind (mcall (d__law_pour fu) [] (mcons (mvar 0) (mcons (mbind (mret (D.int 30)) fun d => mret (Opd.d d)) (mret [])))) fun r => mret (Rv.d r)) fun d => mret (Opd.d d))) fun d => mret (Opd.d d)) (mcons (mbind (mbin dPow (mbind (mret (D.int 10)) fun d => mret (Opd.d d)) (mbind (mret (D.int 25)) fun d => mret (Opd.d d))) fun d => mret (Opd.d d)) (mret []))))))) fun r => mret (Rv.d r)) fun d => mret (Opd.d d)) (mret [])))) fun r => stSet 1 (Rv.sl r))
    (ms (mcall (d__law_times fu) [] (mcons (mvar 2) (mcons (mbind (mbind (mlst (mcons (mbind (mun dNeg (mvar 1)) fun d => mret (Opd.d d)) (mcons (mbind (mret (D.int 1)) fun d => mret (Opd.d d)) (mret [])))) fun r => mret (Rv.d r)) fun d => mret (Opd.d d)) (mret [])))) fun r => stSet 2 (Rv.sl r)))
def l__law_row_2 (fu : Nat) : MS :=
    mfor (li__law_row_2 fu) (tgName 3) (lb__law_row_2 fu)
def st__law_row_4 (fu : Nat) : MS :=
    (mcond (mbind (mbin dEq (mbind (mbind (mcall (d__law_pour fu) [] (mcons (mvar 0) (mcons (mbind (mret (D.int 2)) fun d => mret (Opd.d d)) (mret [])))) fun r => mret (Rv.d r)) fun d => mret (Opd.d d)) (mbind (mret (D.int 0)) fun d => mret (Opd.d d))) tob) (mseq (ms (mcall (d__law_pour fu) [] (mcons (mvar 0) (mcons (mbind (mret (D.int 12)) fun d => mret (Opd.d d)) (mret [])))) fun r => stSet 1 (Rv.sl r))
    (ms (mcall (d__law_times fu) [] (mcons (mvar 2) (mcons (mbind (mbind (mlst (mcons (mbind (mbin dAdd (mbind (mbin dAdd (mbind (mbin dMul (mvar 1) (mvar 1)) fun d => mret (Opd.d d)) (mbind (mret (D.int 1)) fun d => mret (Opd.d d))) fun d => mret (Opd.d d)) (mbind (mbind (mcall (d__law_pour fu) [] (mcons (mvar 0) (mcons (mbind (mret (D.int 3)) fun d => mret (Opd.d d)) (mret [])))) fun r => mret (Rv.d r)) fun d => mret (Opd.d d))) fun d => mret (Opd.d d)) (mcons (mbind (mbin dMul (mbind (mun dNeg (mbind (mret (D.int 2)) fun d => mret (Opd.d d))) fun d => mret (Opd.d d)) (mvar 1)) fun d => mret (Opd.d d)) (mcons (mbind (mret (D.int 1)) fun d => mret (Opd.d d)) (mret []))))) fun r => mret (Rv.d r)) fun d => mret (Opd.d d)) (mret [])))) fun r => stSet 2 (Rv.sl r))) (fun s => OutS.nx s))
def st__law_row_5 (fu : Nat) : MS :=
    (ms (mcb (on1 listOf) (mcons (mvar 2) (mret []))) fun r => stSet 2 (Rv.sl r))
def st__law_row_6 (fu : Nat) : MS :=
    (mseti 2 (mbin dAdd (mbind (mbin dIx (mvar 2) (mbind (mret (D.int 0)) fun d => mret (Opd.d d))) fun d => mret (Opd.d d)) (mbind (mbind (mcall (d__law_of fu) [] (mcons (mvar 0) (mcons (mbind (mbind (mlst (mcons (mbind (mret (D.int 0)) fun d => mret (Opd.d d)) (mcons (mbind (mret (D.int 0)) fun d => mret (Opd.d d)) (mcons (mbind (mret (D.int 1)) fun d => mret (Opd.d d)) (mcons (mbind (mun dNeg (mbind (mret (D.int 1)) fun d => mret (Opd.d d))) fun d => mret (Opd.d d)) (mcons (mbind (mbin dSub (mbind (mbind (mcall (d__law_pour fu) [] (mcons (mvar 0) (mcons (mbind (mret (D.int 200)) fun d => mret (Opd.d d)) (mret [])))) fun r => mret (Rv.d r)) fun d => mret (Opd.d d)) (mbind (mret (D.int 100)) fun d => mret (Opd.d d))) fun d => mret (Opd.d d)) (mret []))))))) fun r => mret (Rv.d r)) fun d => mret (Opd.d d)) (mret [])))) fun r => mret (Rv.d r)) fun d => mret (Opd.d d))) (mret (D.int 0)))
def st__law_row_7 (fu : Nat) : MS :=
    (ms (mcall (d__law_cut fu) [] (mcons (mfrz 2) (mret []))) fun r s => OutS.rt r s)
def b__law_row (fu : Nat) : MS :=
    (mseq (st__law_row_1 fu)
    (mseq (st__law_row_2 fu)
    (mseq (l__law_row_2 fu)
    (mseq (st__law_row_4 fu)
    (mseq (st__law_row_5 fu)
    (mseq (st__law_row_6 fu)
    (st__law_row_7 fu)))))))
def d__law_row (fu : Nat) : Fd := fnD 4 1 (b__law_row fu)

abbrev s__law_told_right : Stmt := top 37
abbrev N__law_told_right : List Str := ["_law_jug_here", "_law_row_here", "_law_told", "_law_far", "_law_times_here", "_law_back", "_law_number"]
abbrev p__law_told_right : List Str := ["_law_jug_here", "_law_row_here"]
def st__law_told_right_1 (fu : Nat) : MS :=
    (ms (mcall (d_above_from fu) [] (mcons (mbind (mbind (mmake 0 (d_PolynomialX_initX fu) [] (mcons (mvar 1) (mret []))) fun r => mret (Rv.d r)) fun d => mret (Opd.d d)) (mret []))) fun r => stSet 2 (Rv.sl r))
def st__law_told_right_2 (fu : Nat) : MS :=
    (mcond (mif (mbind (mbin dEq (mvar 1) (mbind (mtup (mret [])) fun d => mret (Opd.d d))) tob) (mret true) (mbind (mbin dLt (mbind (mbin dIx (mvar 1) (mbind (mun dNeg (mbind (mret (D.int 1)) fun d => mret (Opd.d d))) fun d => mret (Opd.d d))) fun d => mret (Opd.d d)) (mbind (mret (D.int 0)) fun d => mret (Opd.d d))) tob)) (ms (mbind (mbin dIsN (mvar 2) (mbind (mret D.non) fun d => mret (Opd.d d))) fun d => mret (Rv.v d)) fun r s => OutS.rt r s) (fun s => OutS.nx s))
def st__law_told_right_3 (fu : Nat) : MS :=
    (mcond (mif (mbind (mbind (mbind (mun (isiD isiInt) (mvar 2)) fun d => mret (Opd.d d)) fun o => mbind (res o) fun d => mopt (truD d)) fun b => mret (!b)) (mret true) (mif (mbind (mbind (mun (isiD isiBl) (mvar 2)) fun d => mret (Opd.d d)) fun o => mbind (res o) fun d => mopt (truD d)) (mret true) (mif (mbind (mbin dLt (mvar 2) (mbind (mret (D.int 2)) fun d => mret (Opd.d d))) tob) (mret true) (mbind (mbin dNe (mbind (mbind (mcall (d_above_from fu) [] (mcons (mbind (mbind (mmake 0 (d_PolynomialX_initX fu) [] (mcons (mbind (mbind (mbinR dCat (mbind (mbind (mcb (on1 listOf) (mcons (mvar 1) (mret []))) fun r => mret (Rv.d r)) fun d => mret (Opd.d d)) (mbind (mbind (mlst (mcons (mbind (mret (D.int 0)) fun d => mret (Opd.d d)) (mret []))) fun r => mret (Rv.d r)) fun d => mret (Opd.d d))) fun r => mret (Rv.d r)) fun d => mret (Opd.d d)) (mret []))) fun r => mret (Rv.d r)) fun d => mret (Opd.d d)) (mret []))) fun r => mret (Rv.d r)) fun d => mret (Opd.d d)) (mvar 2)) tob)))) (ms (mbind (mret (D.bl false)) fun d => mret (Rv.v d)) fun r s => OutS.rt r s) (fun s => OutS.nx s))
def st__law_told_right_4 (fu : Nat) : MS :=
    (mcond (mif (mbind (mbind (mbind (mbind (mcall (d__law_is_above fu) [] (mcons (mvar 1) (mcons (mvar 2) (mret [])))) fun r => mret (Rv.d r)) fun d => mret (Opd.d d)) fun o => mbind (res o) fun d => mopt (truD d)) fun b => mret (!b)) (mret true) (mif (mbind (mbin dGt (mvar 2) (mbind (mret (D.int 2)) fun d => mret (Opd.d d))) tob) (mbind (mbind (mbind (mcall (d__law_is_above fu) [] (mcons (mvar 1) (mcons (mbind (mbin dSub (mvar 2) (mbind (mret (D.int 1)) fun d => mret (Opd.d d))) fun d => mret (Opd.d d)) (mret [])))) fun r => mret (Rv.d r)) fun d => mret (Opd.d d)) fun o => mbind (res o) fun d => mopt (truD d)) (mret false))) (ms (mbind (mret (D.bl false)) fun d => mret (Rv.v d)) fun r s => OutS.rt r s) (fun s => OutS.nx s))
def ci__law_told_right_1 (fu : Nat) : M (List D) :=
    (mwalk (mtup (mcons (mbind (mret (D.int 0)) fun d => mret (Opd.d d)) (mcons (mbind (mret (D.int 1)) fun d => mret (Opd.d d)) (mcons (mbind (mbind (mcall (d__law_pour fu) [] (mcons (mvar 0) (mcons (mbind (mret (D.int 100)) fun d => mret (Opd.d d)) (mret [])))) fun r => mret (Rv.d r)) fun d => mret (Opd.d d)) (mcons (mbind (mbin dPow (mbind (mret (D.int 10)) fun d => mret (Opd.d d)) (mbind (mret (D.int 12)) fun d => mret (Opd.d d))) fun d => mret (Opd.d d)) (mret [])))))))
def ct__law_told_right_1 (fu : Nat) : M Bool :=
    (mif (mbind (mbin dLe (mbind (mbind (mcall (d__law_worth fu) [] (mcons (mvar 1) (mcons (mbind (mbin dAdd (mvar 2) (mvar 3)) fun d => mret (Opd.d d)) (mret [])))) fun r => mret (Rv.d r)) fun d => mret (Opd.d d)) (mbind (mret (D.int 0)) fun d => mret (Opd.d d))) tob) (mret true) (mbind (mbind (mbind (mbind (mcall (d__law_is_above fu) [] (mcons (mvar 1) (mcons (mbind (mbin dAdd (mvar 2) (mvar 3)) fun d => mret (Opd.d d)) (mret [])))) fun r => mret (Rv.d r)) fun d => mret (Opd.d d)) fun o => mbind (res o) fun d => mopt (truD d)) fun b => mret (!b)))
def ce__law_told_right_1 (fu : Nat) : M D :=
    (mbind (mvar 3) strong)
def c__law_told_right_1 (fu : Nat) : M Rv :=
    mlc [3] (ci__law_told_right_1 fu) (tgName 3) (ct__law_told_right_1 fu) (ce__law_told_right_1 fu)
def st__law_told_right_5 (fu : Nat) : MS :=
    (mcond (mbind (mbin dNe (mbind (mbind (c__law_told_right_1 fu) fun r => mret (Rv.d r)) fun d => mret (Opd.d d)) (mbind (mbind (mlst (mret [])) fun r => mret (Rv.d r)) fun d => mret (Opd.d d))) tob) (ms (mbind (mret (D.bl false)) fun d => mret (Rv.v d)) fun r s => OutS.rt r s) (fun s => OutS.nx s))
def st__law_told_right_6 (fu : Nat) : MS :=
    (masg (mtup (mcons (mbind (mbin dAdd (mbind (mret (D.int 1)) fun d => mret (Opd.d d)) (mbind (mbind (mcall (d__law_pour fu) [] (mcons (mvar 0) (mcons (mbind (mret (D.int 5)) fun d => mret (Opd.d d)) (mret [])))) fun r => mret (Rv.d r)) fun d => mret (Opd.d d))) fun d => mret (Opd.d d)) (mcons (mbind (mbin dSub (mvar 2) (mbind (mbind (mcall (d__law_of fu) [] (mcons (mvar 0) (mcons (mbind (mbind (mlst (mcons (mbind (mret (D.int 0)) fun d => mret (Opd.d d)) (mcons (mbind (mret (D.int 1)) fun d => mret (Opd.d d)) (mcons (mvar 2) (mcons (mbind (mbin dMul (mbind (mret (D.int 2)) fun d => mret (Opd.d d)) (mvar 2)) fun d => mret (Opd.d d)) (mret [])))))) fun r => mret (Rv.d r)) fun d => mret (Opd.d d)) (mret [])))) fun r => mret (Rv.d r)) fun d => mret (Opd.d d))) fun d => mret (Opd.d d)) (mret [])))) (tgTup 2 (tgCons (tgName 4) (tgCons (tgName 5) tgNil))))
def ci__law_told_right_2 (fu : Nat) : M (List D) :=
    (mwalk (mbind (mvar 1) strong))
def ct__law_told_right_2 (fu : Nat) : M Bool :=
    (mret true)
def ce__law_told_right_2 (fu : Nat) : M D :=
    (mbin dMul (mvar 4) (mvar 6))
def c__law_told_right_2 (fu : Nat) : M Rv :=
    mlc [6] (ci__law_told_right_2 fu) (tgName 6) (ct__law_told_right_2 fu) (ce__law_told_right_2 fu)
def st__law_told_right_7 (fu : Nat) : MS :=
    (mcond (mbind (mbin dNe (mbind (mbind (mcall (d_above_from fu) [] (mcons (mbind (mbind (mmake 0 (d_PolynomialX_initX fu) [] (mcons (mbind (mbind (c__law_told_right_2 fu) fun r => mret (Rv.d r)) fun d => mret (Opd.d d)) (mret []))) fun r => mret (Rv.d r)) fun d => mret (Opd.d d)) (mret []))) fun r => mret (Rv.d r)) fun d => mret (Opd.d d)) (mvar 2)) tob) (ms (mbind (mret (D.bl false)) fun d => mret (Rv.v d)) fun r s => OutS.rt r s) (fun s => OutS.nx s))
def st__law_told_right_8 (fu : Nat) : MS :=
    (ms (mbind (mbin dLe (mbind (mbind (mcall (d_above_from fu) [] (mcons (mbind (mbind (mmake 0 (d_PolynomialX_initX fu) [] (mcons (mbind (mbind (mcall (d__law_times fu) [] (mcons (mvar 1) (mcons (mbind (mbind (mlst (mcons (mbind (mbin dSub (mbind (mret (D.int 1)) fun d => mret (Opd.d d)) (mvar 5)) fun d => mret (Opd.d d)) (mcons (mbind (mret (D.int 1)) fun d => mret (Opd.d d)) (mret [])))) fun r => mret (Rv.d r)) fun d => mret (Opd.d d)) (mret [])))) fun r => mret (Rv.d r)) fun d => mret (Opd.d d)) (mret []))) fun r => mret (Rv.d r)) fun d => mret (Opd.d d)) (mret []))) fun r => mret (Rv.d r)) fun d => mret (Opd.d d)) (mvar 2)) fun d => mret (Rv.v d)) fun r s => OutS.rt r s)
def b__law_told_right (fu : Nat) : MS :=
    (mseq (st__law_told_right_1 fu)
    (mseq (st__law_told_right_2 fu)
    (mseq (st__law_told_right_3 fu)
    (mseq (st__law_told_right_4 fu)
    (mseq (st__law_told_right_5 fu)
    (mseq (st__law_told_right_6 fu)
    (mseq (st__law_told_right_7 fu)
    (st__law_told_right_8 fu))))))))
def d__law_told_right (fu : Nat) : Fd := fnD 7 2 (b__law_told_right fu)

abbrev s_law : Stmt := top 38
abbrev N_law : List Str := ["_law_script", "_law_jug_here", "_law_turn", "_law_row_here", "_law_number", "_law_odd", "_law_caught", "error"]
abbrev p_law : List Str := ["_law_script"]
def st_law_1 (fu : Nat) : MS :=
    (ms (mcall (d__law_jug fu) [] (mcons (mvar 0) (mret []))) fun r => stSet 1 (Rv.sl r))
def ci_law_1 (fu : Nat) : M (List D) :=
    (mwalk (mbind (mvar 3) strong))
def ct_law_1 (fu : Nat) : M Bool :=
    (mret true)
def ce_law_1 (fu : Nat) : M D :=
    (mun dNeg (mvar 4))
def c_law_1 (fu : Nat) : M Rv :=
    mlc [4] (ci_law_1 fu) (tgName 4) (ct_law_1 fu) (ce_law_1 fu)
def li_law_2 (fu : Nat) : M (List D) :=
    (mrng rng1 (mcons (mbind (mret (D.int 5)) fun d => mret (Opd.d d)) (mret [])))
def lb_law_2 (fu : Nat) : MS :=
    (mseq (ms (mcall (d__law_row fu) [] (mcons (mvar 1) (mret []))) fun r => stSet 3 (Rv.sl r))
    (mcond (mif (mbind (mbind (mbind (mbind (mcall (d__law_told_right fu) [] (mcons (mvar 1) (mcons (mvar 3) (mret [])))) fun r => mret (Rv.d r)) fun d => mret (Opd.d d)) fun o => mbind (res o) fun d => mopt (truD d)) fun b => mret (!b)) (mret true) (mbind (mbind (mbind (mbind (mcall (d__law_told_right fu) [] (mcons (mvar 1) (mcons (mbind (mbind (mcall (d__law_cut fu) [] (mcons (mbind (mbind (c_law_1 fu) fun r => mret (Rv.d r)) fun d => mret (Opd.d d)) (mret []))) fun r => mret (Rv.d r)) fun d => mret (Opd.d d)) (mret [])))) fun r => mret (Rv.d r)) fun d => mret (Opd.d d)) fun o => mbind (res o) fun d => mopt (truD d)) fun b => mret (!b))) (ms (mbind (mret (D.bl false)) fun d => mret (Rv.v d)) fun r s => OutS.rt r s) (fun s => OutS.nx s)))
def l_law_2 (fu : Nat) : MS :=
    mfor (li_law_2 fu) (tgName 2) (lb_law_2 fu)
def st_law_3 (fu : Nat) : MS :=
    (mpar2 5 6 (mcons (mbind (mbind (mcall (d__law_of fu) [] (mcons (mvar 1) (mcons (mbind (mbind (mlst (mcons (mbind (mret D.non) fun d => mret (Opd.d d)) (mcons (mbind (mret (D.int 5)) fun d => mret (Opd.d d)) (mcons (mbind (mbind (mlst (mcons (mbind (mret (D.int 1)) fun d => mret (Opd.d d)) (mcons (mbind (mret (D.int 2)) fun d => mret (Opd.d d)) (mret [])))) fun r => mret (Rv.d r)) fun d => mret (Opd.d d)) (mcons (mbind (mtup (mcons (mbind (mret (D.int 0)) fun d => mret (Opd.d d)) (mcons (mbind (mret (D.int 1)) fun d => mret (Opd.d d)) (mret [])))) fun d => mret (Opd.d d)) (mcons (mbind (mret (D.str "1")) fun d => mret (Opd.d d)) (mcons (mbind (mret (D.bl true)) fun d => mret (Opd.d d)) (mret [])))))))) fun r => mret (Rv.d r)) fun d => mret (Opd.d d)) (mret [])))) fun r => mret (Rv.d r)) fun d => mret (Opd.d d)) (mcons (mbind (mret D.non) fun d => mret (Opd.d d)) (mret []))))
def st_law_4 (fu : Nat) : MS :=
    (mtry (fun c => if c = 101 then some true else none) 7 (ms (mbind (mcall (d_above_from fu) [] (mcons (mvar 5) (mret []))) fun r => mret (Rv.d r)) fun _ s => OutS.nx s) (fun a x c ds => if c = 101 then (ms (mbind (mxf 7 101 0 a x) fun d => mret (Rv.v d)) fun r => stSet 6 (Rv.sl r)) else fun _ => OutS.bad))
def st_law_5 (fu : Nat) : MS :=
    (ms (mbind (mandV (mbin dEq (mvar 6) (mbind (mret (D.str "polynomial")) fun d => mret (Opd.d d))) (mandV (mbin dEq (mbind (mbind (mcall (d_above_from fu) [] (mcons (mbind (mbind (mmake 0 (d_PolynomialX_initX fu) [] (mcons (mbind (mbind (mlst (mcons (mbind (mret (D.int 1)) fun d => mret (Opd.d d)) (mret []))) fun r => mret (Rv.d r)) fun d => mret (Opd.d d)) (mret []))) fun r => mret (Rv.d r)) fun d => mret (Opd.d d)) (mret []))) fun r => mret (Rv.d r)) fun d => mret (Opd.d d)) (mbind (mret (D.int 2)) fun d => mret (Opd.d d))) (mbin dEq (mbind (mbind (mcall (d_above_from fu) [] (mcons (mbind (mbind (mmake 0 (d_PolynomialX_initX fu) [] (mcons (mbind (mbind (mlst (mcons (mbind (mret (D.int 10)) fun d => mret (Opd.d d)) (mcons (mbind (mun dNeg (mbind (mret (D.int 6)) fun d => mret (Opd.d d))) fun d => mret (Opd.d d)) (mcons (mbind (mret (D.int 1)) fun d => mret (Opd.d d)) (mret []))))) fun r => mret (Rv.d r)) fun d => mret (Opd.d d)) (mret []))) fun r => mret (Rv.d r)) fun d => mret (Opd.d d)) (mret []))) fun r => mret (Rv.d r)) fun d => mret (Opd.d d)) (mbind (mret (D.int 3)) fun d => mret (Opd.d d))))) fun d => mret (Rv.v d)) fun r s => OutS.rt r s)
def b_law (fu : Nat) : MS :=
    (mseq (st_law_1 fu)
    (mseq (l_law_2 fu)
    (mseq (st_law_3 fu)
    (mseq (st_law_4 fu)
    (st_law_5 fu)))))
def d_law (fu : Nat) : Fd := fnD 8 1 (b_law fu)
end
abbrev gOf (K : PySem.W.Frag) (mg : Str → Option Value) (cn : Nat → Addr) : G := ⟨K, mg, cn, nm⟩
/-- an error's class with one field -/
structure Ex1 (K : PySem.W.Frag) (mg : Str → Option Value) (cn : Nat → Addr) (x : Str) (c : Nat) (f : Str) : Prop where
  T : OexC K (cn c)
  m : mg x = some (.ref (cn c))
  ini : ∃ fi : Addr, PySem.W.findIn K (.ref (cn c)) "__init__" = some (some (.ref fi)) ∧ PySem.W.typeIn K (.ref fi) = some (.type "function") ∧
    ∀ (P : Program) (w : World) (base : Heap), ∃ (fd : FuncData) (ps : List Str), FnOk P w K mg base CX0 1 fi fd ps (spI1 (cn c) f) ∧ Binds K fd ps []
theorem Ex1.raise {K : PySem.W.Frag} {mg : Str → Option Value} {cn : Nat → Addr} {x f : Str} {c k : Nat} {X : Cx} {T : Tx} {W : WX} {e : Expr} {es : List Expr} {p pos p2 : Pos} {fa : M (List Opd)} (E : Ex1 K mg cn x c f) (hr : Room k X.A) (tk : Takes X W)
    (ha : JA X (gOf K mg cn) T W (e :: es) fa) (hc : X.calm = true := by rfl) (hk : 2 ≤ k := by decide) (hK : X.K = K := by rfl) (hmg : X.mg = mg := by rfl) (hn : nm c = [f] := by rfl) (hg : Gl X x := by rfl)
    (hdb : (x == ("__debug__" : Str)) = false := by decide) (he : starEach (e :: es) X.env = (false, eval e X.env) :: starEach es X.env := by rfl) (hpl : (backTo pos (starEach es X.env)).any (·.1) = false := by rfl) :
    JS X (gOf K mg cn) T W (.Raise (some (.Call (.Name x p) (e :: es) [] pos)) none p2) (mraise c 1 fa) := by
  obtain ⟨T', m, fi, i1, i2, h⟩ := E
  obtain ⟨fd, ps, F, b⟩ := h X.prog X.w X.base
  rw [← hK, ← hmg] at F
  rw [← hmg] at m
  rw [← hK] at T' i1 i2 b
  exact js_raise1 (ci := cn) (fI := cn) hc tk T' rfl hn i1 i2 F b (hr.mono hk) hg m ha hdb he hpl
structure Txt (K : PySem.W.Frag) (mg : Str → Option Value) (cn : Nat → Addr) : Prop where
  hI : ∀ c, c < 100 → InsC K (cn c)
  nmlen : ∀ c, (nm c).length < 1000
  n_abs : mg "abs" = none
  n_all : mg "all" = none
  n_bool : mg "bool" = none
  n_enumerate : mg "enumerate" = none
  n_int : mg "int" = none
  n_isinstance : mg "isinstance" = none
  n_len : mg "len" = none
  n_list : mg "list" = none
  n_max : mg "max" = none
  n_min : mg "min" = none
  n_range : mg "range" = none
  n_sum : mg "sum" = none
  n_tuple : mg "tuple" = none
  m_Polynomial : mg "Polynomial" = some (.ref (cn 0))
  isi_Polynomial : ∀ n ∈ ["NoneType", "bool", "int", "str", "tuple", "list"], PySem.W.kitOne K (.type n) (.ref (cn 0)) = some false
  c_LEAST_M : ∃ t, mg "LEAST_M" = some (.int 2 t)
  F_degree : FldF (gOf K mg cn) "degree"
  F_numbers : FldF (gOf K mg cn) "numbers"
  BadPolynomial : Ex1 K mg cn "BadPolynomial" 101 "part"
  X_BadPolynomial : XfC K (cn 101)
  no_part : PySem.W.findIn K (.ref (cn 101)) "part" = some none
  ex_BadPolynomial : PySem.W.exmOne K (.ref (cn 101)) (.ref (cn 101)) = some true
section
variable {P : Program} {w : World} {K : PySem.W.Frag} {mg : Str → Option Value} {cn : Nat → Addr} {base : Heap} {fu : Nat}
theorem sc_is_integer : FnScope N_is_integer p_is_integer (defScope s_is_integer) := ⟨rfl, rfl, rfl, by decide +kernel, rfl, by decide +kernel, by decide +kernel⟩
theorem ok_is_integer {f : Addr} {fd : FuncData} (F : Fun K "is_integer" "is_integer" s_is_integer f fd) (T : Txt K mg cn) : FnOk P w K mg base (L2.CX P w) 1 f fd p_is_integer (spD (gOf K mg cn) (d_is_integer fu)) := by
  refine fnD_ok (g := gOf K mg cn) (N := N_is_integer) (ps := p_is_integer) (body := b_is_integer fu) F sc_is_integer (by decide) fun cdv A outer s H E T0 hr hio => ?_
  unfold b_is_integer
  exact (jss_one (js_ret (jr_of (je_and (je_isi rfl T.hI isi_int (ClsV.ty "int") rfl T.n_isinstance (pe_bty rfl T.n_int rfl) (jo_var (pv 0))) (je_one (je_not (je_isi rfl T.hI isi_bl (ClsV.ty "bool") rfl T.n_isinstance (pe_bty rfl T.n_bool rfl) (jo_var (pv 0)))))))))
theorem sc_are_integers : FnScope N_are_integers p_are_integers (defScope s_are_integers) := ⟨rfl, rfl, rfl, by decide +kernel, rfl, by decide +kernel, by decide +kernel⟩
theorem ok_are_integers {f : Addr} {fd : FuncData} (F : Fun K "are_integers" "are_integers" s_are_integers f fd) (T : Txt K mg cn) (C_is_integer : Cl P w (gOf K mg cn) base 1 "is_integer" p_is_integer (d_is_integer fu)) : FnOk P w K mg base (L2.CX P w) 2 f fd p_are_integers (spD (gOf K mg cn) (d_are_integers fu)) := by
  refine fnD_ok (g := gOf K mg cn) (N := N_are_integers) (ps := p_are_integers) (body := b_are_integers fu) F sc_are_integers (by decide) fun cdv A outer s H E T0 hr hio => ?_
  unfold b_are_integers
  exact (jss_one (js_ret (jr_of (je_and (je_isi2 rfl T.hI isi_lst isi_tup (ClsV.ty "list") (ClsV.ty "tuple") rfl T.n_isinstance (pe_bty rfl T.n_list rfl) (pe_bty rfl T.n_tuple rfl) (jo_var (pv 0))) (je_one (je_rv (jr_cb (o_all rfl) (fun _ _ hc h => pe_callB hc rfl T.n_all rfl h) (ja_cons (jo_of (je_rv (jr_lc rfl sc_are_integers.nd (ji_seq rfl (je_of (jo_var (pv 0)))) (blkOk_by (own := [("each", 1)]) (N := N_are_integers) (sc := defScope s_are_integers) (by decide +kernel)) rfl (fun _ _ _ _ _ => (jg_name (i := 1) (pg_name (i := 1) sc_are_integers.nd rfl (by first | exact Or.inl rfl | exact Or.inr rfl)) (hio 1 (by decide)) (fun _ h => by cases h; decide))) (fun _ _ _ _ _ => jts_nil) (fun _ _ _ _ _ => (je_rv (jr_callC C_is_integer hr (by decide) rfl rfl rfl takes0 (ja_cons (jo_var (pv 1)) ja_nil))))))) ja_nil))))))))
theorem sc_need_polynomial : FnScope N_need_polynomial p_need_polynomial (defScope s_need_polynomial) := ⟨rfl, rfl, rfl, by decide +kernel, rfl, by decide +kernel, by decide +kernel⟩
theorem ok_need_polynomial {f : Addr} {fd : FuncData} (F : Fun K "need_polynomial" "need_polynomial" s_need_polynomial f fd) (T : Txt K mg cn) : FnOk P w K mg base (L2.CX P w) 3 f fd p_need_polynomial (spD (gOf K mg cn) (d_need_polynomial fu)) := by
  refine fnD_ok (g := gOf K mg cn) (N := N_need_polynomial) (ps := p_need_polynomial) (body := b_need_polynomial fu) F sc_need_polynomial (by decide) fun cdv A outer s H E T0 hr hio => ?_
  unfold b_need_polynomial
  exact (jss_one (js_if (jt_not (jt_tru rfl (jo_of (je_isi rfl T.hI (isi_obj T.isi_Polynomial) (ClsV.own _) rfl T.n_isinstance (pe_glob rfl T.m_Polynomial rfl) (jo_var (pv 0)))) (fun _ => rfl))) (jss_one (T.BadPolynomial.raise hr (takes_of rfl rfl rfl rfl) (ja_cons (jo_var (pv 1)) ja_nil))) jss_nil))
theorem sc_trimmed : FnScope N_trimmed p_trimmed (defScope s_trimmed) := ⟨rfl, rfl, rfl, by decide +kernel, rfl, by decide +kernel, by decide +kernel⟩
theorem ok_trimmed {f : Addr} {fd : FuncData} (F : Fun K "trimmed" "trimmed" s_trimmed f fd) (T : Txt K mg cn) : FnOk P w K mg base (L2.CX P w) 1 f fd p_trimmed (spD (gOf K mg cn) (d_trimmed fu)) := by
  refine fnD_ok (g := gOf K mg cn) (N := N_trimmed) (ps := p_trimmed) (body := b_trimmed fu) F sc_trimmed (by decide) fun cdv A outer s H E T0 hr hio => ?_
  unfold b_trimmed
  exact (jss_cons (js_set (i := 1) (fun _ h => ps_set (i := 1) sc_trimmed.nd rfl (by first | exact Or.inl rfl | exact Or.inr rfl) h) (hio 1 (by decide)) (jr_cb (o_list rfl) (fun _ _ hc h => pe_callTy hc rfl T.n_list rfl h) (ja_cons (jo_var (pv 0)) ja_nil)))
    (jss_cons (js_while fu (passes_of rfl) (jt_w (jw_and (jt_cmp (o_ne rfl (hu64 hr)) (jo_var (pv 1)) (jo_of (je_rv (jr_lst ja_nil))) (nomark _)) (jw_and1 (jt_cmp (o_eq rfl (hu64 hr)) (jo_of (je_ix rfl (jo_var (pv 1)) (jo_of (je_un o_neg (jo_of je_int))) (fun _ _ => rfl))) (jo_of je_int) (nomark _))))) (jss_one (js_expr (je_pop (pv 1)) rfl)))
    (jss_one (js_ret (jr_cb (o_tuple rfl) (fun _ _ hc h => pe_callTy hc rfl T.n_tuple rfl h) (ja_cons (jo_var (pv 1)) ja_nil))))))
theorem sc_shifted_by : FnScope N_shifted_by p_shifted_by (defScope s_shifted_by) := ⟨rfl, rfl, rfl, by decide +kernel, rfl, by decide +kernel, by decide +kernel⟩
theorem ok_shifted_by {f : Addr} {fd : FuncData} (F : Fun K "shifted_by" "shifted_by" s_shifted_by f fd) (T : Txt K mg cn) : FnOk P w K mg base (L2.CX P w) 1 f fd p_shifted_by (spD (gOf K mg cn) (d_shifted_by fu)) := by
  refine fnD_ok (g := gOf K mg cn) (N := N_shifted_by) (ps := p_shifted_by) (body := b_shifted_by fu) F sc_shifted_by (by decide) fun cdv A outer s H E T0 hr hio => ?_
  unfold b_shifted_by
  exact (jss_cons (js_set (i := 2) (fun _ h => ps_set (i := 2) sc_shifted_by.nd rfl (by first | exact Or.inl rfl | exact Or.inr rfl) h) (hio 2 (by decide)) (jr_cb (o_list rfl) (fun _ _ hc h => pe_callTy hc rfl T.n_list rfl h) (ja_cons (jo_var (pv 0)) ja_nil)))
    (jss_cons (js_for (passes_of rfl) rfl (ji_range1 rfl T.n_range (ja_cons (jo_of (je_bin o_sub (jo_of (je_rv (jr_cb (o_len rfl) (fun _ _ hc h => pe_callB hc rfl T.n_len rfl h) (ja_cons (jo_var (pv 2)) ja_nil)))) (jo_of je_int))) ja_nil)) (jg_name (i := 3) (pg_name (i := 3) sc_shifted_by.nd rfl (by first | exact Or.inl rfl | exact Or.inr rfl)) (hio 3 (by decide)) (fun _ h => by cases h)) (jss_one (js_for (passes_of rfl) rfl (ji_range3 rfl T.n_range (ja_cons (jo_of (je_bin o_sub (jo_of (je_rv (jr_cb (o_len rfl) (fun _ _ hc h => pe_callB hc rfl T.n_len rfl h) (ja_cons (jo_var (pv 2)) ja_nil)))) (jo_of je_int))) (ja_cons (jo_of (je_bin o_sub (jo_var (pv 3)) (jo_of je_int))) (ja_cons (jo_of (je_un o_neg (jo_of je_int))) ja_nil)))) (jg_name (i := 4) (pg_name (i := 4) sc_shifted_by.nd rfl (by first | exact Or.inl rfl | exact Or.inr rfl)) (hio 4 (by decide)) (fun _ h => by cases h)) (jss_one (js_seti (k := 2) (fun _ _ h h2 => ps_asg h (pg_sub (pv 2) h2 set_list)) (je_of (jo_var (pv 4))) (je_bin o_add (jo_of (je_ix rfl (jo_var (pv 2)) (jo_var (pv 4)) (fun _ _ => rfl))) (jo_of (je_bin o_mul (jo_var (pv 1)) (jo_of (je_ix rfl (jo_var (pv 2)) (jo_of (je_bin o_add (jo_var (pv 4)) (jo_of je_int))) (fun _ _ => rfl)))))))))))
    (jss_one (js_ret (jr_of (je_of (jo_frz (pv 2) (hio 2 (by decide)))))))))
theorem sc_PolynomialX_initX : FnScope N_PolynomialX_initX p_PolynomialX_initX (defScope s_PolynomialX_initX) := ⟨rfl, rfl, rfl, by decide +kernel, rfl, by decide +kernel, by decide +kernel⟩
theorem ok_PolynomialX_initX {f : Addr} {fd : FuncData} (F : Fun K "__init__" "Polynomial.__init__" s_PolynomialX_initX f fd) (T : Txt K mg cn) (C_are_integers : Cl P w (gOf K mg cn) base 2 "are_integers" p_are_integers (d_are_integers fu)) (C_trimmed : Cl P w (gOf K mg cn) base 1 "trimmed" p_trimmed (d_trimmed fu)) : FnOk P w K mg base (L2.CX P w) 3 f fd p_PolynomialX_initX (spD (gOf K mg cn) (d_PolynomialX_initX fu)) := by
  refine fnD_ok (g := gOf K mg cn) (N := N_PolynomialX_initX) (ps := p_PolynomialX_initX) (body := b_PolynomialX_initX fu) F sc_PolynomialX_initX (by decide) fun cdv A outer s H E T0 hr hio => ?_
  unfold b_PolynomialX_initX
  exact (jss_cons (js_if (jt_not (jt_tru rfl (jo_of (je_rv (jr_callC C_are_integers hr (by decide) rfl rfl rfl (takes_of rfl rfl rfl rfl) (ja_cons (jo_var (pv 1)) ja_nil)))) (fun _ => rfl))) (jss_one (T.BadPolynomial.raise hr (takes_of rfl rfl rfl rfl) (ja_cons (jo_of je_str) ja_nil))) jss_nil)
    (jss_cons (js_putf (k := 0) rfl T.F_numbers T.nmlen (pv 0) (fun _ _ h h2 => ps_fld h h2 rfl) (je_rv (jr_callC C_trimmed hr (by decide) rfl rfl rfl (takes_of rfl rfl rfl rfl) (ja_cons (jo_var (pv 1)) ja_nil))))
    (jss_one (js_putf (k := 0) rfl T.F_degree T.nmlen (pv 0) (fun _ _ h h2 => ps_fld h h2 rfl) (je_bin o_sub (jo_of (je_rv (jr_cb (o_len rfl) (fun _ _ hc h => pe_callB hc rfl T.n_len rfl h) (ja_cons (jo_of (je_fld rfl T.F_numbers (jo_var (pv 0)) rfl)) ja_nil)))) (jo_of je_int))))))
theorem sc_is_above : FnScope N_is_above p_is_above (defScope s_is_above) := ⟨rfl, rfl, rfl, by decide +kernel, rfl, by decide +kernel, by decide +kernel⟩
theorem ok_is_above {f : Addr} {fd : FuncData} (F : Fun K "is_above" "is_above" s_is_above f fd) (T : Txt K mg cn) (C_shifted_by : Cl P w (gOf K mg cn) base 1 "shifted_by" p_shifted_by (d_shifted_by fu)) : FnOk P w K mg base (L2.CX P w) 2 f fd p_is_above (spD (gOf K mg cn) (d_is_above fu)) := by
  refine fnD_ok (g := gOf K mg cn) (N := N_is_above) (ps := p_is_above) (body := b_is_above fu) F sc_is_above (by decide) fun cdv A outer s H E T0 hr hio => ?_
  unfold b_is_above
  exact (jss_cons (js_set (i := 2) (fun _ h => ps_set (i := 2) sc_is_above.nd rfl (by first | exact Or.inl rfl | exact Or.inr rfl) h) (hio 2 (by decide)) (jr_callC C_shifted_by hr (by decide) rfl rfl rfl (takes_of rfl rfl rfl rfl) (ja_cons (jo_var (pv 0)) (ja_cons (jo_var (pv 1)) ja_nil))))
    (jss_one (js_ret (jr_of (je_and (je_cmp (o_ne rfl (hu64 hr)) (jo_var (pv 2)) (jo_of (je_rv (jr_lst ja_nil))) (nomark _)) (je_and (je_cmp (o_gt) (jo_of (je_ix rfl (jo_var (pv 2)) (jo_of je_int) (fun _ _ => rfl))) (jo_of je_int) (nomark _)) (je_one (je_cmp (o_ge) (jo_of (je_rv (jr_cb (o_min1 rfl) (fun _ _ hc h => pe_callB hc rfl T.n_min rfl h) (ja_cons (jo_var (pv 2)) ja_nil)))) (jo_of je_int) (nomark _)))))))))
theorem sc_least_above : FnScope N_least_above p_least_above (defScope s_least_above) := ⟨rfl, rfl, rfl, by decide +kernel, rfl, by decide +kernel, by decide +kernel⟩
theorem ok_least_above {f : Addr} {fd : FuncData} (F : Fun K "least_above" "least_above" s_least_above f fd) (T : Txt K mg cn) (C_is_above : Cl P w (gOf K mg cn) base 2 "is_above" p_is_above (d_is_above fu)) : FnOk P w K mg base (L2.CX P w) 3 f fd p_least_above (spD (gOf K mg cn) (d_least_above fu)) := by
  refine fnD_ok (g := gOf K mg cn) (N := N_least_above) (ps := p_least_above) (body := b_least_above fu) F sc_least_above (by decide) fun cdv A outer s H E T0 hr hio => ?_
  unfold b_least_above
  exact (jss_cons (js_par2 (i := 1) (j := 2) (fun _ h => ps_par (i := 1) (j := 2) rfl sc_least_above.nd rfl rfl (by decide) rfl rfl h rfl) (hio 1 (by decide)) (hio 2 (by decide)) (ja_cons (jo_of (je_bin o_sub (jo_of (je_c (v := V.int 2) (pe_glob rfl (T.c_LEAST_M).choose_spec (show L2.RelV (V.int 2) _ from ⟨_, rfl⟩)) fun _ => rfl)) (jo_of je_int))) (ja_cons (jo_of (je_c (v := V.int 2) (pe_glob rfl (T.c_LEAST_M).choose_spec (show L2.RelV (V.int 2) _ from ⟨_, rfl⟩)) fun _ => rfl)) ja_nil)))
    (jss_cons (js_while fu (passes_of rfl) (jt_not (jt_tru rfl (jo_of (je_rv (jr_callC C_is_above hr (by decide) rfl rfl rfl (takes_of rfl rfl rfl rfl) (ja_cons (jo_var (pv 0)) (ja_cons (jo_var (pv 2)) ja_nil))))) (fun _ => rfl))) (jss_one (js_par2 (i := 1) (j := 2) (fun _ h => ps_par (i := 1) (j := 2) rfl sc_least_above.nd rfl rfl (by decide) rfl rfl h rfl) (hio 1 (by decide)) (hio 2 (by decide)) (ja_cons (jo_var (pv 2)) (ja_cons (jo_of (je_bin o_mul (jo_of je_int) (jo_var (pv 2)))) ja_nil)))))
    (jss_cons (js_while fu (passes_of rfl) (jt_cmp (o_gt) (jo_of (je_bin o_sub (jo_var (pv 2)) (jo_var (pv 1)))) (jo_of je_int) (nomark _)) (jss_cons (js_set (i := 3) (fun _ h => ps_set (i := 3) sc_least_above.nd rfl (by first | exact Or.inl rfl | exact Or.inr rfl) h) (hio 3 (by decide)) (jr_of (je_bin o_div (jo_of (je_bin o_add (jo_var (pv 1)) (jo_var (pv 2)))) (jo_of je_int))))
    (jss_one (js_if (jt_tru rfl (jo_of (je_rv (jr_callC C_is_above hr (by decide) rfl rfl rfl (takes_of rfl rfl rfl rfl) (ja_cons (jo_var (pv 0)) (ja_cons (jo_var (pv 3)) ja_nil))))) (fun _ => rfl)) (jss_one (js_set (i := 2) (fun _ h => ps_set (i := 2) sc_least_above.nd rfl (by first | exact Or.inl rfl | exact Or.inr rfl) h) (hio 2 (by decide)) (jr_of (je_of (jo_var (pv 3)))))) (jss_one (js_set (i := 1) (fun _ h => ps_set (i := 1) sc_least_above.nd rfl (by first | exact Or.inl rfl | exact Or.inr rfl) h) (hio 1 (by decide)) (jr_of (je_of (jo_var (pv 3))))))))))
    (jss_one (js_ret (jr_of (je_of (jo_var (pv 2)))))))))
theorem sc_above_from : FnScope N_above_from p_above_from (defScope s_above_from) := ⟨rfl, rfl, rfl, by decide +kernel, rfl, by decide +kernel, by decide +kernel⟩
theorem ok_above_from {f : Addr} {fd : FuncData} (F : Fun K "above_from" "above_from" s_above_from f fd) (T : Txt K mg cn) (C_need_polynomial : Cl P w (gOf K mg cn) base 3 "need_polynomial" p_need_polynomial (d_need_polynomial fu)) (C_least_above : Cl P w (gOf K mg cn) base 3 "least_above" p_least_above (d_least_above fu)) : FnOk P w K mg base (L2.CX P w) 4 f fd p_above_from (spD (gOf K mg cn) (d_above_from fu)) := by
  refine fnD_ok (g := gOf K mg cn) (N := N_above_from) (ps := p_above_from) (body := b_above_from fu) F sc_above_from (by decide) fun cdv A outer s H E T0 hr hio => ?_
  unfold b_above_from
  exact (jss_cons (js_expr (je_rv (jr_callC C_need_polynomial hr (by decide) rfl rfl rfl (takes_of rfl rfl rfl rfl) (ja_cons (jo_var (pv 0)) (ja_cons (jo_of je_str) ja_nil)))) rfl)
    (jss_cons (js_if (jt_w (jw_or (jt_cmp (o_lt) (jo_of (je_fld rfl T.F_degree (jo_var (pv 0)) rfl)) (jo_of je_int) (nomark _)) (jw_or1 (jt_cmp (o_lt) (jo_of (je_ix rfl (jo_of (je_fld rfl T.F_numbers (jo_var (pv 0)) rfl)) (jo_of (je_un o_neg (jo_of je_int))) (fun _ _ => rfl))) (jo_of je_int) (nomark _))))) (jss_one (js_ret (jr_of je_non))) jss_nil)
    (jss_one (js_ret (jr_callC C_least_above hr (by decide) rfl rfl rfl (takes_of rfl rfl rfl rfl) (ja_cons (jo_of (je_fld rfl T.F_numbers (jo_var (pv 0)) rfl)) ja_nil))))))
theorem sc__law_jug : FnScope N__law_jug p__law_jug (defScope s__law_jug) := ⟨rfl, rfl, rfl, by decide +kernel, rfl, by decide +kernel, by decide +kernel⟩
theorem ok__law_jug {f : Addr} {fd : FuncData} (F : Fun K "_law_jug" "_law_jug" s__law_jug f fd) (T : Txt K mg cn) : FnOk P w K mg base (L2.CX P w) 1 f fd p__law_jug (spD (gOf K mg cn) (d__law_jug fu)) := by
  refine fnD_ok (g := gOf K mg cn) (N := N__law_jug) (ps := p__law_jug) (body := b__law_jug fu) F sc__law_jug (by decide) fun cdv A outer s H E T0 hr hio => ?_
  unfold b__law_jug
  exact (jss_one (js_ret (jr_lst (ja_cons (jo_of (je_rv (jr_lc rfl sc__law_jug.nd (ji_seq rfl (je_rv (jr_slice rfl (jo_var (pv 0)) jp_none (jp_some je_int)))) (blkOk_by (own := [("_law_cell", 1)]) (N := N__law_jug) (sc := defScope s__law_jug) (by decide +kernel)) rfl (fun _ _ _ _ _ => (jg_name (i := 1) (pg_name (i := 1) sc__law_jug.nd rfl (by first | exact Or.inl rfl | exact Or.inr rfl)) (hio 1 (by decide)) (fun _ h => by cases h; decide))) (fun _ _ _ _ _ => jts_nil) (fun _ _ _ _ _ => (je_rv (jr_cb (o_int) (fun _ _ hc h => pe_callTy hc rfl T.n_int rfl h) (ja_cons (jo_var (pv 1)) ja_nil))))))) (ja_cons (jo_of je_int) (ja_cons (jo_of je_int) ja_nil))))))
theorem sc__law_pour : FnScope N__law_pour p__law_pour (defScope s__law_pour) := ⟨rfl, rfl, rfl, by decide +kernel, rfl, by decide +kernel, by decide +kernel⟩
theorem ok__law_pour {f : Addr} {fd : FuncData} (F : Fun K "_law_pour" "_law_pour" s__law_pour f fd) (T : Txt K mg cn) : FnOk P w K mg base (L2.CX P w) 1 f fd p__law_pour (spD (gOf K mg cn) (d__law_pour fu)) := by
  refine fnD_ok (g := gOf K mg cn) (N := N__law_pour) (ps := p__law_pour) (body := b__law_pour fu) F sc__law_pour (by decide) fun cdv A outer s H E T0 hr hio => ?_
  unfold b__law_pour
  exact (jss_cons (js_if (jt_cmp (o_gt) (jo_of (je_ix rfl (jo_var (pv 0)) (jo_of je_int) (fun _ _ => rfl))) (jo_of je_int) (nomark _)) (jss_cons (js_set (i := 2) (fun _ h => ps_set (i := 2) sc__law_pour.nd rfl (by first | exact Or.inl rfl | exact Or.inr rfl) h) (hio 2 (by decide)) (jr_of (je_ix rfl (jo_var (pv 0)) (jo_of je_int) (fun _ _ => rfl))))
    (jss_cons (js_seti (k := 0) (fun _ _ h h2 => ps_asg h (pg_sub (pv 0) h2 set_list)) je_int (je_bin o_div (jo_of (je_rv (jr_cb (o_int) (fun _ _ hc h => pe_callTy hc rfl T.n_int rfl h) (ja_cons (jo_var (pv 2)) ja_nil)))) (jo_var (pv 1))))
    (jss_one (js_ret (jr_of (je_bin o_mod (jo_of (je_rv (jr_cb (o_int) (fun _ _ hc h => pe_callTy hc rfl T.n_int rfl h) (ja_cons (jo_var (pv 2)) ja_nil)))) (jo_var (pv 1)))))))) jss_nil)
    (jss_cons (js_set (i := 3) (fun _ h => ps_set (i := 3) sc__law_pour.nd rfl (by first | exact Or.inl rfl | exact Or.inr rfl) h) (hio 3 (by decide)) (jr_of (je_ix rfl (jo_var (pv 0)) (jo_of je_int) (fun _ _ => rfl))))
    (jss_cons (js_seti (k := 0) (fun _ _ h h2 => ps_asg h (pg_sub (pv 0) h2 set_list)) je_int (je_bin o_add (jo_var (pv 3)) (jo_of je_int)))
    (jss_cons (js_set (i := 4) (fun _ h => ps_set (i := 4) sc__law_pour.nd rfl (by first | exact Or.inl rfl | exact Or.inr rfl) h) (hio 4 (by decide)) (jr_of (je_bin o_add (jo_of (je_bin o_mul (jo_of je_int) (jo_var (pv 3)))) (jo_of je_int))))
    (jss_cons (js_if (jt_cmp (o_ne rfl (hu64 hr)) (jo_of (je_ix rfl (jo_var (pv 0)) (jo_of je_int) (fun _ _ => rfl))) (jo_of (je_rv (jr_lst ja_nil))) (nomark _)) (jss_one (js_set (i := 4) (fun _ h => ps_set (i := 4) sc__law_pour.nd rfl (by first | exact Or.inl rfl | exact Or.inr rfl) h) (hio 4 (by decide)) (jr_of (je_ix rfl (jo_of (je_ix rfl (jo_var (pv 0)) (jo_of je_int) (fun _ _ => rfl))) (jo_of (je_bin o_mod (jo_of (je_rv (jr_cb (o_int) (fun _ _ hc h => pe_callTy hc rfl T.n_int rfl h) (ja_cons (jo_var (pv 3)) ja_nil)))) (jo_of (je_rv (jr_cb (o_len rfl) (fun _ _ hc h => pe_callB hc rfl T.n_len rfl h) (ja_cons (jo_of (je_ix rfl (jo_var (pv 0)) (jo_of je_int) (fun _ _ => rfl))) ja_nil)))))) (fun _ _ => rfl))))) jss_nil)
    (jss_cons (js_if (jt_w (jw_and (jt_cmp (o_lt) (jo_var (pv 3)) (jo_of (je_rv (jr_cb (o_len rfl) (fun _ _ hc h => pe_callB hc rfl T.n_len rfl h) (ja_cons (jo_of (je_ix rfl (jo_var (pv 0)) (jo_of je_int) (fun _ _ => rfl))) ja_nil)))) (nomark _)) (jw_and1 (jt_cmp (o_ge) (jo_of (je_rv (jr_cb (o_abs) (fun _ _ hc h => pe_callB hc rfl T.n_abs rfl h) (ja_cons (jo_var (pv 4)) ja_nil)))) (jo_of (je_bin o_pow (jo_of je_int) (jo_of je_int))) (nomark _))))) (jss_cons (js_set (i := 2) (fun _ h => ps_set (i := 2) sc__law_pour.nd rfl (by first | exact Or.inl rfl | exact Or.inr rfl) h) (hio 2 (by decide)) (jr_of (je_bin o_add (jo_of (je_bin o_mul (jo_of je_int) (jo_of (je_bin o_sub (jo_of (je_rv (jr_cb (o_abs) (fun _ _ hc h => pe_callB hc rfl T.n_abs rfl h) (ja_cons (jo_var (pv 4)) ja_nil)))) (jo_of (je_bin o_pow (jo_of je_int) (jo_of je_int))))))) (jo_of (je_rv (jr_cb (o_int) (fun _ _ hc h => pe_callTy hc rfl T.n_int rfl h) (ja_cons (jo_of (je_cmp (o_lt) (jo_var (pv 4)) (jo_of je_int) (nomark _))) ja_nil)))))))
    (jss_cons (js_seti (k := 0) (fun _ _ h h2 => ps_asg h (pg_sub (pv 0) h2 set_list)) je_int (je_bin o_div (jo_of (je_rv (jr_cb (o_int) (fun _ _ hc h => pe_callTy hc rfl T.n_int rfl h) (ja_cons (jo_var (pv 2)) ja_nil)))) (jo_var (pv 1))))
    (jss_one (js_ret (jr_of (je_bin o_mod (jo_of (je_rv (jr_cb (o_int) (fun _ _ hc h => pe_callTy hc rfl T.n_int rfl h) (ja_cons (jo_var (pv 2)) ja_nil)))) (jo_var (pv 1)))))))) jss_nil)
    (jss_cons (js_set (i := 5) (fun _ h => ps_set (i := 5) sc__law_pour.nd rfl (by first | exact Or.inl rfl | exact Or.inr rfl) h) (hio 5 (by decide)) (jr_of (je_bin o_mod (jo_of (je_rv (jr_cb (o_int) (fun _ _ hc h => pe_callTy hc rfl T.n_int rfl h) (ja_cons (jo_of (je_bin o_pow (jo_of (je_bin o_add (jo_of (je_bin o_add (jo_of (je_bin o_mod (jo_of (je_rv (jr_cb (o_int) (fun _ _ hc h => pe_callTy hc rfl T.n_int rfl h) (ja_cons (jo_var (pv 4)) ja_nil)))) (jo_of je_int))) (jo_of (je_bin o_mul (jo_of je_int) (jo_var (pv 3)))))) (jo_of je_int))) (jo_of je_int))) ja_nil)))) (jo_of je_int))))
    (jss_cons (js_set (i := 5) (fun _ h => ps_set (i := 5) sc__law_pour.nd rfl (by first | exact Or.inl rfl | exact Or.inr rfl) h) (hio 5 (by decide)) (jr_of (je_bin o_mod (jo_of (je_rv (jr_cb (o_int) (fun _ _ hc h => pe_callTy hc rfl T.n_int rfl h) (ja_cons (jo_of (je_bin o_pow (jo_of (je_bin o_add (jo_of (je_bin o_add (jo_of (je_bin o_mul (jo_var (pv 5)) (jo_of (je_bin o_add (jo_of (je_bin o_mul (jo_of je_int) (jo_var (pv 3)))) (jo_of je_int))))) (jo_of (je_bin o_mul (jo_of (je_bin o_mul (jo_of je_int) (jo_var (pv 3)))) (jo_var (pv 3)))))) (jo_of je_int))) (jo_of je_int))) ja_nil)))) (jo_of je_int))))
    (jss_one (js_ret (jr_of (je_bin o_mod (jo_of (je_rv (jr_cb (o_int) (fun _ _ hc h => pe_callTy hc rfl T.n_int rfl h) (ja_cons (jo_of (je_bin o_div (jo_var (pv 5)) (jo_of je_int))) ja_nil)))) (jo_var (pv 1))))))))))))))
theorem sc__law_of : FnScope N__law_of p__law_of (defScope s__law_of) := ⟨rfl, rfl, rfl, by decide +kernel, rfl, by decide +kernel, by decide +kernel⟩
theorem ok__law_of {f : Addr} {fd : FuncData} (F : Fun K "_law_of" "_law_of" s__law_of f fd) (T : Txt K mg cn) (C__law_pour : Cl P w (gOf K mg cn) base 1 "_law_pour" p__law_pour (d__law_pour fu)) : FnOk P w K mg base (L2.CX P w) 2 f fd p__law_of (spD (gOf K mg cn) (d__law_of fu)) := by
  refine fnD_ok (g := gOf K mg cn) (N := N__law_of) (ps := p__law_of) (body := b__law_of fu) F sc__law_of (by decide) fun cdv A outer s H E T0 hr hio => ?_
  unfold b__law_of
  exact (jss_one (js_ret (jr_of (je_ix rfl (jo_var (pv 1)) (jo_of (je_rv (jr_callC C__law_pour hr (by decide) rfl rfl rfl (takes_of rfl rfl rfl rfl) (ja_cons (jo_var (pv 0)) (ja_cons (jo_of (je_rv (jr_cb (o_len rfl) (fun _ _ hc h => pe_callB hc rfl T.n_len rfl h) (ja_cons (jo_var (pv 1)) ja_nil)))) ja_nil))))) (fun _ _ => rfl)))))
theorem sc__law_cut : FnScope N__law_cut p__law_cut (defScope s__law_cut) := ⟨rfl, rfl, rfl, by decide +kernel, rfl, by decide +kernel, by decide +kernel⟩
theorem ok__law_cut {f : Addr} {fd : FuncData} (F : Fun K "_law_cut" "_law_cut" s__law_cut f fd) (T : Txt K mg cn) : FnOk P w K mg base (L2.CX P w) 1 f fd p__law_cut (spD (gOf K mg cn) (d__law_cut fu)) := by
  refine fnD_ok (g := gOf K mg cn) (N := N__law_cut) (ps := p__law_cut) (body := b__law_cut fu) F sc__law_cut (by decide) fun cdv A outer s H E T0 hr hio => ?_
  unfold b__law_cut
  exact (jss_cons (js_set (i := 1) (fun _ h => ps_set (i := 1) sc__law_cut.nd rfl (by first | exact Or.inl rfl | exact Or.inr rfl) h) (hio 1 (by decide)) (jr_of (je_maxd rfl (hu64 hr) rfl T.n_max (jo_of (je_rv (jr_lc rfl sc__law_cut.nd (ji_enum rfl rfl T.n_enumerate (jo_var (pv 0))) (blkOk_by (own := [("_law_spot", 2), ("_law_number", 3)]) (N := N__law_cut) (sc := defScope s__law_cut) (by decide +kernel)) rfl (fun _ _ _ _ _ => (jg_tup (n := 2) rfl rfl (jgs_cons (jg_name (i := 2) (pg_name (i := 2) sc__law_cut.nd rfl (by first | exact Or.inl rfl | exact Or.inr rfl)) (hio 2 (by decide)) (fun _ h => by cases h; decide)) (jgs_cons (jg_name (i := 3) (pg_name (i := 3) sc__law_cut.nd rfl (by first | exact Or.inl rfl | exact Or.inr rfl)) (hio 3 (by decide)) (fun _ h => by cases h; decide)) jgs_nil)))) (fun _ _ _ _ _ => (jts_one (jt_cmp (o_ne rfl (hu64 hr)) (jo_var (pv 3)) (jo_of je_int) (nomark _)))) (fun _ _ _ _ _ => (je_of (jo_var (pv 2))))))) (je_un o_neg (jo_of je_int)))))
    (jss_one (js_ret (jr_cb (o_tuple rfl) (fun _ _ hc h => pe_callTy hc rfl T.n_tuple rfl h) (ja_cons (jo_of (je_rv (jr_slice rfl (jo_var (pv 0)) jp_none (jp_some (je_bin o_add (jo_var (pv 1)) (jo_of je_int)))))) ja_nil)))))
theorem sc__law_worth : FnScope N__law_worth p__law_worth (defScope s__law_worth) := ⟨rfl, rfl, rfl, by decide +kernel, rfl, by decide +kernel, by decide +kernel⟩
theorem ok__law_worth {f : Addr} {fd : FuncData} (F : Fun K "_law_worth" "_law_worth" s__law_worth f fd) (T : Txt K mg cn) : FnOk P w K mg base (L2.CX P w) 1 f fd p__law_worth (spD (gOf K mg cn) (d__law_worth fu)) := by
  refine fnD_ok (g := gOf K mg cn) (N := N__law_worth) (ps := p__law_worth) (body := b__law_worth fu) F sc__law_worth (by decide) fun cdv A outer s H E T0 hr hio => ?_
  unfold b__law_worth
  exact (jss_cons (js_asg (fun _ _ h h2 => ps_asg h h2) (je_tup (ja_cons (jo_of je_int) (ja_cons (jo_of je_int) ja_nil))) (jg_tup (n := 2) rfl rfl (jgs_cons (jg_name (i := 2) (pg_name (i := 2) sc__law_worth.nd rfl (by first | exact Or.inl rfl | exact Or.inr rfl)) (hio 2 (by decide)) (fun _ h => by cases h)) (jgs_cons (jg_name (i := 3) (pg_name (i := 3) sc__law_worth.nd rfl (by first | exact Or.inl rfl | exact Or.inr rfl)) (hio 3 (by decide)) (fun _ h => by cases h)) jgs_nil))))
    (jss_cons (js_for (passes_of rfl) rfl (ji_seq rfl (je_of (jo_var (pv 0)))) (jg_name (i := 4) (pg_name (i := 4) sc__law_worth.nd rfl (by first | exact Or.inl rfl | exact Or.inr rfl)) (hio 4 (by decide)) (fun _ h => by cases h)) (jss_one (js_par2 (i := 2) (j := 3) (fun _ h => ps_par (i := 2) (j := 3) rfl sc__law_worth.nd rfl rfl (by decide) rfl rfl h rfl) (hio 2 (by decide)) (hio 3 (by decide)) (ja_cons (jo_of (je_bin o_add (jo_var (pv 2)) (jo_of (je_bin o_mul (jo_var (pv 4)) (jo_var (pv 3)))))) (ja_cons (jo_of (je_bin o_mul (jo_var (pv 3)) (jo_var (pv 1)))) ja_nil)))))
    (jss_one (js_ret (jr_of (je_of (jo_var (pv 2))))))))
theorem sc__law_power : FnScope N__law_power p__law_power (defScope s__law_power) := ⟨rfl, rfl, rfl, by decide +kernel, rfl, by decide +kernel, by decide +kernel⟩
theorem ok__law_power {f : Addr} {fd : FuncData} (F : Fun K "_law_power" "_law_power" s__law_power f fd) (T : Txt K mg cn) : FnOk P w K mg base (L2.CX P w) 1 f fd p__law_power (spD (gOf K mg cn) (d__law_power fu)) := by
  refine fnD_ok (g := gOf K mg cn) (N := N__law_power) (ps := p__law_power) (body := b__law_power fu) F sc__law_power (by decide) fun cdv A outer s H E T0 hr hio => ?_
  unfold b__law_power
  exact (jss_cons (js_set (i := 2) (fun _ h => ps_set (i := 2) sc__law_power.nd rfl (by first | exact Or.inl rfl | exact Or.inr rfl) h) (hio 2 (by decide)) (jr_of je_int))
    (jss_cons (js_for (passes_of rfl) rfl (ji_range1 rfl T.n_range (ja_cons (jo_var (pv 1)) ja_nil)) (jg_name (i := 3) (pg_name (i := 3) sc__law_power.nd rfl (by first | exact Or.inl rfl | exact Or.inr rfl)) (hio 3 (by decide)) (fun _ h => by cases h)) (jss_one (js_set (i := 2) (fun _ h => ps_set (i := 2) sc__law_power.nd rfl (by first | exact Or.inl rfl | exact Or.inr rfl) h) (hio 2 (by decide)) (jr_of (je_bin o_mul (jo_var (pv 2)) (jo_var (pv 0)))))))
    (jss_one (js_ret (jr_of (je_of (jo_var (pv 2))))))))
theorem sc__law_times : FnScope N__law_times p__law_times (defScope s__law_times) := ⟨rfl, rfl, rfl, by decide +kernel, rfl, by decide +kernel, by decide +kernel⟩
theorem ok__law_times {f : Addr} {fd : FuncData} (F : Fun K "_law_times" "_law_times" s__law_times f fd) (T : Txt K mg cn) (C__law_cut : Cl P w (gOf K mg cn) base 1 "_law_cut" p__law_cut (d__law_cut fu)) : FnOk P w K mg base (L2.CX P w) 2 f fd p__law_times (spD (gOf K mg cn) (d__law_times fu)) := by
  refine fnD_ok (g := gOf K mg cn) (N := N__law_times) (ps := p__law_times) (body := b__law_times fu) F sc__law_times (by decide) fun cdv A outer s H E T0 hr hio => ?_
  unfold b__law_times
  exact (jss_cons (js_setLc rfl sc__law_times.nd rfl rfl rfl (ji_range1 rfl T.n_range (ja_cons (jo_of (je_bin o_add (jo_of (je_rv (jr_cb (o_len rfl) (fun _ _ hc h => pe_callB hc rfl T.n_len rfl h) (ja_cons (jo_var (pv 0)) ja_nil)))) (jo_of (je_rv (jr_cb (o_len rfl) (fun _ _ hc h => pe_callB hc rfl T.n_len rfl h) (ja_cons (jo_var (pv 1)) ja_nil)))))) ja_nil)) (blkOk_by (own := [("_law_spot", 3)]) (N := N__law_times) (sc := defScope s__law_times) (by decide +kernel)) rfl (fun _ _ _ _ _ => (jg_name (i := 3) (pg_name (i := 3) sc__law_times.nd rfl (by first | exact Or.inl rfl | exact Or.inr rfl)) (hio 3 (by decide)) (fun _ h => by cases h; decide))) (fun _ _ _ _ _ => jts_nil) (fun _ _ _ _ _ => je_int) (hio 2 (by decide)))
    (jss_cons (js_for (passes_of rfl) rfl (ji_enum rfl rfl T.n_enumerate (jo_var (pv 0))) (jg_tup (n := 2) rfl rfl (jgs_cons (jg_name (i := 4) (pg_name (i := 4) sc__law_times.nd rfl (by first | exact Or.inl rfl | exact Or.inr rfl)) (hio 4 (by decide)) (fun _ h => by cases h)) (jgs_cons (jg_name (i := 5) (pg_name (i := 5) sc__law_times.nd rfl (by first | exact Or.inl rfl | exact Or.inr rfl)) (hio 5 (by decide)) (fun _ h => by cases h)) jgs_nil))) (jss_one (js_for (passes_of rfl) rfl (ji_enum rfl rfl T.n_enumerate (jo_var (pv 1))) (jg_tup (n := 2) rfl rfl (jgs_cons (jg_name (i := 3) (pg_name (i := 3) sc__law_times.nd rfl (by first | exact Or.inl rfl | exact Or.inr rfl)) (hio 3 (by decide)) (fun _ h => by cases h)) (jgs_cons (jg_name (i := 6) (pg_name (i := 6) sc__law_times.nd rfl (by first | exact Or.inl rfl | exact Or.inr rfl)) (hio 6 (by decide)) (fun _ h => by cases h)) jgs_nil))) (jss_one (js_seti (k := 2) (fun _ _ h h2 => ps_asg h (pg_sub (pv 2) h2 set_list)) (je_bin o_add (jo_var (pv 4)) (jo_var (pv 3))) (je_bin o_add (jo_of (je_ix rfl (jo_var (pv 2)) (jo_of (je_bin o_add (jo_var (pv 4)) (jo_var (pv 3)))) (fun _ _ => rfl))) (jo_of (je_bin o_mul (jo_var (pv 5)) (jo_var (pv 6))))))))))
    (jss_one (js_ret (jr_callC C__law_cut hr (by decide) rfl rfl rfl (takes_of rfl rfl rfl rfl) (ja_cons (jo_frz (pv 2) (hio 2 (by decide))) ja_nil))))))
theorem sc__law_choose : FnScope N__law_choose p__law_choose (defScope s__law_choose) := ⟨rfl, rfl, rfl, by decide +kernel, rfl, by decide +kernel, by decide +kernel⟩
theorem ok__law_choose {f : Addr} {fd : FuncData} (F : Fun K "_law_choose" "_law_choose" s__law_choose f fd) (T : Txt K mg cn) : FnOk P w K mg base (L2.CX P w) 1 f fd p__law_choose (spD (gOf K mg cn) (d__law_choose fu)) := by
  refine fnD_ok (g := gOf K mg cn) (N := N__law_choose) (ps := p__law_choose) (body := b__law_choose fu) F sc__law_choose (by decide) fun cdv A outer s H E T0 hr hio => ?_
  unfold b__law_choose
  exact (jss_cons (js_set (i := 2) (fun _ h => ps_set (i := 2) sc__law_choose.nd rfl (by first | exact Or.inl rfl | exact Or.inr rfl) h) (hio 2 (by decide)) (jr_of je_int))
    (jss_cons (js_for (passes_of rfl) rfl (ji_range1 rfl T.n_range (ja_cons (jo_var (pv 1)) ja_nil)) (jg_name (i := 3) (pg_name (i := 3) sc__law_choose.nd rfl (by first | exact Or.inl rfl | exact Or.inr rfl)) (hio 3 (by decide)) (fun _ h => by cases h)) (jss_one (js_set (i := 2) (fun _ h => ps_set (i := 2) sc__law_choose.nd rfl (by first | exact Or.inl rfl | exact Or.inr rfl) h) (hio 2 (by decide)) (jr_of (je_bin o_div (jo_of (je_bin o_mul (jo_var (pv 2)) (jo_of (je_bin o_sub (jo_var (pv 0)) (jo_var (pv 3)))))) (jo_of (je_bin o_add (jo_var (pv 3)) (jo_of je_int))))))))
    (jss_one (js_ret (jr_of (je_of (jo_var (pv 2))))))))
theorem sc__law_moved : FnScope N__law_moved p__law_moved (defScope s__law_moved) := ⟨rfl, rfl, rfl, by decide +kernel, rfl, by decide +kernel, by decide +kernel⟩
theorem ok__law_moved {f : Addr} {fd : FuncData} (F : Fun K "_law_moved" "_law_moved" s__law_moved f fd) (T : Txt K mg cn) (C__law_power : Cl P w (gOf K mg cn) base 1 "_law_power" p__law_power (d__law_power fu)) (C__law_choose : Cl P w (gOf K mg cn) base 1 "_law_choose" p__law_choose (d__law_choose fu)) : FnOk P w K mg base (L2.CX P w) 2 f fd p__law_moved (spD (gOf K mg cn) (d__law_moved fu)) := by
  refine fnD_ok (g := gOf K mg cn) (N := N__law_moved) (ps := p__law_moved) (body := b__law_moved fu) F sc__law_moved (by decide) fun cdv A outer s H E T0 hr hio => ?_
  unfold b__law_moved
  exact (jss_cons (js_set (i := 2) (fun _ h => ps_set (i := 2) sc__law_moved.nd rfl (by first | exact Or.inl rfl | exact Or.inr rfl) h) (hio 2 (by decide)) (jr_lst ja_nil))
    (jss_cons (js_for (passes_of rfl) rfl (ji_range1 rfl T.n_range (ja_cons (jo_of (je_rv (jr_cb (o_len rfl) (fun _ _ hc h => pe_callB hc rfl T.n_len rfl h) (ja_cons (jo_var (pv 0)) ja_nil)))) ja_nil)) (jg_name (i := 3) (pg_name (i := 3) sc__law_moved.nd rfl (by first | exact Or.inl rfl | exact Or.inr rfl)) (hio 3 (by decide)) (fun _ h => by cases h)) (jss_one (js_append (k := 2) rfl (pv 2) (je_rv (jr_cb (o_sum rfl) (fun _ _ hc h => pe_callB hc rfl T.n_sum rfl h) (ja_cons (jo_of (je_rv (jr_lc rfl sc__law_moved.nd (ji_range2 rfl T.n_range (ja_cons (jo_var (pv 3)) (ja_cons (jo_of (je_rv (jr_cb (o_len rfl) (fun _ _ hc h => pe_callB hc rfl T.n_len rfl h) (ja_cons (jo_var (pv 0)) ja_nil)))) ja_nil))) (blkOk_by (own := [("_law_at", 4)]) (N := N__law_moved) (sc := defScope s__law_moved) (by decide +kernel)) rfl (fun _ _ _ _ _ => (jg_name (i := 4) (pg_name (i := 4) sc__law_moved.nd rfl (by first | exact Or.inl rfl | exact Or.inr rfl)) (hio 4 (by decide)) (fun _ h => by cases h; decide))) (fun _ _ _ _ _ => jts_nil) (fun _ _ _ _ _ => (je_bin o_mul (jo_of (je_bin o_mul (jo_of (je_ix rfl (jo_var (pv 0)) (jo_var (pv 4)) (fun _ _ => rfl))) (jo_of (je_rv (jr_callC C__law_choose hr (by decide) rfl rfl rfl takes0 (ja_cons (jo_var (pv 4)) (ja_cons (jo_var (pv 3)) ja_nil))))))) (jo_of (je_rv (jr_callC C__law_power hr (by decide) rfl rfl rfl takes0 (ja_cons (jo_var (pv 1)) (ja_cons (jo_of (je_bin o_sub (jo_var (pv 4)) (jo_var (pv 3)))) ja_nil)))))))))) ja_nil))))))
    (jss_one (js_ret (jr_of (je_of (jo_frz (pv 2) (hio 2 (by decide)))))))))
theorem sc__law_is_above : FnScope N__law_is_above p__law_is_above (defScope s__law_is_above) := ⟨rfl, rfl, rfl, by decide +kernel, rfl, by decide +kernel, by decide +kernel⟩
theorem ok__law_is_above {f : Addr} {fd : FuncData} (F : Fun K "_law_is_above" "_law_is_above" s__law_is_above f fd) (T : Txt K mg cn) (C__law_moved : Cl P w (gOf K mg cn) base 2 "_law_moved" p__law_moved (d__law_moved fu)) : FnOk P w K mg base (L2.CX P w) 3 f fd p__law_is_above (spD (gOf K mg cn) (d__law_is_above fu)) := by
  refine fnD_ok (g := gOf K mg cn) (N := N__law_is_above) (ps := p__law_is_above) (body := b__law_is_above fu) F sc__law_is_above (by decide) fun cdv A outer s H E T0 hr hio => ?_
  unfold b__law_is_above
  exact (jss_cons (js_set (i := 2) (fun _ h => ps_set (i := 2) sc__law_is_above.nd rfl (by first | exact Or.inl rfl | exact Or.inr rfl) h) (hio 2 (by decide)) (jr_callC C__law_moved hr (by decide) rfl rfl rfl (takes_of rfl rfl rfl rfl) (ja_cons (jo_var (pv 0)) (ja_cons (jo_var (pv 1)) ja_nil))))
    (jss_one (js_ret (jr_of (je_and (je_cmp (o_ne rfl (hu64 hr)) (jo_var (pv 2)) (jo_of (je_rv (jr_lst ja_nil))) (nomark _)) (je_and (je_cmp (o_gt) (jo_of (je_ix rfl (jo_var (pv 2)) (jo_of je_int) (fun _ _ => rfl))) (jo_of je_int) (nomark _)) (je_one (je_cmp (o_eq rfl (hu64 hr)) (jo_of (je_rv (jr_lc rfl sc__law_is_above.nd (ji_seq rfl (je_of (jo_var (pv 2)))) (blkOk_by (own := [("_law_number", 3)]) (N := N__law_is_above) (sc := defScope s__law_is_above) (by decide +kernel)) rfl (fun _ _ _ _ _ => (jg_name (i := 3) (pg_name (i := 3) sc__law_is_above.nd rfl (by first | exact Or.inl rfl | exact Or.inr rfl)) (hio 3 (by decide)) (fun _ h => by cases h; decide))) (fun _ _ _ _ _ => (jts_one (jt_cmp (o_lt) (jo_var (pv 3)) (jo_of je_int) (nomark _)))) (fun _ _ _ _ _ => (je_of (jo_var (pv 3))))))) (jo_of (je_rv (jr_lst ja_nil))) (nomark _)))))))))
theorem sc__law_row : FnScope N__law_row p__law_row (defScope s__law_row) := ⟨rfl, rfl, rfl, by decide +kernel, rfl, by decide +kernel, by decide +kernel⟩
theorem ok__law_row {f : Addr} {fd : FuncData} (F : Fun K "_law_row" "_law_row" s__law_row f fd) (T : Txt K mg cn) (C__law_pour : Cl P w (gOf K mg cn) base 1 "_law_pour" p__law_pour (d__law_pour fu)) (C__law_of : Cl P w (gOf K mg cn) base 2 "_law_of" p__law_of (d__law_of fu)) (C__law_cut : Cl P w (gOf K mg cn) base 1 "_law_cut" p__law_cut (d__law_cut fu)) (C__law_times : Cl P w (gOf K mg cn) base 2 "_law_times" p__law_times (d__law_times fu)) : FnOk P w K mg base (L2.CX P w) 3 f fd p__law_row (spD (gOf K mg cn) (d__law_row fu)) := by
  refine fnD_ok (g := gOf K mg cn) (N := N__law_row) (ps := p__law_row) (body := b__law_row fu) F sc__law_row (by decide) fun cdv A outer s H E T0 hr hio => ?_
  unfold b__law_row
  exact (jss_cons (js_if (jt_cmp (o_eq rfl (hu64 hr)) (jo_of (je_rv (jr_callC C__law_pour hr (by decide) rfl rfl rfl (takes_of rfl rfl rfl rfl) (ja_cons (jo_var (pv 0)) (ja_cons (jo_of je_int) ja_nil))))) (jo_of je_int) (nomark _)) (jss_one (js_ret (jr_callC C__law_cut hr (by decide) rfl rfl rfl (takes_of rfl rfl rfl rfl) (ja_cons (jo_of (je_rv (jr_lc rfl sc__law_row.nd (ji_range1 rfl T.n_range (ja_cons (jo_of (je_rv (jr_callC C__law_pour hr (by decide) rfl rfl rfl (takes_of rfl rfl rfl rfl) (ja_cons (jo_var (pv 0)) (ja_cons (jo_of je_int) ja_nil))))) ja_nil)) (blkOk_by (own := [("_law_spot", 1)]) (N := N__law_row) (sc := defScope s__law_row) (by decide +kernel)) rfl (fun _ _ _ _ _ => (jg_name (i := 1) (pg_name (i := 1) sc__law_row.nd rfl (by first | exact Or.inl rfl | exact Or.inr rfl)) (hio 1 (by decide)) (fun _ h => by cases h; decide))) (fun _ _ _ _ _ => jts_nil) (fun _ _ _ _ _ => (je_bin o_sub (jo_of (je_rv (jr_callC C__law_pour hr (by decide) rfl rfl rfl takes0 (ja_cons (jo_var (pv 0)) (ja_cons (jo_of je_int) ja_nil))))) (jo_of je_int)))))) ja_nil)))) jss_nil)
    (jss_cons (js_set (i := 2) (fun _ h => ps_set (i := 2) sc__law_row.nd rfl (by first | exact Or.inl rfl | exact Or.inr rfl) h) (hio 2 (by decide)) (jr_of (je_tup (ja_cons (jo_of (je_rv (jr_callC C__law_of hr (by decide) rfl rfl rfl (takes_of rfl rfl rfl rfl) (ja_cons (jo_var (pv 0)) (ja_cons (jo_of (je_rv (jr_lst (ja_cons (jo_of je_int) (ja_cons (jo_of je_int) (ja_cons (jo_of je_int) (ja_cons (jo_of (je_bin o_pow (jo_of je_int) (jo_of je_int))) ja_nil))))))) ja_nil))))) ja_nil))))
    (jss_cons (js_for (passes_of rfl) rfl (ji_range1 rfl T.n_range (ja_cons (jo_of (je_rv (jr_callC C__law_pour hr (by decide) rfl rfl rfl (takes_of rfl rfl rfl rfl) (ja_cons (jo_var (pv 0)) (ja_cons (jo_of je_int) ja_nil))))) ja_nil)) (jg_name (i := 3) (pg_name (i := 3) sc__law_row.nd rfl (by first | exact Or.inl rfl | exact Or.inr rfl)) (hio 3 (by decide)) (fun _ h => by cases h)) (jss_cons (js_set (i := 1) (fun _ h => ps_set (i := 1) sc__law_row.nd rfl (by first | exact Or.inl rfl | exact Or.inr rfl) h) (hio 1 (by decide)) (jr_callC C__law_of hr (by decide) rfl rfl rfl (takes_of rfl rfl rfl rfl) (ja_cons (jo_var (pv 0)) (ja_cons (jo_of (je_rv (jr_lst (ja_cons (jo_of (je_rv (jr_callC C__law_pour hr (by decide) rfl rfl rfl (takes_of rfl rfl rfl rfl) (ja_cons (jo_var (pv 0)) (ja_cons (jo_of je_int) ja_nil))))) (ja_cons (jo_of (je_rv (jr_callC C__law_pour hr (by decide) rfl rfl rfl (takes_of rfl rfl rfl rfl) (ja_cons (jo_var (pv 0)) (ja_cons (jo_of je_int) ja_nil))))) (ja_cons (jo_of (je_bin o_add (jo_of (je_bin o_pow (jo_of je_int) (jo_of je_int))) (jo_of (je_rv (jr_callC C__law_pour hr (by decide) rfl rfl rfl (takes_of rfl rfl rfl rfl) (ja_cons (jo_var (pv 0)) (ja_cons (jo_of je_int) ja_nil))))))) (ja_cons (jo_of (je_un o_neg (jo_of (je_rv (jr_callC C__law_pour hr (by decide) rfl rfl rfl (takes_of rfl rfl rfl rfl) (ja_cons (jo_var (pv 0)) (ja_cons (jo_of je_int) ja_nil))))))) (ja_cons (jo_of (je_bin o_pow (jo_of je_int) (jo_of je_int))) ja_nil)))))))) ja_nil))))
    (jss_one (js_set (i := 2) (fun _ h => ps_set (i := 2) sc__law_row.nd rfl (by first | exact Or.inl rfl | exact Or.inr rfl) h) (hio 2 (by decide)) (jr_callC C__law_times hr (by decide) rfl rfl rfl (takes_of rfl rfl rfl rfl) (ja_cons (jo_var (pv 2)) (ja_cons (jo_of (je_rv (jr_lst (ja_cons (jo_of (je_un o_neg (jo_var (pv 1)))) (ja_cons (jo_of je_int) ja_nil))))) ja_nil)))))))
    (jss_cons (js_if (jt_cmp (o_eq rfl (hu64 hr)) (jo_of (je_rv (jr_callC C__law_pour hr (by decide) rfl rfl rfl (takes_of rfl rfl rfl rfl) (ja_cons (jo_var (pv 0)) (ja_cons (jo_of je_int) ja_nil))))) (jo_of je_int) (nomark _)) (jss_cons (js_set (i := 1) (fun _ h => ps_set (i := 1) sc__law_row.nd rfl (by first | exact Or.inl rfl | exact Or.inr rfl) h) (hio 1 (by decide)) (jr_callC C__law_pour hr (by decide) rfl rfl rfl (takes_of rfl rfl rfl rfl) (ja_cons (jo_var (pv 0)) (ja_cons (jo_of je_int) ja_nil))))
    (jss_one (js_set (i := 2) (fun _ h => ps_set (i := 2) sc__law_row.nd rfl (by first | exact Or.inl rfl | exact Or.inr rfl) h) (hio 2 (by decide)) (jr_callC C__law_times hr (by decide) rfl rfl rfl (takes_of rfl rfl rfl rfl) (ja_cons (jo_var (pv 2)) (ja_cons (jo_of (je_rv (jr_lst (ja_cons (jo_of (je_bin o_add (jo_of (je_bin o_add (jo_of (je_bin o_mul (jo_var (pv 1)) (jo_var (pv 1)))) (jo_of je_int))) (jo_of (je_rv (jr_callC C__law_pour hr (by decide) rfl rfl rfl (takes_of rfl rfl rfl rfl) (ja_cons (jo_var (pv 0)) (ja_cons (jo_of je_int) ja_nil))))))) (ja_cons (jo_of (je_bin o_mul (jo_of (je_un o_neg (jo_of je_int))) (jo_var (pv 1)))) (ja_cons (jo_of je_int) ja_nil)))))) ja_nil)))))) jss_nil)
    (jss_cons (js_set (i := 2) (fun _ h => ps_set (i := 2) sc__law_row.nd rfl (by first | exact Or.inl rfl | exact Or.inr rfl) h) (hio 2 (by decide)) (jr_cb (o_list rfl) (fun _ _ hc h => pe_callTy hc rfl T.n_list rfl h) (ja_cons (jo_var (pv 2)) ja_nil)))
    (jss_cons (js_seti (k := 2) (fun _ _ h h2 => ps_asg h (pg_sub (pv 2) h2 set_list)) je_int (je_bin o_add (jo_of (je_ix rfl (jo_var (pv 2)) (jo_of je_int) (fun _ _ => rfl))) (jo_of (je_rv (jr_callC C__law_of hr (by decide) rfl rfl rfl (takes_of rfl rfl rfl rfl) (ja_cons (jo_var (pv 0)) (ja_cons (jo_of (je_rv (jr_lst (ja_cons (jo_of je_int) (ja_cons (jo_of je_int) (ja_cons (jo_of je_int) (ja_cons (jo_of (je_un o_neg (jo_of je_int))) (ja_cons (jo_of (je_bin o_sub (jo_of (je_rv (jr_callC C__law_pour hr (by decide) rfl rfl rfl (takes_of rfl rfl rfl rfl) (ja_cons (jo_var (pv 0)) (ja_cons (jo_of je_int) ja_nil))))) (jo_of je_int))) ja_nil)))))))) ja_nil)))))))
    (jss_one (js_ret (jr_callC C__law_cut hr (by decide) rfl rfl rfl (takes_of rfl rfl rfl rfl) (ja_cons (jo_frz (pv 2) (hio 2 (by decide))) ja_nil))))))))))
theorem sc__law_told_right : FnScope N__law_told_right p__law_told_right (defScope s__law_told_right) := ⟨rfl, rfl, rfl, by decide +kernel, rfl, by decide +kernel, by decide +kernel⟩
theorem ok__law_told_right {f : Addr} {fd : FuncData} (F : Fun K "_law_told_right" "_law_told_right" s__law_told_right f fd) (T : Txt K mg cn) (C_PolynomialX_initX : Cm P w (gOf K mg cn) base 3 "Polynomial" 0 p_PolynomialX_initX (d_PolynomialX_initX fu)) (C_above_from : Cl P w (gOf K mg cn) base 4 "above_from" p_above_from (d_above_from fu)) (C__law_pour : Cl P w (gOf K mg cn) base 1 "_law_pour" p__law_pour (d__law_pour fu)) (C__law_of : Cl P w (gOf K mg cn) base 2 "_law_of" p__law_of (d__law_of fu)) (C__law_worth : Cl P w (gOf K mg cn) base 1 "_law_worth" p__law_worth (d__law_worth fu)) (C__law_times : Cl P w (gOf K mg cn) base 2 "_law_times" p__law_times (d__law_times fu)) (C__law_is_above : Cl P w (gOf K mg cn) base 3 "_law_is_above" p__law_is_above (d__law_is_above fu)) : FnOk P w K mg base (L2.CX P w) 5 f fd p__law_told_right (spD (gOf K mg cn) (d__law_told_right fu)) := by
  refine fnD_ok (g := gOf K mg cn) (N := N__law_told_right) (ps := p__law_told_right) (body := b__law_told_right fu) F sc__law_told_right (by decide) fun cdv A outer s H E T0 hr hio => ?_
  unfold b__law_told_right
  exact (jss_cons (js_set (i := 2) (fun _ h => ps_set (i := 2) sc__law_told_right.nd rfl (by first | exact Or.inl rfl | exact Or.inr rfl) h) (hio 2 (by decide)) (jr_callK C_above_from hr (by decide) rfl rfl rfl (takes_of rfl rfl rfl rfl) (jk_cons (jo_of (je_rv (jr_makeC C_PolynomialX_initX hr (by decide) rfl rfl rfl (takes_of rfl rfl rfl rfl) (ja_cons (jo_var (pv 1)) ja_nil)))) jk_nil)))
    (jss_cons (js_if (jt_w (jw_or (jt_cmp (o_eq rfl (hu64 hr)) (jo_var (pv 1)) (jo_of (je_tup ja_nil)) (nomark _)) (jw_or1 (jt_cmp (o_lt) (jo_of (je_ix rfl (jo_var (pv 1)) (jo_of (je_un o_neg (jo_of je_int))) (fun _ _ => rfl))) (jo_of je_int) (nomark _))))) (jss_one (js_ret (jr_of (je_cmp (o_isN) (jo_var (pv 2)) (jo_of je_non) (nomark _))))) jss_nil)
    (jss_cons (js_if (jt_w (jw_or (jt_not (jt_tru rfl (jo_of (je_isi rfl T.hI isi_int (ClsV.ty "int") rfl T.n_isinstance (pe_bty rfl T.n_int rfl) (jo_var (pv 2)))) (fun _ => rfl))) (jw_or (jt_tru rfl (jo_of (je_isi rfl T.hI isi_bl (ClsV.ty "bool") rfl T.n_isinstance (pe_bty rfl T.n_bool rfl) (jo_var (pv 2)))) (fun _ => rfl)) (jw_or (jt_cmp (o_lt) (jo_var (pv 2)) (jo_of je_int) (nomark _)) (jw_or1 (jt_cmp (o_ne rfl (hu64 hr)) (jo_of (je_rv (jr_callC C_above_from hr (by decide) rfl rfl rfl (takes_of rfl rfl rfl rfl) (ja_cons (jo_of (je_rv (jr_makeC C_PolynomialX_initX hr (by decide) rfl rfl rfl (takes_of rfl rfl rfl rfl) (ja_cons (jo_of (je_rv (jr_bin o_cat (jo_of (je_rv (jr_cb (o_list rfl) (fun _ _ hc h => pe_callTy hc rfl T.n_list rfl h) (ja_cons (jo_var (pv 1)) ja_nil)))) (jo_of (je_rv (jr_lst (ja_cons (jo_of je_int) ja_nil))))))) ja_nil)))) ja_nil)))) (jo_var (pv 2)) (nomark _))))))) (jss_one (js_ret (jr_of je_bl))) jss_nil)
    (jss_cons (js_if (jt_w (jw_or (jt_not (jt_tru rfl (jo_of (je_rv (jr_callC C__law_is_above hr (by decide) rfl rfl rfl (takes_of rfl rfl rfl rfl) (ja_cons (jo_var (pv 1)) (ja_cons (jo_var (pv 2)) ja_nil))))) (fun _ => rfl))) (jw_or1 (jt_w (jw_and (jt_cmp (o_gt) (jo_var (pv 2)) (jo_of je_int) (nomark _)) (jw_and1 (jt_tru rfl (jo_of (je_rv (jr_callC C__law_is_above hr (by decide) rfl rfl rfl (takes_of rfl rfl rfl rfl) (ja_cons (jo_var (pv 1)) (ja_cons (jo_of (je_bin o_sub (jo_var (pv 2)) (jo_of je_int))) ja_nil))))) (fun _ => rfl)))))))) (jss_one (js_ret (jr_of je_bl))) jss_nil)
    (jss_cons (js_if (jt_cmp (o_ne rfl (hu64 hr)) (jo_of (je_rv (jr_lc rfl sc__law_told_right.nd (ji_seq rfl (je_tup (ja_cons (jo_of je_int) (ja_cons (jo_of je_int) (ja_cons (jo_of (je_rv (jr_callC C__law_pour hr (by decide) rfl rfl rfl (takes_of rfl rfl rfl rfl) (ja_cons (jo_var (pv 0)) (ja_cons (jo_of je_int) ja_nil))))) (ja_cons (jo_of (je_bin o_pow (jo_of je_int) (jo_of je_int))) ja_nil)))))) (blkOk_by (own := [("_law_far", 3)]) (N := N__law_told_right) (sc := defScope s__law_told_right) (by decide +kernel)) rfl (fun _ _ _ _ _ => (jg_name (i := 3) (pg_name (i := 3) sc__law_told_right.nd rfl (by first | exact Or.inl rfl | exact Or.inr rfl)) (hio 3 (by decide)) (fun _ h => by cases h; decide))) (fun _ _ _ _ _ => (jts_one (jt_w (jw_or (jt_cmp (o_le) (jo_of (je_rv (jr_callC C__law_worth hr (by decide) rfl rfl rfl takes0 (ja_cons (jo_var (pv 1)) (ja_cons (jo_of (je_bin o_add (jo_var (pv 2)) (jo_var (pv 3)))) ja_nil))))) (jo_of je_int) (nomark _)) (jw_or1 (jt_not (jt_tru rfl (jo_of (je_rv (jr_callC C__law_is_above hr (by decide) rfl rfl rfl takes0 (ja_cons (jo_var (pv 1)) (ja_cons (jo_of (je_bin o_add (jo_var (pv 2)) (jo_var (pv 3)))) ja_nil))))) (fun _ => rfl)))))))) (fun _ _ _ _ _ => (je_of (jo_var (pv 3))))))) (jo_of (je_rv (jr_lst ja_nil))) (nomark _)) (jss_one (js_ret (jr_of je_bl))) jss_nil)
    (jss_cons (js_asg (fun _ _ h h2 => ps_asg h h2) (je_tup (ja_cons (jo_of (je_bin o_add (jo_of je_int) (jo_of (je_rv (jr_callC C__law_pour hr (by decide) rfl rfl rfl (takes_of rfl rfl rfl rfl) (ja_cons (jo_var (pv 0)) (ja_cons (jo_of je_int) ja_nil))))))) (ja_cons (jo_of (je_bin o_sub (jo_var (pv 2)) (jo_of (je_rv (jr_callC C__law_of hr (by decide) rfl rfl rfl (takes_of rfl rfl rfl rfl) (ja_cons (jo_var (pv 0)) (ja_cons (jo_of (je_rv (jr_lst (ja_cons (jo_of je_int) (ja_cons (jo_of je_int) (ja_cons (jo_var (pv 2)) (ja_cons (jo_of (je_bin o_mul (jo_of je_int) (jo_var (pv 2)))) ja_nil))))))) ja_nil))))))) ja_nil))) (jg_tup (n := 2) rfl rfl (jgs_cons (jg_name (i := 4) (pg_name (i := 4) sc__law_told_right.nd rfl (by first | exact Or.inl rfl | exact Or.inr rfl)) (hio 4 (by decide)) (fun _ h => by cases h)) (jgs_cons (jg_name (i := 5) (pg_name (i := 5) sc__law_told_right.nd rfl (by first | exact Or.inl rfl | exact Or.inr rfl)) (hio 5 (by decide)) (fun _ h => by cases h)) jgs_nil))))
    (jss_cons (js_if (jt_cmp (o_ne rfl (hu64 hr)) (jo_of (je_rv (jr_callC C_above_from hr (by decide) rfl rfl rfl (takes_of rfl rfl rfl rfl) (ja_cons (jo_of (je_rv (jr_makeC C_PolynomialX_initX hr (by decide) rfl rfl rfl (takes_of rfl rfl rfl rfl) (ja_cons (jo_of (je_rv (jr_lc rfl sc__law_told_right.nd (ji_seq rfl (je_of (jo_var (pv 1)))) (blkOk_by (own := [("_law_number", 6)]) (N := N__law_told_right) (sc := defScope s__law_told_right) (by decide +kernel)) rfl (fun _ _ _ _ _ => (jg_name (i := 6) (pg_name (i := 6) sc__law_told_right.nd rfl (by first | exact Or.inl rfl | exact Or.inr rfl)) (hio 6 (by decide)) (fun _ h => by cases h; decide))) (fun _ _ _ _ _ => jts_nil) (fun _ _ _ _ _ => (je_bin o_mul (jo_var (pv 4)) (jo_var (pv 6))))))) ja_nil)))) ja_nil)))) (jo_var (pv 2)) (nomark _)) (jss_one (js_ret (jr_of je_bl))) jss_nil)
    (jss_one (js_ret (jr_of (je_cmp (o_le) (jo_of (je_rv (jr_callC C_above_from hr (by decide) rfl rfl rfl (takes_of rfl rfl rfl rfl) (ja_cons (jo_of (je_rv (jr_makeC C_PolynomialX_initX hr (by decide) rfl rfl rfl (takes_of rfl rfl rfl rfl) (ja_cons (jo_of (je_rv (jr_callC C__law_times hr (by decide) rfl rfl rfl (takes_of rfl rfl rfl rfl) (ja_cons (jo_var (pv 1)) (ja_cons (jo_of (je_rv (jr_lst (ja_cons (jo_of (je_bin o_sub (jo_of je_int) (jo_var (pv 5)))) (ja_cons (jo_of je_int) ja_nil))))) ja_nil))))) ja_nil)))) ja_nil)))) (jo_var (pv 2)) (nomark _))))))))))))
theorem sc_law : FnScope N_law p_law (defScope s_law) := ⟨rfl, rfl, rfl, by decide +kernel, rfl, by decide +kernel, by decide +kernel⟩
theorem ok_law {f : Addr} {fd : FuncData} (F : Fun K "law" "law" s_law f fd) (T : Txt K mg cn) (C_PolynomialX_initX : Cm P w (gOf K mg cn) base 3 "Polynomial" 0 p_PolynomialX_initX (d_PolynomialX_initX fu)) (C_above_from : Cl P w (gOf K mg cn) base 4 "above_from" p_above_from (d_above_from fu)) (C__law_jug : Cl P w (gOf K mg cn) base 1 "_law_jug" p__law_jug (d__law_jug fu)) (C__law_of : Cl P w (gOf K mg cn) base 2 "_law_of" p__law_of (d__law_of fu)) (C__law_cut : Cl P w (gOf K mg cn) base 1 "_law_cut" p__law_cut (d__law_cut fu)) (C__law_row : Cl P w (gOf K mg cn) base 3 "_law_row" p__law_row (d__law_row fu)) (C__law_told_right : Cl P w (gOf K mg cn) base 5 "_law_told_right" p__law_told_right (d__law_told_right fu)) : FnOk P w K mg base (L2.CX P w) 6 f fd p_law (spD (gOf K mg cn) (d_law fu)) := by
  refine fnD_ok (g := gOf K mg cn) (N := N_law) (ps := p_law) (body := b_law fu) F sc_law (by decide) fun cdv A outer s H E T0 hr hio => ?_
  unfold b_law
  exact (jss_cons (js_set (i := 1) (fun _ h => ps_set (i := 1) sc_law.nd rfl (by first | exact Or.inl rfl | exact Or.inr rfl) h) (hio 1 (by decide)) (jr_callC C__law_jug hr (by decide) rfl rfl rfl (takes_of rfl rfl rfl rfl) (ja_cons (jo_var (pv 0)) ja_nil)))
    (jss_cons (js_for (passes_of rfl) rfl (ji_range1 rfl T.n_range (ja_cons (jo_of je_int) ja_nil)) (jg_name (i := 2) (pg_name (i := 2) sc_law.nd rfl (by first | exact Or.inl rfl | exact Or.inr rfl)) (hio 2 (by decide)) (fun _ h => by cases h)) (jss_cons (js_set (i := 3) (fun _ h => ps_set (i := 3) sc_law.nd rfl (by first | exact Or.inl rfl | exact Or.inr rfl) h) (hio 3 (by decide)) (jr_callC C__law_row hr (by decide) rfl rfl rfl (takes_of rfl rfl rfl rfl) (ja_cons (jo_var (pv 1)) ja_nil)))
    (jss_one (js_if (jt_w (jw_or (jt_not (jt_tru rfl (jo_of (je_rv (jr_callC C__law_told_right hr (by decide) rfl rfl rfl (takes_of rfl rfl rfl rfl) (ja_cons (jo_var (pv 1)) (ja_cons (jo_var (pv 3)) ja_nil))))) (fun _ => rfl))) (jw_or1 (jt_not (jt_tru rfl (jo_of (je_rv (jr_callC C__law_told_right hr (by decide) rfl rfl rfl (takes_of rfl rfl rfl rfl) (ja_cons (jo_var (pv 1)) (ja_cons (jo_of (je_rv (jr_callC C__law_cut hr (by decide) rfl rfl rfl (takes_of rfl rfl rfl rfl) (ja_cons (jo_of (je_rv (jr_lc rfl sc_law.nd (ji_seq rfl (je_of (jo_var (pv 3)))) (blkOk_by (own := [("_law_number", 4)]) (N := N_law) (sc := defScope s_law) (by decide +kernel)) rfl (fun _ _ _ _ _ => (jg_name (i := 4) (pg_name (i := 4) sc_law.nd rfl (by first | exact Or.inl rfl | exact Or.inr rfl)) (hio 4 (by decide)) (fun _ h => by cases h; decide))) (fun _ _ _ _ _ => jts_nil) (fun _ _ _ _ _ => (je_un o_neg (jo_var (pv 4))))))) ja_nil)))) ja_nil))))) (fun _ => rfl)))))) (jss_one (js_ret (jr_of je_bl))) jss_nil))))
    (jss_cons (js_par2 (i := 5) (j := 6) (fun _ h => ps_par (i := 5) (j := 6) rfl sc_law.nd rfl rfl (by decide) rfl rfl h rfl) (hio 5 (by decide)) (hio 6 (by decide)) (ja_cons (jo_of (je_rv (jr_callC C__law_of hr (by decide) rfl rfl rfl (takes_of rfl rfl rfl rfl) (ja_cons (jo_var (pv 1)) (ja_cons (jo_of (je_rv (jr_lst (ja_cons (jo_of je_non) (ja_cons (jo_of je_int) (ja_cons (jo_of (je_rv (jr_lst (ja_cons (jo_of je_int) (ja_cons (jo_of je_int) ja_nil))))) (ja_cons (jo_of (je_tup (ja_cons (jo_of je_int) (ja_cons (jo_of je_int) ja_nil)))) (ja_cons (jo_of je_str) (ja_cons (jo_of je_bl) ja_nil))))))))) ja_nil))))) (ja_cons (jo_of je_non) ja_nil)))
    (jss_cons (js_tryAs (k := 7) (cv := .ref (cn 101)) rfl rfl sc_law.nd rfl rfl ⟨rfl, by decide, Or.inl T.BadPolynomial.m⟩ (takes_of rfl rfl rfl rfl) (hio 7 (by decide)) (fun c b h => by
      by_cases hc : c = 101
      · rw [if_pos hc] at h; cases h; rw [hc]; exact T.ex_BadPolynomial
      · rw [if_neg hc] at h; cases h) (fun a x c ds s1 => try_same (by decide)) (fun W pn xe tk po => (jss_one (js_expr (je_rv (jr_callC C_above_from hr (by decide) rfl rfl rfl tk (ja_cons (jo_var (pv 5)) ja_nil))) rfl))) (fun a oe c ds d pn hz hf => by
      by_cases hc : c = 101
      · rw [if_pos hc]
        exact jss_one (js_set (i := 6) (fun _ h => ps_set (i := 6) sc_law.nd rfl (by first | exact Or.inl rfl | exact Or.inr rfl) h) (hio 6 (by decide)) (jr_of (je_xf (cc := 101) (f := "part") T.X_BadPolynomial T.no_part rfl hz hf hc (pv 7))))
      · rw [if_neg hc]; exact jss_never))
    (jss_one (js_ret (jr_of (je_and (je_cmp (o_eq rfl (hu64 hr)) (jo_var (pv 6)) (jo_of je_str) (nomark _)) (je_and (je_cmp (o_eq rfl (hu64 hr)) (jo_of (je_rv (jr_callC C_above_from hr (by decide) rfl rfl rfl (takes_of rfl rfl rfl rfl) (ja_cons (jo_of (je_rv (jr_makeC C_PolynomialX_initX hr (by decide) rfl rfl rfl (takes_of rfl rfl rfl rfl) (ja_cons (jo_of (je_rv (jr_lst (ja_cons (jo_of je_int) ja_nil)))) ja_nil)))) ja_nil)))) (jo_of je_int) (nomark _)) (je_one (je_cmp (o_eq rfl (hu64 hr)) (jo_of (je_rv (jr_callC C_above_from hr (by decide) rfl rfl rfl (takes_of rfl rfl rfl rfl) (ja_cons (jo_of (je_rv (jr_makeC C_PolynomialX_initX hr (by decide) rfl rfl rfl (takes_of rfl rfl rfl rfl) (ja_cons (jo_of (je_rv (jr_lst (ja_cons (jo_of je_int) (ja_cons (jo_of (je_un o_neg (jo_of je_int))) (ja_cons (jo_of je_int) ja_nil)))))) ja_nil)))) ja_nil)))) (jo_of je_int) (nomark _))))))))))))
end
end K30

set_option linter.all false
set_option autoImplicit false
/-! the plain law of k30: polynomials as lists of coefficients, moved along -/
namespace K30
/-- a + (X + b) q -/
def mx (b : Int) : Int → List Int → List Int
  | a, [] => [a]
  | a, x :: r => (a + b * x) :: mx b x r
/-- p (X + b) -/
def T (b : Int) : List Int → List Int
  | [] => []
  | a :: p => mx b a (T b p)
def hd : List Int → Int
  | [] => 0
  | x :: _ => x
theorem mx_comm (b c : Int) : ∀ (q : List Int) (a x : Int), mx b (a + c * x) (mx (b + c) x q) = mx (b + c) a (mx b x q)
  | [], a, x => by simp only [mx]; congr 1; rw [Int.add_mul]; omega
  | y :: r, a, x => by
    simp only [mx]
    have h := mx_comm b c r (x + b * y) y
    have e : x + (b + c) * y = x + b * y + c * y := by rw [Int.add_mul]; omega
    rw [e]
    congr 1
    simp only [Int.add_mul, Int.mul_add, ← Int.mul_assoc]
    rw [Int.mul_comm c b]; omega
theorem T_mx (b c : Int) : ∀ (p : List Int) (a : Int), T b (mx c a p) = mx (b + c) a (T b p)
  | [], a => rfl
  | x :: r, a => by
    show mx b (a + c * x) (T b (mx c x r)) = mx (b + c) a (mx b x (T b r))
    rw [T_mx b c r x, mx_comm]
theorem T_T (b c : Int) : ∀ p : List Int, T b (T c p) = T (b + c) p
  | [] => rfl
  | a :: p => by
    show T b (mx c a (T c p)) = mx (b + c) a (T (b + c) p)
    rw [T_mx, T_T b c p]
theorem mx_ne (b a : Int) (q : List Int) : mx b a q ≠ [] := by cases q <;> simp [mx]
theorem mx_len (b : Int) : ∀ (q : List Int) (a : Int), (mx b a q).length = q.length + 1
  | [], _ => rfl
  | x :: r, a => by simp [mx, mx_len b r x]
theorem T_len (b : Int) : ∀ p : List Int, (T b p).length = p.length
  | [] => rfl
  | a :: p => by simp [T, mx_len, T_len b p]
theorem hd_mx (b a : Int) (q : List Int) : hd (mx b a q) = a + b * hd q := by cases q <;> simp [mx, hd]
/-- all from 0 on -/
def nn (p : List Int) : Prop := ∀ x ∈ p, 0 ≤ x
theorem nn_mx {b : Int} (hb : 0 ≤ b) : ∀ {q : List Int} {a : Int}, 0 ≤ a → nn q → nn (mx b a q)
  | [], a, ha, _ => by intro x hx; simp [mx] at hx; omega
  | y :: r, a, ha, hq => by
    have hy : 0 ≤ y := hq y List.mem_cons_self
    intro x hx
    simp only [mx, List.mem_cons] at hx
    rcases hx with rfl | hx
    · have := Int.mul_nonneg hb hy; omega
    · exact nn_mx hb hy (fun z hz => hq z (List.mem_cons_of_mem _ hz)) x hx
theorem nn_T {b : Int} (hb : 0 ≤ b) : ∀ {p : List Int}, nn p → nn (T b p)
  | [], _ => fun x hx => by cases hx
  | a :: p, h => nn_mx hb (h a List.mem_cons_self) (nn_T hb fun z hz => h z (List.mem_cons_of_mem _ hz))
theorem hd_nn {p : List Int} (h : nn p) : 0 ≤ hd p := by cases p with
  | nil => exact Int.le_refl 0
  | cons a p => exact h a List.mem_cons_self
theorem hd_T_pos {b : Int} (hb : 0 ≤ b) {p : List Int} (h : nn p) (h0 : 0 < hd p) : 0 < hd (T b p) := by
  cases p with
  | nil => cases h0
  | cons a p =>
    show 0 < hd (mx b a (T b p))
    rw [hd_mx]
    have h1 : 0 < a := h0
    have h2 := hd_nn (nn_T hb (p := p) fun z hz => h z (List.mem_cons_of_mem _ hz))
    have := Int.mul_nonneg hb h2
    omega
/-- above 0 from m on, by all coefficients -/
def Ab (p : List Int) (m : Int) : Prop := 0 < hd (T m p) ∧ nn (T m p)
theorem Ab.add {p : List Int} {m k : Int} (hk : 0 ≤ k) (h : Ab p m) : Ab p (m + k) := by
  unfold Ab
  rw [show m + k = k + m from Int.add_comm _ _, ← T_T]
  exact ⟨hd_T_pos hk h.2 h.1, nn_T hk h.2⟩
theorem Ab.mono {p : List Int} {m k : Int} (hk : m ≤ k) (h : Ab p m) : Ab p k := by
  have := h.add (k := k - m) (by omega)
  rwa [show m + (k - m) = k by omega] at this
/-- from 1 + the greatest coefficient on -/
theorem Ab_far {m : Int} (hm : 1 ≤ m) : ∀ {p : List Int}, p ≠ [] → 0 < p.getLastD 0 → (∀ x ∈ p, 1 - m ≤ x) → 1 ≤ hd (T m p) ∧ nn (T m p)
  | [], h, _, _ => absurd rfl h
  | [a], _, h, _ => by
    have h' : 0 < a := h
    refine ⟨?_, fun x hx => ?_⟩
    · show 1 ≤ a; omega
    · simp [T, mx] at hx; omega
  | a :: b :: p, _, h, hx => by
    have ih := Ab_far hm (p := b :: p) (by simp) (by simpa [List.getLastD] using h) (fun x hx' => hx x (List.mem_cons_of_mem _ hx'))
    have ha := hx a List.mem_cons_self
    have h1 : m * 1 ≤ m * hd (T m (b :: p)) := Int.mul_le_mul_of_nonneg_left ih.1 (by omega)
    show 1 ≤ hd (mx m a (T m (b :: p))) ∧ nn (mx m a (T m (b :: p)))
    rw [hd_mx]
    refine ⟨by omega, ?_⟩
    generalize T m (b :: p) = q at ih h1 ⊢
    cases q with
    | nil => have := ih.1; simp [hd] at this
    | cons y r =>
      have hy : 1 ≤ y := ih.1
      intro x hx'
      simp only [mx, List.mem_cons] at hx'
      rcases hx' with rfl | hx'
      · simp only [hd] at h1; omega
      · exact nn_mx (by omega) (by omega) (fun z hz => ih.2 z (List.mem_cons_of_mem _ hz)) x hx'
theorem T_smul (c b : Int) : ∀ p : List Int, T b (p.map (c * ·)) = (T b p).map (c * ·)
  | [] => rfl
  | a :: p => by
    show mx b (c * a) (T b (p.map (c * ·))) = (mx b a (T b p)).map (c * ·)
    rw [T_smul c b p]
    generalize T b p = q
    induction q generalizing a with
    | nil => rfl
    | cons x r ih =>
      simp only [List.map_cons, mx]
      rw [ih x]
      congr 1
      rw [Int.mul_add, Int.mul_left_comm]
theorem hd_map (c : Int) (q : List Int) : hd (q.map (c * ·)) = c * hd q := by cases q <;> simp [hd]
theorem Ab_smul {c : Int} (hc : 0 < c) {p : List Int} {m : Int} : Ab (p.map (c * ·)) m ↔ Ab p m := by
  unfold Ab
  rw [T_smul, hd_map]
  constructor
  · rintro ⟨h1, h2⟩
    refine ⟨?_, fun x hx => ?_⟩
    · by_cases hh : 0 < hd (T m p)
      · exact hh
      · have := Int.mul_nonneg (show 0 ≤ c by omega) (show 0 ≤ - hd (T m p) by omega)
        rw [Int.mul_neg] at this; omega
    have h3 : 0 ≤ c * x := h2 (c * x) (List.mem_map.mpr ⟨x, hx, rfl⟩)
    by_cases hh : 0 ≤ x
    · exact hh
    · have := Int.mul_pos hc (show 0 < -x by omega)
      rw [Int.mul_neg] at this; omega
  · rintro ⟨h1, h2⟩
    refine ⟨Int.mul_pos hc h1, fun x hx => ?_⟩
    obtain ⟨y, hy, rfl⟩ := List.mem_map.mp hx
    exact Int.mul_nonneg (show 0 ≤ c by omega) (h2 y hy)
theorem Ab_mx {c m : Int} {p : List Int} (hc : 1 ≤ m + c) (h : Ab p m) : Ab (mx c 0 p) m := by
  unfold Ab
  rw [T_mx, hd_mx]
  refine ⟨?_, nn_mx (by omega) (Int.le_refl 0) h.2⟩
  have := Int.mul_pos (show 0 < m + c by omega) h.1
  omega
/-! ### by passes -/
def syn (b : Int) : List Int → List Int
  | [] => []
  | a :: q => (a + b * hd (syn b q)) :: syn b q
theorem syn_len (b : Int) : ∀ p : List Int, (syn b p).length = p.length
  | [] => rfl
  | a :: q => by simp [syn, syn_len b q]
theorem T_syn (b : Int) : ∀ {p : List Int} {x : Int} {r : List Int}, syn b p = x :: r → T b p = x :: T b r
  | [], x, r, h => by cases h
  | [a], x, r, h => by
    simp only [syn, hd] at h
    cases h
    simp [T, mx]
  | a :: c :: q, x, r, h => by
    have e : syn b (a :: c :: q) = (a + b * hd (syn b (c :: q))) :: syn b (c :: q) := rfl
    rw [e] at h
    cases h
    cases hs : syn b (c :: q) with
    | nil => have := syn_len b (c :: q); rw [hs] at this; simp at this
    | cons x' r' =>
      have ih := T_syn b hs
      show mx b a (T b (c :: q)) = _
      rw [ih]
      rfl
/-! ### by chosen numbers -/
def ch : Nat → Nat → Int
  | _, 0 => 1
  | 0, _ + 1 => 0
  | n + 1, k + 1 => ch n k + ch n (k + 1)
theorem ch_0 (n : Nat) : ch n 0 = 1 := by cases n <;> rfl
theorem ch_gt : ∀ (n k : Nat), n < k → ch n k = 0
  | 0, k + 1, _ => rfl
  | n + 1, k + 1, h => by
    show ch n k + ch n (k + 1) = 0
    rw [ch_gt n k (by omega), ch_gt n (k + 1) (by omega)]; rfl
theorem ch_step : ∀ (n k : Nat), ch n (k + 1) * ((k : Int) + 1) = ch n k * ((n : Int) - k)
  | 0, 0 => by decide
  | 0, k + 1 => by show (0 : Int) * _ = 0 * _; rw [Int.zero_mul, Int.zero_mul]
  | n + 1, 0 => by
    have h := ch_step n 0
    rw [ch_0] at h ⊢
    show (ch n 0 + ch n 1) * _ = _
    rw [ch_0]
    simp at h ⊢
    omega
  | n + 1, k + 1 => by
    have h1 := ch_step n k
    have h2 := ch_step n (k + 1)
    show (ch n (k + 1) + ch n (k + 2)) * _ = (ch n k + ch n (k + 1)) * _
    rw [Int.add_mul, Int.add_mul]
    have e1 : (((n + 1 : Nat) : Int) - ((k + 1 : Nat) : Int)) = (n : Int) - k := by omega
    rw [e1, h2, ← h1]
    generalize ch n (k + 1) = z
    rw [← Int.mul_add, ← Int.mul_add]
    congr 1
    omega
/-- Σ p_i (i over j) b ^ (i - j), the first item being the i-th -/
def cf (b : Int) : Nat → Nat → List Int → Int
  | _, _, [] => 0
  | i, j, a :: p => a * ch i j * b ^ (i - j) + cf b (i + 1) j p
theorem cf_up (b : Int) : ∀ (p : List Int) (i j : Nat), cf b (i + 1) (j + 1) p = cf b i j p + b * cf b i (j + 1) p
  | [], _, _ => by simp [cf]
  | a :: p, i, j => by
    simp only [cf]
    rw [cf_up b p (i + 1) j]
    show a * (ch i j + ch i (j + 1)) * b ^ (i + 1 - (j + 1)) + _ = _
    have e : i + 1 - (j + 1) = i - j := by omega
    rw [e, Int.mul_add, Int.add_mul, Int.mul_add]
    have e2 : a * ch i (j + 1) * b ^ (i - j) = b * (a * ch i (j + 1) * b ^ (i - (j + 1))) := by
      by_cases h : j + 1 ≤ i
      · have e3 : i - j = (i - (j + 1)) + 1 := by omega
        rw [e3, Int.pow_succ, Int.mul_comm b]
        simp only [Int.mul_assoc]
      · rw [ch_gt i (j + 1) (by omega)]; simp
    rw [e2]; omega
theorem cf_0 (b : Int) : ∀ (p : List Int) (i : Nat), cf b (i + 1) 0 p = b * cf b i 0 p
  | [], _ => by simp [cf]
  | a :: p, i => by
    simp only [cf, ch_0]
    rw [cf_0 b p (i + 1), Int.mul_add]
    congr 1
    have e : i + 1 - 0 = (i - 0) + 1 := by omega
    rw [e, Int.pow_succ, Int.mul_one, Int.mul_comm b, Int.mul_assoc]
theorem mx_get0 (b a : Int) (q : List Int) : (mx b a q).getD 0 0 = a + b * q.getD 0 0 := by cases q <;> simp [mx]
theorem mx_getS (b : Int) : ∀ (q : List Int) (a : Int) (j : Nat), (mx b a q).getD (j + 1) 0 = q.getD j 0 + b * q.getD (j + 1) 0
  | [], a, j => by simp [mx]
  | x :: r, a, 0 => by
    simp only [mx]
    have := mx_get0 b x r
    simpa using this
  | x :: r, a, j + 1 => by
    simp only [mx]
    have := mx_getS b r x j
    simpa using this
theorem T_cf (b : Int) : ∀ (p : List Int) (j : Nat), (T b p).getD j 0 = cf b 0 j p
  | [], j => by simp [T, cf]
  | a :: p, 0 => by
    show (mx b a (T b p)).getD 0 0 = a * ch 0 0 * b ^ (0 - 0) + cf b 1 0 p
    rw [mx_get0, T_cf b p 0, cf_0, ch_0]; simp
  | a :: p, j + 1 => by
    show (mx b a (T b p)).getD (j + 1) 0 = a * ch 0 (j + 1) * b ^ (0 - (j + 1)) + cf b 1 (j + 1) p
    rw [mx_getS, T_cf b p j, T_cf b p (j + 1), cf_up, ch_gt 0 (j + 1) (by omega)]; simp
theorem cf_drop (b : Int) : ∀ (n : Nat) (p : List Int) (i j : Nat), i + n ≤ j → cf b i j p = cf b (i + n) j (p.drop n)
  | 0, p, i, j, _ => by simp
  | n + 1, [], i, j, _ => by simp [cf]
  | n + 1, a :: p, i, j, h => by
    simp only [cf, List.drop_succ_cons]
    rw [ch_gt i j (by omega), cf_drop b n p (i + 1) j (by omega)]
    have e : i + 1 + n = i + (n + 1) := by omega
    rw [e]; simp
/-- value at m -/
def val (m : Int) : List Int → Int
  | [] => 0
  | a :: p => a + m * val m p
theorem hd_T (m : Int) : ∀ p : List Int, hd (T m p) = val m p
  | [] => rfl
  | a :: p => by
    show hd (mx m a (T m p)) = a + m * val m p
    rw [hd_mx, hd_T m p]
end K30

set_option linter.all false
set_option autoImplicit false
set_option maxRecDepth 100000
set_option maxHeartbeats 2000000
namespace K30
open PySem TW L2
/-! ## the toolkit -/
theorem ms_k {α : Type} {fa : M α} {k : α → MS} {a : α} {s s' : S} (h : fa s = .ok a s') : ms fa k s = k a s' := by unfold ms; rw [h]
theorem mb_k {α β : Type} {fa : M α} {k : α → M β} {a : α} {s s' : S} (h : fa s = .ok a s') : mbind fa k s = k a s' := by unfold mbind; rw [h]
theorem seq_nx {f k : MS} {s s' : S} (h : f s = .nx s') : mseq f k s = k s' := by unfold mseq; rw [h]
theorem seq_rt {f k : MS} {s s' : S} {r : Rv} (h : f s = .rt r s') : mseq f k s = .rt r s' := by unfold mseq; rw [h]
theorem forD_ok {tm : D → S → Option S} {bd : MS} (P : Nat → S → Prop) : ∀ (ds : List D) (i : Nat) (s : S), P i s → (∀ j d s, ds[j]? = some d → P (i + j) s → ∃ s0 s', tm d s = some s0 ∧ bd s0 = .nx s' ∧ P (i + j + 1) s') → ∃ s', forD tm bd ds s = .nx s' ∧ P (i + ds.length) s'
  | [], i, s, h, _ => ⟨s, rfl, h⟩
  | d :: r, i, s, h, st => by
    obtain ⟨s0, s1, e1, e2, h1⟩ := st 0 d s rfl h
    obtain ⟨s', e3, h3⟩ := forD_ok P r (i + 1) s1 h1 fun j d' s2 hj h2 => by
      have := st (j + 1) d' s2 (by simpa using hj) (by rw [show i + (j + 1) = i + 1 + j by omega]; exact h2)
      rwa [show i + (j + 1) + 1 = i + 1 + j + 1 by omega] at this
    refine ⟨s', ?_, by rw [show i + (d :: r).length = i + 1 + r.length by simp; omega]; exact h3⟩
    unfold forD
    rw [e1]; dsimp only; rw [e2]; exact e3
theorem for_ok {fi : M (List D)} {tm : D → S → Option S} {bd : MS} {ds : List D} {s s0 : S} (P : Nat → S → Prop) (hi : fi s = .ok ds s0) (h0 : P 0 s0) (st : ∀ j d s, ds[j]? = some d → P j s → ∃ s0 s', tm d s = some s0 ∧ bd s0 = .nx s' ∧ P (j + 1) s') : ∃ s', mfor fi tm bd s = .nx s' ∧ P ds.length s' := by
  obtain ⟨s', e, h⟩ := forD_ok P ds 0 s0 h0 fun j d s hj h => by
    rw [Nat.zero_add] at h ⊢; exact st j d s hj h
  refine ⟨s', ?_, by rwa [Nat.zero_add] at h⟩
  unfold mfor
  rw [ms_k hi]; exact e
/-- a while whose measure falls -/
theorem while_ok {ft : M Bool} {bd : MS} (P : S → Prop) (mu : S → Nat) : ∀ (n : Nat) (s : S), P s → mu s < n → (∀ s, P s → (∃ s', ft s = .ok false s') ∨ ∃ s1 s2, ft s = .ok true s1 ∧ bd s1 = .nx s2 ∧ P s2 ∧ mu s2 < mu s) →
    ∃ s' s0, whileD ft bd n s = .nx s' ∧ P s0 ∧ ft s0 = .ok false s'
  | 0, s, _, h, _ => absurd h (Nat.not_lt_zero _)
  | n + 1, s, hp, h, st => by
    rcases st s hp with ⟨s', e⟩ | ⟨s1, s2, e1, e2, h2, m2⟩
    · exact ⟨s', s, by unfold whileD; rw [e], hp, e⟩
    · obtain ⟨s', s0, e3, h3, h4⟩ := while_ok P mu n s2 h2 (by omega) st
      exact ⟨s', s0, by unfold whileD; rw [e1]; dsimp only; rw [e2]; exact e3, h3, h4⟩
/-! ### a call whose arguments are data -/
def dd : Opd → S → Option D
  | .d x, _ => some x
  | .s k, s => match s[k]? with
    | some (.v d) => some d
    | _ => none
theorem comp_ok {vs : List Nat} {tm : D → S → Option S} {tt : M Bool} {te : M D} (P : Nat → List D → S → Prop) : ∀ (ds : List D) (i : Nat) (acc : List D) (s : S), P i acc s → acc.length + ds.length ≤ 16000000 →
    (∀ j d acc s, ds[j]? = some d → P (i + j) acc s → ∃ s1 b s2, tm d s = some s1 ∧ tt s1 = .ok b s2 ∧ ((b = false ∧ plainS s2 vs = true ∧ P (i + j + 1) acc (wipeS s2 vs)) ∨ ∃ y s3, b = true ∧ te s2 = .ok y s3 ∧ plainS s3 vs = true ∧ P (i + j + 1) (acc ++ [y]) (wipeS s3 vs))) →
    ∃ acc' s', compD vs tm tt te ds acc s = .ok acc' s' ∧ P (i + ds.length) acc' s' ∧ acc'.length ≤ acc.length + ds.length
  | [], i, acc, s, h, _, _ => ⟨acc, s, rfl, h, Nat.le_refl _⟩
  | d :: r, i, acc, s, h, hl, st => by
    have hl' : acc.length + (r.length + 1) ≤ 16000000 := by simpa using hl
    obtain ⟨s1, b, s2, e1, e2, h2⟩ := st 0 d acc s rfl h
    have st' : ∀ j d' acc' s', r[j]? = some d' → P (i + 1 + j) acc' s' → ∃ s1 b s2, tm d' s' = some s1 ∧ tt s1 = .ok b s2 ∧ ((b = false ∧ plainS s2 vs = true ∧ P (i + 1 + j + 1) acc' (wipeS s2 vs)) ∨ ∃ y s3, b = true ∧ te s2 = .ok y s3 ∧ plainS s3 vs = true ∧ P (i + 1 + j + 1) (acc' ++ [y]) (wipeS s3 vs)) := fun j d' acc' s' hj hp => by
      have := st (j + 1) d' acc' s' (by simpa using hj) (by rw [show i + (j + 1) = i + 1 + j by omega]; exact hp)
      rwa [show i + (j + 1) + 1 = i + 1 + j + 1 by omega] at this
    rcases h2 with ⟨rfl, hp, h3⟩ | ⟨y, s3, rfl, e3, hp, h3⟩
    · obtain ⟨acc', s', e4, h4, h5⟩ := comp_ok P r (i + 1) acc _ h3 (by omega) st'
      refine ⟨acc', s', ?_, by rw [show i + (d :: r).length = i + 1 + r.length by simp; omega]; exact h4, by simp only [List.length_cons]; omega⟩
      unfold compD; rw [e1]; dsimp only; rw [e2]; dsimp only; rw [if_pos hp]; exact e4
    · obtain ⟨acc', s', e4, h4, h5⟩ := comp_ok P r (i + 1) (acc ++ [y]) _ h3 (by simp only [List.length_append, List.length_singleton]; omega) st'
      refine ⟨acc', s', ?_, by rw [show i + (d :: r).length = i + 1 + r.length by simp; omega]; exact h4, by simp only [List.length_append, List.length_cons, List.length_nil] at h5 ⊢; omega⟩
      unfold compD; rw [e1]; dsimp only; rw [e2]; dsimp only; rw [e3]; dsimp only; rw [if_pos (by rw [Bool.and_eq_true]; exact ⟨decide_eq_true (by omega), hp⟩)]; exact e4
/-! ### data equal -/
abbrev I (p : List Int) : List D := p.map D.int
theorem toPys_I : ∀ p : List Int, toPys (I p) = some (p.map PyData.int)
  | [] => rfl
  | a :: p => by
    show (match toPy (.int a), toPys (I p) with | some x, some xs => some (x :: xs) | _, _ => none) = _
    rw [toPys_I p]; rfl
theorem lay_I : ∀ p : List Int, PyData.canLayAll0 (p.map PyData.int) = true
  | [] => by unfold PyData.canLayAll0; rfl
  | a :: p => by
    rw [List.map_cons]; unfold PyData.canLayAll0; rw [lay_I p]; unfold PyData.canLay0; rfl
theorem depth_I : ∀ p : List Int, PyData.depthAll (p.map PyData.int) = 0
  | [] => by unfold PyData.depthAll; rfl
  | a :: p => by rw [List.map_cons]; unfold PyData.depthAll; rw [depth_I p]; unfold PyData.depth; rfl
theorem sh_int (i : Int) : SeqAt.shaped (.int i) = true := by unfold SeqAt.shaped PyData.canLay0 PyData.depth; rfl
theorem sh_lst (p : List Int) : SeqAt.shaped (.list (p.map PyData.int)) = true := by
  unfold SeqAt.shaped PyData.canLay0 PyData.depth; rw [lay_I, depth_I]; rfl
theorem sh_tup (p : List Int) : SeqAt.shaped (.tuple (p.map PyData.int)) = true := by
  unfold SeqAt.shaped PyData.canLay0 PyData.depth; rw [lay_I, depth_I]; rfl
theorem eqP_int (i j : Int) : eqP (.int i) (.int j) = some (decide (i = j)) := by
  unfold eqP toPy; dsimp only; rw [sh_int, sh_int]; simp [PyData.eqv]; rfl
theorem dEq_int (i j : Int) : dEq (.int i) (.int j) = some (.bl (decide (i = j))) := by unfold dEq; rw [eqP_int]; rfl
theorem dNe_int (i j : Int) : dNe (.int i) (.int j) = some (.bl (!decide (i = j))) := by unfold dNe; rw [eqP_int]; rfl
theorem eqP_lst (p : List Int) : eqP (.lst (I p)) (.lst []) = some p.isEmpty := by
  unfold eqP
  have e1 : toPy (.lst (I p)) = some (.list (p.map PyData.int)) := by show (toPys (I p)).map PyData.list = _; rw [toPys_I]; rfl
  have e2 : toPy (.lst []) = some (.list (([] : List Int).map PyData.int)) := rfl
  rw [e1, e2]; dsimp only; rw [sh_lst, sh_lst]
  cases p <;> simp [PyData.eqv, PyData.eqvAll]
theorem eqP_tup (p : List Int) : eqP (.tup (I p)) (.tup []) = some p.isEmpty := by
  unfold eqP
  have e1 : toPy (.tup (I p)) = some (.tuple (p.map PyData.int)) := by show (toPys (I p)).map PyData.tuple = _; rw [toPys_I]; rfl
  have e2 : toPy (.tup []) = some (.tuple (([] : List Int).map PyData.int)) := rfl
  rw [e1, e2]; dsimp only; rw [sh_tup, sh_tup]
  cases p <;> simp [PyData.eqv, PyData.eqvAll]
theorem dNe_lst (p : List Int) : dNe (.lst (I p)) (.lst []) = some (.bl (!p.isEmpty)) := by unfold dNe; rw [eqP_lst]; rfl
theorem dEq_tup (p : List Int) : dEq (.tup (I p)) (.tup []) = some (.bl p.isEmpty) := by unfold dEq; rw [eqP_tup]; rfl
theorem atI_I (p : List Int) (i : Int) : atI (I p) i = (atI p i).map D.int := by
  unfold atI
  rw [List.length_map]
  cases ixN p.length i with
  | none => rfl
  | some j => simp
theorem atI_nat' {α : Type} {p : List α} {j : Nat} (h : j < p.length) : atI p (j : Int) = some p[j] := by
  unfold atI ixN
  rw [if_pos (by omega), if_pos (by omega)]
  simp [h]
theorem ixN_nat {n j : Nat} (h : j < n) : ixN n (j : Int) = some j := by
  unfold ixN; rw [if_pos (by omega), if_pos (by omega)]; simp
theorem atI_m1 {p : List Int} (h : p ≠ []) : atI p (-1) = some (p.getLastD 0) := by
  have hl : 0 < p.length := List.length_pos_iff.mpr h
  unfold atI ixN
  rw [if_neg (by omega), if_pos (by omega)]
  have e : ((-1 : Int) + p.length).toNat = p.length - 1 := by omega
  rw [e]
  show p[p.length - 1]? = _
  rw [List.getLastD_eq_getLast?, List.getLast?_eq_getElem?]
  rw [List.getElem?_eq_getElem (by omega)]; rfl
/-! ## the defs, by values -/
theorem ev_is_integer (fu : Nat) (i : Int) : d_is_integer fu [.v (.int i)] = .ret (.v (.bl true)) [.v (.int i)] := by
  simp [d_is_integer, b_is_integer, fnD, ms, mseq, mbind, mret, mopt, mbad, mvar, res, strong, strongs, ress, mun, mbin, mbinR, mcb, mcons, mcond, mif, mandV, morV, mnotV, tob, truD, mfld, fldD, putO, mputf, stSet, stSetP, mfrz, mlst, mtup, mslice, mpart, intD, dSl, on1, on2, lenD, absD, TW.intOf, TW.listOf, TW.tupOf, dInt2, dCmp2, dNeg, dIx, dIsN, dNotN, D.isNon, dupFree, argsOf, argOf, Sl.some?, putBack, Opd.isS, Sl.own, Rv.sl, Rv.d, mwalk, walkD, itemsD, mrng, rng1, rng2, rng3, tgName, tgTup, tgCons, tgNil, masg, mpar2, stPar2, isiD, dTy, isiInt, isiBl, isiLst, isiTup, isiObj, or2, nm, List.findIdx?_cons, List.findIdx?_nil]
end K30

set_option linter.all false
set_option autoImplicit false
set_option maxRecDepth 100000
set_option maxHeartbeats 2000000
namespace K30
open PySem TW L2
/-- a row of integers as data: a tuple, a list -/
def isRow (d : D) (p : List Int) : Prop := d = .tup (I p) ∨ d = .lst (I p)
theorem row_items {d : D} {p : List Int} (h : isRow d p) : itemsD d = some (I p) := by rcases h with rfl | rfl <;> rfl
theorem all_true : ∀ n : Nat, ((List.replicate n true).all id) = true
  | 0 => rfl
  | n + 1 => by rw [List.replicate_succ, List.all_cons, all_true n]; rfl
theorem blsD_rep : ∀ n : Nat, blsD (List.replicate n (D.bl true)) = some (List.replicate n true)
  | 0 => rfl
  | n + 1 => by
    rw [List.replicate_succ]
    unfold blsD
    rw [blsD_rep n]; rfl
theorem I_at {p : List Int} {j : Nat} {d : D} (h : (I p)[j]? = some d) : ∃ z, p[j]? = some z ∧ d = .int z := by
  rw [List.getElem?_map] at h
  cases hq : p[j]? with
  | none => rw [hq] at h; cases h
  | some z => rw [hq] at h; cases h; exact ⟨z, rfl, rfl⟩
theorem ev_c_are (fu : Nat) {d : D} {p : List Int} (h : isRow d p) (hl : p.length ≤ 1000000) : c_are_integers_1 fu [.v d, .no] = .ok (.l (List.replicate p.length (D.bl true))) [.v d, .no] := by
  have hm : ci_are_integers_1 fu [.v d, .no] = .ok (I p) [.v d, .no] := by
    rcases h with rfl | rfl <;> rfl
  obtain ⟨acc, s', e, ⟨hs, ha⟩, _⟩ := comp_ok (vs := [1]) (tm := tgName 1) (tt := ct_are_integers_1 fu) (te := ce_are_integers_1 fu) (fun i acc s => s = [.v d, .no] ∧ acc = List.replicate i (D.bl true)) (I p) 0 [] [.v d, .no] ⟨rfl, rfl⟩ (by simp; omega) fun j x acc s hj hP => by
    obtain ⟨rfl, rfl⟩ := hP
    obtain ⟨z, _, rfl⟩ := I_at hj
    refine ⟨[.v d, .v (.int z)], true, _, rfl, rfl, .inr ⟨.bl true, [.v d, .v (.int z)], rfl, ?_, rfl, rfl, ?_⟩⟩
    · have e := ev_is_integer fu z
      simp [ce_are_integers_1, mcall, e, fnD, ms, mseq, mbind, mret, mopt, mbad, mvar, res, strong, strongs, ress, mun, mbin, mbinR, mcb, mcons, mcond, mif, mandV, morV, mnotV, tob, truD, mfld, fldD, putO, mputf, stSet, stSetP, mfrz, mlst, mtup, mslice, mpart, intD, dSl, on1, on2, lenD, absD, TW.intOf, TW.listOf, TW.tupOf, dInt2, dCmp2, dNeg, dIx, dIsN, dNotN, D.isNon, dupFree, argsOf, argOf, Sl.some?, putBack, Opd.isS, Sl.own, Rv.sl, Rv.d, mwalk, walkD, itemsD, mrng, rng1, rng2, rng3, tgName, tgTup, tgCons, tgNil, masg, mpar2, stPar2, isiD, dTy, isiInt, isiBl, isiLst, isiTup, isiObj, or2, nm, List.findIdx?_cons, List.findIdx?_nil]
    · rw [List.replicate_succ']
  subst hs; subst ha
  unfold c_are_integers_1 mlc; rw [mb_k hm]
  rw [if_pos (by rfl)]
  have e' : compD [1] (tgName 1) (ct_are_integers_1 fu) (ce_are_integers_1 fu) (I p) [] (wipeS [.v d, .no] [1]) = .ok (List.replicate (0 + (I p).length) (D.bl true)) [.v d, .no] := e
  rw [e', Nat.zero_add, List.length_map]; rfl
theorem ev_are_integers (fu : Nat) {d : D} {p : List Int} (h : isRow d p) (hl : p.length ≤ 1000000) : d_are_integers fu [.v d] = .ret (.v (.bl true)) [.v d] := by
  have hc := ev_c_are fu h hl
  have hb : onBls (fun bs => bs.all id) (.lst (List.replicate p.length (D.bl true))) = some (.v (.bl true)) := by
    unfold onBls; dsimp only; rw [blsD_rep]; simp only [Option.map_some]; rw [all_true]
  have hb' : onBls (fun bs => bs.all id) (.lst (List.replicate p.length (D.bl true))) = some (.v (.bl true)) := hb
  rcases h with rfl | rfl <;> simp [d_are_integers, b_are_integers, fnD, ms, mseq, mbind, mret, mopt, mbad, mvar, res, strong, strongs, ress, mun, mbin, mbinR, mcb, mcons, mcond, mif, mandV, morV, mnotV, tob, truD, mfld, fldD, putO, mputf, stSet, stSetP, mfrz, mlst, mtup, mslice, mpart, intD, dSl, on1, on2, lenD, absD, TW.intOf, TW.listOf, TW.tupOf, dInt2, dCmp2, dNeg, dIx, dIsN, dNotN, D.isNon, dupFree, argsOf, argOf, Sl.some?, putBack, Opd.isS, Sl.own, Rv.sl, Rv.d, mwalk, walkD, itemsD, mrng, rng1, rng2, rng3, tgName, tgTup, tgCons, tgNil, masg, mpar2, stPar2, isiD, dTy, isiInt, isiBl, isiLst, isiTup, isiObj, or2, nm, List.findIdx?_cons, List.findIdx?_nil, hc, hb']
theorem ev_need_poly (fu : Nat) (ds : List D) (x : Str) : d_need_polynomial fu [.v (.obj 0 ds), .v (.str x)] = .ret (.v .non) [.v (.obj 0 ds), .v (.str x)] := by
  simp [d_need_polynomial, b_need_polynomial, fnD, ms, mseq, mbind, mret, mopt, mbad, mvar, res, strong, strongs, ress, mun, mbin, mbinR, mcb, mcons, mcond, mif, mandV, morV, mnotV, tob, truD, mfld, fldD, putO, mputf, stSet, stSetP, mfrz, mlst, mtup, mslice, mpart, intD, dSl, on1, on2, lenD, absD, TW.intOf, TW.listOf, TW.tupOf, dInt2, dCmp2, dNeg, dIx, dIsN, dNotN, D.isNon, dupFree, argsOf, argOf, Sl.some?, putBack, Opd.isS, Sl.own, Rv.sl, Rv.d, mwalk, walkD, itemsD, mrng, rng1, rng2, rng3, tgName, tgTup, tgCons, tgNil, masg, mpar2, stPar2, isiD, dTy, isiInt, isiBl, isiLst, isiTup, isiObj, or2, nm, List.findIdx?_cons, List.findIdx?_nil]
/-! ### trimmed -/
def IsTrim (p r : List Int) : Prop := (∃ k, p = r ++ List.replicate k 0) ∧ (r = [] ∨ r.getLastD 0 ≠ 0)
theorem dIx_m1 {q : List Int} (h : q ≠ []) : dIx (.lst (I q)) (.int (-1)) = some (.int (q.getLastD 0)) := by
  show atI (I q) (-1) = _
  rw [atI_I, atI_m1 h]; rfl
theorem atI_m1I {q : List Int} (h : q ≠ []) : atI (I q) (-1) = some (D.int (q.getLastD 0)) := by rw [atI_I, atI_m1 h]; rfl
theorem ev_lt_trim (fu : Nat) (d : D) (q : List Int) : lt_trimmed_1 fu [.v d, .l (I q)] = .ok (!q.isEmpty && decide (q.getLastD 0 = 0)) [.v d, .l (I q)] := by
  cases q with
  | nil =>
    have h0 : dNe (.lst []) (.lst []) = some (.bl false) := dNe_lst []
    simp [lt_trimmed_1, fnD, ms, mseq, mbind, mret, mopt, mbad, mvar, res, strong, strongs, ress, mun, mbin, mbinR, mcb, mcons, mcond, mif, mandV, morV, mnotV, tob, truD, mfld, fldD, putO, mputf, stSet, stSetP, mfrz, mlst, mtup, mslice, mpart, intD, dSl, on1, on2, lenD, absD, TW.intOf, TW.listOf, TW.tupOf, dInt2, dCmp2, dNeg, dIx, dIsN, dNotN, D.isNon, dupFree, argsOf, argOf, Sl.some?, putBack, Opd.isS, Sl.own, Rv.sl, Rv.d, mwalk, walkD, itemsD, mrng, rng1, rng2, rng3, tgName, tgTup, tgCons, tgNil, masg, mpar2, stPar2, isiD, dTy, isiInt, isiBl, isiLst, isiTup, isiObj, or2, nm, List.findIdx?_cons, List.findIdx?_nil, h0]
  | cons a q =>
    have h1 := dNe_lst (a :: q)
    have h2 := atI_m1I (q := a :: q) (by simp)
    simp only [lt_trimmed_1, fnD, ms, mseq, mbind, mret, mopt, mbad, mvar, res, strong, strongs, ress, mun, mbin, mbinR, mcb, mcons, mcond, mif, mandV, morV, mnotV, tob, truD, mfld, fldD, putO, mputf, stSet, stSetP, mfrz, mlst, mtup, mslice, mpart, intD, dSl, on1, on2, lenD, absD, TW.intOf, TW.listOf, TW.tupOf, dInt2, dCmp2, dNeg, dIx, dIsN, dNotN, D.isNon, dupFree, argsOf, argOf, Sl.some?, putBack, Opd.isS, Sl.own, Rv.sl, Rv.d, mwalk, walkD, itemsD, mrng, rng1, rng2, rng3, tgName, tgTup, tgCons, tgNil, masg, mpar2, stPar2, isiD, dTy, isiInt, isiBl, isiLst, isiTup, isiObj, or2, nm, List.findIdx?_cons, List.findIdx?_nil, List.getElem?_cons_zero, List.getElem?_cons_succ, List.length_nil, h1, h2, List.isEmpty_cons, Bool.not_false, Nat.zero_le, if_true, Bool.true_and, dEq_int]
theorem dropLast_snoc {q : List Int} (h : q ≠ []) : q = q.dropLast ++ [q.getLastD 0] := by
  rw [List.getLastD_eq_getLast?, List.getLast?_eq_some_getLast h]
  exact (List.dropLast_concat_getLast h).symm
theorem ev_lb_trim (fu : Nat) (d : D) {q : List Int} (h : q ≠ []) : lb_trimmed_1 fu [.v d, .l (I q)] = .nx [.v d, .l (I q.dropLast)] := by
  have hl : 0 < q.length := List.length_pos_iff.mpr h
  have e : (I q)[(I q).length - 1]? = some (D.int (q.getLastD 0)) := by
    rw [List.length_map, List.getElem?_map]
    rw [show q[q.length - 1]? = some (q.getLastD 0) by
      rw [List.getLastD_eq_getLast?, List.getLast?_eq_getElem?, List.getElem?_eq_getElem (by omega)]; rfl]
    rfl
  simp only [lb_trimmed_1, ms, mpop, List.getElem?_cons_zero, List.getElem?_cons_succ, e, List.set_cons_succ, List.set_cons_zero, List.map_dropLast]
theorem ev_trimmed (fu : Nat) {d : D} {p : List Int} (h : isRow d p) (hf : p.length < fu) : ∃ r, IsTrim p r ∧ d_trimmed fu [.v d] = .ret (.v (.tup (I r))) [.v d] := by
  obtain ⟨s', s0, e, ⟨q, rfl, k, hk⟩, h2⟩ := while_ok (ft := lt_trimmed_1 fu) (bd := lb_trimmed_1 fu) (fun s => ∃ q, s = [.v d, .l (I q)] ∧ ∃ k, p = q ++ List.replicate k 0) (fun s => match s with | [_, .l ds] => ds.length | _ => 0) fu [.v d, .l (I p)] ⟨p, rfl, 0, by simp⟩ (by simpa using hf) fun s hs => by
    obtain ⟨q, rfl, k, hk⟩ := hs
    have et := ev_lt_trim fu d q
    cases hb : (!q.isEmpty && decide (q.getLastD 0 = 0)) with
    | false => rw [hb] at et; exact .inl ⟨_, et⟩
    | true =>
      rw [hb] at et
      rw [Bool.and_eq_true] at hb
      have hq : q ≠ [] := by intro z; subst z; simp at hb
      have h0 : q.getLastD 0 = 0 := of_decide_eq_true hb.2
      have hl : 0 < q.length := List.length_pos_iff.mpr hq
      refine .inr ⟨_, _, et, ev_lb_trim fu d hq, ⟨q.dropLast, rfl, k + 1, ?_⟩, ?_⟩
      · have e1 := dropLast_snoc hq
        rw [h0] at e1
        rw [hk]
        conv => lhs; rw [e1]
        rw [List.append_assoc, List.replicate_succ]; rfl
      · simp; omega
  have et := ev_lt_trim fu d q
  rw [h2] at et
  injection et with et1 et2
  subst et2
  refine ⟨q, ⟨⟨k, hk⟩, ?_⟩, ?_⟩
  · cases q with
    | nil => exact .inl rfl
    | cons a q =>
      right
      intro z
      rw [z] at et1
      simp at et1
  · have el : l_trimmed_1 fu [.v d, .l (I p)] = .nx [.v d, .l (I q)] := e
    rcases h with rfl | rfl <;> simp [d_trimmed, b_trimmed, fnD, ms, mseq, mbind, mret, mopt, mbad, mvar, res, strong, strongs, ress, mun, mbin, mbinR, mcb, mcons, mcond, mif, mandV, morV, mnotV, tob, truD, mfld, fldD, putO, mputf, stSet, stSetP, mfrz, mlst, mtup, mslice, mpart, intD, dSl, on1, on2, lenD, absD, TW.intOf, TW.listOf, TW.tupOf, dInt2, dCmp2, dNeg, dIx, dIsN, dNotN, D.isNon, dupFree, argsOf, argOf, Sl.some?, putBack, Opd.isS, Sl.own, Rv.sl, Rv.d, mwalk, walkD, itemsD, mrng, rng1, rng2, rng3, tgName, tgTup, tgCons, tgNil, masg, mpar2, stPar2, isiD, dTy, isiInt, isiBl, isiLst, isiTup, isiObj, or2, nm, List.findIdx?_cons, List.findIdx?_nil, el]
theorem IsTrim.of {p : List Int} (h : p = [] ∨ p.getLastD 0 ≠ 0) : IsTrim p p := ⟨⟨0, by simp⟩, h⟩
theorem trim_last {r : List Int} {k : Nat} : (r ++ List.replicate (k + 1) (0 : Int)).getLastD 0 = 0 := by
  rw [List.replicate_succ', ← List.append_assoc, List.getLastD_eq_getLast?, List.getLast?_concat]; rfl
theorem IsTrim.uniq {p r r' : List Int} (h : IsTrim p r) (h' : IsTrim p r') : r = r' := by
  obtain ⟨⟨k, e⟩, t⟩ := h
  obtain ⟨⟨k', e'⟩, t'⟩ := h'
  rw [e] at e'
  have hlen := congrArg List.length e'
  simp only [List.length_append, List.length_replicate] at hlen
  rcases Nat.lt_trichotomy k k' with hk | hk | hk
  · obtain ⟨m, rfl⟩ : ∃ m, k' = m + 1 + k := ⟨k' - k - 1, by omega⟩
    rw [← List.replicate_append_replicate, ← List.append_assoc] at e'
    have e2 := List.append_cancel_right e'
    rcases t with t | t
    · rw [t] at e2; have := congrArg List.length e2; simp at this
    · rw [e2, trim_last] at t; exact absurd rfl t
  · subst hk; exact List.append_cancel_right e'
  · obtain ⟨m, rfl⟩ : ∃ m, k = m + 1 + k' := ⟨k - k' - 1, by omega⟩
    rw [← List.replicate_append_replicate, ← List.append_assoc] at e'
    have e2 := List.append_cancel_right e'
    rcases t' with t | t
    · rw [t] at e2; have := congrArg List.length e2; simp at this
    · rw [← e2, trim_last] at t; exact absurd rfl t
end K30

set_option linter.all false
set_option autoImplicit false
set_option maxRecDepth 100000
set_option maxHeartbeats 2000000
namespace K30
open PySem TW L2
/-! ### bits -/
def bd (k : Nat) (x : Int) : Prop := x.natAbs < 2 ^ k
def bdl (k : Nat) (p : List Int) : Prop := ∀ x ∈ p, bd k x
theorem bd.mono {j k : Nat} {x : Int} (h : bd j x) (hk : j ≤ k) : bd k x := Nat.lt_of_lt_of_le h (Nat.pow_le_pow_right (by decide) hk)
theorem bdl.mono {j k : Nat} {p : List Int} (h : bdl j p) (hk : j ≤ k) : bdl k p := fun x hx => (h x hx).mono hk
theorem bd.add {j k : Nat} {x y : Int} (h : bd j x) (h' : bd k y) {m : Nat} (hj : j + 1 ≤ m) (hk : k + 1 ≤ m) : bd m (x + y) := by
  have h1 : x.natAbs < 2 ^ (m - 1) := h.mono (by omega)
  have h2 : y.natAbs < 2 ^ (m - 1) := h'.mono (by omega)
  have e : 2 ^ m = 2 ^ (m - 1) + 2 ^ (m - 1) := by
    conv => lhs; rw [show m = (m - 1) + 1 by omega, Nat.pow_succ]
    omega
  unfold bd
  rw [e]; omega
theorem bd.mul {j k : Nat} {x y : Int} (h : bd j x) (h' : bd k y) : bd (j + k) (x * y) := by
  unfold bd
  rw [Int.natAbs_mul, Nat.pow_add]
  exact Nat.mul_lt_mul'' h h'
theorem bd.log {k : Nat} {x : Int} (h : bd k x) : x.natAbs.log2 ≤ k := by
  by_cases hx : x.natAbs = 0
  · rw [hx]; simp
  · exact Nat.le_of_lt ((Nat.log2_lt hx).mpr h)
theorem bd.cMul {j k : Nat} {x y : Int} (h : bd j x) (h' : bd k y) (hk : j + k < 134217000) : cMul x y = true := by
  have := h.log; have := h'.log
  exact decide_eq_true (by omega)
/-! ### shifted_by -/
theorem I_len (q : List Int) : (I q).length = q.length := List.length_map _
theorem atI_In {q : List Int} {j : Nat} (h : j < q.length) : atI (I q) (j : Int) = some (D.int q[j]) := by rw [atI_I, atI_nat' h]; rfl
theorem I_set (q : List Int) (j : Nat) (z : Int) : (I q).set j (.int z) = I (q.set j z) := by
  show (q.map D.int).set j (D.int z) = (q.set j z).map D.int
  rw [List.map_set]
theorem ev_lb1 (fu : Nat) (d : D) (b : Int) (q : List Int) (x3 : Sl) {j : Nat} (hj : j + 1 < q.length) (hc : cMul b q[j + 1] = true) :
    lb_shifted_by_1 fu [.v d, .v (.int b), .l (I q), x3, .v (.int (j : Int))] = .nx [.v d, .v (.int b), .l (I (q.set j (q[j] + b * q[j + 1]))), x3, .v (.int (j : Int))] := by
  have h1 := atI_In (q := q) (j := j) (by omega)
  have h2 : atI (I q) ((j : Int) + 1) = some (D.int q[j + 1]) := by
    have := atI_In (q := q) (j := j + 1) hj
    rwa [show (((j + 1 : Nat)) : Int) = (j : Int) + 1 by omega] at this
  have h3 : ixN (I q).length (j : Int) = some j := ixN_nat (by rw [I_len]; omega)
  simp only [lb_shifted_by_1, mseti, fnD, ms, mseq, mbind, mret, mopt, mbad, mvar, res, strong, strongs, ress, mun, mbin, mbinR, mcb, mcons, mcond, mif, mandV, morV, mnotV, tob, truD, mfld, fldD, putO, mputf, stSet, stSetP, mfrz, mlst, mtup, mslice, mpart, intD, dSl, on1, on2, lenD, absD, TW.intOf, TW.listOf, TW.tupOf, dInt2, dCmp2, dNeg, dIx, dIsN, dNotN, D.isNon, dupFree, argsOf, argOf, Sl.some?, putBack, Opd.isS, Sl.own, Rv.sl, Rv.d, mwalk, walkD, itemsD, mrng, rng1, rng2, rng3, tgName, tgTup, tgCons, tgNil, masg, mpar2, stPar2, isiD, dTy, isiInt, isiBl, isiLst, isiTup, isiObj, or2, nm, List.findIdx?_cons, List.findIdx?_nil, List.getElem?_cons_zero, List.getElem?_cons_succ, h1, h2, h3, List.set_cons_succ, List.set_cons_zero, I_set, if_true, hc, dAdd, ctt]
/-- one pass: the items from low on are gone through from behind -/
theorem ev_li1 (fu : Nat) (d : D) (b : Int) (q : List Int) (x4 : Sl) {lo : Nat} (hq : q.length ≤ 1000000) (hlo : lo ≤ 1000000) :
    li_shifted_by_1 fu [.v d, .v (.int b), .l (I q), .v (.int (lo : Int)), x4] = .ok (rangeC ((q.length : Int) - 2) (-1) (((q.length : Int) - 2) - ((lo : Int) - 1)).toNat) [.v d, .v (.int b), .l (I q), .v (.int (lo : Int)), x4] := by
  have h1 : okR ((q.length : Int) - 2) = true := Nat.ble_eq_true_of_le (by omega)
  have h2 : okR ((lo : Int) - 1) = true := Nat.ble_eq_true_of_le (by omega)
  simp [li_shifted_by_1, fnD, ms, mseq, mbind, mret, mopt, mbad, mvar, res, strong, strongs, ress, mun, mbin, mbinR, mcb, mcons, mcond, mif, mandV, morV, mnotV, tob, truD, mfld, fldD, putO, mputf, stSet, stSetP, mfrz, mlst, mtup, mslice, mpart, intD, dSl, on1, on2, lenD, absD, TW.intOf, TW.listOf, TW.tupOf, dInt2, dCmp2, dNeg, dIx, dIsN, dNotN, D.isNon, dupFree, argsOf, argOf, Sl.some?, putBack, Opd.isS, Sl.own, Rv.sl, Rv.d, mwalk, walkD, itemsD, mrng, rng1, rng2, rng3, tgName, tgTup, tgCons, tgNil, masg, mpar2, stPar2, isiD, dTy, isiInt, isiBl, isiLst, isiTup, isiObj, or2, nm, List.findIdx?_cons, List.findIdx?_nil, I_len, h1, h2]
theorem syn_cons (b a : Int) (q : List Int) : syn b (a :: q) = (a + b * hd (syn b q)) :: syn b q := rfl
theorem hd_get {q : List Int} (h : 0 < q.length) : hd q = q[0] := by cases q; simp at h; rfl
theorem bdl.set {k : Nat} {q : List Int} {j : Nat} {z : Int} (h : bdl k q) (hz : bd k z) : bdl k (q.set j z) := fun x hx => by
  rcases List.mem_or_eq_of_mem_set hx with h' | rfl
  · exact h x h'
  · exact hz
theorem rangeC_get {lo c : Int} {n j : Nat} {d : D} (h : (rangeC lo c n)[j]? = some d) : j < n ∧ d = .int (lo + (j : Nat) * c) := by
  unfold rangeC at h
  rw [List.getElem?_map] at h
  by_cases hj : j < n
  · rw [List.getElem?_range hj] at h; cases h; exact ⟨hj, rfl⟩
  · rw [List.getElem?_eq_none (by simpa using hj)] at h; cases h
theorem rangeD_get {lo : Int} {n j : Nat} {d : D} (h : (rangeD lo n)[j]? = some d) : j < n ∧ d = .int (lo + (j : Nat)) := by
  unfold rangeD at h
  rw [List.getElem?_map] at h
  by_cases hj : j < n
  · rw [List.getElem?_range hj] at h; cases h; exact ⟨hj, rfl⟩
  · rw [List.getElem?_eq_none (by simpa using hj)] at h; cases h
theorem ev_pass (fu : Nat) (d : D) {b : Int} {kb k : Nat} {dn cur : List Int} (x4 : Sl) (hb : bd kb b) (hne : cur ≠ []) (hq : (dn ++ cur).length ≤ 1000000) (hk : bdl k (dn ++ cur)) (hkk : k + cur.length * (kb + 1) + kb < 134217000) :
    ∃ x4', lb_shifted_by_2 fu [.v d, .v (.int b), .l (I (dn ++ cur)), .v (.int (dn.length : Int)), x4] = .nx [.v d, .v (.int b), .l (I (dn ++ syn b cur)), .v (.int (dn.length : Int)), x4'] ∧ bdl (k + cur.length * (kb + 1)) (dn ++ syn b cur) := by
  have hcl : 0 < cur.length := List.length_pos_iff.mpr hne
  have hlen : (dn ++ cur).length = dn.length + cur.length := by simp
  have hi := ev_li1 fu d b (dn ++ cur) x4 (lo := dn.length) hq (by omega)
  obtain ⟨s', e, x4', hs', hB⟩ := for_ok (tm := tgName 4) (bd := lb_shifted_by_1 fu) (fun j s => ∃ x4, s = [.v d, .v (.int b), .l (I (dn ++ (cur.take (cur.length - 1 - j) ++ syn b (cur.drop (cur.length - 1 - j))))), .v (.int (dn.length : Int)), x4] ∧
      bdl (k + j * (kb + 1)) (dn ++ (cur.take (cur.length - 1 - j) ++ syn b (cur.drop (cur.length - 1 - j))))) hi ⟨x4, by
        have e1 : cur.take (cur.length - 1 - 0) ++ syn b (cur.drop (cur.length - 1 - 0)) = cur := by
          have : ∃ z, cur.drop (cur.length - 1) = [z] := by
            have hl : (cur.drop (cur.length - 1)).length = 1 := by simp; omega
            match cur.drop (cur.length - 1), hl with
            | [z], _ => exact ⟨z, rfl⟩
          obtain ⟨z, hz⟩ := this
          have e2 := List.take_append_drop (cur.length - 1) cur
          rw [Nat.sub_zero, hz]
          rw [hz] at e2
          simpa [syn, hd] using e2
        exact ⟨by rw [e1], by rw [e1]; simpa using hk⟩⟩ fun j x s hj hP => by
    obtain ⟨y4, rfl, hB⟩ := hP
    obtain ⟨hjn, rfl⟩ := rangeC_get hj
    have hjm : j < cur.length - 1 := by omega
    -- the place
    have hpl : (((dn ++ cur).length : Int) - 2 + (j : Nat) * -1) = ((dn.length + (cur.length - 2 - j) : Nat) : Int) := by omega
    rw [hpl]
    suffices key : lb_shifted_by_1 fu [.v d, .v (.int b), .l (I (dn ++ (cur.take (cur.length - 1 - j) ++ syn b (cur.drop (cur.length - 1 - j))))), .v (.int (dn.length : Int)), .v (.int ((dn.length + (cur.length - 2 - j) : Nat) : Int))] =
        .nx [.v d, .v (.int b), .l (I (dn ++ (cur.take (cur.length - 1 - (j + 1)) ++ syn b (cur.drop (cur.length - 1 - (j + 1)))))), .v (.int (dn.length : Int)), .v (.int ((dn.length + (cur.length - 2 - j) : Nat) : Int))] ∧
        bdl (k + (j + 1) * (kb + 1)) (dn ++ (cur.take (cur.length - 1 - (j + 1)) ++ syn b (cur.drop (cur.length - 1 - (j + 1))))) from ⟨_, _, rfl, key.1, _, rfl, key.2⟩
    have hm1 : cur.length - 1 - j = (cur.length - 1 - (j + 1)) + 1 := by omega
    have hlt : cur.length - 1 - (j + 1) < cur.length := by omega
    have hdrop : cur.drop (cur.length - 1 - (j + 1)) = cur[cur.length - 1 - (j + 1)] :: cur.drop (cur.length - 1 - j) := by
      rw [hm1]; exact List.drop_eq_getElem_cons hlt
    have htake : cur.take (cur.length - 1 - j) = cur.take (cur.length - 1 - (j + 1)) ++ [cur[cur.length - 1 - (j + 1)]] := by
      rw [hm1]; exact List.take_succ_eq_append_getElem hlt
    have hsl : (syn b (cur.drop (cur.length - 1 - j))).length = j + 1 := by rw [syn_len, List.length_drop]; omega
    generalize hA : cur.take (cur.length - 1 - (j + 1)) = A at *
    generalize hz : cur[cur.length - 1 - (j + 1)] = z at *
    generalize hS : syn b (cur.drop (cur.length - 1 - j)) = Sx at *
    have hAl : A.length = cur.length - 2 - j := by rw [← hA, List.length_take]; omega
    rw [htake] at hB
    rw [hdrop, syn_cons, hS, htake]
    have eq0 : dn ++ (A ++ [z] ++ Sx) = (dn ++ A) ++ (z :: Sx) := by simp
    rw [eq0] at hB ⊢
    have hpos : dn.length + (cur.length - 2 - j) = (dn ++ A).length := by simp; omega
    have hg0 : ((dn ++ A) ++ (z :: Sx))[(dn ++ A).length]'(by simp) = z := by simp
    have hg1 : ((dn ++ A) ++ (z :: Sx))[(dn ++ A).length + 1]'(by simp; omega) = hd Sx := by
      rw [hd_get (by omega)]
      have h0 : ((dn ++ A) ++ (z :: Sx))[(dn ++ A).length + 1]? = some Sx[0] := by
        rw [List.getElem?_append_right (by omega), Nat.add_sub_cancel_left, List.getElem?_cons_succ, List.getElem?_eq_getElem (by omega)]
      exact (List.getElem?_eq_some_iff.mp h0).2
    have hbz : bd (k + j * (kb + 1)) z := hB z (by simp)
    have hbs : bd (k + j * (kb + 1)) (hd Sx) := hB (hd Sx) (by
      rw [hd_get (by omega)]
      simp)
    have hjk : j * (kb + 1) ≤ cur.length * (kb + 1) := Nat.mul_le_mul_right _ (by omega)
    have hjs : (j + 1) * (kb + 1) = j * (kb + 1) + (kb + 1) := by rw [Nat.succ_mul]
    have ev := ev_lb1 fu d b ((dn ++ A) ++ (z :: Sx)) (.v (.int (dn.length : Int))) (j := (dn ++ A).length) (by simp; omega) (by rw [hg1]; exact hb.cMul hbs (by omega))
    rw [hg0, hg1] at ev
    have eset : ((dn ++ A) ++ (z :: Sx)).set (dn ++ A).length (z + b * hd Sx) = dn ++ (A ++ (z + b * hd Sx) :: Sx) := by
      rw [List.set_append_right _ _ (Nat.le_refl _)]
      simp
    rw [eset] at ev
    have hnew : bd (k + (j + 1) * (kb + 1)) (z + b * hd Sx) := bd.add hbz (hb.mul hbs) (by omega) (by omega)
    have eset2 : ((dn ++ A) ++ (z :: Sx)).set (dn ++ A).length (z + b * hd Sx) = dn ++ (A ++ (z + b * hd Sx) :: Sx) := eset
    rw [hpos]
    exact ⟨ev, by rw [← eset]; exact bdl.set (hB.mono (by omega)) hnew⟩
  refine ⟨x4', ?_, ?_⟩
  · have he : (rangeC (((dn ++ cur).length : Int) - 2) (-1) (((dn ++ cur).length : Int) - 2 - ((dn.length : Int) - 1)).toNat).length = cur.length - 1 := by
      unfold rangeC; rw [List.length_map, List.length_range]; omega
    rw [he] at hs'
    show l_shifted_by_1 fu _ = _
    unfold l_shifted_by_1
    rw [e, hs']
    simp
  · have he : (rangeC (((dn ++ cur).length : Int) - 2) (-1) (((dn ++ cur).length : Int) - 2 - ((dn.length : Int) - 1)).toNat).length = cur.length - 1 := by
      unfold rangeC; rw [List.length_map, List.length_range]; omega
    rw [he] at hB
    have hm : (cur.length - 1) * (kb + 1) ≤ cur.length * (kb + 1) := Nat.mul_le_mul_right _ (by omega)
    have := hB.mono (show k + (cur.length - 1) * (kb + 1) ≤ k + cur.length * (kb + 1) by omega)
    simpa using this
end K30

set_option linter.all false
set_option autoImplicit false
set_option maxRecDepth 100000
set_option maxHeartbeats 2000000
namespace K30
open PySem TW L2
theorem ev_li2 (fu : Nat) (d : D) (b : Int) (q : List Int) (x3 x4 : Sl) (hq : q.length ≤ 1000000) :
    li_shifted_by_2 fu [.v d, .v (.int b), .l (I q), x3, x4] = .ok (rangeD 0 ((q.length : Int) - 1).toNat) [.v d, .v (.int b), .l (I q), x3, x4] := by
  have h1 : okR ((q.length : Int) - 1) = true := Nat.ble_eq_true_of_le (by omega)
  simp [li_shifted_by_2, fnD, ms, mseq, mbind, mret, mopt, mbad, mvar, res, strong, strongs, ress, mun, mbin, mbinR, mcb, mcons, mcond, mif, mandV, morV, mnotV, tob, truD, mfld, fldD, putO, mputf, stSet, stSetP, mfrz, mlst, mtup, mslice, mpart, intD, dSl, on1, on2, lenD, absD, TW.intOf, TW.listOf, TW.tupOf, dInt2, dCmp2, dNeg, dIx, dIsN, dNotN, D.isNon, dupFree, argsOf, argOf, Sl.some?, putBack, Opd.isS, Sl.own, Rv.sl, Rv.d, mwalk, walkD, itemsD, mrng, rng1, rng2, rng3, tgName, tgTup, tgCons, tgNil, masg, mpar2, stPar2, isiD, dTy, isiInt, isiBl, isiLst, isiTup, isiObj, or2, nm, List.findIdx?_cons, List.findIdx?_nil, I_len, h1]
theorem ev_l2 (fu : Nat) (d : D) {b : Int} {kb k : Nat} {p : List Int} (hb : bd kb b) (hq : p.length ≤ 1000000) (hk : bdl k p) (hkk : k + p.length * p.length * (kb + 1) + (p.length * (kb + 1) + kb) < 134217000) :
    ∃ x3 x4, l_shifted_by_2 fu [.v d, .v (.int b), .l (I p), .no, .no] = .nx [.v d, .v (.int b), .l (I (T b p)), x3, x4] ∧ bdl (k + p.length * p.length * (kb + 1)) (T b p) := by
  obtain ⟨s', e, dn, cur, x3, x4, hs', hi, hn, hT, hB⟩ := for_ok (tm := tgName 3) (bd := lb_shifted_by_2 fu) (fun i s => ∃ dn cur x3 x4, s = [.v d, .v (.int b), .l (I (dn ++ cur)), x3, x4] ∧ dn.length = i ∧ (dn ++ cur).length = p.length ∧ T b p = dn ++ T b cur ∧ bdl (k + i * (p.length * (kb + 1))) (dn ++ cur))
    (ev_li2 fu d b p .no .no hq) ⟨[], p, .no, .no, rfl, rfl, rfl, rfl, by simpa using hk⟩ fun i x s hi hP => by
    obtain ⟨dn, cur, x3, x4, rfl, hdn, hn, hT, hB⟩ := hP
    obtain ⟨hin, rfl⟩ := rangeD_get hi
    have hlen : (dn ++ cur).length = dn.length + cur.length := by simp
    have hne : cur ≠ [] := by
      intro z
      have z' : cur.length = 0 := by rw [z]; rfl
      omega
    have hi' : i < p.length := by omega
    have hmul : i * (p.length * (kb + 1)) + p.length * (kb + 1) ≤ p.length * (p.length * (kb + 1)) := by
      rw [← Nat.succ_mul]; exact Nat.mul_le_mul_right _ (by omega)
    have hcm : cur.length * (kb + 1) ≤ p.length * (kb + 1) := Nat.mul_le_mul_right _ (by omega)
    rw [← Nat.mul_assoc] at hmul
    rw [← Nat.mul_assoc] at hmul
    have hass : i * (p.length * (kb + 1)) = i * p.length * (kb + 1) := (Nat.mul_assoc _ _ _).symm
    obtain ⟨x4', ev, hB'⟩ := ev_pass fu d (dn := dn) (cur := cur) (k := k + i * (p.length * (kb + 1))) (x4 := x4) hb hne (by omega) hB (by omega)
    cases hs : syn b cur with
    | nil => have := syn_len b cur; rw [hs] at this; exact absurd (List.length_eq_zero_iff.mp this.symm) hne
    | cons y r =>
      rw [hs] at ev hB'
      refine ⟨[.v d, .v (.int b), .l (I (dn ++ cur)), .v (.int (dn.length : Int)), x4], _, ?_, ev, dn ++ [y], r, .v (.int (dn.length : Int)), x4', by simp, by simp [hdn], ?_, ?_, ?_⟩
      · rw [← hdn]; simp [tgName]
      · have := syn_len b cur; rw [hs] at this; simp at this; simp; omega
      · rw [hT, T_syn b hs]; simp
      · have := hB'.mono (show k + i * (p.length * (kb + 1)) + cur.length * (kb + 1) ≤ k + (i + 1) * (p.length * (kb + 1)) by rw [Nat.succ_mul]; omega)
        simpa using this
  have hr : (rangeD 0 ((p.length : Int) - 1).toNat).length = p.length - 1 := by unfold rangeD; rw [List.length_map, List.length_range]; omega
  rw [hr] at hi hB
  have hlen : (dn ++ cur).length = dn.length + cur.length := by simp
  have hTc : T b cur = cur := by
    match cur, (show cur.length ≤ 1 by omega) with
    | [], _ => rfl
    | [a], _ => rfl
  rw [hTc] at hT
  have hm : (p.length - 1) * (p.length * (kb + 1)) ≤ p.length * p.length * (kb + 1) := by
    rw [Nat.mul_assoc]; exact Nat.mul_le_mul_right _ (by omega)
  refine ⟨x3, x4, ?_, ?_⟩
  · rw [hT]; unfold l_shifted_by_2; rw [e, hs']
  · rw [hT]; exact hB.mono (by omega)
theorem ev_shifted_by (fu : Nat) {d : D} {b : Int} {kb k : Nat} {p : List Int} (h : isRow d p) (hb : bd kb b) (hq : p.length ≤ 1000000) (hk : bdl k p) (hkk : k + p.length * p.length * (kb + 1) + (p.length * (kb + 1) + kb) < 134217000) :
    d_shifted_by fu [.v d, .v (.int b)] = .ret (.v (.lst (I (T b p)))) [.v d, .v (.int b)] := by
  obtain ⟨x3, x4, e, _⟩ := ev_l2 fu d hb hq hk hkk
  rcases h with rfl | rfl <;> simp [d_shifted_by, b_shifted_by, fnD, ms, mseq, mbind, mret, mopt, mbad, mvar, res, strong, strongs, ress, mun, mbin, mbinR, mcb, mcons, mcond, mif, mandV, morV, mnotV, tob, truD, mfld, fldD, putO, mputf, stSet, stSetP, mfrz, mlst, mtup, mslice, mpart, intD, dSl, on1, on2, lenD, absD, TW.intOf, TW.listOf, TW.tupOf, dInt2, dCmp2, dNeg, dIx, dIsN, dNotN, D.isNon, dupFree, argsOf, argOf, Sl.some?, putBack, Opd.isS, Sl.own, Rv.sl, Rv.d, mwalk, walkD, itemsD, mrng, rng1, rng2, rng3, tgName, tgTup, tgCons, tgNil, masg, mpar2, stPar2, isiD, dTy, isiInt, isiBl, isiLst, isiTup, isiObj, or2, nm, List.findIdx?_cons, List.findIdx?_nil, e]
/-! ### Polynomial(..) -/
theorem ev_init (fu : Nat) {d : D} {p : List Int} (h : isRow d p) (hl : p.length ≤ 1000000) (hf : p.length < fu) : ∃ r, IsTrim p r ∧ d_PolynomialX_initX fu [.o 0 [], .v d] = .ret (.v .non) [.o 0 [.tup (I r), .int ((r.length : Int) - 1)], .v d] := by
  obtain ⟨r, ht, e⟩ := ev_trimmed fu h hf
  have e1 := ev_are_integers fu h hl
  refine ⟨r, ht, ?_⟩
  have n1 : ¬ (("numbers" : Str) = ("degree" : Str)) := by decide +kernel
  have n2 : (("numbers" : Str) == ("numbers" : Str)) = true := by decide +kernel
  simp [d_PolynomialX_initX, b_PolynomialX_initX, mcall, e, e1, fnD, ms, mseq, mbind, mret, mopt, mbad, mvar, res, strong, strongs, ress, mun, mbin, mbinR, mcb, mcons, mcond, mif, mandV, morV, mnotV, tob, truD, mfld, fldD, putO, mputf, stSet, stSetP, mfrz, mlst, mtup, mslice, mpart, intD, dSl, on1, on2, lenD, absD, TW.intOf, TW.listOf, TW.tupOf, dInt2, dCmp2, dNeg, dIx, dIsN, dNotN, D.isNon, dupFree, argsOf, argOf, Sl.some?, putBack, Opd.isS, Sl.own, Rv.sl, Rv.d, mwalk, walkD, itemsD, mrng, rng1, rng2, rng3, tgName, tgTup, tgCons, tgNil, masg, mpar2, stPar2, isiD, dTy, isiInt, isiBl, isiLst, isiTup, isiObj, or2, nm, List.findIdx?_cons, List.findIdx?_nil, n1, n2]
/-! ### is_above -/
theorem onInts_min {q : List Int} (h : q ≠ []) : ∃ m, onInts minL (.lst (I q)) = some (.v (.int m)) ∧ m ∈ q ∧ ∀ x ∈ q, m ≤ x := by
  have hi : intsD (I q) = some q := by
    induction q with
    | nil => rfl
    | cons a q ih =>
      by_cases hq : q = []
      · subst hq; rfl
      · show intsD (.int a :: I q) = _
        unfold intsD; rw [ih hq]; rfl
  cases hm : q.min? with
  | none => rw [List.min?_eq_none_iff] at hm; exact absurd hm h
  | some m =>
    have := (List.min?_eq_some_iff (α := Int) (a := m) (xs := q)).mp hm
    refine ⟨m, ?_, this.1, this.2⟩
    unfold onInts; dsimp only; rw [hi]; show (minL q).map _ = _; unfold minL; rw [hm]; rfl
theorem atI0 {q : List Int} (h : q ≠ []) : atI (I q) 0 = some (D.int (hd q)) := by
  have hl : 0 < q.length := List.length_pos_iff.mpr h
  have := atI_In (q := q) (j := 0) hl
  rw [hd_get hl]; exact this
instance (p : List Int) (m : Int) : Decidable (Ab p m) := by unfold Ab nn; exact inferInstance
theorem ev_is_above (fu : Nat) {d : D} {b : Int} {kb k : Nat} {p : List Int} (h : isRow d p) (hb : bd kb b) (hq : p.length ≤ 1000000) (hk : bdl k p) (hkk : k + p.length * p.length * (kb + 1) + (p.length * (kb + 1) + kb) < 134217000) :
    d_is_above fu [.v d, .v (.int b)] = .ret (.v (.bl (decide (Ab p b)))) [.v d, .v (.int b)] := by
  have e := ev_shifted_by fu h hb hq hk hkk
  have hd' : ∃ z, d = z ∧ (argOf [.v d, .v (.int b), .no] (.s 0)) = some (.v d) := ⟨d, rfl, rfl⟩
  by_cases hn : T b p = []
  · have hA : decide (Ab p b) = false := by
      apply decide_eq_false; rintro ⟨h1, _⟩; rw [hn] at h1; simp [hd] at h1
    rw [hA]
    rw [hn] at e
    have h0 : dNe (.lst []) (.lst []) = some (.bl false) := dNe_lst []
    rcases h with rfl | rfl <;> simp [d_is_above, b_is_above, mcall, e, fnD, ms, mseq, mbind, mret, mopt, mbad, mvar, res, strong, strongs, ress, mun, mbin, mbinR, mcb, mcons, mcond, mif, mandV, morV, mnotV, tob, truD, mfld, fldD, putO, mputf, stSet, stSetP, mfrz, mlst, mtup, mslice, mpart, intD, dSl, on1, on2, lenD, absD, TW.intOf, TW.listOf, TW.tupOf, dInt2, dCmp2, dNeg, dIx, dIsN, dNotN, D.isNon, dupFree, argsOf, argOf, Sl.some?, putBack, Opd.isS, Sl.own, Rv.sl, Rv.d, mwalk, walkD, itemsD, mrng, rng1, rng2, rng3, tgName, tgTup, tgCons, tgNil, masg, mpar2, stPar2, isiD, dTy, isiInt, isiBl, isiLst, isiTup, isiObj, or2, nm, List.findIdx?_cons, List.findIdx?_nil, h0]
  · obtain ⟨m, hm, hmem, hle⟩ := onInts_min hn
    have h0 := dNe_lst (T b p)
    have he : (T b p).isEmpty = false := by cases hT : T b p; exact absurd hT hn; rfl
    rw [he] at h0
    have h1 := atI0 hn
    have hA : decide (Ab p b) = (decide (0 < hd (T b p)) && decide (0 ≤ m)) := by
      rw [← Bool.decide_and]
      apply decide_eq_decide.mpr
      unfold Ab nn
      exact ⟨fun ⟨a, c⟩ => ⟨a, c m hmem⟩, fun ⟨a, c⟩ => ⟨a, fun x hx => by have := hle x hx; omega⟩⟩
    rw [hA]
    by_cases hp : 0 < hd (T b p)
    · rcases h with rfl | rfl <;> simp [d_is_above, b_is_above, mcall, e, fnD, ms, mseq, mbind, mret, mopt, mbad, mvar, res, strong, strongs, ress, mun, mbin, mbinR, mcb, mcons, mcond, mif, mandV, morV, mnotV, tob, truD, mfld, fldD, putO, mputf, stSet, stSetP, mfrz, mlst, mtup, mslice, mpart, intD, dSl, on1, on2, lenD, absD, TW.intOf, TW.listOf, TW.tupOf, dInt2, dCmp2, dNeg, dIx, dIsN, dNotN, D.isNon, dupFree, argsOf, argOf, Sl.some?, putBack, Opd.isS, Sl.own, Rv.sl, Rv.d, mwalk, walkD, itemsD, mrng, rng1, rng2, rng3, tgName, tgTup, tgCons, tgNil, masg, mpar2, stPar2, isiD, dTy, isiInt, isiBl, isiLst, isiTup, isiObj, or2, nm, List.findIdx?_cons, List.findIdx?_nil, h0, h1, hm, hp]
    · rcases h with rfl | rfl <;> simp [d_is_above, b_is_above, mcall, e, fnD, ms, mseq, mbind, mret, mopt, mbad, mvar, res, strong, strongs, ress, mun, mbin, mbinR, mcb, mcons, mcond, mif, mandV, morV, mnotV, tob, truD, mfld, fldD, putO, mputf, stSet, stSetP, mfrz, mlst, mtup, mslice, mpart, intD, dSl, on1, on2, lenD, absD, TW.intOf, TW.listOf, TW.tupOf, dInt2, dCmp2, dNeg, dIx, dIsN, dNotN, D.isNon, dupFree, argsOf, argOf, Sl.some?, putBack, Opd.isS, Sl.own, Rv.sl, Rv.d, mwalk, walkD, itemsD, mrng, rng1, rng2, rng3, tgName, tgTup, tgCons, tgNil, masg, mpar2, stPar2, isiD, dTy, isiInt, isiBl, isiLst, isiTup, isiObj, or2, nm, List.findIdx?_cons, List.findIdx?_nil, h0, h1, hm, hp]
end K30

set_option linter.all false
set_option autoImplicit false
set_option maxRecDepth 100000
set_option maxHeartbeats 2000000
namespace K30
open PySem TW L2
/-- t is the least from 2 on -/
def Least (p : List Int) (t : Int) : Prop := Ab p t ∧ 2 ≤ t ∧ ∀ m, 2 ≤ m → m < t → ¬ Ab p m
theorem Least.uniq {p : List Int} {t t' : Int} (h : Least p t) (h' : Least p t') : t = t' := by
  rcases Int.lt_trichotomy t t' with c | c | c
  · exact absurd h.1 (h'.2.2 t h.2.1 c)
  · exact c
  · exact absurd h'.1 (h.2.2 t' h'.2.1 c)
/-- the sizes that a search may meet -/
structure Small (k : Nat) (p : List Int) : Prop where
  len : p.length ≤ 1000000
  bits : bdl k p
  sz : k + p.length * p.length * (k + 3) + (p.length * (k + 3) + (k + 2)) < 134217000
theorem bd_le {k : Nat} {x y : Int} (h : bd k y) (h0 : 0 ≤ x) (h1 : x ≤ y) : bd k x := by
  unfold bd at *; omega
theorem far {k : Nat} {p : List Int} (hb : bdl k p) (hne : p ≠ []) (hl : 0 < p.getLastD 0) {m : Int} (hm : ((2 ^ k : Nat) : Int) < m) : Ab p m := by
  have h0 : 0 < 2 ^ k := Nat.two_pow_pos k
  have := Ab_far (m := m) (by omega) hne hl (fun x hx => by have := hb x hx; unfold bd at this; omega)
  exact ⟨by have := this.1; omega, this.2⟩
theorem pow2_2 (k : Nat) : (2 ^ (k + 2) : Nat) = 4 * 2 ^ k := by rw [Nat.pow_add]; omega
theorem ev_lt1 (fu : Nat) {d : D} {p : List Int} {k : Nat} (h : isRow d p) (S : Small k p) {lo hi : Int} (hb : bd (k + 2) hi) (x : Sl) :
    lt_least_above_2 fu [.v d, .v (.int lo), .v (.int hi), x] = .ok (!decide (Ab p hi)) [.v d, .v (.int lo), .v (.int hi), x] := by
  have e := ev_is_above fu h hb S.len S.bits (by have := S.sz; omega)
  cases x <;> rcases h with rfl | rfl <;> simp [lt_least_above_2, mcall, e, fnD, ms, mseq, mbind, mret, mopt, mbad, mvar, res, strong, strongs, ress, mun, mbin, mbinR, mcb, mcons, mcond, mif, mandV, morV, mnotV, tob, truD, mfld, fldD, putO, mputf, stSet, stSetP, mfrz, mlst, mtup, mslice, mpart, intD, dSl, on1, on2, lenD, absD, TW.intOf, TW.listOf, TW.tupOf, dInt2, dCmp2, dNeg, dIx, dIsN, dNotN, D.isNon, dupFree, argsOf, argOf, Sl.some?, putBack, Opd.isS, Sl.own, Rv.sl, Rv.d, mwalk, walkD, itemsD, mrng, rng1, rng2, rng3, tgName, tgTup, tgCons, tgNil, masg, mpar2, stPar2, isiD, dTy, isiInt, isiBl, isiLst, isiTup, isiObj, or2, nm, List.findIdx?_cons, List.findIdx?_nil]
theorem ev_lb1' (fu : Nat) (d : D) {lo hi : Int} {k : Nat} (hb : bd k hi) (hk : k < 100000000) (x : Sl) :
    lb_least_above_2 fu [.v d, .v (.int lo), .v (.int hi), x] = .nx [.v d, .v (.int hi), .v (.int (2 * hi)), x] := by
  have hc : cMul 2 hi = true := bd.cMul (j := 2) (show bd 2 2 by unfold bd; decide) hb (by omega)
  simp [lb_least_above_2, fnD, ms, mseq, mbind, mret, mopt, mbad, mvar, res, strong, strongs, ress, mun, mbin, mbinR, mcb, mcons, mcond, mif, mandV, morV, mnotV, tob, truD, mfld, fldD, putO, mputf, stSet, stSetP, mfrz, mlst, mtup, mslice, mpart, intD, dSl, on1, on2, lenD, absD, TW.intOf, TW.listOf, TW.tupOf, dInt2, dCmp2, dNeg, dIx, dIsN, dNotN, D.isNon, dupFree, argsOf, argOf, Sl.some?, putBack, Opd.isS, Sl.own, Rv.sl, Rv.d, mwalk, walkD, itemsD, mrng, rng1, rng2, rng3, tgName, tgTup, tgCons, tgNil, masg, mpar2, stPar2, isiD, dTy, isiInt, isiBl, isiLst, isiTup, isiObj, or2, nm, List.findIdx?_cons, List.findIdx?_nil, hc]
theorem ev_lt2 (fu : Nat) (d : D) (lo hi : Int) (x : Sl) : lt_least_above_1 fu [.v d, .v (.int lo), .v (.int hi), x] = .ok (decide (1 < hi - lo)) [.v d, .v (.int lo), .v (.int hi), x] := by
  simp [lt_least_above_1, fnD, ms, mseq, mbind, mret, mopt, mbad, mvar, res, strong, strongs, ress, mun, mbin, mbinR, mcb, mcons, mcond, mif, mandV, morV, mnotV, tob, truD, mfld, fldD, putO, mputf, stSet, stSetP, mfrz, mlst, mtup, mslice, mpart, intD, dSl, on1, on2, lenD, absD, TW.intOf, TW.listOf, TW.tupOf, dInt2, dCmp2, dNeg, dIx, dIsN, dNotN, D.isNon, dupFree, argsOf, argOf, Sl.some?, putBack, Opd.isS, Sl.own, Rv.sl, Rv.d, mwalk, walkD, itemsD, mrng, rng1, rng2, rng3, tgName, tgTup, tgCons, tgNil, masg, mpar2, stPar2, isiD, dTy, isiInt, isiBl, isiLst, isiTup, isiObj, or2, nm, List.findIdx?_cons, List.findIdx?_nil]
theorem ev_lb2 (fu : Nat) {d : D} {p : List Int} {k : Nat} (h : isRow d p) (S : Small k p) {lo hi : Int} (h0 : 0 ≤ lo) (h1 : lo ≤ hi) (hb : bd (k + 2) hi) (x : Sl) :
    lb_least_above_1 fu [.v d, .v (.int lo), .v (.int hi), x] = .nx (if Ab p ((lo + hi) / 2) then [.v d, .v (.int lo), .v (.int ((lo + hi) / 2)), .v (.int ((lo + hi) / 2))] else [.v d, .v (.int ((lo + hi) / 2)), .v (.int hi), .v (.int ((lo + hi) / 2))]) := by
  have hb' : bd (k + 2) ((lo + hi) / 2) := bd_le hb (by omega) (by omega)
  have e := ev_is_above fu h hb' S.len S.bits (by have := S.sz; omega)
  have hc : Nat.log2 2 < 9000 := by decide +kernel
  by_cases hA : Ab p ((lo + hi) / 2)
  · rw [decide_eq_true hA] at e
    rw [if_pos hA]
    rcases h with rfl | rfl <;> simp [lb_least_above_1, mcall, e, fnD, ms, mseq, mbind, mret, mopt, mbad, mvar, res, strong, strongs, ress, mun, mbin, mbinR, mcb, mcons, mcond, mif, mandV, morV, mnotV, tob, truD, mfld, fldD, putO, mputf, stSet, stSetP, mfrz, mlst, mtup, mslice, mpart, intD, dSl, on1, on2, lenD, absD, TW.intOf, TW.listOf, TW.tupOf, dInt2, dCmp2, dNeg, dIx, dIsN, dNotN, D.isNon, dupFree, argsOf, argOf, Sl.some?, putBack, Opd.isS, Sl.own, Rv.sl, Rv.d, mwalk, walkD, itemsD, mrng, rng1, rng2, rng3, tgName, tgTup, tgCons, tgNil, masg, mpar2, stPar2, isiD, dTy, isiInt, isiBl, isiLst, isiTup, isiObj, or2, nm, List.findIdx?_cons, List.findIdx?_nil, hc]
  · rw [decide_eq_false hA] at e
    rw [if_neg hA]
    rcases h with rfl | rfl <;> simp [lb_least_above_1, mcall, e, fnD, ms, mseq, mbind, mret, mopt, mbad, mvar, res, strong, strongs, ress, mun, mbin, mbinR, mcb, mcons, mcond, mif, mandV, morV, mnotV, tob, truD, mfld, fldD, putO, mputf, stSet, stSetP, mfrz, mlst, mtup, mslice, mpart, intD, dSl, on1, on2, lenD, absD, TW.intOf, TW.listOf, TW.tupOf, dInt2, dCmp2, dNeg, dIx, dIsN, dNotN, D.isNon, dupFree, argsOf, argOf, Sl.some?, putBack, Opd.isS, Sl.own, Rv.sl, Rv.d, mwalk, walkD, itemsD, mrng, rng1, rng2, rng3, tgName, tgTup, tgCons, tgNil, masg, mpar2, stPar2, isiD, dTy, isiInt, isiBl, isiLst, isiTup, isiObj, or2, nm, List.findIdx?_cons, List.findIdx?_nil, hc]
theorem ev_least_above (fu : Nat) {d : D} {p : List Int} {k : Nat} (h : isRow d p) (S : Small k p) (hne : p ≠ []) (hl : 0 < p.getLastD 0) (hf : 2 ^ (k + 3) < fu) :
    ∃ t, Least p t ∧ bd (k + 2) t ∧ d_least_above fu [.v d] = .ret (.v (.int t)) [.v d] := by
  have h2k : 0 < 2 ^ k := Nat.two_pow_pos k
  have e3 : (2 ^ (k + 3) : Nat) = 8 * 2 ^ k := by rw [Nat.pow_add]; omega
  have e2 := pow2_2 k
  have hk9 : k < 90000000 := by have := S.sz; omega
  -- the doubling
  obtain ⟨s', s0, e, ⟨lo, hi, rfl, i1, i2, i3, i4⟩, e4⟩ := while_ok (ft := lt_least_above_2 fu) (bd := lb_least_above_2 fu)
    (fun s => ∃ lo hi : Int, s = [.v d, .v (.int lo), .v (.int hi), .no] ∧ 1 ≤ lo ∧ lo < hi ∧ (lo = 1 ∨ ¬ Ab p lo) ∧ hi < ((2 ^ (k + 2) : Nat) : Int))
    (fun s => match s with | [_, _, .v (.int hi), _] => (((2 ^ k : Nat) : Int) + 1 - hi).toNat | _ => 0) fu [.v d, .v (.int 1), .v (.int 2), .no] ⟨1, 2, rfl, by omega, by omega, .inl rfl, by omega⟩ (by show (((2 ^ k : Nat) : Int) + 1 - 2).toNat < fu; omega) fun s hs => by
      obtain ⟨lo, hi, rfl, i1, i2, i3, i4⟩ := hs
      have hb : bd (k + 2) hi := by unfold bd; omega
      have et := ev_lt1 fu h S (lo := lo) hb .no
      by_cases hA : Ab p hi
      · rw [decide_eq_true hA] at et; exact .inl ⟨_, et⟩
      · rw [decide_eq_false hA] at et
        have hle : hi ≤ ((2 ^ k : Nat) : Int) := by
          by_cases hh : hi ≤ ((2 ^ k : Nat) : Int)
          · exact hh
          · exact absurd (far S.bits hne hl (by omega)) hA
        refine .inr ⟨_, _, et, ev_lb1' fu d hb (by omega) .no, ⟨hi, 2 * hi, rfl, by omega, by omega, .inr hA, by omega⟩, ?_⟩
        show (((2 ^ k : Nat) : Int) + 1 - 2 * hi).toNat < (((2 ^ k : Nat) : Int) + 1 - hi).toNat
        omega
  have hb : bd (k + 2) hi := by unfold bd; omega
  have et := ev_lt1 fu h S (lo := lo) hb .no
  rw [e4] at et
  injection et with et1 et2
  subst et2
  have hA : Ab p hi := by
    by_cases hA : Ab p hi
    · exact hA
    · rw [decide_eq_false hA] at et1; cases et1
  -- the halving
  obtain ⟨s'', s1, e5, ⟨lo', hi', x', rfl, j1, j2, j3, j4, j5⟩, e6⟩ := while_ok (ft := lt_least_above_1 fu) (bd := lb_least_above_1 fu)
    (fun s => ∃ (lo hi : Int) (x : Sl), s = [.v d, .v (.int lo), .v (.int hi), x] ∧ 1 ≤ lo ∧ lo < hi ∧ (lo = 1 ∨ ¬ Ab p lo) ∧ hi < ((2 ^ (k + 2) : Nat) : Int) ∧ Ab p hi)
    (fun s => match s with | [_, .v (.int lo), .v (.int hi), _] => (hi - lo).toNat | _ => 0) fu [.v d, .v (.int lo), .v (.int hi), .no] ⟨lo, hi, .no, rfl, i1, i2, i3, i4, hA⟩ (by show (hi - lo).toNat < fu; omega) fun s hs => by
      obtain ⟨lo, hi, x, rfl, j1, j2, j3, j4, j5⟩ := hs
      have hb : bd (k + 2) hi := by unfold bd; omega
      have et := ev_lt2 fu d lo hi x
      by_cases hc : 1 < hi - lo
      · rw [decide_eq_true hc] at et
        have eb := ev_lb2 fu h S (lo := lo) (by omega) (by omega) hb x
        by_cases hA : Ab p ((lo + hi) / 2)
        · rw [if_pos hA] at eb
          refine .inr ⟨_, _, et, eb, ⟨lo, (lo + hi) / 2, _, rfl, j1, by omega, j3, by omega, hA⟩, ?_⟩
          show ((lo + hi) / 2 - lo).toNat < (hi - lo).toNat
          omega
        · rw [if_neg hA] at eb
          refine .inr ⟨_, _, et, eb, ⟨(lo + hi) / 2, hi, _, rfl, by omega, by omega, .inr hA, j4, j5⟩, ?_⟩
          show (hi - (lo + hi) / 2).toNat < (hi - lo).toNat
          omega
      · rw [decide_eq_false hc] at et; exact .inl ⟨_, et⟩
  have et2 := ev_lt2 fu d lo' hi' x'
  rw [e6] at et2
  injection et2 with et3 et4
  subst et4
  have hc : ¬ 1 < hi' - lo' := by intro hc; rw [decide_eq_true hc] at et3; cases et3
  refine ⟨hi', ⟨j5, by omega, fun m m2 ml hm => ?_⟩, by unfold bd; omega, ?_⟩
  · rcases j3 with j3 | j3
    · omega
    · exact j3 (hm.mono (by omega))
  · have el1 : l_least_above_2 fu [.v d, .v (.int 1), .v (.int 2), .no] = .nx [.v d, .v (.int lo), .v (.int hi), .no] := e
    have el2 : l_least_above_1 fu [.v d, .v (.int lo), .v (.int hi), .no] = .nx [.v d, .v (.int lo'), .v (.int hi'), x'] := e5
    rcases h with rfl | rfl <;> simp [d_least_above, b_least_above, fnD, ms, mseq, mbind, mret, mopt, mbad, mvar, res, strong, strongs, ress, mun, mbin, mbinR, mcb, mcons, mcond, mif, mandV, morV, mnotV, tob, truD, mfld, fldD, putO, mputf, stSet, stSetP, mfrz, mlst, mtup, mslice, mpart, intD, dSl, on1, on2, lenD, absD, TW.intOf, TW.listOf, TW.tupOf, dInt2, dCmp2, dNeg, dIx, dIsN, dNotN, D.isNon, dupFree, argsOf, argOf, Sl.some?, putBack, Opd.isS, Sl.own, Rv.sl, Rv.d, mwalk, walkD, itemsD, mrng, rng1, rng2, rng3, tgName, tgTup, tgCons, tgNil, masg, mpar2, stPar2, isiD, dTy, isiInt, isiBl, isiLst, isiTup, isiObj, or2, nm, List.findIdx?_cons, List.findIdx?_nil, el1, el2]
/-! ### above_from of a polynomial -/
def objP (r : List Int) : D := .obj 0 [.tup (I r), .int ((r.length : Int) - 1)]
theorem lk_deg (x y : D) : List.lookup ("degree" : Str) [(("numbers" : Str), x), (("degree" : Str), y)] = some y := by
  have n1 : (("degree" : Str) == ("numbers" : Str)) = false := by decide +kernel
  have n2 : (("degree" : Str) == ("degree" : Str)) = true := by decide +kernel
  simp only [List.lookup, n1, n2]
theorem lk_num (x y : D) : List.lookup ("numbers" : Str) [(("numbers" : Str), x), (("degree" : Str), y)] = some x := by
  have n3 : (("numbers" : Str) == ("numbers" : Str)) = true := by decide +kernel
  simp only [List.lookup, n3]
theorem ev_above_from (fu : Nat) {r : List Int} {k : Nat} (S : Small k r) (ht : r = [] ∨ r.getLastD 0 ≠ 0) (hf : 2 ^ (k + 3) < fu) :
    ((r = [] ∨ r.getLastD 0 < 0) ∧ d_above_from fu [.v (objP r)] = .ret (.v .non) [.v (objP r)]) ∨
    (r ≠ [] ∧ 0 < r.getLastD 0 ∧ ∃ t, Least r t ∧ bd (k + 2) t ∧ d_above_from fu [.v (objP r)] = .ret (.v (.int t)) [.v (objP r)]) := by
  have en := ev_need_poly fu [.tup (I r), .int ((r.length : Int) - 1)] "polynomial"
  have n1 : (("degree" : Str) == ("numbers" : Str)) = false := by decide +kernel
  have n2 : (("degree" : Str) == ("degree" : Str)) = true := by decide +kernel
  have n3 : (("numbers" : Str) == ("numbers" : Str)) = true := by decide +kernel
  by_cases hr : r = []
  · subst hr
    left
    refine ⟨.inl rfl, ?_⟩
    unfold objP at *
    simp [d_above_from, b_above_from, mcall, ev_need_poly, fnD, ms, mseq, mbind, mret, mopt, mbad, mvar, res, strong, strongs, ress, mun, mbin, mbinR, mcb, mcons, mcond, mif, mandV, morV, mnotV, tob, truD, mfld, fldD, putO, mputf, stSet, stSetP, mfrz, mlst, mtup, mslice, mpart, intD, dSl, on1, on2, lenD, absD, TW.intOf, TW.listOf, TW.tupOf, dInt2, dCmp2, dNeg, dIx, dIsN, dNotN, D.isNon, dupFree, argsOf, argOf, Sl.some?, putBack, Opd.isS, Sl.own, Rv.sl, Rv.d, mwalk, walkD, itemsD, mrng, rng1, rng2, rng3, tgName, tgTup, tgCons, tgNil, masg, mpar2, stPar2, isiD, dTy, isiInt, isiBl, isiLst, isiTup, isiObj, or2, nm, List.findIdx?_cons, List.findIdx?_nil, lk_deg, lk_num]
  · have hm := atI_m1I hr
    have hl0 : r.getLastD 0 ≠ 0 := by rcases ht with h | h; exact absurd h hr; exact h
    have hlen : 0 < r.length := List.length_pos_iff.mpr hr
    have hdeg : ¬ ((r.length : Int) - 1 < 0) := by omega
    by_cases hneg : r.getLastD 0 < 0
    · left
      refine ⟨.inr hneg, ?_⟩
      generalize r.getLastD 0 = l at hm hneg
      unfold objP at *
      simp [d_above_from, b_above_from, mcall, ev_need_poly, fnD, ms, mseq, mbind, mret, mopt, mbad, mvar, res, strong, strongs, ress, mun, mbin, mbinR, mcb, mcons, mcond, mif, mandV, morV, mnotV, tob, truD, mfld, fldD, putO, mputf, stSet, stSetP, mfrz, mlst, mtup, mslice, mpart, intD, dSl, on1, on2, lenD, absD, TW.intOf, TW.listOf, TW.tupOf, dInt2, dCmp2, dNeg, dIx, dIsN, dNotN, D.isNon, dupFree, argsOf, argOf, Sl.some?, putBack, Opd.isS, Sl.own, Rv.sl, Rv.d, mwalk, walkD, itemsD, mrng, rng1, rng2, rng3, tgName, tgTup, tgCons, tgNil, masg, mpar2, stPar2, isiD, dTy, isiInt, isiBl, isiLst, isiTup, isiObj, or2, nm, List.findIdx?_cons, List.findIdx?_nil, lk_deg, lk_num, hm, hneg, hdeg]
    · right
      obtain ⟨t, h1, h2, h3⟩ := ev_least_above fu (d := .tup (I r)) (.inl rfl) S hr (by omega) hf
      refine ⟨hr, by omega, t, h1, h2, ?_⟩
      generalize r.getLastD 0 = l at hm hneg
      unfold objP at *
      simp [d_above_from, b_above_from, mcall, ev_need_poly, fnD, ms, mseq, mbind, mret, mopt, mbad, mvar, res, strong, strongs, ress, mun, mbin, mbinR, mcb, mcons, mcond, mif, mandV, morV, mnotV, tob, truD, mfld, fldD, putO, mputf, stSet, stSetP, mfrz, mlst, mtup, mslice, mpart, intD, dSl, on1, on2, lenD, absD, TW.intOf, TW.listOf, TW.tupOf, dInt2, dCmp2, dNeg, dIx, dIsN, dNotN, D.isNon, dupFree, argsOf, argOf, Sl.some?, putBack, Opd.isS, Sl.own, Rv.sl, Rv.d, mwalk, walkD, itemsD, mrng, rng1, rng2, rng3, tgName, tgTup, tgCons, tgNil, masg, mpar2, stPar2, isiD, dTy, isiInt, isiBl, isiLst, isiTup, isiObj, or2, nm, List.findIdx?_cons, List.findIdx?_nil, lk_deg, lk_num, hm, hneg, hdeg, h3]
end K30

set_option linter.all false
set_option autoImplicit false
set_option maxRecDepth 100000
set_option maxHeartbeats 4000000
namespace K30
open PySem TW L2
/-- the jug: its cells, its turn, what is left of a cell -/
abbrev jug (cs : List Int) (t : Nat) (r : Int) : List D := [.lst (I cs), .int (t : Int), .int r]
structure Jug (κ : Nat) (cs : List Int) (t : Nat) (r : Int) (n : Nat) : Prop where
  kap : κ ≤ 2000000
  cells : ∀ x ∈ cs, bd κ x
  turn : t ≤ n
  left : 0 ≤ r
  bits : bd (κ + 3) r
theorem mod_small (a : Int) {m : Int} (hm : 0 < m) : 0 ≤ a % m ∧ a % m < m := ⟨Int.emod_nonneg _ (by omega), Int.emod_lt_of_pos _ hm⟩
theorem bd_div {k : Nat} {a m : Int} (h : bd k a) (h0 : 0 ≤ a) (hm : 1 ≤ m) : 0 ≤ a / m ∧ bd k (a / m) := by
  have h1 : 0 ≤ a / m := Int.ediv_nonneg h0 (by omega)
  exact ⟨h1, bd_le h h1 (Int.ediv_le_self _ h0)⟩
theorem log_small {m : Int} (h1 : 1 ≤ m) (h2 : m ≤ 1000) : m.natAbs.log2 < 9000 := by
  have h : bd 10 m := by unfold bd; omega
  have := h.log; omega
def mixZ (t c : Int) : Int := (((c % 2147483563 + 50429 * t + 3319) ^ 5 % 2147483629) * (2 * t + 2333) + 71039 * t * t + 50429) ^ 3 % 2147483549 / 64
theorem ev_pour (fu : Nat) {cs : List Int} {t n κ : Nat} {r m : Int} (J : Jug κ cs t r n) (hn : n ≤ 900000) (hm : 1 ≤ m) (hm2 : m ≤ 1000) (hl : cs.length ≤ 59) :
    ∃ (y : Int) (t' : Nat) (r' : Int), 0 ≤ y ∧ y < m ∧ Jug κ cs t' r' (n + 1) ∧ d__law_pour fu [.l (jug cs t r), .v (.int m)] = .ret (.v (.int y)) [.l (jug cs t' r'), .v (.int m)] := by
  have hmp : 0 < m := by omega
  have hkap := J.kap
  have hlog := log_small hm hm2
  have x2 : ixN 3 2 = some 2 := by decide
  have x1 : ixN 3 1 = some 1 := by decide
  have a2 : ∀ x y z : D, atI [x, y, z] 2 = some z := fun x y z => rfl
  have a1 : ∀ x y z : D, atI [x, y, z] 1 = some y := fun x y z => rfl
  have a0 : ∀ x y z : D, atI [x, y, z] 0 = some x := fun x y z => rfl
  by_cases hr : 0 < r
  · obtain ⟨h1, h2⟩ := mod_small r hmp
    obtain ⟨h3, h4⟩ := bd_div J.bits J.left hm
    refine ⟨r % m, t, r / m, h1, h2, ⟨J.kap, J.cells, by have := J.turn; omega, h3, h4⟩, ?_⟩
    simp [d__law_pour, b__law_pour, mseti, fnD, ms, mseq, mbind, mret, mopt, mbad, mvar, res, strong, strongs, ress, mun, mbin, mbinR, mcb, mcons, mcond, mif, mandV, morV, mnotV, tob, truD, mfld, fldD, putO, mputf, stSet, stSetP, mfrz, mlst, mtup, mslice, mpart, intD, dSl, on1, on2, lenD, absD, TW.intOf, TW.listOf, TW.tupOf, dInt2, dCmp2, dNeg, dIx, dIsN, dNotN, D.isNon, dupFree, argsOf, argOf, Sl.some?, putBack, Opd.isS, Sl.own, Rv.sl, Rv.d, mwalk, walkD, itemsD, mrng, rng1, rng2, rng3, tgName, tgTup, tgCons, tgNil, masg, mpar2, stPar2, isiD, dTy, isiInt, isiBl, isiLst, isiTup, isiObj, or2, nm, List.findIdx?_cons, List.findIdx?_nil, a0, a1, a2, x1, x2, hr, hmp, hlog]
  · have hr0 : r = 0 := by have := J.left; omega
    have ht := J.turn
    have ht' : (t : Int) ≤ 900000 := by omega
    have bt : bd 20 (t : Int) := by unfold bd; omega
    have c1 : cMul 71039 (t : Int) = true := bd.cMul (j := 20) (by unfold bd; decide) bt (by omega)
    have c2 : cMul 50429 (t : Int) = true := bd.cMul (j := 20) (by unfold bd; decide) bt (by omega)
    have c3 : cMul 2 (t : Int) = true := bd.cMul (j := 20) (by unfold bd; decide) bt (by omega)
    have c5 : cMul (71039 * (t : Int)) (t : Int) = true := bd.cMul (j := 40) (bd.mul (j := 20) (k := 20) (by unfold bd; decide) bt) bt (by omega)
    have p18 : cPow 10 18 = true := by decide +kernel
    -- the mixing, of any cell
    have mixA : ∀ c : Int, cPow (c % 2147483563 + 50429 * (t : Int) + 3319) 5 = true := fun c => by
      have h := mod_small c (m := 2147483563) (by decide)
      have : (c % 2147483563 + 50429 * (t : Int) + 3319).natAbs < 2 ^ 64 := by omega
      show (decide (0 ≤ (5 : Int)) && (decide ((5 : Int) ≤ 1000000) && decide _)) = true
      rw [decide_eq_true this]; decide
    have mixB : ∀ z : Int, 0 ≤ z → z < 2147483629 → cMul z (2 * (t : Int) + 2333) = true ∧ cPow (z * (2 * (t : Int) + 2333) + 71039 * (t : Int) * (t : Int) + 50429) 3 = true := fun z h0 h1 => by
      have bz : bd 31 z := by unfold bd; omega
      have bt2 : bd 22 (2 * (t : Int) + 2333) := by unfold bd; omega
      have b3 : bd 62 (71039 * (t : Int) * (t : Int)) := (bd.mul (bd.mul (j := 20) (k := 20) (by unfold bd; decide) bt) bt).mono (by omega)
      have b4 : bd 63 (z * (2 * (t : Int) + 2333) + 71039 * (t : Int) * (t : Int)) := ((bz.mul bt2).mono (show 31 + 22 ≤ 62 by omega)).add b3 (by omega) (by omega)
      have b5 : bd 64 (z * (2 * (t : Int) + 2333) + 71039 * (t : Int) * (t : Int) + 50429) := b4.add (k := 63) (show bd 63 50429 by unfold bd; decide) (by omega) (by omega)
      refine ⟨bz.cMul bt2 (by omega), ?_⟩
      have b6 : (z * (2 * (t : Int) + 2333) + 71039 * (t : Int) * (t : Int) + 50429).natAbs < 2 ^ 64 := b5
      show (decide (0 ≤ (3 : Int)) && (decide ((3 : Int) ≤ 1000000) && decide _)) = true
      rw [decide_eq_true b6]; decide
    have l64 : Nat.log2 64 < 9000 := by decide +kernel
    have J' : Jug κ cs (t + 1) 0 (n + 1) := ⟨J.kap, J.cells, by omega, Int.le_refl 0, by show (0 : Int).natAbs < _; exact Nat.two_pow_pos _⟩
    subst hr0
    -- the end of the mixing, of any cell
    by_cases hcs : cs = []
    · subst hcs
      have n0 : dNe (.lst []) (.lst []) = some (.bl false) := dNe_lst []
      obtain ⟨c, hc⟩ : ∃ c, 71039 * (t : Int) + 3319 = c := ⟨_, rfl⟩
      obtain ⟨m1, m2⟩ := mod_small ((c % 2147483563 + 50429 * (t : Int) + 3319) ^ 5) (m := 2147483629) (by decide)
      obtain ⟨k1, k2⟩ := mixB _ m1 m2
      have k0 := mixA c
      have hnt : ¬ ((t : Int) < 0) := by omega
      refine ⟨mixZ t c % m, t + 1, 0, (mod_small _ hmp).1, (mod_small _ hmp).2, J', ?_⟩
      simp [d__law_pour, b__law_pour, mseti, fnD, ms, mseq, mbind, mret, mopt, mbad, mvar, res, strong, strongs, ress, mun, mbin, mbinR, mcb, mcons, mcond, mif, mandV, morV, mnotV, tob, truD, mfld, fldD, putO, mputf, stSet, stSetP, mfrz, mlst, mtup, mslice, mpart, intD, dSl, on1, on2, lenD, absD, TW.intOf, TW.listOf, TW.tupOf, dInt2, dCmp2, dNeg, dIx, dIsN, dNotN, D.isNon, dupFree, argsOf, argOf, Sl.some?, putBack, Opd.isS, Sl.own, Rv.sl, Rv.d, mwalk, walkD, itemsD, mrng, rng1, rng2, rng3, tgName, tgTup, tgCons, tgNil, masg, mpar2, stPar2, isiD, dTy, isiInt, isiBl, isiLst, isiTup, isiObj, or2, nm, List.findIdx?_cons, List.findIdx?_nil, a0, a1, a2, x1, x2, hmp, hlog, c1, c2, c3, c5, n0, hnt, k0, k1, k2, l64, mixZ, hc]
    · have n0 : dNe (.lst (I cs)) (.lst []) = some (.bl true) := by rw [dNe_lst]; cases cs; exact absurd rfl hcs; rfl
      have hlen : 0 < cs.length := List.length_pos_iff.mpr hcs
      have hlt : t % cs.length < cs.length := Nat.mod_lt _ hlen
      have hcast : (t : Int) % (cs.length : Int) = ((t % cs.length : Nat) : Int) := by omega
      have hat : atI (I cs) ((t : Int) % (cs.length : Int)) = some (.int (cs[t % cs.length])) := by rw [hcast]; exact atI_In hlt
      have bc : bd κ (cs[t % cs.length]) := J.cells _ (List.getElem_mem _)
      generalize cs[t % cs.length] = c at hat bc
      have hlen' : 0 < (cs.length : Int) := by omega
      have hab : (if c < 0 then -c else c) = (c.natAbs : Int) := by by_cases h : c < 0; rw [if_pos h]; omega; rw [if_neg h]; omega
      by_cases hbig : (t : Int) < (cs.length : Int) ∧ (1000000000000000000 : Int) ≤ (c.natAbs : Int)
      · obtain ⟨hb1, hb2⟩ := hbig
        have bA : bd κ ((c.natAbs : Int) - 1000000000000000000) := by unfold bd at *; omega
        have cA : cMul 2 ((c.natAbs : Int) - 1000000000000000000) = true := bd.cMul (j := 2) (by unfold bd; decide) bA (by omega)
        have bi : bd 2 (if c < 0 then (1 : Int) else 0) := by by_cases h : c < 0; rw [if_pos h]; unfold bd; decide; rw [if_neg h]; unfold bd; decide
        have bR : bd (κ + 3) (2 * ((c.natAbs : Int) - 1000000000000000000) + (if c < 0 then (1 : Int) else 0)) := ((bd.mul (j := 2) (k := κ) (show bd 2 2 by unfold bd; decide) bA).mono (show 2 + κ ≤ κ + 2 by omega)).add (bi.mono (show 2 ≤ κ + 2 by omega)) (by omega) (by omega)
        have hR0 : 0 ≤ 2 * ((c.natAbs : Int) - 1000000000000000000) + (if c < 0 then (1 : Int) else 0) := by
          by_cases h : c < 0
          · rw [if_pos h]; omega
          · rw [if_neg h]; omega
        obtain ⟨h3, h4⟩ := bd_div bR hR0 hm
        refine ⟨(2 * ((c.natAbs : Int) - 1000000000000000000) + (if c < 0 then (1 : Int) else 0)) % m, t + 1, (2 * ((c.natAbs : Int) - 1000000000000000000) + (if c < 0 then (1 : Int) else 0)) / m, (mod_small _ hmp).1, (mod_small _ hmp).2, ⟨J.kap, J.cells, by omega, h3, h4⟩, ?_⟩
        simp [d__law_pour, b__law_pour, mseti, fnD, ms, mseq, mbind, mret, mopt, mbad, mvar, res, strong, strongs, ress, mun, mbin, mbinR, mcb, mcons, mcond, mif, mandV, morV, mnotV, tob, truD, mfld, fldD, putO, mputf, stSet, stSetP, mfrz, mlst, mtup, mslice, mpart, intD, dSl, on1, on2, lenD, absD, TW.intOf, TW.listOf, TW.tupOf, dInt2, dCmp2, dNeg, dIx, dIsN, dNotN, D.isNon, dupFree, argsOf, argOf, Sl.some?, putBack, Opd.isS, Sl.own, Rv.sl, Rv.d, mwalk, walkD, itemsD, mrng, rng1, rng2, rng3, tgName, tgTup, tgCons, tgNil, masg, mpar2, stPar2, isiD, dTy, isiInt, isiBl, isiLst, isiTup, isiObj, or2, nm, List.findIdx?_cons, List.findIdx?_nil, a0, a1, a2, x1, x2, hmp, hlog, c1, c2, c3, c5, n0, I_len, hat, hab, hlen', hlen, hb1, hb2, p18, cA]
      · obtain ⟨m1, m2⟩ := mod_small ((c % 2147483563 + 50429 * (t : Int) + 3319) ^ 5) (m := 2147483629) (by decide)
        obtain ⟨k1, k2⟩ := mixB _ m1 m2
        have k0 := mixA c
        refine ⟨mixZ t c % m, t + 1, 0, (mod_small _ hmp).1, (mod_small _ hmp).2, J', ?_⟩
        by_cases hb1 : (t : Int) < (cs.length : Int)
        · have hb2 : ¬ (1000000000000000000 : Int) ≤ (c.natAbs : Int) := fun h => hbig ⟨hb1, h⟩
          simp [d__law_pour, b__law_pour, mseti, fnD, ms, mseq, mbind, mret, mopt, mbad, mvar, res, strong, strongs, ress, mun, mbin, mbinR, mcb, mcons, mcond, mif, mandV, morV, mnotV, tob, truD, mfld, fldD, putO, mputf, stSet, stSetP, mfrz, mlst, mtup, mslice, mpart, intD, dSl, on1, on2, lenD, absD, TW.intOf, TW.listOf, TW.tupOf, dInt2, dCmp2, dNeg, dIx, dIsN, dNotN, D.isNon, dupFree, argsOf, argOf, Sl.some?, putBack, Opd.isS, Sl.own, Rv.sl, Rv.d, mwalk, walkD, itemsD, mrng, rng1, rng2, rng3, tgName, tgTup, tgCons, tgNil, masg, mpar2, stPar2, isiD, dTy, isiInt, isiBl, isiLst, isiTup, isiObj, or2, nm, List.findIdx?_cons, List.findIdx?_nil, a0, a1, a2, x1, x2, hmp, hlog, c1, c2, c3, c5, n0, I_len, hat, hab, hlen', hlen, hb1, hb2, p18, k0, k1, k2, l64, mixZ]
        · simp [d__law_pour, b__law_pour, mseti, fnD, ms, mseq, mbind, mret, mopt, mbad, mvar, res, strong, strongs, ress, mun, mbin, mbinR, mcb, mcons, mcond, mif, mandV, morV, mnotV, tob, truD, mfld, fldD, putO, mputf, stSet, stSetP, mfrz, mlst, mtup, mslice, mpart, intD, dSl, on1, on2, lenD, absD, TW.intOf, TW.listOf, TW.tupOf, dInt2, dCmp2, dNeg, dIx, dIsN, dNotN, D.isNon, dupFree, argsOf, argOf, Sl.some?, putBack, Opd.isS, Sl.own, Rv.sl, Rv.d, mwalk, walkD, itemsD, mrng, rng1, rng2, rng3, tgName, tgTup, tgCons, tgNil, masg, mpar2, stPar2, isiD, dTy, isiInt, isiBl, isiLst, isiTup, isiObj, or2, nm, List.findIdx?_cons, List.findIdx?_nil, a0, a1, a2, x1, x2, hmp, hlog, c1, c2, c3, c5, n0, I_len, hat, hab, hlen', hlen, hb1, p18, k0, k1, k2, l64, mixZ]
end K30

set_option linter.all false
set_option autoImplicit false
set_option maxRecDepth 100000
set_option maxHeartbeats 4000000
namespace K30
open PySem TW L2
theorem ev_of (fu : Nat) {cs : List Int} {t n κ : Nat} {r : Int} (J : Jug κ cs t r n) (hn : n ≤ 900000) (hl : cs.length ≤ 59) {ds : List D} (h1 : 1 ≤ ds.length) (h2 : ds.length ≤ 1000) :
    ∃ (d : D) (t' : Nat) (r' : Int), d ∈ ds ∧ Jug κ cs t' r' (n + 1) ∧ d__law_of fu [.l (jug cs t r), .v (.lst ds)] = .ret (.v d) [.l (jug cs t' r'), .v (.lst ds)] := by
  obtain ⟨y, t', r', y0, y1, J', e⟩ := ev_pour fu J hn (m := (ds.length : Int)) (by omega) (by omega) hl
  obtain ⟨j, rfl⟩ : ∃ j : Nat, y = (j : Int) := ⟨y.toNat, by omega⟩
  have hj : j < ds.length := by omega
  have hat : atI ds (j : Int) = some ds[j] := atI_nat' hj
  refine ⟨ds[j], t', r', List.getElem_mem hj, J', ?_⟩
  simp [d__law_of, b__law_of, mcall, e, fnD, ms, mseq, mbind, mret, mopt, mbad, mvar, res, strong, strongs, ress, mun, mbin, mbinR, mcb, mcons, mcond, mif, mandV, morV, mnotV, tob, truD, mfld, fldD, putO, mputf, stSet, stSetP, mfrz, mlst, mtup, mslice, mpart, intD, dSl, on1, on2, lenD, absD, TW.intOf, TW.listOf, TW.tupOf, dInt2, dCmp2, dNeg, dIx, dIsN, dNotN, D.isNon, dupFree, argsOf, argOf, Sl.some?, putBack, Opd.isS, Sl.own, Rv.sl, Rv.d, mwalk, walkD, itemsD, mrng, rng1, rng2, rng3, tgName, tgTup, tgCons, tgNil, masg, mpar2, stPar2, isiD, dTy, isiInt, isiBl, isiLst, isiTup, isiObj, or2, nm, List.findIdx?_cons, List.findIdx?_nil, hat]
theorem okR_nat {n : Nat} (h : n ≤ 1000000) : okR (n : Int) = true := Nat.ble_eq_true_of_le (by omega)
/-! ### power -/
theorem bd_pow {kb : Nat} {b : Int} (hb : bd kb b) (hk : 1 ≤ kb) : ∀ i : Nat, bd (i * kb + 1) (b ^ i)
  | 0 => by rw [Int.pow_zero]; unfold bd; rw [Nat.zero_mul]; decide
  | i + 1 => by
    rw [Int.pow_succ]
    have := (bd_pow hb hk i).mul hb
    exact this.mono (by rw [Nat.succ_mul]; omega)
theorem ev_power (fu : Nat) {b : Int} {n kb : Nat} (hb : bd kb b) (hk : 1 ≤ kb) (hn : n ≤ 1000) (hs : (n + 1) * kb < 100000000) : d__law_power fu [.v (.int b), .v (.int (n : Int))] = .ret (.v (.int (b ^ n))) [.v (.int b), .v (.int (n : Int))] := by
  have hi : li__law_power_1 fu [.v (.int b), .v (.int (n : Int)), .v (.int 1), .no] = .ok (rangeD 0 n) [.v (.int b), .v (.int (n : Int)), .v (.int 1), .no] := by
    simp [li__law_power_1, fnD, ms, mseq, mbind, mret, mopt, mbad, mvar, res, strong, strongs, ress, mun, mbin, mbinR, mcb, mcons, mcond, mif, mandV, morV, mnotV, tob, truD, mfld, fldD, putO, mputf, stSet, stSetP, mfrz, mlst, mtup, mslice, mpart, intD, dSl, on1, on2, lenD, absD, TW.intOf, TW.listOf, TW.tupOf, dInt2, dCmp2, dNeg, dIx, dIsN, dNotN, D.isNon, dupFree, argsOf, argOf, Sl.some?, putBack, Opd.isS, Sl.own, Rv.sl, Rv.d, mwalk, walkD, itemsD, mrng, rng1, rng2, rng3, tgName, tgTup, tgCons, tgNil, masg, mpar2, stPar2, isiD, dTy, isiInt, isiBl, isiLst, isiTup, isiObj, or2, nm, List.findIdx?_cons, List.findIdx?_nil, okR_nat (show n ≤ 1000000 by omega)]
  obtain ⟨s', e, x, hs'⟩ := for_ok (tm := tgName 3) (bd := lb__law_power_1 fu) (fun i s => ∃ x, s = [.v (.int b), .v (.int (n : Int)), .v (.int (b ^ i)), x]) hi ⟨.no, by rw [Int.pow_zero]⟩ fun i x s hi hP => by
    obtain ⟨x3, rfl⟩ := hP
    obtain ⟨hin, rfl⟩ := rangeD_get hi
    have hm : (i + 1) * kb ≤ (n + 1) * kb := Nat.mul_le_mul_right _ (by omega)
    have hc : cMul (b ^ i) b = true := (bd_pow hb hk i).cMul hb (by rw [Nat.succ_mul] at hm; omega)
    refine ⟨_, [.v (.int b), .v (.int (n : Int)), .v (.int (b ^ (i + 1))), .v (.int (0 + (i : Nat)))], rfl, ?_, _, rfl⟩
    simp [lb__law_power_1, fnD, ms, mseq, mbind, mret, mopt, mbad, mvar, res, strong, strongs, ress, mun, mbin, mbinR, mcb, mcons, mcond, mif, mandV, morV, mnotV, tob, truD, mfld, fldD, putO, mputf, stSet, stSetP, mfrz, mlst, mtup, mslice, mpart, intD, dSl, on1, on2, lenD, absD, TW.intOf, TW.listOf, TW.tupOf, dInt2, dCmp2, dNeg, dIx, dIsN, dNotN, D.isNon, dupFree, argsOf, argOf, Sl.some?, putBack, Opd.isS, Sl.own, Rv.sl, Rv.d, mwalk, walkD, itemsD, mrng, rng1, rng2, rng3, tgName, tgTup, tgCons, tgNil, masg, mpar2, stPar2, isiD, dTy, isiInt, isiBl, isiLst, isiTup, isiObj, or2, nm, List.findIdx?_cons, List.findIdx?_nil, hc, Int.pow_succ]
  have hr : (rangeD 0 n).length = n := by unfold rangeD; simp
  rw [hr] at hs'
  have el : l__law_power_1 fu [.v (.int b), .v (.int (n : Int)), .v (.int 1), .no] = .nx [.v (.int b), .v (.int (n : Int)), .v (.int (b ^ n)), x] := by unfold l__law_power_1; rw [e, hs']
  simp [d__law_power, b__law_power, fnD, ms, mseq, mbind, mret, mopt, mbad, mvar, res, strong, strongs, ress, mun, mbin, mbinR, mcb, mcons, mcond, mif, mandV, morV, mnotV, tob, truD, mfld, fldD, putO, mputf, stSet, stSetP, mfrz, mlst, mtup, mslice, mpart, intD, dSl, on1, on2, lenD, absD, TW.intOf, TW.listOf, TW.tupOf, dInt2, dCmp2, dNeg, dIx, dIsN, dNotN, D.isNon, dupFree, argsOf, argOf, Sl.some?, putBack, Opd.isS, Sl.own, Rv.sl, Rv.d, mwalk, walkD, itemsD, mrng, rng1, rng2, rng3, tgName, tgTup, tgCons, tgNil, masg, mpar2, stPar2, isiD, dTy, isiInt, isiBl, isiLst, isiTup, isiObj, or2, nm, List.findIdx?_cons, List.findIdx?_nil, el]
/-! ### choose -/
theorem bd_ch : ∀ n k : Nat, 0 ≤ ch n k ∧ ch n k ≤ ((2 ^ n : Nat) : Int)
  | n, 0 => by rw [ch_0]; have := Nat.two_pow_pos n; omega
  | 0, k + 1 => by show 0 ≤ (0 : Int) ∧ (0 : Int) ≤ _; omega
  | n + 1, k + 1 => by
    have h1 := bd_ch n k
    have h2 := bd_ch n (k + 1)
    show 0 ≤ ch n k + ch n (k + 1) ∧ ch n k + ch n (k + 1) ≤ _
    rw [Nat.pow_succ]; omega
theorem bd_ch' (n k : Nat) : bd (n + 1) (ch n k) := by
  have := bd_ch n k
  have h2 := Nat.two_pow_pos n
  unfold bd; rw [Nat.pow_succ]; omega
theorem ev_choose (fu : Nat) {n k : Nat} (hk : k ≤ n) (hn : n ≤ 1000) : d__law_choose fu [.v (.int (n : Int)), .v (.int (k : Int))] = .ret (.v (.int (ch n k))) [.v (.int (n : Int)), .v (.int (k : Int))] := by
  have hi : li__law_choose_1 fu [.v (.int (n : Int)), .v (.int (k : Int)), .v (.int 1), .no] = .ok (rangeD 0 k) [.v (.int (n : Int)), .v (.int (k : Int)), .v (.int 1), .no] := by
    simp [li__law_choose_1, fnD, ms, mseq, mbind, mret, mopt, mbad, mvar, res, strong, strongs, ress, mun, mbin, mbinR, mcb, mcons, mcond, mif, mandV, morV, mnotV, tob, truD, mfld, fldD, putO, mputf, stSet, stSetP, mfrz, mlst, mtup, mslice, mpart, intD, dSl, on1, on2, lenD, absD, TW.intOf, TW.listOf, TW.tupOf, dInt2, dCmp2, dNeg, dIx, dIsN, dNotN, D.isNon, dupFree, argsOf, argOf, Sl.some?, putBack, Opd.isS, Sl.own, Rv.sl, Rv.d, mwalk, walkD, itemsD, mrng, rng1, rng2, rng3, tgName, tgTup, tgCons, tgNil, masg, mpar2, stPar2, isiD, dTy, isiInt, isiBl, isiLst, isiTup, isiObj, or2, nm, List.findIdx?_cons, List.findIdx?_nil, okR_nat (show k ≤ 1000000 by omega)]
  obtain ⟨s', e, x, hs'⟩ := for_ok (tm := tgName 3) (bd := lb__law_choose_1 fu) (fun i s => ∃ x, s = [.v (.int (n : Int)), .v (.int (k : Int)), .v (.int (ch n i)), x]) hi ⟨.no, by rw [ch_0]⟩ fun i x s hi hP => by
    obtain ⟨x3, rfl⟩ := hP
    obtain ⟨hin, rfl⟩ := rangeD_get hi
    have b1 : bd 11 ((n : Int) - (i : Int)) := by unfold bd; omega
    have hc : cMul (ch n i) ((n : Int) - (i : Int)) = true := (bd_ch' n i).cMul b1 (by omega)
    have hlog : ((i : Int) + 1).natAbs.log2 < 9000 := log_small (by omega) (by omega)
    have hpos : 0 < (i : Int) + 1 := by omega
    have hdiv : ch n i * ((n : Int) - (i : Int)) / ((i : Int) + 1) = ch n (i + 1) := by
      rw [← ch_step]; exact Int.mul_ediv_cancel _ (by omega)
    refine ⟨_, [.v (.int (n : Int)), .v (.int (k : Int)), .v (.int (ch n (i + 1))), .v (.int (0 + (i : Nat)))], rfl, ?_, _, rfl⟩
    simp [lb__law_choose_1, fnD, ms, mseq, mbind, mret, mopt, mbad, mvar, res, strong, strongs, ress, mun, mbin, mbinR, mcb, mcons, mcond, mif, mandV, morV, mnotV, tob, truD, mfld, fldD, putO, mputf, stSet, stSetP, mfrz, mlst, mtup, mslice, mpart, intD, dSl, on1, on2, lenD, absD, TW.intOf, TW.listOf, TW.tupOf, dInt2, dCmp2, dNeg, dIx, dIsN, dNotN, D.isNon, dupFree, argsOf, argOf, Sl.some?, putBack, Opd.isS, Sl.own, Rv.sl, Rv.d, mwalk, walkD, itemsD, mrng, rng1, rng2, rng3, tgName, tgTup, tgCons, tgNil, masg, mpar2, stPar2, isiD, dTy, isiInt, isiBl, isiLst, isiTup, isiObj, or2, nm, List.findIdx?_cons, List.findIdx?_nil, hc, hlog, hpos, hdiv]
  have hr : (rangeD 0 k).length = k := by unfold rangeD; simp
  rw [hr] at hs'
  have el : l__law_choose_1 fu [.v (.int (n : Int)), .v (.int (k : Int)), .v (.int 1), .no] = .nx [.v (.int (n : Int)), .v (.int (k : Int)), .v (.int (ch n k)), x] := by unfold l__law_choose_1; rw [e, hs']
  simp [d__law_choose, b__law_choose, fnD, ms, mseq, mbind, mret, mopt, mbad, mvar, res, strong, strongs, ress, mun, mbin, mbinR, mcb, mcons, mcond, mif, mandV, morV, mnotV, tob, truD, mfld, fldD, putO, mputf, stSet, stSetP, mfrz, mlst, mtup, mslice, mpart, intD, dSl, on1, on2, lenD, absD, TW.intOf, TW.listOf, TW.tupOf, dInt2, dCmp2, dNeg, dIx, dIsN, dNotN, D.isNon, dupFree, argsOf, argOf, Sl.some?, putBack, Opd.isS, Sl.own, Rv.sl, Rv.d, mwalk, walkD, itemsD, mrng, rng1, rng2, rng3, tgName, tgTup, tgCons, tgNil, masg, mpar2, stPar2, isiD, dTy, isiInt, isiBl, isiLst, isiTup, isiObj, or2, nm, List.findIdx?_cons, List.findIdx?_nil, el]
/-! ### worth -/
theorem ev_worth (fu : Nat) {p : List Int} {m : Int} {k kb : Nat} (hm : bd kb m) (hkb : 1 ≤ kb) (hk : bdl k p) (hs : (p.length + 1) * kb + k < 100000000) : d__law_worth fu [.v (.tup (I p)), .v (.int m)] = .ret (.v (.int (val m p))) [.v (.tup (I p)), .v (.int m)] := by
  have hi : li__law_worth_1 fu [.v (.tup (I p)), .v (.int m), .v (.int 0), .v (.int 1), .no] = .ok (I p) [.v (.tup (I p)), .v (.int m), .v (.int 0), .v (.int 1), .no] := by
    simp [li__law_worth_1, fnD, ms, mseq, mbind, mret, mopt, mbad, mvar, res, strong, strongs, ress, mun, mbin, mbinR, mcb, mcons, mcond, mif, mandV, morV, mnotV, tob, truD, mfld, fldD, putO, mputf, stSet, stSetP, mfrz, mlst, mtup, mslice, mpart, intD, dSl, on1, on2, lenD, absD, TW.intOf, TW.listOf, TW.tupOf, dInt2, dCmp2, dNeg, dIx, dIsN, dNotN, D.isNon, dupFree, argsOf, argOf, Sl.some?, putBack, Opd.isS, Sl.own, Rv.sl, Rv.d, mwalk, walkD, itemsD, mrng, rng1, rng2, rng3, tgName, tgTup, tgCons, tgNil, masg, mpar2, stPar2, isiD, dTy, isiInt, isiBl, isiLst, isiTup, isiObj, or2, nm, List.findIdx?_cons, List.findIdx?_nil]
  obtain ⟨s', e, y, x, hs', hv⟩ := for_ok (tm := tgName 4) (bd := lb__law_worth_1 fu) (fun i s => ∃ (y : Int) (x : Sl), s = [.v (.tup (I p)), .v (.int m), .v (.int y), .v (.int (m ^ i)), x] ∧ y + m ^ i * val m (p.drop i) = val m p) hi ⟨0, .no, by rw [Int.pow_zero], by simp⟩ fun i x s hi hP => by
    obtain ⟨y, x3, rfl, hv⟩ := hP
    obtain ⟨z, hz, rfl⟩ := I_at hi
    have hil : i < p.length := (List.getElem?_eq_some_iff.mp hz).1
    have hzz : p[i] = z := (List.getElem?_eq_some_iff.mp hz).2
    have bz : bd k z := hk z (by rw [← hzz]; exact List.getElem_mem hil)
    have hmm : (i + 1) * kb ≤ (p.length + 1) * kb := Nat.mul_le_mul_right _ (by omega)
    rw [Nat.succ_mul] at hmm
    have bp := bd_pow hm hkb i
    have c1 : cMul z (m ^ i) = true := bz.cMul bp (by omega)
    have c2 : cMul (m ^ i) m = true := bp.cMul hm (by omega)
    refine ⟨_, [.v (.tup (I p)), .v (.int m), .v (.int (y + z * m ^ i)), .v (.int (m ^ (i + 1))), .v (.int z)], rfl, ?_, y + z * m ^ i, .v (.int z), rfl, ?_⟩
    · simp [lb__law_worth_1, fnD, ms, mseq, mbind, mret, mopt, mbad, mvar, res, strong, strongs, ress, mun, mbin, mbinR, mcb, mcons, mcond, mif, mandV, morV, mnotV, tob, truD, mfld, fldD, putO, mputf, stSet, stSetP, mfrz, mlst, mtup, mslice, mpart, intD, dSl, on1, on2, lenD, absD, TW.intOf, TW.listOf, TW.tupOf, dInt2, dCmp2, dNeg, dIx, dIsN, dNotN, D.isNon, dupFree, argsOf, argOf, Sl.some?, putBack, Opd.isS, Sl.own, Rv.sl, Rv.d, mwalk, walkD, itemsD, mrng, rng1, rng2, rng3, tgName, tgTup, tgCons, tgNil, masg, mpar2, stPar2, isiD, dTy, isiInt, isiBl, isiLst, isiTup, isiObj, or2, nm, List.findIdx?_cons, List.findIdx?_nil, c1, c2, Int.pow_succ]
    · rw [← hv, List.drop_eq_getElem_cons hil, hzz]
      show _ = y + m ^ i * (z + m * val m (p.drop (i + 1)))
      rw [Int.pow_succ, Int.mul_add, Int.mul_comm z, Int.mul_assoc]; omega
  rw [show (I p).length = p.length from I_len p] at hs' hv
  rw [List.drop_length] at hv
  have hy : y = val m p := by rw [← hv]; simp [val]
  have el : l__law_worth_1 fu [.v (.tup (I p)), .v (.int m), .v (.int 0), .v (.int 1), .no] = .nx [.v (.tup (I p)), .v (.int m), .v (.int (val m p)), .v (.int (m ^ p.length)), x] := by unfold l__law_worth_1; rw [e, hs', hy]
  simp [d__law_worth, b__law_worth, fnD, ms, mseq, mbind, mret, mopt, mbad, mvar, res, strong, strongs, ress, mun, mbin, mbinR, mcb, mcons, mcond, mif, mandV, morV, mnotV, tob, truD, mfld, fldD, putO, mputf, stSet, stSetP, mfrz, mlst, mtup, mslice, mpart, intD, dSl, on1, on2, lenD, absD, TW.intOf, TW.listOf, TW.tupOf, dInt2, dCmp2, dNeg, dIx, dIsN, dNotN, D.isNon, dupFree, argsOf, argOf, Sl.some?, putBack, Opd.isS, Sl.own, Rv.sl, Rv.d, mwalk, walkD, itemsD, mrng, rng1, rng2, rng3, tgName, tgTup, tgCons, tgNil, masg, mpar2, stPar2, isiD, dTy, isiInt, isiBl, isiLst, isiTup, isiObj, or2, nm, List.findIdx?_cons, List.findIdx?_nil, el]
end K30

set_option linter.all false
set_option autoImplicit false
set_option maxRecDepth 100000
set_option maxHeartbeats 4000000
namespace K30
open PySem TW L2
/-! ### cut -/
theorem maxOf_spec : ∀ (ns : List Int) (n : Int), PySem.W.maxOf n ns ∈ n :: ns ∧ ∀ x ∈ n :: ns, x ≤ PySem.W.maxOf n ns
  | [], n => ⟨List.mem_cons_self, fun x hx => by simp at hx; subst hx; exact Int.le_refl _⟩
  | a :: ns, n => by
    have e : PySem.W.maxOf n (a :: ns) = PySem.W.maxOf (if n < a then a else n) ns := by
      show List.foldl _ _ ns = List.foldl _ _ ns
      congr 1
      show (if decide (n < a) = true then a else n) = _
      by_cases h : n < a
      · rw [if_pos h, if_pos (decide_eq_true h)]
      · rw [if_neg h, if_neg (by simpa using h)]
    rw [e]
    obtain ⟨h1, h2⟩ := maxOf_spec ns (if n < a then a else n)
    refine ⟨?_, fun x hx => ?_⟩
    · rcases List.mem_cons.mp h1 with h | h
      · rw [h]; by_cases c : n < a
        · rw [if_pos c]; simp
        · rw [if_neg c]; simp
      · simp [h]
    · have h0 := h2 _ List.mem_cons_self
      rcases List.mem_cons.mp hx with rfl | hx
      · by_cases c : x < a
        · rw [if_pos c] at h0 ⊢; omega
        · rw [if_neg c] at h0 ⊢; omega
      · rcases List.mem_cons.mp hx with rfl | hx
        · by_cases c : n < x
          · rw [if_pos c] at h0 ⊢; omega
          · rw [if_neg c] at h0 ⊢; omega
        · exact h2 x (List.mem_cons_of_mem _ hx)
theorem intsD_I : ∀ q : List Int, intsD (I q) = some q
  | [] => rfl
  | a :: q => by
    show intsD (.int a :: I q) = _
    unfold intsD; rw [intsD_I q]; rfl
theorem enum_I {p : List Int} {j : Nat} {d : D} (h : (enumD (I p))[j]? = some d) : ∃ z, p[j]? = some z ∧ d = .tup [.int (j : Nat), .int z] := by
  obtain ⟨d', h1, rfl⟩ := enumD_get h
  obtain ⟨z, h2, rfl⟩ := I_at h1
  exact ⟨z, h2, rfl⟩
/-- the places of what is not 0, among the first i -/
def Spots (p : List Int) (i : Nat) (ps : List Int) : Prop := (∀ x ∈ ps, ∃ j : Nat, x = (j : Int) ∧ j < i ∧ ∃ z, p[j]? = some z ∧ z ≠ 0) ∧ ∀ (j : Nat) z, j < i → p[j]? = some z → z ≠ 0 → (j : Int) ∈ ps
theorem ev_c_cut (fu : Nat) {p : List Int} (hl : p.length ≤ 1000000) : ∃ ps, Spots p p.length ps ∧ c__law_cut_1 fu [.v (.lst (I p)), .no, .no, .no] = .ok (.l (I ps)) [.v (.lst (I p)), .no, .no, .no] := by
  have hm : ci__law_cut_1 fu [.v (.lst (I p)), .no, .no, .no] = .ok (enumD (I p)) [.v (.lst (I p)), .no, .no, .no] := by
    simp [ci__law_cut_1, menum, fnD, ms, mseq, mbind, mret, mopt, mbad, mvar, res, strong, strongs, ress, mun, mbin, mbinR, mcb, mcons, mcond, mif, mandV, morV, mnotV, tob, truD, mfld, fldD, putO, mputf, stSet, stSetP, mfrz, mlst, mtup, mslice, mpart, intD, dSl, on1, on2, lenD, absD, TW.intOf, TW.listOf, TW.tupOf, dInt2, dCmp2, dNeg, dIx, dIsN, dNotN, D.isNon, dupFree, argsOf, argOf, Sl.some?, putBack, Opd.isS, Sl.own, Rv.sl, Rv.d, mwalk, walkD, itemsD, mrng, rng1, rng2, rng3, tgName, tgTup, tgCons, tgNil, masg, mpar2, stPar2, isiD, dTy, isiInt, isiBl, isiLst, isiTup, isiObj, or2, nm, List.findIdx?_cons, List.findIdx?_nil]
  have hel : (enumD (I p)).length = p.length := by unfold enumD; simp
  obtain ⟨acc, s', e, ⟨hs, ps, ha, hP⟩, _⟩ := comp_ok (vs := [2, 3]) (tm := tgTup 2 (tgCons (tgName 2) (tgCons (tgName 3) tgNil))) (tt := ct__law_cut_1 fu) (te := ce__law_cut_1 fu) (fun i acc s => s = [.v (.lst (I p)), .no, .no, .no] ∧ ∃ ps, acc = I ps ∧ Spots p i ps) (enumD (I p)) 0 [] [.v (.lst (I p)), .no, .no, .no] ⟨rfl, [], rfl, ⟨fun x hx => (nomatch hx), fun j z hj => absurd hj (Nat.not_lt_zero _)⟩⟩ (by rw [hel]; simp; omega) fun j x acc s hj hP => by
    obtain ⟨rfl, ps, rfl, h1, h2⟩ := hP
    obtain ⟨z, hz, rfl⟩ := enum_I hj
    rw [Nat.zero_add] at h1 h2 ⊢
    have htm : tgTup 2 (tgCons (tgName 2) (tgCons (tgName 3) tgNil)) (.tup [.int (j : Int), .int z]) [.v (.lst (I p)), .no, .no, .no] = some [.v (.lst (I p)), .no, .v (.int (j : Int)), .v (.int z)] := by simp [tgTup, tgCons, tgName, tgNil, itemsD]
    have htt : ct__law_cut_1 fu [.v (.lst (I p)), .no, .v (.int (j : Int)), .v (.int z)] = .ok (!decide (z = 0)) [.v (.lst (I p)), .no, .v (.int (j : Int)), .v (.int z)] := by
      simp [ct__law_cut_1, fnD, ms, mseq, mbind, mret, mopt, mbad, mvar, res, strong, strongs, ress, mun, mbin, mbinR, mcb, mcons, mcond, mif, mandV, morV, mnotV, tob, truD, mfld, fldD, putO, mputf, stSet, stSetP, mfrz, mlst, mtup, mslice, mpart, intD, dSl, on1, on2, lenD, absD, TW.intOf, TW.listOf, TW.tupOf, dInt2, dCmp2, dNeg, dIx, dIsN, dNotN, D.isNon, dupFree, argsOf, argOf, Sl.some?, putBack, Opd.isS, Sl.own, Rv.sl, Rv.d, mwalk, walkD, itemsD, mrng, rng1, rng2, rng3, tgName, tgTup, tgCons, tgNil, masg, mpar2, stPar2, isiD, dTy, isiInt, isiBl, isiLst, isiTup, isiObj, or2, nm, List.findIdx?_cons, List.findIdx?_nil, dNe_int]
    have hte : ce__law_cut_1 fu [.v (.lst (I p)), .no, .v (.int (j : Int)), .v (.int z)] = .ok (.int (j : Int)) [.v (.lst (I p)), .no, .v (.int (j : Int)), .v (.int z)] := by
      simp [ce__law_cut_1, fnD, ms, mseq, mbind, mret, mopt, mbad, mvar, res, strong, strongs, ress, mun, mbin, mbinR, mcb, mcons, mcond, mif, mandV, morV, mnotV, tob, truD, mfld, fldD, putO, mputf, stSet, stSetP, mfrz, mlst, mtup, mslice, mpart, intD, dSl, on1, on2, lenD, absD, TW.intOf, TW.listOf, TW.tupOf, dInt2, dCmp2, dNeg, dIx, dIsN, dNotN, D.isNon, dupFree, argsOf, argOf, Sl.some?, putBack, Opd.isS, Sl.own, Rv.sl, Rv.d, mwalk, walkD, itemsD, mrng, rng1, rng2, rng3, tgName, tgTup, tgCons, tgNil, masg, mpar2, stPar2, isiD, dTy, isiInt, isiBl, isiLst, isiTup, isiObj, or2, nm, List.findIdx?_cons, List.findIdx?_nil]
    by_cases hz0 : z = 0
    · rw [decide_eq_true hz0] at htt
      refine ⟨_, _, _, htm, htt, .inl ⟨rfl, rfl, rfl, ps, rfl, ⟨fun x hx => ?_, fun j' z' hj' hz' hn => ?_⟩⟩⟩
      · obtain ⟨j', e1, e2, e3⟩ := h1 x hx; exact ⟨j', e1, by omega, e3⟩
      · by_cases hjj : j' = j
        · subst hjj; rw [hz] at hz'; cases hz'; exact absurd hz0 hn
        · exact h2 j' z' (by omega) hz' hn
    · rw [decide_eq_false hz0] at htt
      refine ⟨_, _, _, htm, htt, .inr ⟨_, _, rfl, hte, rfl, rfl, ps ++ [(j : Int)], by simp, ⟨fun x hx => ?_, fun j' z' hj' hz' hn => ?_⟩⟩⟩
      · rcases List.mem_append.mp hx with hx | hx
        · obtain ⟨j', e1, e2, e3⟩ := h1 x hx; exact ⟨j', e1, by omega, e3⟩
        · simp at hx; exact ⟨j, hx, by omega, z, hz, hz0⟩
      · by_cases hjj : j' = j
        · subst hjj; simp
        · exact List.mem_append_left _ (h2 j' z' (by omega) hz' hn)
  subst hs; subst ha
  rw [hel, Nat.zero_add] at hP
  refine ⟨ps, hP, ?_⟩
  unfold c__law_cut_1 mlc; rw [mb_k hm]
  rw [if_pos (by rfl)]
  have e' : compD [2, 3] (tgTup 2 (tgCons (tgName 2) (tgCons (tgName 3) tgNil))) (ct__law_cut_1 fu) (ce__law_cut_1 fu) (enumD (I p)) [] (wipeS [.v (.lst (I p)), .no, .no, .no] [2, 3]) = .ok (I ps) [.v (.lst (I p)), .no, .no, .no] := e
  rw [e']; rfl
theorem take_trim {p : List Int} {L : Nat} (h1 : L ≤ p.length) (h2 : ∀ (j : Nat) z, L ≤ j → p[j]? = some z → z = 0) (h3 : L = 0 ∨ ∃ z, p[L - 1]? = some z ∧ z ≠ 0) : IsTrim p (p.take L) := by
  refine ⟨⟨p.length - L, ?_⟩, ?_⟩
  · conv => lhs; rw [← List.take_append_drop L p]
    congr 1
    apply List.ext_getElem?
    intro i
    rw [List.getElem?_drop, List.getElem?_replicate]
    by_cases hi : i < p.length - L
    · rw [if_pos hi]
      have : L + i < p.length := by omega
      rw [List.getElem?_eq_getElem this]
      rw [h2 (L + i) p[L + i] (by omega) (List.getElem?_eq_getElem this)]
    · rw [if_neg hi, List.getElem?_eq_none (by omega)]
  · rcases h3 with h3 | ⟨z, hz, hn⟩
    · left; rw [h3]; rfl
    · right
      by_cases hL : L = 0
      · subst hL
        exact absurd (h2 0 z (Nat.le_refl _) (by simpa using hz)) hn
      · rw [List.getLastD_eq_getLast?, List.getLast?_eq_getElem?, List.length_take, List.getElem?_take, Nat.min_eq_left h1, if_pos (by omega), hz]
        exact hn
theorem ev_cut (fu : Nat) {p : List Int} (hl : p.length ≤ 1000000) : ∃ r, IsTrim p r ∧ d__law_cut fu [.v (.lst (I p))] = .ret (.v (.tup (I r))) [.v (.lst (I p))] := by
  obtain ⟨ps, ⟨s1, s2⟩, e⟩ := ev_c_cut fu hl
  cases hps : ps with
  | nil =>
    subst hps
    have hz : IsTrim p (p.take 0) := take_trim (Nat.zero_le _) (fun j z _ hz => by
      by_cases h0 : z = 0
      · exact h0
      · have := s2 j z (List.getElem?_eq_some_iff.mp hz).1 hz h0; cases this) (.inl rfl)
    refine ⟨p.take 0, hz, ?_⟩
    have hmd : maxDef (.lst (I [])) (.int (-1)) = some (.int (-1)) := rfl
    have hmd' : maxDef (.lst []) (.int (-1)) = some (.int (-1)) := rfl
    simp [d__law_cut, b__law_cut, mmaxd, fnD, ms, mseq, mbind, mret, mopt, mbad, mvar, res, strong, strongs, ress, mun, mbin, mbinR, mcb, mcons, mcond, mif, mandV, morV, mnotV, tob, truD, mfld, fldD, putO, mputf, stSet, stSetP, mfrz, mlst, mtup, mslice, mpart, intD, dSl, on1, on2, lenD, absD, TW.intOf, TW.listOf, TW.tupOf, dInt2, dCmp2, dNeg, dIx, dIsN, dNotN, D.isNon, dupFree, argsOf, argOf, Sl.some?, putBack, Opd.isS, Sl.own, Rv.sl, Rv.d, mwalk, walkD, itemsD, mrng, rng1, rng2, rng3, tgName, tgTup, tgCons, tgNil, masg, mpar2, stPar2, isiD, dTy, isiInt, isiBl, isiLst, isiTup, isiObj, or2, nm, List.findIdx?_cons, List.findIdx?_nil, e, hmd, hmd', cutD, HT.sIx]
  | cons n ns =>
    subst hps
    obtain ⟨h1, h2⟩ := maxOf_spec ns n
    obtain ⟨j, ej, hj, z, hz, hn⟩ := s1 _ h1
    have hmd : maxDef (.lst (I (n :: ns))) (.int (-1)) = some (.int (j : Int)) := by
      unfold maxDef; dsimp only; rw [intsD_I]; show some (D.int (PySem.W.maxOf n ns)) = _; rw [ej]
    have htr : IsTrim p (p.take (j + 1)) := take_trim (by omega) (fun j' z' hj' hz' => by
      by_cases h0 : z' = 0
      · exact h0
      · have := h2 _ (s2 j' z' (List.getElem?_eq_some_iff.mp hz').1 hz' h0)
        rw [ej] at this; omega) (.inr ⟨z, by simpa using hz, hn⟩)
    have hcut : cutD (I p) none (some ((j : Int) + 1)) = I (p.take (j + 1)) := by
      unfold cutD
      have e1 : HT.sIx (I p).length 0 none = 0 := rfl
      have e2 : HT.sIx (I p).length (I p).length (some ((j : Int) + 1)) = j + 1 := by
        unfold HT.sIx; rw [I_len]; dsimp only; rw [if_neg (by omega)]
        have : ((j : Int) + 1).toNat = j + 1 := by omega
        rw [this]; omega
      rw [e1, e2]
      show ((I p).drop 0).take (j + 1 - 0) = _
      rw [List.drop_zero, Nat.sub_zero]; exact (List.map_take ..).symm
    refine ⟨p.take (j + 1), htr, ?_⟩
    generalize n :: ns = q at e hmd
    simp [d__law_cut, b__law_cut, mmaxd, fnD, ms, mseq, mbind, mret, mopt, mbad, mvar, res, strong, strongs, ress, mun, mbin, mbinR, mcb, mcons, mcond, mif, mandV, morV, mnotV, tob, truD, mfld, fldD, putO, mputf, stSet, stSetP, mfrz, mlst, mtup, mslice, mpart, intD, dSl, on1, on2, lenD, absD, TW.intOf, TW.listOf, TW.tupOf, dInt2, dCmp2, dNeg, dIx, dIsN, dNotN, D.isNon, dupFree, argsOf, argOf, Sl.some?, putBack, Opd.isS, Sl.own, Rv.sl, Rv.d, mwalk, walkD, itemsD, mrng, rng1, rng2, rng3, tgName, tgTup, tgCons, tgNil, masg, mpar2, stPar2, isiD, dTy, isiInt, isiBl, isiLst, isiTup, isiObj, or2, nm, List.findIdx?_cons, List.findIdx?_nil, e, hmd, hcut]
end K30

set_option linter.all false
set_option autoImplicit false
set_option maxRecDepth 100000
set_option maxHeartbeats 4000000
namespace K30
open PySem TW L2
/-! ### moved -/
structure SmallM (k kb : Nat) (p : List Int) (m : Int) : Prop where
  len : p.length ≤ 1000
  bits : bdl k p
  mb : bd kb m
  kb1 : 1 ≤ kb
  sz : (p.length + 1) * kb + k + 2000 < 90000000
theorem ev_ce_moved (fu : Nat) {p : List Int} {m : Int} {k kb : Nat} (S : SmallM k kb p m) (F : List D) {low a : Nat} (h1 : low ≤ a) (h2 : a < p.length) :
    ce__law_moved_1 fu [.v (.tup (I p)), .v (.int m), .l F, .v (.int (low : Int)), .v (.int (a : Int))] = .ok (.int (p[a] * ch a low * m ^ (a - low))) [.v (.tup (I p)), .v (.int m), .l F, .v (.int (low : Int)), .v (.int (a : Int))] := by
  have hat := atI_In h2
  have hn := S.len
  have e1 := ev_choose fu (n := a) (k := low) h1 (by omega)
  have hs := S.sz
  have hmul : (a - low + 1) * kb ≤ (p.length + 1) * kb := Nat.mul_le_mul_right _ (by omega)
  have e2 := ev_power fu (n := a - low) S.mb S.kb1 (by omega) (by omega)
  have hsub : (a : Int) - (low : Int) = ((a - low : Nat) : Int) := by omega
  have bz : bd k p[a] := S.bits _ (List.getElem_mem h2)
  have c1 : cMul p[a] (ch a low) = true := bz.cMul (bd_ch' a low) (by omega)
  have c2 : cMul (p[a] * ch a low) (m ^ (a - low)) = true := (bz.mul (bd_ch' a low)).cMul (bd_pow S.mb S.kb1 (a - low)) (by rw [Nat.succ_mul] at hmul; omega)
  generalize p[a] = z at hat c1 c2
  generalize m ^ (a - low) = w at e2 c2
  generalize ch a low = v at e1 c1 c2
  simp [ce__law_moved_1, mcall, fnD, ms, mseq, mbind, mret, mopt, mbad, mvar, res, strong, strongs, ress, mun, mbin, mbinR, mcb, mcons, mcond, mif, mandV, morV, mnotV, tob, truD, mfld, fldD, putO, mputf, stSet, stSetP, mfrz, mlst, mtup, mslice, mpart, intD, dSl, on1, on2, lenD, absD, TW.intOf, TW.listOf, TW.tupOf, dInt2, dCmp2, dNeg, dIx, dIsN, dNotN, D.isNon, dupFree, argsOf, argOf, Sl.some?, putBack, Opd.isS, Sl.own, Rv.sl, Rv.d, mwalk, walkD, itemsD, mrng, rng1, rng2, rng3, tgName, tgTup, tgCons, tgNil, masg, mpar2, stPar2, isiD, dTy, isiInt, isiBl, isiLst, isiTup, isiObj, or2, nm, List.findIdx?_cons, List.findIdx?_nil, hat, e1, hsub, e2, c1, c2]
theorem ev_c_moved (fu : Nat) {p : List Int} {m : Int} {k kb : Nat} (S : SmallM k kb p m) (F : List D) {low : Nat} (h1 : low ≤ p.length) :
    ∃ q : List Int, q.sum = cf m low low (p.drop low) ∧ c__law_moved_1 fu [.v (.tup (I p)), .v (.int m), .l F, .v (.int (low : Int)), .no] = .ok (.l (I q)) [.v (.tup (I p)), .v (.int m), .l F, .v (.int (low : Int)), .no] := by
  have hn := S.len
  have ok1 : okR (low : Int) = true := Nat.ble_eq_true_of_le (by omega)
  have ok2 : okR (p.length : Int) = true := Nat.ble_eq_true_of_le (by omega)
  have hm : ci__law_moved_1 fu [.v (.tup (I p)), .v (.int m), .l F, .v (.int (low : Int)), .no] = .ok (rangeD (low : Int) ((p.length : Int) - (low : Int)).toNat) [.v (.tup (I p)), .v (.int m), .l F, .v (.int (low : Int)), .no] := by
    simp [ci__law_moved_1, fnD, ms, mseq, mbind, mret, mopt, mbad, mvar, res, strong, strongs, ress, mun, mbin, mbinR, mcb, mcons, mcond, mif, mandV, morV, mnotV, tob, truD, mfld, fldD, putO, mputf, stSet, stSetP, mfrz, mlst, mtup, mslice, mpart, intD, dSl, on1, on2, lenD, absD, TW.intOf, TW.listOf, TW.tupOf, dInt2, dCmp2, dNeg, dIx, dIsN, dNotN, D.isNon, dupFree, argsOf, argOf, Sl.some?, putBack, Opd.isS, Sl.own, Rv.sl, Rv.d, mwalk, walkD, itemsD, mrng, rng1, rng2, rng3, tgName, tgTup, tgCons, tgNil, masg, mpar2, stPar2, isiD, dTy, isiInt, isiBl, isiLst, isiTup, isiObj, or2, nm, List.findIdx?_cons, List.findIdx?_nil, I_len, ok1, ok2]
  have hrl : (rangeD (low : Int) ((p.length : Int) - (low : Int)).toNat).length = p.length - low := by unfold rangeD; rw [List.length_map, List.length_range]; omega
  obtain ⟨acc, s', e, ⟨hs, q, ha, hq⟩, _⟩ := comp_ok (vs := [4]) (tm := tgName 4) (tt := ct__law_moved_1 fu) (te := ce__law_moved_1 fu) (fun i acc s => s = [.v (.tup (I p)), .v (.int m), .l F, .v (.int (low : Int)), .no] ∧ ∃ q : List Int, acc = I q ∧ q.sum + cf m (low + i) low (p.drop (low + i)) = cf m low low (p.drop low)) (rangeD (low : Int) ((p.length : Int) - (low : Int)).toNat) 0 [] [.v (.tup (I p)), .v (.int m), .l F, .v (.int (low : Int)), .no] ⟨rfl, [], rfl, by simp⟩ (by rw [hrl]; simp; omega) fun j x acc s hj hP => by
    obtain ⟨rfl, q, rfl, hq⟩ := hP
    obtain ⟨hj1, rfl⟩ := rangeD_get hj
    rw [Nat.zero_add] at hq ⊢
    have hlt : low + j < p.length := by omega
    have hcast : (low : Int) + (j : Nat) = ((low + j : Nat) : Int) := by omega
    rw [hcast]
    have ec := ev_ce_moved fu S F (low := low) (a := low + j) (by omega) hlt
    refine ⟨_, true, _, rfl, rfl, .inr ⟨_, _, rfl, ec, rfl, rfl, q ++ [p[low + j] * ch (low + j) low * m ^ (low + j - low)], by simp, ?_⟩⟩
    rw [← hq, List.drop_eq_getElem_cons hlt]
    simp only [cf, List.sum_append, List.sum_cons, List.sum_nil]
    have e3 : low + (j + 1) = low + j + 1 := by omega
    rw [e3]; omega
  subst hs; subst ha
  rw [hrl, Nat.zero_add] at hq
  have hd : p.drop (low + (p.length - low)) = [] := by rw [show low + (p.length - low) = p.length by omega]; exact List.drop_length
  rw [hd] at hq
  refine ⟨q, by simpa [cf] using hq, ?_⟩
  unfold c__law_moved_1 mlc; rw [mb_k hm]
  rw [if_pos (by rfl)]
  have e' : compD [4] (tgName 4) (ct__law_moved_1 fu) (ce__law_moved_1 fu) (rangeD (low : Int) ((p.length : Int) - (low : Int)).toNat) [] (wipeS [.v (.tup (I p)), .v (.int m), .l F, .v (.int (low : Int)), .no] [4]) = .ok (I q) [.v (.tup (I p)), .v (.int m), .l F, .v (.int (low : Int)), .no] := e
  rw [e']; rfl
theorem onInts_sum (q : List Int) : sumD (.lst (I q)) = some (.v (.int q.sum)) := by
  show onInts _ _ = _
  unfold onInts; dsimp only; rw [intsD_I]; rfl
theorem ev_lb_moved (fu : Nat) {p : List Int} {m : Int} {k kb : Nat} (S : SmallM k kb p m) {F : List D} (hF : F.length ≤ 1000) {low : Nat} (h1 : low ≤ p.length) :
    lb__law_moved_2 fu [.v (.tup (I p)), .v (.int m), .l F, .v (.int (low : Int)), .no] = .nx [.v (.tup (I p)), .v (.int m), .l (F ++ [.int ((T m p).getD low 0)]), .v (.int (low : Int)), .no] := by
  obtain ⟨q, hq, e⟩ := ev_c_moved fu S F h1
  have h0 : q.sum = (T m p).getD low 0 := by
    rw [hq, T_cf, cf_drop m low p 0 low (by omega), Nat.zero_add]
  have hs := onInts_sum q
  rw [h0] at hs
  have hl : F.length < 16000000 := by omega
  generalize (T m p).getD low 0 = y at hs
  simp [lb__law_moved_2, mappend, fnD, ms, mseq, mbind, mret, mopt, mbad, mvar, res, strong, strongs, ress, mun, mbin, mbinR, mcb, mcons, mcond, mif, mandV, morV, mnotV, tob, truD, mfld, fldD, putO, mputf, stSet, stSetP, mfrz, mlst, mtup, mslice, mpart, intD, dSl, on1, on2, lenD, absD, TW.intOf, TW.listOf, TW.tupOf, dInt2, dCmp2, dNeg, dIx, dIsN, dNotN, D.isNon, dupFree, argsOf, argOf, Sl.some?, putBack, Opd.isS, Sl.own, Rv.sl, Rv.d, mwalk, walkD, itemsD, mrng, rng1, rng2, rng3, tgName, tgTup, tgCons, tgNil, masg, mpar2, stPar2, isiD, dTy, isiInt, isiBl, isiLst, isiTup, isiObj, or2, nm, List.findIdx?_cons, List.findIdx?_nil, e, hs, hl]
theorem ev_moved (fu : Nat) {p : List Int} {m : Int} {k kb : Nat} (S : SmallM k kb p m) : d__law_moved fu [.v (.tup (I p)), .v (.int m)] = .ret (.v (.lst (I (T m p)))) [.v (.tup (I p)), .v (.int m)] := by
  have hn := S.len
  have ok2 : okR (p.length : Int) = true := Nat.ble_eq_true_of_le (by omega)
  have hi : li__law_moved_2 fu [.v (.tup (I p)), .v (.int m), .l [], .no, .no] = .ok (rangeD 0 p.length) [.v (.tup (I p)), .v (.int m), .l [], .no, .no] := by
    simp [li__law_moved_2, fnD, ms, mseq, mbind, mret, mopt, mbad, mvar, res, strong, strongs, ress, mun, mbin, mbinR, mcb, mcons, mcond, mif, mandV, morV, mnotV, tob, truD, mfld, fldD, putO, mputf, stSet, stSetP, mfrz, mlst, mtup, mslice, mpart, intD, dSl, on1, on2, lenD, absD, TW.intOf, TW.listOf, TW.tupOf, dInt2, dCmp2, dNeg, dIx, dIsN, dNotN, D.isNon, dupFree, argsOf, argOf, Sl.some?, putBack, Opd.isS, Sl.own, Rv.sl, Rv.d, mwalk, walkD, itemsD, mrng, rng1, rng2, rng3, tgName, tgTup, tgCons, tgNil, masg, mpar2, stPar2, isiD, dTy, isiInt, isiBl, isiLst, isiTup, isiObj, or2, nm, List.findIdx?_cons, List.findIdx?_nil, I_len, ok2]
  obtain ⟨s', e, q, x, hs', hl, hq⟩ := for_ok (tm := tgName 3) (bd := lb__law_moved_2 fu) (fun i s => ∃ (q : List Int) (x : Sl), s = [.v (.tup (I p)), .v (.int m), .l (I q), x, .no] ∧ q.length = i ∧ ∀ j, j < i → q[j]? = some ((T m p).getD j 0)) hi ⟨[], .no, rfl, rfl, fun j hj => by omega⟩ fun i x s hi hP => by
    obtain ⟨q, x3, rfl, hl, hq⟩ := hP
    obtain ⟨hin, rfl⟩ := rangeD_get hi
    rw [show (0 : Int) + (i : Nat) = (i : Int) by omega]
    have eb := ev_lb_moved fu S (F := I q) (by rw [I_len]; omega) (low := i) (by omega)
    refine ⟨[.v (.tup (I p)), .v (.int m), .l (I q), .v (.int (i : Int)), .no], _, rfl, eb, q ++ [(T m p).getD i 0], .v (.int (i : Int)), by simp, by simp [hl], fun j hj => ?_⟩
    by_cases hji : j = i
    · subst hji; rw [List.getElem?_append_right (by omega), hl]; simp
    · rw [List.getElem?_append_left (by omega)]; exact hq j (by omega)
  have hr : (rangeD 0 p.length).length = p.length := by unfold rangeD; simp
  rw [hr] at hl hq
  have hT : q = T m p := by
    apply List.ext_getElem?
    intro j
    by_cases hj : j < p.length
    · rw [hq j hj, List.getD_eq_getElem?_getD, List.getElem?_eq_getElem (by rw [T_len]; exact hj)]; rfl
    · rw [List.getElem?_eq_none (by omega), List.getElem?_eq_none (by rw [T_len]; omega)]
  have el : l__law_moved_2 fu [.v (.tup (I p)), .v (.int m), .l [], .no, .no] = .nx [.v (.tup (I p)), .v (.int m), .l (I (T m p)), x, .no] := by unfold l__law_moved_2; rw [e, hs', hT]
  generalize T m p = w at el
  simp [d__law_moved, b__law_moved, fnD, ms, mseq, mbind, mret, mopt, mbad, mvar, res, strong, strongs, ress, mun, mbin, mbinR, mcb, mcons, mcond, mif, mandV, morV, mnotV, tob, truD, mfld, fldD, putO, mputf, stSet, stSetP, mfrz, mlst, mtup, mslice, mpart, intD, dSl, on1, on2, lenD, absD, TW.intOf, TW.listOf, TW.tupOf, dInt2, dCmp2, dNeg, dIx, dIsN, dNotN, D.isNon, dupFree, argsOf, argOf, Sl.some?, putBack, Opd.isS, Sl.own, Rv.sl, Rv.d, mwalk, walkD, itemsD, mrng, rng1, rng2, rng3, tgName, tgTup, tgCons, tgNil, masg, mpar2, stPar2, isiD, dTy, isiInt, isiBl, isiLst, isiTup, isiObj, or2, nm, List.findIdx?_cons, List.findIdx?_nil, el]
/-! ### law_is_above -/
theorem ev_c_isab (fu : Nat) (d : D) (m : Int) {q : List Int} (hq : q.length ≤ 1000) :
    c__law_is_above_1 fu [.v d, .v (.int m), .v (.lst (I q)), .no] = .ok (.l (I (q.filter fun x => decide (x < 0)))) [.v d, .v (.int m), .v (.lst (I q)), .no] := by
  have hm : ci__law_is_above_1 fu [.v d, .v (.int m), .v (.lst (I q)), .no] = .ok (I q) [.v d, .v (.int m), .v (.lst (I q)), .no] := by
    simp [ci__law_is_above_1, fnD, ms, mseq, mbind, mret, mopt, mbad, mvar, res, strong, strongs, ress, mun, mbin, mbinR, mcb, mcons, mcond, mif, mandV, morV, mnotV, tob, truD, mfld, fldD, putO, mputf, stSet, stSetP, mfrz, mlst, mtup, mslice, mpart, intD, dSl, on1, on2, lenD, absD, TW.intOf, TW.listOf, TW.tupOf, dInt2, dCmp2, dNeg, dIx, dIsN, dNotN, D.isNon, dupFree, argsOf, argOf, Sl.some?, putBack, Opd.isS, Sl.own, Rv.sl, Rv.d, mwalk, walkD, itemsD, mrng, rng1, rng2, rng3, tgName, tgTup, tgCons, tgNil, masg, mpar2, stPar2, isiD, dTy, isiInt, isiBl, isiLst, isiTup, isiObj, or2, nm, List.findIdx?_cons, List.findIdx?_nil]
  obtain ⟨acc, s', e, ⟨hs, ha⟩, _⟩ := comp_ok (vs := [3]) (tm := tgName 3) (tt := ct__law_is_above_1 fu) (te := ce__law_is_above_1 fu) (fun i acc s => s = [.v d, .v (.int m), .v (.lst (I q)), .no] ∧ acc = I ((q.take i).filter fun x => decide (x < 0))) (I q) 0 [] [.v d, .v (.int m), .v (.lst (I q)), .no] ⟨rfl, rfl⟩ (by rw [I_len]; simp; omega) fun j x acc s hj hP => by
    obtain ⟨rfl, rfl⟩ := hP
    obtain ⟨z, hz, rfl⟩ := I_at hj
    rw [Nat.zero_add]
    have hjl : j < q.length := (List.getElem?_eq_some_iff.mp hz).1
    have hzz : q[j] = z := (List.getElem?_eq_some_iff.mp hz).2
    have htt : ct__law_is_above_1 fu [.v d, .v (.int m), .v (.lst (I q)), .v (.int z)] = .ok (decide (z < 0)) [.v d, .v (.int m), .v (.lst (I q)), .v (.int z)] := by
      simp [ct__law_is_above_1, fnD, ms, mseq, mbind, mret, mopt, mbad, mvar, res, strong, strongs, ress, mun, mbin, mbinR, mcb, mcons, mcond, mif, mandV, morV, mnotV, tob, truD, mfld, fldD, putO, mputf, stSet, stSetP, mfrz, mlst, mtup, mslice, mpart, intD, dSl, on1, on2, lenD, absD, TW.intOf, TW.listOf, TW.tupOf, dInt2, dCmp2, dNeg, dIx, dIsN, dNotN, D.isNon, dupFree, argsOf, argOf, Sl.some?, putBack, Opd.isS, Sl.own, Rv.sl, Rv.d, mwalk, walkD, itemsD, mrng, rng1, rng2, rng3, tgName, tgTup, tgCons, tgNil, masg, mpar2, stPar2, isiD, dTy, isiInt, isiBl, isiLst, isiTup, isiObj, or2, nm, List.findIdx?_cons, List.findIdx?_nil]
    have hte : ce__law_is_above_1 fu [.v d, .v (.int m), .v (.lst (I q)), .v (.int z)] = .ok (.int z) [.v d, .v (.int m), .v (.lst (I q)), .v (.int z)] := by
      simp [ce__law_is_above_1, fnD, ms, mseq, mbind, mret, mopt, mbad, mvar, res, strong, strongs, ress, mun, mbin, mbinR, mcb, mcons, mcond, mif, mandV, morV, mnotV, tob, truD, mfld, fldD, putO, mputf, stSet, stSetP, mfrz, mlst, mtup, mslice, mpart, intD, dSl, on1, on2, lenD, absD, TW.intOf, TW.listOf, TW.tupOf, dInt2, dCmp2, dNeg, dIx, dIsN, dNotN, D.isNon, dupFree, argsOf, argOf, Sl.some?, putBack, Opd.isS, Sl.own, Rv.sl, Rv.d, mwalk, walkD, itemsD, mrng, rng1, rng2, rng3, tgName, tgTup, tgCons, tgNil, masg, mpar2, stPar2, isiD, dTy, isiInt, isiBl, isiLst, isiTup, isiObj, or2, nm, List.findIdx?_cons, List.findIdx?_nil]
    have htk : q.take (j + 1) = q.take j ++ [z] := by rw [List.take_succ_eq_append_getElem hjl, hzz]
    by_cases h0 : z < 0
    · rw [decide_eq_true h0] at htt
      exact ⟨_, _, _, rfl, htt, .inr ⟨_, _, rfl, hte, rfl, rfl, by rw [htk, List.filter_append]; simp [h0]⟩⟩
    · rw [decide_eq_false h0] at htt
      exact ⟨_, _, _, rfl, htt, .inl ⟨rfl, rfl, rfl, by rw [htk, List.filter_append]; simp [h0]⟩⟩
  subst hs; subst ha
  unfold c__law_is_above_1 mlc; rw [mb_k hm]
  rw [if_pos (by rfl)]
  have e' : compD [3] (tgName 3) (ct__law_is_above_1 fu) (ce__law_is_above_1 fu) (I q) [] (wipeS [.v d, .v (.int m), .v (.lst (I q)), .no] [3]) = .ok (I ((q.take (0 + (I q).length)).filter fun x => decide (x < 0))) [.v d, .v (.int m), .v (.lst (I q)), .no] := e
  rw [e', Nat.zero_add, I_len, List.take_length]; rfl
theorem dEq_lst (p : List Int) : dEq (.lst (I p)) (.lst []) = some (.bl p.isEmpty) := by unfold dEq; rw [eqP_lst]; rfl
theorem ev_law_is_above (fu : Nat) {p : List Int} {m : Int} {k kb : Nat} (S : SmallM k kb p m) : d__law_is_above fu [.v (.tup (I p)), .v (.int m)] = .ret (.v (.bl (decide (Ab p m)))) [.v (.tup (I p)), .v (.int m)] := by
  have e := ev_moved fu S
  have hn := S.len
  by_cases hT : T m p = []
  · have hA : decide (Ab p m) = false := by
      apply decide_eq_false; rintro ⟨h1, _⟩; rw [hT] at h1; simp [hd] at h1
    rw [hA]
    rw [hT] at e
    have h0 : dNe (.lst []) (.lst []) = some (.bl false) := dNe_lst []
    simp [d__law_is_above, b__law_is_above, mcall, e, fnD, ms, mseq, mbind, mret, mopt, mbad, mvar, res, strong, strongs, ress, mun, mbin, mbinR, mcb, mcons, mcond, mif, mandV, morV, mnotV, tob, truD, mfld, fldD, putO, mputf, stSet, stSetP, mfrz, mlst, mtup, mslice, mpart, intD, dSl, on1, on2, lenD, absD, TW.intOf, TW.listOf, TW.tupOf, dInt2, dCmp2, dNeg, dIx, dIsN, dNotN, D.isNon, dupFree, argsOf, argOf, Sl.some?, putBack, Opd.isS, Sl.own, Rv.sl, Rv.d, mwalk, walkD, itemsD, mrng, rng1, rng2, rng3, tgName, tgTup, tgCons, tgNil, masg, mpar2, stPar2, isiD, dTy, isiInt, isiBl, isiLst, isiTup, isiObj, or2, nm, List.findIdx?_cons, List.findIdx?_nil, h0]
  · have h0 := dNe_lst (T m p)
    have he : (T m p).isEmpty = false := by cases hq : T m p; exact absurd hq hT; rfl
    rw [he] at h0
    have h1 := atI0 hT
    have ec := ev_c_isab fu (.tup (I p)) m (q := T m p) (by rw [T_len]; exact hn)
    have h2 := dEq_lst ((T m p).filter fun x => decide (x < 0))
    have hA : decide (Ab p m) = (decide (0 < hd (T m p)) && ((T m p).filter fun x => decide (x < 0)).isEmpty) := by
      rw [Bool.eq_iff_iff, decide_eq_true_iff, Bool.and_eq_true, decide_eq_true_iff, List.isEmpty_iff, List.filter_eq_nil_iff]
      unfold Ab nn
      exact ⟨fun ⟨a, c⟩ => ⟨a, fun x hx => by have := c x hx; simp; omega⟩, fun ⟨a, c⟩ => ⟨a, fun x hx => by have := c x hx; simp at this; omega⟩⟩
    rw [hA]
    generalize ((T m p).filter fun x => decide (x < 0)) = fl at ec h2
    generalize hd (T m p) = y at h1
    generalize fl.isEmpty = fe at h2
    generalize T m p = w at e h0 h1 ec
    by_cases hy : 0 < y
    · simp [d__law_is_above, b__law_is_above, mcall, e, fnD, ms, mseq, mbind, mret, mopt, mbad, mvar, res, strong, strongs, ress, mun, mbin, mbinR, mcb, mcons, mcond, mif, mandV, morV, mnotV, tob, truD, mfld, fldD, putO, mputf, stSet, stSetP, mfrz, mlst, mtup, mslice, mpart, intD, dSl, on1, on2, lenD, absD, TW.intOf, TW.listOf, TW.tupOf, dInt2, dCmp2, dNeg, dIx, dIsN, dNotN, D.isNon, dupFree, argsOf, argOf, Sl.some?, putBack, Opd.isS, Sl.own, Rv.sl, Rv.d, mwalk, walkD, itemsD, mrng, rng1, rng2, rng3, tgName, tgTup, tgCons, tgNil, masg, mpar2, stPar2, isiD, dTy, isiInt, isiBl, isiLst, isiTup, isiObj, or2, nm, List.findIdx?_cons, List.findIdx?_nil, h0, h1, hy, ec, h2]
    · simp [d__law_is_above, b__law_is_above, mcall, e, fnD, ms, mseq, mbind, mret, mopt, mbad, mvar, res, strong, strongs, ress, mun, mbin, mbinR, mcb, mcons, mcond, mif, mandV, morV, mnotV, tob, truD, mfld, fldD, putO, mputf, stSet, stSetP, mfrz, mlst, mtup, mslice, mpart, intD, dSl, on1, on2, lenD, absD, TW.intOf, TW.listOf, TW.tupOf, dInt2, dCmp2, dNeg, dIx, dIsN, dNotN, D.isNon, dupFree, argsOf, argOf, Sl.some?, putBack, Opd.isS, Sl.own, Rv.sl, Rv.d, mwalk, walkD, itemsD, mrng, rng1, rng2, rng3, tgName, tgTup, tgCons, tgNil, masg, mpar2, stPar2, isiD, dTy, isiInt, isiBl, isiLst, isiTup, isiObj, or2, nm, List.findIdx?_cons, List.findIdx?_nil, h0, h1, hy, ec, h2]
end K30

set_option linter.all false
set_option autoImplicit false
set_option maxRecDepth 100000
set_option maxHeartbeats 4000000
namespace K30
open PySem TW L2
/-! ### times -/
def inn : List Int → Nat → Int → List Int → List Int
  | q, _, _, [] => q
  | q, pos, a, x :: o => inn (q.set pos (q.getD pos 0 + a * x)) (pos + 1) a o
def out : List Int → Nat → List Int → List Int → List Int
  | q, _, [], _ => q
  | q, pos, a :: p, o => out (inn q pos a o) (pos + 1) p o
theorem inn_len : ∀ (o q : List Int) (pos : Nat) (a : Int), (inn q pos a o).length = q.length
  | [], q, pos, a => rfl
  | x :: o, q, pos, a => by unfold inn; rw [inn_len o]; simp
theorem out_len : ∀ (p q : List Int) (pos : Nat) (o : List Int), (out q pos p o).length = q.length
  | [], q, pos, o => rfl
  | a :: p, q, pos, o => by unfold out; rw [out_len p, inn_len]
theorem getD_bd {k : Nat} {q : List Int} (h : bdl k q) (j : Nat) : bd k (q.getD j 0) := by
  rw [List.getD_eq_getElem?_getD]
  by_cases hj : j < q.length
  · rw [List.getElem?_eq_getElem hj]; exact h _ (List.getElem_mem hj)
  · rw [List.getElem?_eq_none (by omega)]; unfold bd; exact Nat.two_pow_pos k
theorem inn_bd {a : Int} : ∀ (o q : List Int) (pos j : Nat), bdl j q → (∀ x ∈ o, bd j (a * x)) → bdl (j + o.length) (inn q pos a o)
  | [], q, pos, j, h, _ => h
  | x :: o, q, pos, j, h, ho => by
    have h1 : bdl (j + 1) (q.set pos (q.getD pos 0 + a * x)) := bdl.set (h.mono (by omega)) (bd.add (getD_bd h pos) (ho x List.mem_cons_self) (by omega) (by omega))
    have := inn_bd o _ (pos + 1) (j + 1) h1 fun y hy => (ho y (List.mem_cons_of_mem _ hy)).mono (by omega)
    rw [show j + (x :: o).length = j + 1 + o.length by simp; omega]
    exact this
theorem out_bd {k ko : Nat} {o : List Int} (ho : bdl ko o) : ∀ (p q : List Int) (pos j : Nat), bdl k p → bdl j q → k + ko ≤ j → bdl (j + p.length * o.length) (out q pos p o)
  | [], q, pos, j, _, h, _ => by simpa [out] using h
  | a :: p, q, pos, j, hp, h, hj => by
    have h1 := inn_bd (a := a) o q pos j h fun x hx => ((hp a List.mem_cons_self).mul (ho x hx)).mono hj
    have := out_bd ho p _ (pos + 1) (j + o.length) (fun x hx => hp x (List.mem_cons_of_mem _ hx)) h1 (by omega)
    rw [show j + (a :: p).length * o.length = j + o.length + p.length * o.length by rw [List.length_cons, Nat.succ_mul]; omega]
    exact this
theorem out_lin (c : Int) : ∀ (p A : List Int) (x : Int), out (A ++ (x :: List.replicate (p.length + 1) 0)) A.length p [c, 1] = A ++ (mx c x p ++ [0])
  | [], A, x => by simp [out, mx]
  | a :: p, A, x => by
    have e : inn (A ++ (x :: List.replicate ((a :: p).length + 1) 0)) A.length a [c, 1] = (A ++ [x + c * a]) ++ (a :: List.replicate (p.length + 1) 0) := by
      simp only [inn]
      have e0 : List.replicate ((a :: p).length + 1) (0 : Int) = 0 :: List.replicate (p.length + 1) 0 := by rw [List.length_cons, List.replicate_succ]
      rw [e0]
      have g1 : (A ++ (x :: 0 :: List.replicate (p.length + 1) 0)).getD A.length 0 = x := by simp
      rw [g1]
      have s1 : (A ++ (x :: 0 :: List.replicate (p.length + 1) 0)).set A.length (x + a * c) = A ++ ((x + a * c) :: 0 :: List.replicate (p.length + 1) 0) := by
        rw [List.set_append_right _ _ (Nat.le_refl _)]; simp
      rw [s1]
      have g2 : (A ++ ((x + a * c) :: 0 :: List.replicate (p.length + 1) 0)).getD (A.length + 1) 0 = 0 := by
        rw [List.getD_eq_getElem?_getD, List.getElem?_append_right (by omega), Nat.add_sub_cancel_left]; rfl
      rw [g2]
      have s2 : (A ++ ((x + a * c) :: 0 :: List.replicate (p.length + 1) 0)).set (A.length + 1) (0 + a * 1) = A ++ ((x + a * c) :: (0 + a * 1) :: List.replicate (p.length + 1) 0) := by
        rw [List.set_append_right _ _ (by omega), Nat.add_sub_cancel_left]; rfl
      rw [s2, Int.mul_comm a c]; simp
    show out (inn _ _ _ _) _ _ _ = _
    rw [e]
    have := out_lin c p (A ++ [x + c * a]) a
    rw [show (A ++ [x + c * a]).length = A.length + 1 by simp] at this
    rw [this]
    simp [mx]
theorem ev_c_times (fu : Nat) (p o : List Int) (hl : p.length + o.length ≤ 100000) : c__law_times_3 fu [.v (.tup (I p)), .v (.lst (I o)), .no, .no, .no, .no, .no] = .ok (.l (I (List.replicate (p.length + o.length) 0))) [.v (.tup (I p)), .v (.lst (I o)), .no, .no, .no, .no, .no] := by
  have ok : okR ((p.length : Int) + (o.length : Int)) = true := Nat.ble_eq_true_of_le (by omega)
  have hm : ci__law_times_3 fu [.v (.tup (I p)), .v (.lst (I o)), .no, .no, .no, .no, .no] = .ok (rangeD 0 ((p.length : Int) + (o.length : Int)).toNat) [.v (.tup (I p)), .v (.lst (I o)), .no, .no, .no, .no, .no] := by
    simp [ci__law_times_3, fnD, ms, mseq, mbind, mret, mopt, mbad, mvar, res, strong, strongs, ress, mun, mbin, mbinR, mcb, mcons, mcond, mif, mandV, morV, mnotV, tob, truD, mfld, fldD, putO, mputf, stSet, stSetP, mfrz, mlst, mtup, mslice, mpart, intD, dSl, on1, on2, lenD, absD, TW.intOf, TW.listOf, TW.tupOf, dInt2, dCmp2, dNeg, dIx, dIsN, dNotN, D.isNon, dupFree, argsOf, argOf, Sl.some?, putBack, Opd.isS, Sl.own, Rv.sl, Rv.d, mwalk, walkD, itemsD, mrng, rng1, rng2, rng3, tgName, tgTup, tgCons, tgNil, masg, mpar2, stPar2, isiD, dTy, isiInt, isiBl, isiLst, isiTup, isiObj, or2, nm, List.findIdx?_cons, List.findIdx?_nil, I_len, ok]
  have hr : (rangeD 0 ((p.length : Int) + (o.length : Int)).toNat).length = p.length + o.length := by unfold rangeD; rw [List.length_map, List.length_range]; omega
  obtain ⟨acc, s', e, ⟨hs, ha⟩, _⟩ := comp_ok (vs := [3]) (tm := tgName 3) (tt := ct__law_times_3 fu) (te := ce__law_times_3 fu) (fun i acc s => s = [.v (.tup (I p)), .v (.lst (I o)), .no, .no, .no, .no, .no] ∧ acc = I (List.replicate i 0)) (rangeD 0 ((p.length : Int) + (o.length : Int)).toNat) 0 [] [.v (.tup (I p)), .v (.lst (I o)), .no, .no, .no, .no, .no] ⟨rfl, rfl⟩ (by rw [hr]; simp; omega) fun j x acc s hj hP => by
    obtain ⟨rfl, rfl⟩ := hP
    exact ⟨_, true, _, rfl, rfl, .inr ⟨.int 0, _, rfl, rfl, rfl, rfl, by rw [List.replicate_succ']; simp⟩⟩
  subst hs; subst ha
  unfold c__law_times_3 mlc; rw [mb_k hm]
  rw [if_pos (by rfl)]
  have e' : compD [3] (tgName 3) (ct__law_times_3 fu) (ce__law_times_3 fu) (rangeD 0 ((p.length : Int) + (o.length : Int)).toNat) [] (wipeS [.v (.tup (I p)), .v (.lst (I o)), .no, .no, .no, .no, .no] [3]) = .ok (I (List.replicate (0 + (rangeD 0 ((p.length : Int) + (o.length : Int)).toNat).length) 0)) [.v (.tup (I p)), .v (.lst (I o)), .no, .no, .no, .no, .no] := e
  rw [e', Nat.zero_add, hr]; rfl
theorem ev_lb_times1 (fu : Nat) (d o : D) (q : List Int) {i j : Nat} {a x : Int} (h : i + j < q.length) (hc : cMul a x = true) :
    lb__law_times_1 fu [.v d, .v o, .l (I q), .v (.int (j : Int)), .v (.int (i : Int)), .v (.int a), .v (.int x)] = .nx [.v d, .v o, .l (I (q.set (i + j) (q.getD (i + j) 0 + a * x))), .v (.int (j : Int)), .v (.int (i : Int)), .v (.int a), .v (.int x)] := by
  have hs : (i : Int) + (j : Int) = ((i + j : Nat) : Int) := by omega
  have hat := atI_In h
  have hg : q.getD (i + j) 0 = q[i + j] := by rw [List.getD_eq_getElem?_getD, List.getElem?_eq_getElem h]; rfl
  have hix : ixN (I q).length ((i + j : Nat) : Int) = some (i + j) := ixN_nat (by rw [I_len]; exact h)
  rw [hg]
  generalize q[i + j] = z at hat
  rw [I_len] at hix
  have hset := I_set q (i + j) (z + a * x)
  generalize hw : I q = w at *
  have hwl : w.length = q.length := by rw [← hw, I_len]
  have hA : dAdd (.int (i : Int)) (.int (j : Int)) = some (.int ((i + j : Nat) : Int)) := by show some (D.int ((i : Int) + (j : Int))) = _; rw [hs]
  have hB : dAdd (.int z) (.int (a * x)) = some (.int (z + a * x)) := rfl
  have hM : dMul (.int a) (.int x) = some (.int (a * x)) := by show (if cMul a x = true then some (D.int (a * x)) else none) = _; rw [if_pos hc]
  have hI : dIx (.lst w) (.int ((i + j : Nat) : Int)) = some (.int z) := hat
  rw [← hset]
  generalize ((i + j : Nat) : Int) = ij at hA hI hix
  unfold lb__law_times_1 mseti
  simp only [ms, mbind, mbin, mvar, res, mret, mopt, List.getElem?_cons_zero, List.getElem?_cons_succ, hA, hB, hM, hI, hix, hwl, List.set_cons_succ, List.set_cons_zero]
theorem li_times1 (fu : Nat) (p o : List Int) (x2 x3 x4 x5 x6 : Sl) : li__law_times_1 fu [.v (.tup (I p)), .v (.lst (I o)), x2, x3, x4, x5, x6] = .ok (enumD (I o)) [.v (.tup (I p)), .v (.lst (I o)), x2, x3, x4, x5, x6] := by
  simp [li__law_times_1, menum, fnD, ms, mseq, mbind, mret, mopt, mbad, mvar, res, strong, strongs, ress, mun, mbin, mbinR, mcb, mcons, mcond, mif, mandV, morV, mnotV, tob, truD, mfld, fldD, putO, mputf, stSet, stSetP, mfrz, mlst, mtup, mslice, mpart, intD, dSl, on1, on2, lenD, absD, TW.intOf, TW.listOf, TW.tupOf, dInt2, dCmp2, dNeg, dIx, dIsN, dNotN, D.isNon, dupFree, argsOf, argOf, Sl.some?, putBack, Opd.isS, Sl.own, Rv.sl, Rv.d, mwalk, walkD, itemsD, mrng, rng1, rng2, rng3, tgName, tgTup, tgCons, tgNil, masg, mpar2, stPar2, isiD, dTy, isiInt, isiBl, isiLst, isiTup, isiObj, or2, nm, List.findIdx?_cons, List.findIdx?_nil]
theorem li_times2 (fu : Nat) (p o : List Int) (x2 x3 x4 x5 x6 : Sl) : li__law_times_2 fu [.v (.tup (I p)), .v (.lst (I o)), x2, x3, x4, x5, x6] = .ok (enumD (I p)) [.v (.tup (I p)), .v (.lst (I o)), x2, x3, x4, x5, x6] := by
  simp [li__law_times_2, menum, fnD, ms, mseq, mbind, mret, mopt, mbad, mvar, res, strong, strongs, ress, mun, mbin, mbinR, mcb, mcons, mcond, mif, mandV, morV, mnotV, tob, truD, mfld, fldD, putO, mputf, stSet, stSetP, mfrz, mlst, mtup, mslice, mpart, intD, dSl, on1, on2, lenD, absD, TW.intOf, TW.listOf, TW.tupOf, dInt2, dCmp2, dNeg, dIx, dIsN, dNotN, D.isNon, dupFree, argsOf, argOf, Sl.some?, putBack, Opd.isS, Sl.own, Rv.sl, Rv.d, mwalk, walkD, itemsD, mrng, rng1, rng2, rng3, tgName, tgTup, tgCons, tgNil, masg, mpar2, stPar2, isiD, dTy, isiInt, isiBl, isiLst, isiTup, isiObj, or2, nm, List.findIdx?_cons, List.findIdx?_nil]
theorem enum_len (q : List Int) : (enumD (I q)).length = q.length := by unfold enumD; simp
theorem ev_lb_times2 (fu : Nat) (p o q : List Int) {i : Nat} {a : Int} (h : i + o.length ≤ q.length) (hc : ∀ x ∈ o, cMul a x = true) (x3 x6 : Sl) :
    ∃ x3' x6', lb__law_times_2 fu [.v (.tup (I p)), .v (.lst (I o)), .l (I q), x3, .v (.int (i : Int)), .v (.int a), x6] = .nx [.v (.tup (I p)), .v (.lst (I o)), .l (I (inn q i a o)), x3', .v (.int (i : Int)), .v (.int a), x6'] := by
  obtain ⟨s', e, q', x3', x6', hs', hl, hq⟩ := for_ok (tm := tgTup 2 (tgCons (tgName 3) (tgCons (tgName 6) tgNil))) (bd := lb__law_times_1 fu) (fun j s => ∃ q' x3 x6, s = [.v (.tup (I p)), .v (.lst (I o)), .l (I q'), x3, .v (.int (i : Int)), .v (.int a), x6] ∧ q'.length = q.length ∧ inn q' (i + j) a (o.drop j) = inn q i a o)
    (li_times1 fu p o (.l (I q)) x3 (.v (.int (i : Int))) (.v (.int a)) x6) ⟨q, x3, x6, rfl, rfl, rfl⟩ fun j x s hj hP => by
    obtain ⟨q', y3, y6, rfl, hl, hq⟩ := hP
    obtain ⟨z, hz, rfl⟩ := enum_I hj
    have hjl : j < o.length := (List.getElem?_eq_some_iff.mp hz).1
    have hzz : o[j] = z := (List.getElem?_eq_some_iff.mp hz).2
    have eb := ev_lb_times1 fu (.tup (I p)) (.lst (I o)) q' (i := i) (j := j) (a := a) (x := z) (by omega) (hc z (by rw [← hzz]; exact List.getElem_mem hjl))
    refine ⟨[.v (.tup (I p)), .v (.lst (I o)), .l (I q'), .v (.int (j : Int)), .v (.int (i : Int)), .v (.int a), .v (.int z)], _, ?_, eb, _, _, _, rfl, by simpa using hl, ?_⟩
    · simp [tgTup, tgCons, tgName, tgNil, itemsD]
    · rw [← hq, List.drop_eq_getElem_cons hjl, hzz]; rfl
  refine ⟨x3', x6', ?_⟩
  rw [enum_len, List.drop_length] at hq
  have hq2 : q' = inn q i a o := hq
  show l__law_times_1 fu _ = _
  unfold l__law_times_1
  rw [e, hs', hq2]
theorem ev_l_times (fu : Nat) (p o : List Int) (hc : ∀ a ∈ p, ∀ x ∈ o, cMul a x = true) : ∃ x3 x4 x5 x6, l__law_times_2 fu [.v (.tup (I p)), .v (.lst (I o)), .l (I (List.replicate (p.length + o.length) 0)), .no, .no, .no, .no] = .nx [.v (.tup (I p)), .v (.lst (I o)), .l (I (out (List.replicate (p.length + o.length) 0) 0 p o)), x3, x4, x5, x6] := by
  obtain ⟨s', e, q', x3', x4', x5', x6', hs', hl, hq⟩ := for_ok (tm := tgTup 2 (tgCons (tgName 4) (tgCons (tgName 5) tgNil))) (bd := lb__law_times_2 fu) (fun i s => ∃ q' x3 x4 x5 x6, s = [.v (.tup (I p)), .v (.lst (I o)), .l (I q'), x3, x4, x5, x6] ∧ q'.length = p.length + o.length ∧ out q' i (p.drop i) o = out (List.replicate (p.length + o.length) 0) 0 p o)
    (li_times2 fu p o (.l (I (List.replicate (p.length + o.length) 0))) .no .no .no .no) ⟨_, .no, .no, .no, .no, rfl, by simp, rfl⟩ fun i x s hi hP => by
    obtain ⟨q', y3, y4, y5, y6, rfl, hl, hq⟩ := hP
    obtain ⟨z, hz, rfl⟩ := enum_I hi
    have hil : i < p.length := (List.getElem?_eq_some_iff.mp hz).1
    have hzz : p[i] = z := (List.getElem?_eq_some_iff.mp hz).2
    obtain ⟨x3', x6', eb⟩ := ev_lb_times2 fu p o q' (i := i) (a := z) (by omega) (hc z (by rw [← hzz]; exact List.getElem_mem hil)) y3 y6
    refine ⟨[.v (.tup (I p)), .v (.lst (I o)), .l (I q'), y3, .v (.int (i : Int)), .v (.int z), y6], _, ?_, eb, _, _, _, _, _, rfl, by rw [inn_len]; exact hl, ?_⟩
    · simp [tgTup, tgCons, tgName, tgNil, itemsD]
    · rw [← hq, List.drop_eq_getElem_cons hil, hzz]; rfl
  rw [enum_len, List.drop_length] at hq
  have hq2 : q' = out (List.replicate (p.length + o.length) 0) 0 p o := hq
  refine ⟨x3', x4', x5', x6', ?_⟩
  unfold l__law_times_2
  rw [e, hs', hq2]
theorem ev_times (fu : Nat) {p o : List Int} (hl : p.length + o.length ≤ 100000) (hc : ∀ a ∈ p, ∀ x ∈ o, cMul a x = true) : ∃ r, IsTrim (out (List.replicate (p.length + o.length) 0) 0 p o) r ∧ d__law_times fu [.v (.tup (I p)), .v (.lst (I o))] = .ret (.v (.tup (I r))) [.v (.tup (I p)), .v (.lst (I o))] := by
  have e1 := ev_c_times fu p o hl
  obtain ⟨x3, x4, x5, x6, e2⟩ := ev_l_times fu p o hc
  obtain ⟨r, hr, e3⟩ := ev_cut fu (p := out (List.replicate (p.length + o.length) 0) 0 p o) (by rw [out_len]; simp; omega)
  refine ⟨r, hr, ?_⟩
  generalize I (out (List.replicate (p.length + o.length) 0) 0 p o) = w at e2 e3
  generalize I (List.replicate (p.length + o.length) 0) = w0 at e1 e2
  generalize I p = P at *
  generalize I o = O at *
  cases x3 <;> cases x4 <;> cases x5 <;> cases x6 <;> simp [d__law_times, b__law_times, mcall, fnD, ms, mseq, mbind, mret, mopt, mbad, mvar, res, strong, strongs, ress, mun, mbin, mbinR, mcb, mcons, mcond, mif, mandV, morV, mnotV, tob, truD, mfld, fldD, putO, mputf, stSet, stSetP, mfrz, mlst, mtup, mslice, mpart, intD, dSl, on1, on2, lenD, absD, TW.intOf, TW.listOf, TW.tupOf, dInt2, dCmp2, dNeg, dIx, dIsN, dNotN, D.isNon, dupFree, argsOf, argOf, Sl.some?, putBack, Opd.isS, Sl.own, Rv.sl, Rv.d, mwalk, walkD, itemsD, mrng, rng1, rng2, rng3, tgName, tgTup, tgCons, tgNil, masg, mpar2, stPar2, isiD, dTy, isiInt, isiBl, isiLst, isiTup, isiObj, or2, nm, List.findIdx?_cons, List.findIdx?_nil, e1, e2, e3]
end K30

set_option linter.all false
set_option autoImplicit false
set_option maxRecDepth 100000
set_option maxHeartbeats 4000000
namespace K30
open PySem TW L2
/-! ### told_right, statement by statement -/
theorem seq_to {f k : MS} {s s' : S} {R : OutS} (h : f s = .nx s') (h2 : k s' = R) : mseq f k s = R := by rw [seq_nx h, h2]
/-- Polynomial(d) is the polynomial r -/
def Mks (fu : Nat) (d : D) (r : List Int) : Prop := d_PolynomialX_initX fu [.o 0 [], .v d] = .ret (.v .non) [.o 0 [.tup (I r), .int ((r.length : Int) - 1)], .v d]
def Abv (fu : Nat) (r : List Int) (x : D) : Prop := d_above_from fu [.v (.obj 0 [.tup (I r), .int ((r.length : Int) - 1)])] = .ret (.v x) [.v (.obj 0 [.tup (I r), .int ((r.length : Int) - 1)])]
theorem ev_told1 (fu : Nat) (J : List D) {d x : D} {r : List Int} (h1 : Mks fu d r) (h2 : Abv fu r x) : st__law_told_right_1 fu [.l J, .v d, .no, .no, .no, .no, .no] = .nx [.l J, .v d, .v x, .no, .no, .no, .no] := by
  unfold Mks Abv at *
  generalize D.int ((r.length : Int) - 1) = y at *
  generalize I r = w at *
  simp [st__law_told_right_1, mcall, mmake, fnD, ms, mseq, mbind, mret, mopt, mbad, mvar, res, strong, strongs, ress, mun, mbin, mbinR, mcb, mcons, mcond, mif, mandV, morV, mnotV, tob, truD, mfld, fldD, putO, mputf, stSet, stSetP, mfrz, mlst, mtup, mslice, mpart, intD, dSl, on1, on2, lenD, absD, TW.intOf, TW.listOf, TW.tupOf, dInt2, dCmp2, dNeg, dIx, dIsN, dNotN, D.isNon, dupFree, argsOf, argOf, Sl.some?, putBack, Opd.isS, Sl.own, Rv.sl, Rv.d, mwalk, walkD, itemsD, mrng, rng1, rng2, rng3, tgName, tgTup, tgCons, tgNil, masg, mpar2, stPar2, isiD, dTy, isiInt, isiBl, isiLst, isiTup, isiObj, or2, nm, List.findIdx?_cons, List.findIdx?_nil, h1, h2]
/-- nothing is told of none, of a last one below 0 -/
theorem ev_told2_none (fu : Nat) (J : List D) {p : List Int} (h : p = [] ∨ p.getLastD 0 < 0) : st__law_told_right_2 fu [.l J, .v (.tup (I p)), .v .non, .no, .no, .no, .no] = .rt (.v (.bl true)) [.l J, .v (.tup (I p)), .v .non, .no, .no, .no, .no] := by
  have h0 := dEq_tup p
  by_cases hp : p = []
  · subst hp
    have h0' : dEq (.tup []) (.tup []) = some (.bl true) := h0
    simp [st__law_told_right_2, fnD, ms, mseq, mbind, mret, mopt, mbad, mvar, res, strong, strongs, ress, mun, mbin, mbinR, mcb, mcons, mcond, mif, mandV, morV, mnotV, tob, truD, mfld, fldD, putO, mputf, stSet, stSetP, mfrz, mlst, mtup, mslice, mpart, intD, dSl, on1, on2, lenD, absD, TW.intOf, TW.listOf, TW.tupOf, dInt2, dCmp2, dNeg, dIx, dIsN, dNotN, D.isNon, dupFree, argsOf, argOf, Sl.some?, putBack, Opd.isS, Sl.own, Rv.sl, Rv.d, mwalk, walkD, itemsD, mrng, rng1, rng2, rng3, tgName, tgTup, tgCons, tgNil, masg, mpar2, stPar2, isiD, dTy, isiInt, isiBl, isiLst, isiTup, isiObj, or2, nm, List.findIdx?_cons, List.findIdx?_nil, h0']
  · have he : p.isEmpty = false := by cases p; exact absurd rfl hp; rfl
    have hm := atI_m1I hp
    have hl : p.getLastD 0 < 0 := by rcases h with h | h; exact absurd h hp; exact h
    rw [he] at h0
    generalize p.getLastD 0 = l at *
    generalize I p = w at *
    simp [st__law_told_right_2, fnD, ms, mseq, mbind, mret, mopt, mbad, mvar, res, strong, strongs, ress, mun, mbin, mbinR, mcb, mcons, mcond, mif, mandV, morV, mnotV, tob, truD, mfld, fldD, putO, mputf, stSet, stSetP, mfrz, mlst, mtup, mslice, mpart, intD, dSl, on1, on2, lenD, absD, TW.intOf, TW.listOf, TW.tupOf, dInt2, dCmp2, dNeg, dIx, dIsN, dNotN, D.isNon, dupFree, argsOf, argOf, Sl.some?, putBack, Opd.isS, Sl.own, Rv.sl, Rv.d, mwalk, walkD, itemsD, mrng, rng1, rng2, rng3, tgName, tgTup, tgCons, tgNil, masg, mpar2, stPar2, isiD, dTy, isiInt, isiBl, isiLst, isiTup, isiObj, or2, nm, List.findIdx?_cons, List.findIdx?_nil, h0, hm, hl]
theorem ev_told2 (fu : Nat) (J : List D) {p : List Int} (hp : p ≠ []) (hl : 0 < p.getLastD 0) (t : Int) : st__law_told_right_2 fu [.l J, .v (.tup (I p)), .v (.int t), .no, .no, .no, .no] = .nx [.l J, .v (.tup (I p)), .v (.int t), .no, .no, .no, .no] := by
  have h0 := dEq_tup p
  have he : p.isEmpty = false := by cases p; exact absurd rfl hp; rfl
  have hm := atI_m1I hp
  rw [he] at h0
  have hl' : ¬ p.getLastD 0 < 0 := by omega
  generalize p.getLastD 0 = l at *
  generalize I p = w at *
  simp [st__law_told_right_2, fnD, ms, mseq, mbind, mret, mopt, mbad, mvar, res, strong, strongs, ress, mun, mbin, mbinR, mcb, mcons, mcond, mif, mandV, morV, mnotV, tob, truD, mfld, fldD, putO, mputf, stSet, stSetP, mfrz, mlst, mtup, mslice, mpart, intD, dSl, on1, on2, lenD, absD, TW.intOf, TW.listOf, TW.tupOf, dInt2, dCmp2, dNeg, dIx, dIsN, dNotN, D.isNon, dupFree, argsOf, argOf, Sl.some?, putBack, Opd.isS, Sl.own, Rv.sl, Rv.d, mwalk, walkD, itemsD, mrng, rng1, rng2, rng3, tgName, tgTup, tgCons, tgNil, masg, mpar2, stPar2, isiD, dTy, isiInt, isiBl, isiLst, isiTup, isiObj, or2, nm, List.findIdx?_cons, List.findIdx?_nil, h0, hm, hl']
theorem ev_told3 (fu : Nat) (J : List D) {p : List Int} {t : Int} (hlen : p.length ≤ 1000) (ht : 2 ≤ t) (h1 : Mks fu (.lst (I p ++ [.int 0])) p) (h2 : Abv fu p (.int t)) : st__law_told_right_3 fu [.l J, .v (.tup (I p)), .v (.int t), .no, .no, .no, .no] = .nx [.l J, .v (.tup (I p)), .v (.int t), .no, .no, .no, .no] := by
  unfold Mks Abv at *
  have ht' : ¬ t < 2 := by omega
  have hw : (I p).length ≤ 15999999 := by rw [I_len]; omega
  generalize D.int ((p.length : Int) - 1) = y at *
  generalize I p = w at *
  simp [st__law_told_right_3, mcall, mmake, dCat, fnD, ms, mseq, mbind, mret, mopt, mbad, mvar, res, strong, strongs, ress, mun, mbin, mbinR, mcb, mcons, mcond, mif, mandV, morV, mnotV, tob, truD, mfld, fldD, putO, mputf, stSet, stSetP, mfrz, mlst, mtup, mslice, mpart, intD, dSl, on1, on2, lenD, absD, TW.intOf, TW.listOf, TW.tupOf, dInt2, dCmp2, dNeg, dIx, dIsN, dNotN, D.isNon, dupFree, argsOf, argOf, Sl.some?, putBack, Opd.isS, Sl.own, Rv.sl, Rv.d, mwalk, walkD, itemsD, mrng, rng1, rng2, rng3, tgName, tgTup, tgCons, tgNil, masg, mpar2, stPar2, isiD, dTy, isiInt, isiBl, isiLst, isiTup, isiObj, or2, nm, List.findIdx?_cons, List.findIdx?_nil, h1, h2, ht', hw, dNe_int]
theorem ev_told4 (fu : Nat) (J : List D) {p : List Int} {t : Int} {k kb : Nat} (S : SmallM k kb p t) (S' : SmallM k kb p (t - 1)) (hL : Least p t) : st__law_told_right_4 fu [.l J, .v (.tup (I p)), .v (.int t), .no, .no, .no, .no] = .nx [.l J, .v (.tup (I p)), .v (.int t), .no, .no, .no, .no] := by
  have e1 := ev_law_is_above fu S
  rw [decide_eq_true hL.1] at e1
  have e2 := ev_law_is_above fu S'
  by_cases h2 : 2 < t
  · rw [decide_eq_false (hL.2.2 (t - 1) (by omega) (by omega))] at e2
    generalize I p = w at *
    simp [st__law_told_right_4, mcall, fnD, ms, mseq, mbind, mret, mopt, mbad, mvar, res, strong, strongs, ress, mun, mbin, mbinR, mcb, mcons, mcond, mif, mandV, morV, mnotV, tob, truD, mfld, fldD, putO, mputf, stSet, stSetP, mfrz, mlst, mtup, mslice, mpart, intD, dSl, on1, on2, lenD, absD, TW.intOf, TW.listOf, TW.tupOf, dInt2, dCmp2, dNeg, dIx, dIsN, dNotN, D.isNon, dupFree, argsOf, argOf, Sl.some?, putBack, Opd.isS, Sl.own, Rv.sl, Rv.d, mwalk, walkD, itemsD, mrng, rng1, rng2, rng3, tgName, tgTup, tgCons, tgNil, masg, mpar2, stPar2, isiD, dTy, isiInt, isiBl, isiLst, isiTup, isiObj, or2, nm, List.findIdx?_cons, List.findIdx?_nil, e1, e2, h2]
  · generalize I p = w at *
    simp [st__law_told_right_4, mcall, fnD, ms, mseq, mbind, mret, mopt, mbad, mvar, res, strong, strongs, ress, mun, mbin, mbinR, mcb, mcons, mcond, mif, mandV, morV, mnotV, tob, truD, mfld, fldD, putO, mputf, stSet, stSetP, mfrz, mlst, mtup, mslice, mpart, intD, dSl, on1, on2, lenD, absD, TW.intOf, TW.listOf, TW.tupOf, dInt2, dCmp2, dNeg, dIx, dIsN, dNotN, D.isNon, dupFree, argsOf, argOf, Sl.some?, putBack, Opd.isS, Sl.own, Rv.sl, Rv.d, mwalk, walkD, itemsD, mrng, rng1, rng2, rng3, tgName, tgTup, tgCons, tgNil, masg, mpar2, stPar2, isiD, dTy, isiInt, isiBl, isiLst, isiTup, isiObj, or2, nm, List.findIdx?_cons, List.findIdx?_nil, e1, h2]
theorem hd_val (m : Int) (p : List Int) : hd (T m p) = val m p := hd_T m p
/-- far beyond: the value is above 0, and all coefficients are -/
theorem ev_ct_far (fu : Nat) (J : List D) {p : List Int} {t f : Int} {k kb : Nat} (S : SmallM k kb p (t + f)) (hA : Ab p t) (hf : 0 ≤ f) : ct__law_told_right_1 fu [.l J, .v (.tup (I p)), .v (.int t), .v (.int f), .no, .no, .no] = .ok false [.l J, .v (.tup (I p)), .v (.int t), .v (.int f), .no, .no, .no] := by
  have hA' := hA.add hf
  have e1 := ev_law_is_above fu S
  rw [decide_eq_true hA'] at e1
  have e2 := ev_worth fu S.mb S.kb1 S.bits (by have := S.sz; omega)
  have hv : ¬ val (t + f) p ≤ 0 := by have := hA'.1; rw [hd_val] at this; omega
  generalize val (t + f) p = v at e2 hv
  generalize hm : t + f = m at *
  generalize I p = w at *
  simp [ct__law_told_right_1, mcall, fnD, ms, mseq, mbind, mret, mopt, mbad, mvar, res, strong, strongs, ress, mun, mbin, mbinR, mcb, mcons, mcond, mif, mandV, morV, mnotV, tob, truD, mfld, fldD, putO, mputf, stSet, stSetP, mfrz, mlst, mtup, mslice, mpart, intD, dSl, on1, on2, lenD, absD, TW.intOf, TW.listOf, TW.tupOf, dInt2, dCmp2, dNeg, dIx, dIsN, dNotN, D.isNon, dupFree, argsOf, argOf, Sl.some?, putBack, Opd.isS, Sl.own, Rv.sl, Rv.d, mwalk, walkD, itemsD, mrng, rng1, rng2, rng3, tgName, tgTup, tgCons, tgNil, masg, mpar2, stPar2, isiD, dTy, isiInt, isiBl, isiLst, isiTup, isiObj, or2, nm, List.findIdx?_cons, List.findIdx?_nil, hm, e1, e2, hv]
theorem ev_told5 (fu : Nat) {cs : List Int} {tt n κ : Nat} {r : Int} (Jg : Jug κ cs tt r n) (hn : n ≤ 900000) (hcl : cs.length ≤ 59) {p : List Int} {t : Int} {k kb : Nat} (S : ∀ f : Int, 0 ≤ f → f ≤ 1000000000000 → SmallM k kb p (t + f)) (hA : Ab p t) :
    ∃ (t' : Nat) (r' : Int), Jug κ cs t' r' (n + 1) ∧ st__law_told_right_5 fu [.l (jug cs tt r), .v (.tup (I p)), .v (.int t), .no, .no, .no, .no] = .nx [.l (jug cs t' r'), .v (.tup (I p)), .v (.int t), .no, .no, .no, .no] := by
  obtain ⟨y, t', r', y0, y1, J', e⟩ := ev_pour fu Jg hn (m := 100) (by omega) (by omega) hcl
  have p12 : cPow 10 12 = true := by decide +kernel
  refine ⟨t', r', J', ?_⟩
  have hm : ci__law_told_right_1 fu [.l (jug cs tt r), .v (.tup (I p)), .v (.int t), .no, .no, .no, .no] = .ok [.int 0, .int 1, .int y, .int 1000000000000] [.l (jug cs t' r'), .v (.tup (I p)), .v (.int t), .no, .no, .no, .no] := by
    generalize jug cs tt r = j1 at *
    generalize jug cs t' r' = j2 at *
    generalize I p = w at *
    simp [ci__law_told_right_1, mcall, fnD, ms, mseq, mbind, mret, mopt, mbad, mvar, res, strong, strongs, ress, mun, mbin, mbinR, mcb, mcons, mcond, mif, mandV, morV, mnotV, tob, truD, mfld, fldD, putO, mputf, stSet, stSetP, mfrz, mlst, mtup, mslice, mpart, intD, dSl, on1, on2, lenD, absD, TW.intOf, TW.listOf, TW.tupOf, dInt2, dCmp2, dNeg, dIx, dIsN, dNotN, D.isNon, dupFree, argsOf, argOf, Sl.some?, putBack, Opd.isS, Sl.own, Rv.sl, Rv.d, mwalk, walkD, itemsD, mrng, rng1, rng2, rng3, tgName, tgTup, tgCons, tgNil, masg, mpar2, stPar2, isiD, dTy, isiInt, isiBl, isiLst, isiTup, isiObj, or2, nm, List.findIdx?_cons, List.findIdx?_nil, e, p12]
  have hc : c__law_told_right_1 fu [.l (jug cs tt r), .v (.tup (I p)), .v (.int t), .no, .no, .no, .no] = .ok (.l []) [.l (jug cs t' r'), .v (.tup (I p)), .v (.int t), .no, .no, .no, .no] := by
    unfold c__law_told_right_1 mlc; rw [mb_k hm]
    rw [if_pos (by rfl)]
    have step : ∀ (f : Int) (ds acc : List D), 0 ≤ f → f ≤ 1000000000000 → compD [3] (tgName 3) (ct__law_told_right_1 fu) (ce__law_told_right_1 fu) (.int f :: ds) acc [.l (jug cs t' r'), .v (.tup (I p)), .v (.int t), .no, .no, .no, .no] = compD [3] (tgName 3) (ct__law_told_right_1 fu) (ce__law_told_right_1 fu) ds acc [.l (jug cs t' r'), .v (.tup (I p)), .v (.int t), .no, .no, .no, .no] := fun f ds acc h0 h1 => by
      have ec := ev_ct_far fu (jug cs t' r') (S f h0 h1) hA h0
      conv => lhs; unfold compD
      show (match ct__law_told_right_1 fu [.l (jug cs t' r'), .v (.tup (I p)), .v (.int t), .v (.int f), .no, .no, .no] with | .ok true s2 => _ | .ok false s2 => _ | _ => _) = _
      rw [ec]
      rfl
    show (match compD [3] (tgName 3) (ct__law_told_right_1 fu) (ce__law_told_right_1 fu) [.int 0, .int 1, .int y, .int 1000000000000] [] [.l (jug cs t' r'), .v (.tup (I p)), .v (.int t), .no, .no, .no, .no] with | .ok acc s' => _ | _ => _) = _
    rw [step 0 _ _ (by omega) (by omega), step 1 _ _ (by omega) (by omega), step y _ _ y0 (by omega), step _ _ _ (by omega) (by omega)]
    rfl
  have h0 : dNe (.lst []) (.lst []) = some (.bl false) := dNe_lst []
  generalize jug cs tt r = j1 at *
  generalize jug cs t' r' = j2 at *
  generalize I p = w at *
  simp [st__law_told_right_5, fnD, ms, mseq, mbind, mret, mopt, mbad, mvar, res, strong, strongs, ress, mun, mbin, mbinR, mcb, mcons, mcond, mif, mandV, morV, mnotV, tob, truD, mfld, fldD, putO, mputf, stSet, stSetP, mfrz, mlst, mtup, mslice, mpart, intD, dSl, on1, on2, lenD, absD, TW.intOf, TW.listOf, TW.tupOf, dInt2, dCmp2, dNeg, dIx, dIsN, dNotN, D.isNon, dupFree, argsOf, argOf, Sl.some?, putBack, Opd.isS, Sl.own, Rv.sl, Rv.d, mwalk, walkD, itemsD, mrng, rng1, rng2, rng3, tgName, tgTup, tgCons, tgNil, masg, mpar2, stPar2, isiD, dTy, isiInt, isiBl, isiLst, isiTup, isiObj, or2, nm, List.findIdx?_cons, List.findIdx?_nil, hc, h0]
end K30

set_option linter.all false
set_option autoImplicit false
set_option maxRecDepth 100000
set_option maxHeartbeats 4000000
namespace K30
open PySem TW L2
theorem ev_told6 (fu : Nat) {cs : List Int} {tt n κ : Nat} {r : Int} (Jg : Jug κ cs tt r n) (hn : n ≤ 800000) (hcl : cs.length ≤ 59) (d : D) {t : Int} (hc : cMul 2 t = true) :
    ∃ (t' : Nat) (r' th z : Int), Jug κ cs t' r' (n + 2) ∧ 1 ≤ th ∧ th ≤ 5 ∧ (z = 0 ∨ z = 1 ∨ z = t ∨ z = 2 * t) ∧
      st__law_told_right_6 fu [.l (jug cs tt r), .v d, .v (.int t), .no, .no, .no, .no] = .nx [.l (jug cs t' r'), .v d, .v (.int t), .no, .v (.int (1 + th - 1)), .v (.int (t - z)), .no] := by
  obtain ⟨y, t1, r1, y0, y1, J1, e1⟩ := ev_pour fu Jg (by omega) (m := 5) (by omega) (by omega) hcl
  obtain ⟨dz, t2, r2, hd2, J2, e2⟩ := ev_of fu J1 (by omega) hcl (ds := [.int 0, .int 1, .int t, .int (2 * t)]) (by simp) (by simp)
  have hz : ∃ z, dz = .int z ∧ (z = 0 ∨ z = 1 ∨ z = t ∨ z = 2 * t) := by
    simp only [List.mem_cons, List.not_mem_nil, or_false] at hd2
    rcases hd2 with rfl | rfl | rfl | rfl
    · exact ⟨_, rfl, .inl rfl⟩
    · exact ⟨_, rfl, .inr (.inl rfl)⟩
    · exact ⟨_, rfl, .inr (.inr (.inl rfl))⟩
    · exact ⟨_, rfl, .inr (.inr (.inr rfl))⟩
  obtain ⟨z, rfl, hz⟩ := hz
  refine ⟨t2, r2, y + 1, z, J2, by omega, by omega, hz, ?_⟩
  have e3 : 1 + (y + 1) - 1 = 1 + y := by omega
  rw [e3]
  generalize jug cs tt r = j1 at *
  generalize jug cs t1 r1 = j2 at *
  generalize jug cs t2 r2 = j3 at *
  simp [st__law_told_right_6, mcall, fnD, ms, mseq, mbind, mret, mopt, mbad, mvar, res, strong, strongs, ress, mun, mbin, mbinR, mcb, mcons, mcond, mif, mandV, morV, mnotV, tob, truD, mfld, fldD, putO, mputf, stSet, stSetP, mfrz, mlst, mtup, mslice, mpart, intD, dSl, on1, on2, lenD, absD, TW.intOf, TW.listOf, TW.tupOf, dInt2, dCmp2, dNeg, dIx, dIsN, dNotN, D.isNon, dupFree, argsOf, argOf, Sl.some?, putBack, Opd.isS, Sl.own, Rv.sl, Rv.d, mwalk, walkD, itemsD, mrng, rng1, rng2, rng3, tgName, tgTup, tgCons, tgNil, masg, mpar2, stPar2, isiD, dTy, isiInt, isiBl, isiLst, isiTup, isiObj, or2, nm, List.findIdx?_cons, List.findIdx?_nil, e1, e2, hc]
theorem ev_c_told7 (fu : Nat) (J : List D) {p : List Int} (hl : p.length ≤ 1000) (t th b : Int) (hc : ∀ x ∈ p, cMul th x = true) :
    c__law_told_right_2 fu [.l J, .v (.tup (I p)), .v (.int t), .no, .v (.int th), .v (.int b), .no] = .ok (.l (I (p.map (th * ·)))) [.l J, .v (.tup (I p)), .v (.int t), .no, .v (.int th), .v (.int b), .no] := by
  have hm : ci__law_told_right_2 fu [.l J, .v (.tup (I p)), .v (.int t), .no, .v (.int th), .v (.int b), .no] = .ok (I p) [.l J, .v (.tup (I p)), .v (.int t), .no, .v (.int th), .v (.int b), .no] := by
    simp [ci__law_told_right_2, fnD, ms, mseq, mbind, mret, mopt, mbad, mvar, res, strong, strongs, ress, mun, mbin, mbinR, mcb, mcons, mcond, mif, mandV, morV, mnotV, tob, truD, mfld, fldD, putO, mputf, stSet, stSetP, mfrz, mlst, mtup, mslice, mpart, intD, dSl, on1, on2, lenD, absD, TW.intOf, TW.listOf, TW.tupOf, dInt2, dCmp2, dNeg, dIx, dIsN, dNotN, D.isNon, dupFree, argsOf, argOf, Sl.some?, putBack, Opd.isS, Sl.own, Rv.sl, Rv.d, mwalk, walkD, itemsD, mrng, rng1, rng2, rng3, tgName, tgTup, tgCons, tgNil, masg, mpar2, stPar2, isiD, dTy, isiInt, isiBl, isiLst, isiTup, isiObj, or2, nm, List.findIdx?_cons, List.findIdx?_nil]
  obtain ⟨acc, s', e, ⟨hs, ha⟩, _⟩ := comp_ok (vs := [6]) (tm := tgName 6) (tt := ct__law_told_right_2 fu) (te := ce__law_told_right_2 fu) (fun i acc s => s = [.l J, .v (.tup (I p)), .v (.int t), .no, .v (.int th), .v (.int b), .no] ∧ acc = I ((p.take i).map (th * ·))) (I p) 0 [] [.l J, .v (.tup (I p)), .v (.int t), .no, .v (.int th), .v (.int b), .no] ⟨rfl, rfl⟩ (by rw [I_len]; simp; omega) fun j x acc s hj hP => by
    obtain ⟨rfl, rfl⟩ := hP
    obtain ⟨z, hz, rfl⟩ := I_at hj
    rw [Nat.zero_add]
    have hjl : j < p.length := (List.getElem?_eq_some_iff.mp hz).1
    have hzz : p[j] = z := (List.getElem?_eq_some_iff.mp hz).2
    have hcc := hc z (by rw [← hzz]; exact List.getElem_mem hjl)
    have hte : ce__law_told_right_2 fu [.l J, .v (.tup (I p)), .v (.int t), .no, .v (.int th), .v (.int b), .v (.int z)] = .ok (.int (th * z)) [.l J, .v (.tup (I p)), .v (.int t), .no, .v (.int th), .v (.int b), .v (.int z)] := by
      simp [ce__law_told_right_2, fnD, ms, mseq, mbind, mret, mopt, mbad, mvar, res, strong, strongs, ress, mun, mbin, mbinR, mcb, mcons, mcond, mif, mandV, morV, mnotV, tob, truD, mfld, fldD, putO, mputf, stSet, stSetP, mfrz, mlst, mtup, mslice, mpart, intD, dSl, on1, on2, lenD, absD, TW.intOf, TW.listOf, TW.tupOf, dInt2, dCmp2, dNeg, dIx, dIsN, dNotN, D.isNon, dupFree, argsOf, argOf, Sl.some?, putBack, Opd.isS, Sl.own, Rv.sl, Rv.d, mwalk, walkD, itemsD, mrng, rng1, rng2, rng3, tgName, tgTup, tgCons, tgNil, masg, mpar2, stPar2, isiD, dTy, isiInt, isiBl, isiLst, isiTup, isiObj, or2, nm, List.findIdx?_cons, List.findIdx?_nil, hcc]
    exact ⟨_, true, _, rfl, rfl, .inr ⟨_, _, rfl, hte, rfl, rfl, by rw [List.take_succ_eq_append_getElem hjl, hzz]; simp⟩⟩
  subst hs; subst ha
  unfold c__law_told_right_2 mlc; rw [mb_k hm]
  rw [if_pos (by rfl)]
  have e' : compD [6] (tgName 6) (ct__law_told_right_2 fu) (ce__law_told_right_2 fu) (I p) [] (wipeS [.l J, .v (.tup (I p)), .v (.int t), .no, .v (.int th), .v (.int b), .no] [6]) = .ok (I ((p.take (0 + (I p).length)).map (th * ·))) [.l J, .v (.tup (I p)), .v (.int t), .no, .v (.int th), .v (.int b), .no] := e
  rw [e', Nat.zero_add, I_len, List.take_length]; rfl
theorem ev_told7 (fu : Nat) (J : List D) {p : List Int} (hl : p.length ≤ 1000) (t th b : Int) (hc : ∀ x ∈ p, cMul th x = true) (h1 : Mks fu (.lst (I (p.map (th * ·)))) (p.map (th * ·))) (h2 : Abv fu (p.map (th * ·)) (.int t)) :
    st__law_told_right_7 fu [.l J, .v (.tup (I p)), .v (.int t), .no, .v (.int th), .v (.int b), .no] = .nx [.l J, .v (.tup (I p)), .v (.int t), .no, .v (.int th), .v (.int b), .no] := by
  have ec := ev_c_told7 fu J hl t th b hc
  unfold Mks Abv at *
  generalize p.map (th * ·) = q at *
  generalize D.int ((q.length : Int) - 1) = y at *
  generalize I q = w at *
  generalize I p = w2 at *
  simp [st__law_told_right_7, mcall, mmake, fnD, ms, mseq, mbind, mret, mopt, mbad, mvar, res, strong, strongs, ress, mun, mbin, mbinR, mcb, mcons, mcond, mif, mandV, morV, mnotV, tob, truD, mfld, fldD, putO, mputf, stSet, stSetP, mfrz, mlst, mtup, mslice, mpart, intD, dSl, on1, on2, lenD, absD, TW.intOf, TW.listOf, TW.tupOf, dInt2, dCmp2, dNeg, dIx, dIsN, dNotN, D.isNon, dupFree, argsOf, argOf, Sl.some?, putBack, Opd.isS, Sl.own, Rv.sl, Rv.d, mwalk, walkD, itemsD, mrng, rng1, rng2, rng3, tgName, tgTup, tgCons, tgNil, masg, mpar2, stPar2, isiD, dTy, isiInt, isiBl, isiLst, isiTup, isiObj, or2, nm, List.findIdx?_cons, List.findIdx?_nil, ec, h1, h2, dNe_int]
theorem ev_told8 (fu : Nat) (J : List D) {p r : List Int} (t th b : Int) {t8 : Int} (h0 : d__law_times fu [.v (.tup (I p)), .v (.lst (I [1 - b, 1]))] = .ret (.v (.tup (I r))) [.v (.tup (I p)), .v (.lst (I [1 - b, 1]))]) (h1 : Mks fu (.tup (I r)) r) (h2 : Abv fu r (.int t8)) (h8 : t8 ≤ t) :
    st__law_told_right_8 fu [.l J, .v (.tup (I p)), .v (.int t), .no, .v (.int th), .v (.int b), .no] = .rt (.v (.bl true)) [.l J, .v (.tup (I p)), .v (.int t), .no, .v (.int th), .v (.int b), .no] := by
  unfold Mks Abv at *
  have h0' : d__law_times fu [.v (.tup (I p)), .v (.lst [.int (1 - b), .int 1])] = .ret (.v (.tup (I r))) [.v (.tup (I p)), .v (.lst [.int (1 - b), .int 1])] := h0
  generalize D.int ((r.length : Int) - 1) = y at *
  generalize I r = w at *
  generalize I p = w2 at *
  simp [st__law_told_right_8, mcall, mmake, fnD, ms, mseq, mbind, mret, mopt, mbad, mvar, res, strong, strongs, ress, mun, mbin, mbinR, mcb, mcons, mcond, mif, mandV, morV, mnotV, tob, truD, mfld, fldD, putO, mputf, stSet, stSetP, mfrz, mlst, mtup, mslice, mpart, intD, dSl, on1, on2, lenD, absD, TW.intOf, TW.listOf, TW.tupOf, dInt2, dCmp2, dNeg, dIx, dIsN, dNotN, D.isNon, dupFree, argsOf, argOf, Sl.some?, putBack, Opd.isS, Sl.own, Rv.sl, Rv.d, mwalk, walkD, itemsD, mrng, rng1, rng2, rng3, tgName, tgTup, tgCons, tgNil, masg, mpar2, stPar2, isiD, dTy, isiInt, isiBl, isiLst, isiTup, isiObj, or2, nm, List.findIdx?_cons, List.findIdx?_nil, h0', h1, h2, h8]
end K30

set_option linter.all false
set_option autoImplicit false
set_option maxRecDepth 100000
set_option maxHeartbeats 4000000
set_option exponentiation.threshold 2000
namespace K30
open PySem TW L2
/-- a row of the law: its size -/
structure Row (p : List Int) : Prop where
  len : p.length ≤ 20
  bits : bdl 400 p
  trim : p = [] ∨ p.getLastD 0 ≠ 0
theorem mks_of (fu : Nat) {d : D} {q r : List Int} (h : isRow d q) (ht : IsTrim q r) (hl : q.length ≤ 1000) (hf : 1000 < fu) : Mks fu d r := by
  obtain ⟨r', ht', e⟩ := ev_init fu h (by omega) (by omega)
  rw [ht.uniq ht']; exact e
theorem small_of {k : Nat} {p : List Int} (hl : p.length ≤ 30) (hb : bdl k p) (hk : k ≤ 1000) : Small k p := by
  refine ⟨by omega, hb, ?_⟩
  have h1 : p.length * p.length ≤ 30 * 30 := Nat.mul_le_mul hl hl
  have h2 : p.length * p.length * (k + 3) ≤ 30 * 30 * 1003 := Nat.mul_le_mul h1 (by omega)
  have h3 : p.length * (k + 3) ≤ 30 * 1003 := Nat.mul_le_mul hl (by omega)
  omega
theorem abv_of (fu : Nat) {k : Nat} {r : List Int} (hl : r.length ≤ 30) (hb : bdl k r) (hk : k ≤ 1000) (hne : r ≠ []) (h0 : 0 < r.getLastD 0) (hf : 2 ^ (k + 3) < fu) : ∃ t, Least r t ∧ bd (k + 2) t ∧ Abv fu r (.int t) := by
  rcases ev_above_from fu (small_of hl hb hk) (.inr (by omega)) hf with ⟨h, _⟩ | ⟨_, _, t, h1, h2, h3⟩
  · rcases h with h | h
    · exact absurd h hne
    · omega
  · exact ⟨t, h1, h2, h3⟩
theorem smallM_of {k kb : Nat} {p : List Int} {m : Int} (hl : p.length ≤ 30) (hb : bdl k p) (hk : k ≤ 1000) (hm : bd kb m) (h1 : 1 ≤ kb) (h2 : kb ≤ 1000) : SmallM k kb p m := by
  refine ⟨by omega, hb, hm, h1, ?_⟩
  have h3 : (p.length + 1) * kb ≤ 31 * 1000 := Nat.mul_le_mul (by omega) h2
  omega
theorem mx_last (b : Int) : ∀ (q : List Int) (a : Int), q ≠ [] → (mx b a q).getLastD 0 = q.getLastD 0
  | [x], a, _ => by simp [mx]
  | x :: y :: r, a, _ => by
    have ih := mx_last b (y :: r) x (by simp)
    show ((a + b * x) :: mx b x (y :: r)).getLastD 0 = _
    have e : mx b x (y :: r) ≠ [] := mx_ne _ _ _
    generalize mx b x (y :: r) = w at *
    cases w with
    | nil => exact absurd rfl e
    | cons u w => simpa [List.getLastD] using ih
theorem map_last (c : Int) : ∀ (q : List Int), q ≠ [] → (q.map (c * ·)).getLastD 0 = c * q.getLastD 0
  | [x], _ => by simp
  | x :: y :: r, _ => by
    have ih := map_last c (y :: r) (by simp)
    simpa [List.getLastD] using ih
theorem ev_told_right (fu : Nat) (hf : 2 ^ 1003 < fu) {cs : List Int} {tt n κ : Nat} {r : Int} (Jg : Jug κ cs tt r n) (hn : n ≤ 700000) (hcl : cs.length ≤ 59) {p : List Int} (R : Row p) :
    ∃ (t' : Nat) (r' : Int), Jug κ cs t' r' (n + 3) ∧ d__law_told_right fu [.l (jug cs tt r), .v (.tup (I p))] = .ret (.v (.bl true)) [.l (jug cs t' r'), .v (.tup (I p))] := by
  have hpow : ∀ k, k ≤ 1000 → 2 ^ (k + 3) < fu := fun k hk => Nat.lt_of_le_of_lt (Nat.pow_le_pow_right (by decide) (by omega)) hf
  have hf2 : 1000 < fu := by
    have := hpow 10 (by omega)
    have e : 2 ^ (10 + 3) = 8192 := by decide
    omega
  have hlen := R.len
  have M1 : Mks fu (.tup (I p)) p := mks_of fu (.inl rfl) (IsTrim.of R.trim) (by omega) hf2
  have S400 := small_of (k := 400) (p := p) (by omega) R.bits (by omega)
  have body : ∀ s, (∃ x2 x3 x4 x5 x6 t' r', Jug κ cs t' r' (n + 3) ∧ b__law_told_right fu [.l (jug cs tt r), .v (.tup (I p)), .no, .no, .no, .no, .no] = .rt (.v (.bl true)) [.l (jug cs t' r'), .v (.tup (I p)), x2, x3, x4, x5, x6]) → s = () → ∃ (t' : Nat) (r' : Int), Jug κ cs t' r' (n + 3) ∧ d__law_told_right fu [.l (jug cs tt r), .v (.tup (I p))] = .ret (.v (.bl true)) [.l (jug cs t' r'), .v (.tup (I p))] := fun s ⟨x2, x3, x4, x5, x6, t', r', hJ, e⟩ _ => by
    refine ⟨t', r', hJ, ?_⟩
    clear hpow hf
    generalize jug cs tt r = j1 at *
    generalize jug cs t' r' = j2 at *
    generalize I p = w at *
    simp [d__law_told_right, fnD, e]
  refine body () ?_ rfl
  rcases ev_above_from fu S400 R.trim (hpow 400 (by omega)) with ⟨h, e⟩ | ⟨hne, hl, t, hL, hbt, e⟩
  · refine ⟨.v .non, .no, .no, .no, .no, tt, r, ⟨Jg.kap, Jg.cells, by have := Jg.turn; omega, Jg.left, Jg.bits⟩, ?_⟩
    unfold b__law_told_right
    refine seq_to (ev_told1 fu _ M1 e) ?_
    exact seq_rt (ev_told2_none fu _ h)
  · have A1 : Abv fu p (.int t) := e
    have M2 : Mks fu (.lst (I p ++ [.int 0])) p := mks_of fu (q := p ++ [0]) (.inr (by simp)) ⟨⟨1, rfl⟩, R.trim⟩ (by simp; omega) hf2
    have bt : ∀ f : Int, -1 ≤ f → f ≤ 1000000000000 → bd 450 (t + f) := fun f h1 h2 => by
      have bf : bd 42 f := by unfold bd; omega
      exact bd.add hbt bf (by omega) (by omega)
    have SM : ∀ f : Int, -1 ≤ f → f ≤ 1000000000000 → SmallM 400 450 p (t + f) := fun f h1 h2 => smallM_of (by omega) R.bits (by omega) (bt f h1 h2) (by omega) (by omega)
    have SM0 : SmallM 400 450 p t := by have := SM 0 (by omega) (by omega); rwa [Int.add_zero] at this
    have SMm : SmallM 400 450 p (t - 1) := SM (-1) (by omega) (by omega)
    obtain ⟨t1, r1, J1, e5⟩ := ev_told5 fu Jg (by omega) hcl (k := 400) (kb := 450) (fun f h1 h2 => SM f (by omega) h2) hL.1
    obtain ⟨t2, r2, th, z, J2, th1, th5, hz, e6⟩ := ev_told6 fu J1 (by omega) hcl (.tup (I p)) (t := t) (bd.cMul (j := 2) (by unfold bd; decide) hbt (by omega))
    have ht2 := hL.2.1
    have hz0 : 0 ≤ z := by rcases hz with h | h | h | h <;> omega
    have bz : bd 404 z := by
      have b1 : bd 403 (2 * t) := by
        have := bd.add hbt hbt (m := 403) (by omega) (by omega)
        rwa [show t + t = 2 * t by omega] at this
      exact (bd_le b1 hz0 (by rcases hz with h | h | h | h <;> omega)).mono (by omega)
    have hthe : 1 + th - 1 = th := by omega
    rw [hthe] at e6
    -- times a number
    have bth : bd 3 th := by unfold bd; omega
    have cth : ∀ x ∈ p, cMul th x = true := fun x hx => bth.cMul (R.bits x hx) (by omega)
    have bq : bdl 403 (p.map (th * ·)) := fun x hx => by
      obtain ⟨y, hy, rfl⟩ := List.mem_map.mp hx
      exact (bth.mul (R.bits y hy)).mono (by omega)
    have lq : 0 < (p.map (th * ·)).getLastD 0 := by rw [map_last th p hne]; exact Int.mul_pos (by omega) hl
    have nq : p.map (th * ·) ≠ [] := by simpa using hne
    obtain ⟨tq, Lq, _, Aq⟩ := abv_of fu (r := p.map (th * ·)) (by simp; omega) bq (by omega) nq lq (hpow 403 (by omega))
    have Lq' : Least p tq := ⟨(Ab_smul (by omega)).mp Lq.1, Lq.2.1, fun m h1 h2 h3 => Lq.2.2 m h1 h2 ((Ab_smul (by omega)).mpr h3)⟩
    have etq : tq = t := Lq'.uniq hL
    rw [etq] at Aq
    have Mq : Mks fu (.lst (I (p.map (th * ·)))) (p.map (th * ·)) := mks_of fu (.inr rfl) (IsTrim.of (.inr (by omega))) (by simp; omega) hf2
    -- times a factor
    have hc0 : 1 ≤ t + (1 - (t - z)) := by omega
    generalize hcc : 1 - (t - z) = c at hc0
    have bc : bd 406 c := by
      rw [← hcc]
      have e1 : (1 : Int) - (t - z) = (1 + z) + (-t) := by omega
      rw [e1]
      have bn : bd 402 (-t) := by unfold bd at *; omega
      have b1 : bd 405 (1 + z) := bd.add (j := 2) (by unfold bd; decide) bz (by omega) (by omega)
      exact bd.add b1 bn (by omega) (by omega)
    have bo : bdl 406 [c, 1] := fun x hx => by
      simp only [List.mem_cons, List.not_mem_nil, or_false] at hx
      rcases hx with rfl | rfl
      · exact bc
      · exact bd.mono (j := 1) (by unfold bd; decide) (by omega)
    obtain ⟨r8, T8, e8⟩ := ev_times fu (p := p) (o := [c, 1]) (by simp; omega) fun a ha x hx => (R.bits a ha).cMul (bo x hx) (by omega)
    have eout : out (List.replicate (p.length + [c, 1].length) 0) 0 p [c, 1] = mx c 0 p ++ [0] := by
      have := out_lin c p [] 0
      simpa [List.replicate_succ] using this
    rw [eout] at T8
    have lm : (mx c 0 p).getLastD 0 = p.getLastD 0 := mx_last c p 0 hne
    have er8 : r8 = mx c 0 p := T8.uniq ⟨⟨1, rfl⟩, .inr (by rw [lm]; omega)⟩
    subst er8
    have b8 : bdl 900 (mx c 0 p) := fun x hx => by
      have hz' : bdl 806 (List.replicate (p.length + [c, 1].length) (0 : Int)) := fun y hy => by
        rw [List.eq_of_mem_replicate hy]; unfold bd; decide +kernel
      have := out_bd bo p _ 0 806 R.bits hz' (by omega)
      rw [eout] at this
      exact (this x (List.mem_append_left _ hx)).mono (by simp; omega)
    have n8 : mx c 0 p ≠ [] := mx_ne _ _ _
    have l8 : (mx c 0 p).length ≤ 30 := by rw [mx_len]; omega
    obtain ⟨t8, L8, _, A8⟩ := abv_of fu (r := mx c 0 p) l8 b8 (by omega) n8 (by rw [lm]; exact hl) (hpow 900 (by omega))
    have M8 : Mks fu (.tup (I (mx c 0 p))) (mx c 0 p) := mks_of fu (.inl rfl) (IsTrim.of (.inr (by rw [lm]; omega))) (by omega) hf2
    have h8 : t8 ≤ t := by
      by_cases h : t8 ≤ t
      · exact h
      · exact absurd (Ab_mx hc0 hL.1) (L8.2.2 t ht2 (by omega))
    have e8' : d__law_times fu [.v (.tup (I p)), .v (.lst (I [1 - (t - z), 1]))] = .ret (.v (.tup (I (mx c 0 p)))) [.v (.tup (I p)), .v (.lst (I [1 - (t - z), 1]))] := by rw [hcc]; exact e8
    refine ⟨.v (.int t), .no, .v (.int th), .v (.int (t - z)), .no, t2, r2, J2, ?_⟩
    unfold b__law_told_right
    refine seq_to (ev_told1 fu _ M1 A1) ?_
    refine seq_to (ev_told2 fu _ hne hl t) ?_
    refine seq_to (ev_told3 fu _ (by omega) ht2 M2 A1) ?_
    refine seq_to (ev_told4 fu _ SM0 SMm hL) ?_
    refine seq_to e5 ?_
    refine seq_to e6 ?_
    refine seq_to (ev_told7 fu _ (by omega) t th (t - z) cth Mq Aq) ?_
    exact ev_told8 fu _ t th (t - z) e8' M8 A8 h8
end K30

set_option linter.all false
set_option autoImplicit false
set_option maxRecDepth 100000
set_option maxHeartbeats 4000000
namespace K30
open PySem TW L2
/-! ### row -/
theorem IsTrim.sub {p r : List Int} (h : IsTrim p r) : r.length ≤ p.length ∧ ∀ x ∈ r, x ∈ p := by
  obtain ⟨⟨k, e⟩, _⟩ := h
  rw [e]
  exact ⟨by simp, fun x hx => List.mem_append_left _ hx⟩
theorem Jug.mono {κ : Nat} {cs : List Int} {t : Nat} {r : Int} {n m : Nat} (J : Jug κ cs t r n) (h : n ≤ m) : Jug κ cs t r m := ⟨J.kap, J.cells, Nat.le_trans J.turn h, J.left, J.bits⟩
theorem ev_c_row (fu : Nat) {cs : List Int} {tt n κ : Nat} {r : Int} (Jg : Jug κ cs tt r n) (hn : n ≤ 800001) (hcl : cs.length ≤ 59) :
    ∃ (q : List Int) (t' : Nat) (r' : Int), q.length ≤ 8 ∧ bdl 6 q ∧ Jug κ cs t' r' (n + 9) ∧ c__law_row_1 fu [.l (jug cs tt r), .no, .no, .no] = .ok (.l (I q)) [.l (jug cs t' r'), .no, .no, .no] := by
  obtain ⟨y, t1, r1, y0, y1, J1, e1⟩ := ev_pour fu Jg (by omega) (m := 8) (by omega) (by omega) hcl
  have ok : okR y = true := Nat.ble_eq_true_of_le (by omega)
  have hm : ci__law_row_1 fu [.l (jug cs tt r), .no, .no, .no] = .ok (rangeD 0 y.toNat) [.l (jug cs t1 r1), .no, .no, .no] := by
    generalize jug cs tt r = j1 at *
    generalize jug cs t1 r1 = j2 at *
    simp [ci__law_row_1, mcall, fnD, ms, mseq, mbind, mret, mopt, mbad, mvar, res, strong, strongs, ress, mun, mbin, mbinR, mcb, mcons, mcond, mif, mandV, morV, mnotV, tob, truD, mfld, fldD, putO, mputf, stSet, stSetP, mfrz, mlst, mtup, mslice, mpart, intD, dSl, on1, on2, lenD, absD, TW.intOf, TW.listOf, TW.tupOf, dInt2, dCmp2, dNeg, dIx, dIsN, dNotN, D.isNon, dupFree, argsOf, argOf, Sl.some?, putBack, Opd.isS, Sl.own, Rv.sl, Rv.d, mwalk, walkD, itemsD, mrng, rng1, rng2, rng3, tgName, tgTup, tgCons, tgNil, masg, mpar2, stPar2, isiD, dTy, isiInt, isiBl, isiLst, isiTup, isiObj, or2, nm, List.findIdx?_cons, List.findIdx?_nil, e1, ok]
  have hr : (rangeD 0 y.toNat).length = y.toNat := by unfold rangeD; simp
  obtain ⟨acc, s', e, ⟨q, t2, r2, rfl, rfl, hql, hqb, J2⟩, _⟩ := comp_ok (vs := [1]) (tm := tgName 1) (tt := ct__law_row_1 fu) (te := ce__law_row_1 fu) (fun i acc s => ∃ (q : List Int) (t2 : Nat) (r2 : Int), s = [.l (jug cs t2 r2), .no, .no, .no] ∧ acc = I q ∧ q.length = i ∧ bdl 6 q ∧ Jug κ cs t2 r2 (n + 1 + i)) (rangeD 0 y.toNat) 0 [] [.l (jug cs t1 r1), .no, .no, .no] ⟨[], t1, r1, rfl, rfl, rfl, fun x hx => (nomatch hx), J1⟩ (by rw [hr]; simp; omega) fun j x acc s hj hP => by
    obtain ⟨q, t2, r2, rfl, rfl, hql, hqb, J2⟩ := hP
    obtain ⟨hj1, rfl⟩ := rangeD_get hj
    obtain ⟨z, t3, r3, z0, z1, J3, e3⟩ := ev_pour fu J2 (by omega) (m := 41) (by omega) (by omega) hcl
    have hte : ce__law_row_1 fu [.l (jug cs t2 r2), .v (.int (0 + (j : Nat))), .no, .no] = .ok (.int (z - 20)) [.l (jug cs t3 r3), .v (.int (0 + (j : Nat))), .no, .no] := by
      generalize jug cs t2 r2 = j1 at *
      generalize jug cs t3 r3 = j2 at *
      simp [ce__law_row_1, mcall, fnD, ms, mseq, mbind, mret, mopt, mbad, mvar, res, strong, strongs, ress, mun, mbin, mbinR, mcb, mcons, mcond, mif, mandV, morV, mnotV, tob, truD, mfld, fldD, putO, mputf, stSet, stSetP, mfrz, mlst, mtup, mslice, mpart, intD, dSl, on1, on2, lenD, absD, TW.intOf, TW.listOf, TW.tupOf, dInt2, dCmp2, dNeg, dIx, dIsN, dNotN, D.isNon, dupFree, argsOf, argOf, Sl.some?, putBack, Opd.isS, Sl.own, Rv.sl, Rv.d, mwalk, walkD, itemsD, mrng, rng1, rng2, rng3, tgName, tgTup, tgCons, tgNil, masg, mpar2, stPar2, isiD, dTy, isiInt, isiBl, isiLst, isiTup, isiObj, or2, nm, List.findIdx?_cons, List.findIdx?_nil, e3]
    refine ⟨_, true, _, rfl, rfl, .inr ⟨_, _, rfl, hte, rfl, q ++ [z - 20], t3, r3, rfl, by simp, by simp [hql], fun x hx => ?_, J3.mono (by omega)⟩⟩
    rcases List.mem_append.mp hx with hx | hx
    · exact hqb x hx
    · simp at hx; subst hx; unfold bd; omega
  rw [hr, Nat.zero_add] at hql J2
  refine ⟨q, t2, r2, by omega, hqb, J2.mono (by omega), ?_⟩
  unfold c__law_row_1 mlc; rw [mb_k hm]
  rw [if_pos (by rfl)]
  have e' : compD [1] (tgName 1) (ct__law_row_1 fu) (ce__law_row_1 fu) (rangeD 0 y.toNat) [] (wipeS [.l (jug cs t1 r1), .no, .no, .no] [1]) = .ok (I q) [.l (jug cs t2 r2), .no, .no, .no] := e
  rw [e']; rfl
theorem ev_row1 (fu : Nat) {cs : List Int} {tt n κ : Nat} {r : Int} (Jg : Jug κ cs tt r n) (hn : n ≤ 800000) (hcl : cs.length ≤ 59) :
    ∃ (t' : Nat) (r' : Int), Jug κ cs t' r' (n + 10) ∧ (st__law_row_1 fu [.l (jug cs tt r), .no, .no, .no] = .nx [.l (jug cs t' r'), .no, .no, .no] ∨ ∃ p, Row p ∧ st__law_row_1 fu [.l (jug cs tt r), .no, .no, .no] = .rt (.v (.tup (I p))) [.l (jug cs t' r'), .no, .no, .no]) := by
  obtain ⟨y, t1, r1, y0, y1, J1, e1⟩ := ev_pour fu Jg (by omega) (m := 4) (by omega) (by omega) hcl
  by_cases hy : y = 0
  · subst hy
    obtain ⟨q, t2, r2, hl, hb, J2, ec⟩ := ev_c_row fu J1 (show n + 1 ≤ 800001 by omega) hcl
    obtain ⟨p, hp, ep⟩ := ev_cut fu (p := q) (by omega)
    refine ⟨t2, r2, J2, .inr ⟨p, ⟨by have := hp.sub.1; omega, fun x hx => (hb x (hp.sub.2 x hx)).mono (by omega), hp.2⟩, ?_⟩⟩
    generalize jug cs tt r = j1 at *
    generalize jug cs t1 r1 = j2 at *
    generalize jug cs t2 r2 = j3 at *
    generalize I q = w at *
    generalize I p = w2 at *
    simp [st__law_row_1, mcall, fnD, ms, mseq, mbind, mret, mopt, mbad, mvar, res, strong, strongs, ress, mun, mbin, mbinR, mcb, mcons, mcond, mif, mandV, morV, mnotV, tob, truD, mfld, fldD, putO, mputf, stSet, stSetP, mfrz, mlst, mtup, mslice, mpart, intD, dSl, on1, on2, lenD, absD, TW.intOf, TW.listOf, TW.tupOf, dInt2, dCmp2, dNeg, dIx, dIsN, dNotN, D.isNon, dupFree, argsOf, argOf, Sl.some?, putBack, Opd.isS, Sl.own, Rv.sl, Rv.d, mwalk, walkD, itemsD, mrng, rng1, rng2, rng3, tgName, tgTup, tgCons, tgNil, masg, mpar2, stPar2, isiD, dTy, isiInt, isiBl, isiLst, isiTup, isiObj, or2, nm, List.findIdx?_cons, List.findIdx?_nil, e1, ec, ep, dEq_int]
  · refine ⟨t1, r1, J1.mono (by omega), .inl ?_⟩
    generalize jug cs tt r = j1 at *
    generalize jug cs t1 r1 = j2 at *
    simp [st__law_row_1, mcall, fnD, ms, mseq, mbind, mret, mopt, mbad, mvar, res, strong, strongs, ress, mun, mbin, mbinR, mcb, mcons, mcond, mif, mandV, morV, mnotV, tob, truD, mfld, fldD, putO, mputf, stSet, stSetP, mfrz, mlst, mtup, mslice, mpart, intD, dSl, on1, on2, lenD, absD, TW.intOf, TW.listOf, TW.tupOf, dInt2, dCmp2, dNeg, dIx, dIsN, dNotN, D.isNon, dupFree, argsOf, argOf, Sl.some?, putBack, Opd.isS, Sl.own, Rv.sl, Rv.d, mwalk, walkD, itemsD, mrng, rng1, rng2, rng3, tgName, tgTup, tgCons, tgNil, masg, mpar2, stPar2, isiD, dTy, isiInt, isiBl, isiLst, isiTup, isiObj, or2, nm, List.findIdx?_cons, List.findIdx?_nil, e1, hy, dEq_int]
theorem ev_row2 (fu : Nat) {cs : List Int} {tt n κ : Nat} {r : Int} (Jg : Jug κ cs tt r n) (hn : n ≤ 800000) (hcl : cs.length ≤ 59) :
    ∃ (t' : Nat) (r' x : Int), Jug κ cs t' r' (n + 1) ∧ 0 < x ∧ bd 31 x ∧ st__law_row_2 fu [.l (jug cs tt r), .no, .no, .no] = .nx [.l (jug cs t' r'), .no, .v (.tup (I [x])), .no] := by
  obtain ⟨d, t1, r1, hd', J1, e1⟩ := ev_of fu Jg (by omega) hcl (ds := [.int 1, .int 2, .int 7, .int 1000000000]) (by simp) (by simp)
  have p9 : cPow 10 9 = true := by decide +kernel
  have hx : ∃ x : Int, d = .int x ∧ 0 < x ∧ bd 31 x := by
    simp only [List.mem_cons, List.not_mem_nil, or_false] at hd'
    rcases hd' with rfl | rfl | rfl | rfl
    · exact ⟨_, rfl, by decide, by unfold bd; decide⟩
    · exact ⟨_, rfl, by decide, by unfold bd; decide⟩
    · exact ⟨_, rfl, by decide, by unfold bd; decide⟩
    · exact ⟨_, rfl, by decide, by unfold bd; decide⟩
  obtain ⟨x, rfl, h0, hb⟩ := hx
  refine ⟨t1, r1, x, J1, h0, hb, ?_⟩
  generalize jug cs tt r = j1 at *
  generalize jug cs t1 r1 = j2 at *
  simp [st__law_row_2, mcall, fnD, ms, mseq, mbind, mret, mopt, mbad, mvar, res, strong, strongs, ress, mun, mbin, mbinR, mcb, mcons, mcond, mif, mandV, morV, mnotV, tob, truD, mfld, fldD, putO, mputf, stSet, stSetP, mfrz, mlst, mtup, mslice, mpart, intD, dSl, on1, on2, lenD, absD, TW.intOf, TW.listOf, TW.tupOf, dInt2, dCmp2, dNeg, dIx, dIsN, dNotN, D.isNon, dupFree, argsOf, argOf, Sl.some?, putBack, Opd.isS, Sl.own, Rv.sl, Rv.d, mwalk, walkD, itemsD, mrng, rng1, rng2, rng3, tgName, tgTup, tgCons, tgNil, masg, mpar2, stPar2, isiD, dTy, isiInt, isiBl, isiLst, isiTup, isiObj, or2, nm, List.findIdx?_cons, List.findIdx?_nil, e1, p9]
end K30

set_option linter.all false
set_option autoImplicit false
set_option maxRecDepth 100000
set_option maxHeartbeats 4000000
namespace K30
open PySem TW L2
theorem out_lin0 (c : Int) (p : List Int) : out (List.replicate (p.length + [c, 1].length) 0) 0 p [c, 1] = mx c 0 p ++ [0] := by
  have := out_lin c p [] 0
  simpa [List.replicate_succ] using this
theorem ev_lb_row (fu : Nat) {cs : List Int} {tt n κ : Nat} {r : Int} (Jg : Jug κ cs tt r n) (hn : n ≤ 800000) (hcl : cs.length ≤ 59) {p : List Int} {k : Nat} (hne : p ≠ []) (h0 : p.getLastD 0 ≠ 0) (hb : bdl k p) (hk : k ≤ 400) (hl : p.length ≤ 10) (x1 : Sl) (hx1 : x1 = .no ∨ ∃ z, x1 = .v z) (tn : Int) :
    ∃ (p' : List Int) (t' : Nat) (r' : Int) (x1' : Sl), (x1' = .no ∨ ∃ z, x1' = .v z) ∧ p' ≠ [] ∧ p'.getLastD 0 ≠ 0 ∧ bdl (k + 110) p' ∧ p'.length = p.length + 1 ∧ Jug κ cs t' r' (n + 5) ∧
      lb__law_row_2 fu [.l (jug cs tt r), x1, .v (.tup (I p)), .v (.int tn)] = .nx [.l (jug cs t' r'), x1', .v (.tup (I p')), .v (.int tn)] := by
  obtain ⟨y1, t1, r1, a1, b1, J1, e1⟩ := ev_pour fu Jg (by omega) (m := 9) (by omega) (by omega) hcl
  obtain ⟨y2, t2, r2, a2, b2, J2, e2⟩ := ev_pour fu J1 (by omega) (m := 100) (by omega) (by omega) hcl
  obtain ⟨y3, t3, r3, a3, b3, J3, e3⟩ := ev_pour fu J2 (by omega) (m := 9) (by omega) (by omega) hcl
  obtain ⟨y4, t4, r4, a4, b4, J4, e4⟩ := ev_pour fu J3 (by omega) (m := 30) (by omega) (by omega) hcl
  obtain ⟨d, t5, r5, hd', J5, e5⟩ := ev_of fu J4 (by omega) hcl (ds := [.int y1, .int y2, .int (1000000 + y3), .int (-y4), .int 10000000000000000000000000]) (by simp) (by simp)
  have hx : ∃ x : Int, d = .int x ∧ bd 84 x := by
    simp only [List.mem_cons, List.not_mem_nil, or_false] at hd'
    rcases hd' with rfl | rfl | rfl | rfl | rfl
    · exact ⟨_, rfl, by unfold bd; omega⟩
    · exact ⟨_, rfl, by unfold bd; omega⟩
    · exact ⟨_, rfl, by unfold bd; omega⟩
    · exact ⟨_, rfl, by unfold bd; omega⟩
    · exact ⟨_, rfl, by unfold bd; decide⟩
  obtain ⟨x, rfl, bx⟩ := hx
  have bnx : bd 84 (-x) := by unfold bd at *; omega
  have bo : bdl 84 [-x, 1] := fun y hy => by
    simp only [List.mem_cons, List.not_mem_nil, or_false] at hy
    rcases hy with rfl | rfl
    · exact bnx
    · exact bd.mono (j := 1) (by unfold bd; decide) (by omega)
  obtain ⟨p', hp', e6⟩ := ev_times fu (p := p) (o := [-x, 1]) (by simp; omega) fun a ha y hy => (hb a ha).cMul (bo y hy) (by omega)
  have hB : bdl (k + 110) (out (List.replicate (p.length + [-x, 1].length) 0) 0 p [-x, 1]) := by
    have hz' : bdl (k + 84) (List.replicate (p.length + [-x, 1].length) (0 : Int)) := fun y hy => by
      rw [List.eq_of_mem_replicate hy]; exact Nat.two_pow_pos _
    exact (out_bd bo p _ 0 (k + 84) hb hz' (by omega)).mono (by simp; omega)
  rw [out_lin0] at hp' hB
  have lm : (mx (-x) 0 p).getLastD 0 = p.getLastD 0 := mx_last (-x) p 0 hne
  have ep : p' = mx (-x) 0 p := hp'.uniq ⟨⟨1, rfl⟩, .inr (by rw [lm]; exact h0)⟩
  subst ep
  have p6 : cPow 10 6 = true := by decide +kernel
  have p25 : cPow 10 25 = true := by decide +kernel
  refine ⟨mx (-x) 0 p, t5, r5, .v (.int x), .inr ⟨_, rfl⟩, mx_ne _ _ _, by rw [lm]; exact h0, fun y hy => hB y (List.mem_append_left _ hy), mx_len _ _ _, J5, ?_⟩
  have e6' : d__law_times fu [.v (.tup (I p)), .v (.lst [.int (-x), .int 1])] = .ret (.v (.tup (I (mx (-x) 0 p)))) [.v (.tup (I p)), .v (.lst [.int (-x), .int 1])] := e6
  generalize I (mx (-x) 0 p) = w2 at *
  generalize I p = w at *
  generalize jug cs tt r = j0 at *
  generalize jug cs t1 r1 = j1 at *
  generalize jug cs t2 r2 = j2 at *
  generalize jug cs t3 r3 = j3 at *
  generalize jug cs t4 r4 = j4 at *
  generalize jug cs t5 r5 = j5 at *
  rcases hx1 with rfl | ⟨z, rfl⟩ <;> simp [lb__law_row_2, mcall, fnD, ms, mseq, mbind, mret, mopt, mbad, mvar, res, strong, strongs, ress, mun, mbin, mbinR, mcb, mcons, mcond, mif, mandV, morV, mnotV, tob, truD, mfld, fldD, putO, mputf, stSet, stSetP, mfrz, mlst, mtup, mslice, mpart, intD, dSl, on1, on2, lenD, absD, TW.intOf, TW.listOf, TW.tupOf, dInt2, dCmp2, dNeg, dIx, dIsN, dNotN, D.isNon, dupFree, argsOf, argOf, Sl.some?, putBack, Opd.isS, Sl.own, Rv.sl, Rv.d, mwalk, walkD, itemsD, mrng, rng1, rng2, rng3, tgName, tgTup, tgCons, tgNil, masg, mpar2, stPar2, isiD, dTy, isiInt, isiBl, isiLst, isiTup, isiObj, or2, nm, List.findIdx?_cons, List.findIdx?_nil, e1, e2, e3, e4, e5, e6', p6, p25]
theorem ev_row3 (fu : Nat) {cs : List Int} {tt n κ : Nat} {r : Int} (Jg : Jug κ cs tt r n) (hn : n ≤ 790000) (hcl : cs.length ≤ 59) {x : Int} (h0 : 0 < x) (hb : bd 31 x) :
    ∃ (p' : List Int) (t' : Nat) (r' : Int) (x1 x3 : Sl), (x1 = .no ∨ ∃ z, x1 = .v z) ∧ p' ≠ [] ∧ p'.getLastD 0 ≠ 0 ∧ bdl 370 p' ∧ p'.length ≤ 4 ∧ Jug κ cs t' r' (n + 16) ∧ (x3 = .no ∨ ∃ z, x3 = .v z) ∧
      l__law_row_2 fu [.l (jug cs tt r), .no, .v (.tup (I [x])), .no] = .nx [.l (jug cs t' r'), x1, .v (.tup (I p')), x3] := by
  obtain ⟨y, t1, r1, y0, y1, J1, e1⟩ := ev_pour fu Jg (by omega) (m := 4) (by omega) (by omega) hcl
  have ok : okR y = true := Nat.ble_eq_true_of_le (by omega)
  have hi : li__law_row_2 fu [.l (jug cs tt r), .no, .v (.tup (I [x])), .no] = .ok (rangeD 0 y.toNat) [.l (jug cs t1 r1), .no, .v (.tup (I [x])), .no] := by
    generalize I [x] = w at *
    generalize jug cs tt r = j0 at *
    generalize jug cs t1 r1 = j1 at *
    simp [li__law_row_2, mcall, fnD, ms, mseq, mbind, mret, mopt, mbad, mvar, res, strong, strongs, ress, mun, mbin, mbinR, mcb, mcons, mcond, mif, mandV, morV, mnotV, tob, truD, mfld, fldD, putO, mputf, stSet, stSetP, mfrz, mlst, mtup, mslice, mpart, intD, dSl, on1, on2, lenD, absD, TW.intOf, TW.listOf, TW.tupOf, dInt2, dCmp2, dNeg, dIx, dIsN, dNotN, D.isNon, dupFree, argsOf, argOf, Sl.some?, putBack, Opd.isS, Sl.own, Rv.sl, Rv.d, mwalk, walkD, itemsD, mrng, rng1, rng2, rng3, tgName, tgTup, tgCons, tgNil, masg, mpar2, stPar2, isiD, dTy, isiInt, isiBl, isiLst, isiTup, isiObj, or2, nm, List.findIdx?_cons, List.findIdx?_nil, e1, ok]
  have hr : (rangeD 0 y.toNat).length = y.toNat := by unfold rangeD; simp
  obtain ⟨s', e, p', t', r', x1, x3, rfl, hx1, hx3, hne, hl, hbb, hlen, J⟩ := for_ok (tm := tgName 3) (bd := lb__law_row_2 fu) (fun i s => ∃ (p' : List Int) (t' : Nat) (r' : Int) (x1 x3 : Sl), s = [.l (jug cs t' r'), x1, .v (.tup (I p')), x3] ∧ (x1 = .no ∨ ∃ z, x1 = .v z) ∧ (x3 = .no ∨ ∃ z, x3 = .v z) ∧ p' ≠ [] ∧ p'.getLastD 0 ≠ 0 ∧ bdl (31 + i * 110) p' ∧ p'.length = 1 + i ∧ Jug κ cs t' r' (n + 1 + i * 5))
    hi ⟨[x], t1, r1, .no, .no, rfl, .inl rfl, .inl rfl, by simp, by simp; omega, fun z hz => by simp at hz; subst hz; exact hb, rfl, J1⟩ fun i d s hi hP => by
    obtain ⟨p', t', r', x1, x3, rfl, hx1, hx3, hne, hl, hbb, hlen, J⟩ := hP
    obtain ⟨hin, rfl⟩ := rangeD_get hi
    obtain ⟨p2, t2, r2, x1', hx1', n2, l2, b2, len2, J2, e2⟩ := ev_lb_row fu J (by omega) hcl hne hl hbb (by omega) (by omega) x1 hx1 (0 + (i : Nat))
    exact ⟨_, _, rfl, e2, p2, t2, r2, x1', _, rfl, hx1', .inr ⟨_, rfl⟩, n2, l2, b2.mono (by omega), by omega, J2.mono (by omega)⟩
  rw [hr] at hbb hlen J
  refine ⟨p', t', r', x1, x3, hx1, hne, hl, hbb.mono (by omega), by omega, J.mono (by omega), hx3, ?_⟩
  unfold l__law_row_2
  exact e
end K30

set_option linter.all false
set_option autoImplicit false
set_option maxRecDepth 100000
set_option maxHeartbeats 4000000
namespace K30
open PySem TW L2
theorem getD_set_ne {q : List Int} {i j : Nat} {z : Int} (h : i ≠ j) : (q.set i z).getD j 0 = q.getD j 0 := by
  rw [List.getD_eq_getElem?_getD, List.getD_eq_getElem?_getD, List.getElem?_set_ne h]
theorem inn_keep {a : Int} : ∀ (o q : List Int) (pos K : Nat), pos + o.length ≤ K → (inn q pos a o).getD K 0 = q.getD K 0
  | [], q, pos, K, _ => rfl
  | x :: o, q, pos, K, h => by
    have h' : pos + (o.length + 1) ≤ K := h
    unfold inn
    rw [inn_keep o _ (pos + 1) K (by omega), getD_set_ne (by omega)]
theorem inn_last {a : Int} : ∀ (o q : List Int) (pos : Nat), o ≠ [] → pos + o.length ≤ q.length → (inn q pos a o).getD (pos + o.length - 1) 0 = q.getD (pos + o.length - 1) 0 + a * o.getLastD 0
  | [x], q, pos, _, h => by
    have h' : pos + 1 ≤ q.length := h
    unfold inn
    show ((q.set pos _).getD (pos + 1 - 1) 0) = q.getD (pos + 1 - 1) 0 + a * x
    rw [Nat.add_sub_cancel, List.getD_eq_getElem?_getD, List.getElem?_set_self (by omega)]; rfl
  | x :: y :: o, q, pos, _, h => by
    have h' : pos + (o.length + 1 + 1) ≤ q.length := h
    unfold inn
    have ih := inn_last (a := a) (y :: o) (q.set pos (q.getD pos 0 + a * x)) (pos + 1) (by simp) (by simp; omega)
    have e : pos + (x :: y :: o).length - 1 = pos + 1 + (y :: o).length - 1 := by simp; omega
    rw [e, ih, getD_set_ne (by simp; omega)]
    simp [List.getLastD]
theorem out_last {o : List Int} (ho : o ≠ []) : ∀ (p q : List Int) (pos : Nat), p ≠ [] → pos + p.length + o.length ≤ q.length + 1 → (out q pos p o).getD (pos + p.length + o.length - 2) 0 = q.getD (pos + p.length + o.length - 2) 0 + p.getLastD 0 * o.getLastD 0
  | [a], q, pos, _, h => by
    have h' : pos + 1 + o.length ≤ q.length + 1 := h
    have hol : 0 < o.length := List.length_pos_iff.mpr ho
    show (inn q pos a o).getD _ 0 = _
    have e : pos + [a].length + o.length - 2 = pos + o.length - 1 := by simp; omega
    rw [e, inn_last o q pos ho (by omega)]; rfl
  | a :: b :: p, q, pos, _, h => by
    have h' : pos + (p.length + 1 + 1) + o.length ≤ q.length + 1 := h
    have hol : 0 < o.length := List.length_pos_iff.mpr ho
    show (out (inn q pos a o) (pos + 1) (b :: p) o).getD _ 0 = _
    have ih := out_last ho (b :: p) (inn q pos a o) (pos + 1) (by simp) (by rw [inn_len]; simp; omega)
    have e : pos + (a :: b :: p).length + o.length - 2 = pos + 1 + (b :: p).length + o.length - 2 := by simp; omega
    rw [e, ih, inn_keep o q pos _ (by simp; omega)]
    simp [List.getLastD]
theorem trim_ne {q r : List Int} {j : Nat} (h : IsTrim q r) (hj : q.getD j 0 ≠ 0) : r ≠ [] := by
  intro z
  obtain ⟨⟨k, e⟩, _⟩ := h
  rw [z, List.nil_append] at e
  apply hj
  rw [e, List.getD_eq_getElem?_getD, List.getElem?_replicate]
  by_cases c : j < k
  · rw [if_pos c]; rfl
  · rw [if_neg c]; rfl
theorem ev_row4 (fu : Nat) {cs : List Int} {tt n κ : Nat} {r : Int} (Jg : Jug κ cs tt r n) (hn : n ≤ 790000) (hcl : cs.length ≤ 59) {p : List Int} (hne : p ≠ []) (h0 : p.getLastD 0 ≠ 0) (hb : bdl 370 p) (hl : p.length ≤ 4) (x1 x3 : Sl) (hx1 : x1 = .no ∨ ∃ z, x1 = .v z) (hx3 : x3 = .no ∨ ∃ z, x3 = .v z) :
    ∃ (p' : List Int) (t' : Nat) (r' : Int) (x1' : Sl), (x1' = .no ∨ ∃ z, x1' = .v z) ∧ p' ≠ [] ∧ bdl 395 p' ∧ p'.length ≤ 7 ∧ Jug κ cs t' r' (n + 3) ∧
      st__law_row_4 fu [.l (jug cs tt r), x1, .v (.tup (I p)), x3] = .nx [.l (jug cs t' r'), x1', .v (.tup (I p')), x3] := by
  obtain ⟨y, t1, r1, y0, y1, J1, e1⟩ := ev_pour fu Jg (by omega) (m := 2) (by omega) (by omega) hcl
  by_cases hy : y = 0
  · subst hy
    obtain ⟨s, t2, r2, s0, s1, J2, e2⟩ := ev_pour fu J1 (by omega) (m := 12) (by omega) (by omega) hcl
    obtain ⟨u, t3, r3, u0, u1, J3, e3⟩ := ev_pour fu J2 (by omega) (m := 3) (by omega) (by omega) hcl
    have bs : bd 4 s := by unfold bd; omega
    have bss : bd 8 (s * s) := bs.mul bs
    have c1 : cMul s s = true := bs.cMul bs (by omega)
    have bm2 : bd 2 (-2) := by unfold bd; decide
    have c2 : cMul (-2) s = true := bm2.cMul bs (by omega)
    have bo : bdl 12 [s * s + 1 + u, -2 * s, 1] := fun z hz => by
      simp only [List.mem_cons, List.not_mem_nil, or_false] at hz
      rcases hz with rfl | rfl | rfl
      · exact (bss.add (k := 2) (m := 9) (show bd 2 1 by unfold bd; decide) (by omega) (by omega)).add (k := 4) (show bd 4 u by unfold bd; omega) (by omega) (by omega)
      · exact (bm2.mul bs).mono (by omega)
      · exact bd.mono (j := 1) (by unfold bd; decide) (by omega)
    obtain ⟨p', hp', e6⟩ := ev_times fu (p := p) (o := [s * s + 1 + u, -2 * s, 1]) (by simp; omega) fun a ha z hz => (hb a ha).cMul (bo z hz) (by omega)
    have hlen0 : (List.replicate (p.length + [s * s + 1 + u, -2 * s, 1].length) (0 : Int)).length = p.length + 3 := by simp
    have hB : bdl 395 (out (List.replicate (p.length + [s * s + 1 + u, -2 * s, 1].length) 0) 0 p [s * s + 1 + u, -2 * s, 1]) := by
      have hz' : bdl 382 (List.replicate (p.length + [s * s + 1 + u, -2 * s, 1].length) (0 : Int)) := fun z hz => by
        rw [List.eq_of_mem_replicate hz]; exact Nat.two_pow_pos _
      exact (out_bd bo p _ 0 382 hb hz' (by omega)).mono (by simp; omega)
    have hlast := out_last (o := [s * s + 1 + u, -2 * s, 1]) (by simp) p (List.replicate (p.length + [s * s + 1 + u, -2 * s, 1].length) 0) 0 hne (by simp)
    have hz0 : (List.replicate (p.length + [s * s + 1 + u, -2 * s, 1].length) (0 : Int)).getD (0 + p.length + [s * s + 1 + u, -2 * s, 1].length - 2) 0 = 0 := by
      rw [List.getD_eq_getElem?_getD, List.getElem?_replicate]
      split <;> rfl
    rw [hz0] at hlast
    have hpn : p' ≠ [] := trim_ne (j := 0 + p.length + [s * s + 1 + u, -2 * s, 1].length - 2) hp' (by rw [hlast]; simpa [List.getLastD] using h0)
    have hsub := hp'.sub
    rw [out_len, hlen0] at hsub
    refine ⟨p', t3, r3, .v (.int s), .inr ⟨_, rfl⟩, hpn, fun z hz => hB z (hsub.2 z hz), by omega, J3, ?_⟩
    have e6' : d__law_times fu [.v (.tup (I p)), .v (.lst [.int (s * s + 1 + u), .int (-2 * s), .int 1])] = .ret (.v (.tup (I p'))) [.v (.tup (I p)), .v (.lst [.int (s * s + 1 + u), .int (-2 * s), .int 1])] := e6
    clear hlast hz0 hB hlen0 hp' e6
    generalize I p' = w2 at *
    generalize I p = w at *
    generalize jug cs tt r = j0 at *
    generalize jug cs t1 r1 = j1 at *
    generalize jug cs t2 r2 = j2 at *
    generalize jug cs t3 r3 = j3 at *
    generalize hm2 : (-2 : Int) * s = m2 at *
    rcases hx1 with rfl | ⟨z, rfl⟩ <;> rcases hx3 with rfl | ⟨z3, rfl⟩ <;> simp [st__law_row_4, mcall, fnD, ms, mseq, mbind, mret, mopt, mbad, mvar, res, strong, strongs, ress, mun, mbin, mbinR, mcb, mcons, mcond, mif, mandV, morV, mnotV, tob, truD, mfld, fldD, putO, mputf, stSet, stSetP, mfrz, mlst, mtup, mslice, mpart, intD, dSl, on1, on2, lenD, absD, TW.intOf, TW.listOf, TW.tupOf, dInt2, dCmp2, dNeg, dIx, dIsN, dNotN, D.isNon, dupFree, argsOf, argOf, Sl.some?, putBack, Opd.isS, Sl.own, Rv.sl, Rv.d, mwalk, walkD, itemsD, mrng, rng1, rng2, rng3, tgName, tgTup, tgCons, tgNil, masg, mpar2, stPar2, isiD, dTy, isiInt, isiBl, isiLst, isiTup, isiObj, or2, nm, List.findIdx?_cons, List.findIdx?_nil, e1, e2, e3, e6', c1, c2, hm2, dEq_int]
  · refine ⟨p, t1, r1, x1, hx1, hne, fun z hz => (hb z hz).mono (by omega), by omega, J1.mono (by omega), ?_⟩
    generalize I p = w at *
    generalize jug cs tt r = j0 at *
    generalize jug cs t1 r1 = j1 at *
    rcases hx1 with rfl | ⟨z, rfl⟩ <;> rcases hx3 with rfl | ⟨z3, rfl⟩ <;> simp [st__law_row_4, mcall, fnD, ms, mseq, mbind, mret, mopt, mbad, mvar, res, strong, strongs, ress, mun, mbin, mbinR, mcb, mcons, mcond, mif, mandV, morV, mnotV, tob, truD, mfld, fldD, putO, mputf, stSet, stSetP, mfrz, mlst, mtup, mslice, mpart, intD, dSl, on1, on2, lenD, absD, TW.intOf, TW.listOf, TW.tupOf, dInt2, dCmp2, dNeg, dIx, dIsN, dNotN, D.isNon, dupFree, argsOf, argOf, Sl.some?, putBack, Opd.isS, Sl.own, Rv.sl, Rv.d, mwalk, walkD, itemsD, mrng, rng1, rng2, rng3, tgName, tgTup, tgCons, tgNil, masg, mpar2, stPar2, isiD, dTy, isiInt, isiBl, isiLst, isiTup, isiObj, or2, nm, List.findIdx?_cons, List.findIdx?_nil, e1, hy, dEq_int]
end K30

set_option linter.all false
set_option autoImplicit false
set_option maxRecDepth 100000
set_option maxHeartbeats 4000000
namespace K30
open PySem TW L2
theorem ev_row6 (fu : Nat) {cs : List Int} {tt n κ : Nat} {r : Int} (Jg : Jug κ cs tt r n) (hn : n ≤ 790000) (hcl : cs.length ≤ 59) {a : Int} {q : List Int} (hb : bdl 395 (a :: q)) (x1 x3 : Sl) (hx1 : x1 = .no ∨ ∃ z, x1 = .v z) (hx3 : x3 = .no ∨ ∃ z, x3 = .v z) :
    ∃ (z : Int) (t' : Nat) (r' : Int), bdl 400 ((a + z) :: q) ∧ Jug κ cs t' r' (n + 2) ∧
      st__law_row_6 fu [.l (jug cs tt r), x1, .l (.int a :: I q), x3] = .nx [.l (jug cs t' r'), x1, .l (.int (a + z) :: I q), x3] := by
  obtain ⟨y, t1, r1, y0, y1, J1, e1⟩ := ev_pour fu Jg (by omega) (m := 200) (by omega) (by omega) hcl
  obtain ⟨d, t2, r2, hd', J2, e2⟩ := ev_of fu J1 (by omega) hcl (ds := [.int 0, .int 0, .int 1, .int (-1), .int (y - 100)]) (by simp) (by simp)
  have hx : ∃ x : Int, d = .int x ∧ bd 8 x := by
    simp only [List.mem_cons, List.not_mem_nil, or_false] at hd'
    rcases hd' with rfl | rfl | rfl | rfl | rfl
    · exact ⟨_, rfl, by unfold bd; decide⟩
    · exact ⟨_, rfl, by unfold bd; decide⟩
    · exact ⟨_, rfl, by unfold bd; decide⟩
    · exact ⟨_, rfl, by unfold bd; decide⟩
    · exact ⟨_, rfl, by unfold bd; omega⟩
  obtain ⟨x, rfl, bx⟩ := hx
  refine ⟨x, t2, r2, fun z hz => ?_, J2, ?_⟩
  · rcases List.mem_cons.mp hz with rfl | hz
    · exact (hb a List.mem_cons_self).add bx (by omega) (by omega)
    · exact (hb z (List.mem_cons_of_mem _ hz)).mono (by omega)
  have hat : ∀ (u : D) (w : List D), atI (u :: w) 0 = some u := fun u w => by unfold atI ixN; simp
  have hix0 : ∀ m : Nat, ixN (m + 1) 0 = some 0 := fun m => by unfold ixN; rw [if_pos (by omega), if_pos (by omega)]; rfl
  generalize I q = w at *
  generalize jug cs tt r = j0 at *
  generalize jug cs t1 r1 = j1 at *
  generalize jug cs t2 r2 = j2 at *
  rcases hx1 with rfl | ⟨z, rfl⟩ <;> rcases hx3 with rfl | ⟨z3, rfl⟩ <;> simp [st__law_row_6, mseti, mcall, fnD, ms, mseq, mbind, mret, mopt, mbad, mvar, res, strong, strongs, ress, mun, mbin, mbinR, mcb, mcons, mcond, mif, mandV, morV, mnotV, tob, truD, mfld, fldD, putO, mputf, stSet, stSetP, mfrz, mlst, mtup, mslice, mpart, intD, dSl, on1, on2, lenD, absD, TW.intOf, TW.listOf, TW.tupOf, dInt2, dCmp2, dNeg, dIx, dIsN, dNotN, D.isNon, dupFree, argsOf, argOf, Sl.some?, putBack, Opd.isS, Sl.own, Rv.sl, Rv.d, mwalk, walkD, itemsD, mrng, rng1, rng2, rng3, tgName, tgTup, tgCons, tgNil, masg, mpar2, stPar2, isiD, dTy, isiInt, isiBl, isiLst, isiTup, isiObj, or2, nm, List.findIdx?_cons, List.findIdx?_nil, e1, e2, hat, hix0]
theorem ev_row7 (fu : Nat) (J : List D) {p : List Int} (hl : p.length ≤ 20) (hb : bdl 400 p) (x1 x3 : Sl) (hx1 : x1 = .no ∨ ∃ z, x1 = .v z) (hx3 : x3 = .no ∨ ∃ z, x3 = .v z) :
    ∃ (p' : List Int) (s2 : Sl), Row p' ∧ st__law_row_7 fu [.l J, x1, .l (I p), x3] = .rt (.v (.tup (I p'))) [.l J, x1, s2, x3] := by
  obtain ⟨p', hp, e⟩ := ev_cut fu (p := p) (by omega)
  refine ⟨p', .v (.lst (I p)), ⟨by have := hp.sub.1; omega, fun x hx => hb x (hp.sub.2 x hx), hp.2⟩, ?_⟩
  generalize I p' = w2 at *
  generalize I p = w at *
  rcases hx1 with rfl | ⟨z, rfl⟩ <;> rcases hx3 with rfl | ⟨z3, rfl⟩ <;> simp [st__law_row_7, mcall, fnD, ms, mseq, mbind, mret, mopt, mbad, mvar, res, strong, strongs, ress, mun, mbin, mbinR, mcb, mcons, mcond, mif, mandV, morV, mnotV, tob, truD, mfld, fldD, putO, mputf, stSet, stSetP, mfrz, mlst, mtup, mslice, mpart, intD, dSl, on1, on2, lenD, absD, TW.intOf, TW.listOf, TW.tupOf, dInt2, dCmp2, dNeg, dIx, dIsN, dNotN, D.isNon, dupFree, argsOf, argOf, Sl.some?, putBack, Opd.isS, Sl.own, Rv.sl, Rv.d, mwalk, walkD, itemsD, mrng, rng1, rng2, rng3, tgName, tgTup, tgCons, tgNil, masg, mpar2, stPar2, isiD, dTy, isiInt, isiBl, isiLst, isiTup, isiObj, or2, nm, List.findIdx?_cons, List.findIdx?_nil, e]
theorem ev_row (fu : Nat) {cs : List Int} {tt n κ : Nat} {r : Int} (Jg : Jug κ cs tt r n) (hn : n ≤ 700000) (hcl : cs.length ≤ 59) :
    ∃ (p : List Int) (t' : Nat) (r' : Int), Row p ∧ Jug κ cs t' r' (n + 40) ∧ d__law_row fu [.l (jug cs tt r)] = .ret (.v (.tup (I p))) [.l (jug cs t' r')] := by
  suffices h : ∃ (p : List Int) (t' : Nat) (r' : Int) (x1 x2 x3 : Sl), Row p ∧ Jug κ cs t' r' (n + 40) ∧ b__law_row fu [.l (jug cs tt r), .no, .no, .no] = .rt (.v (.tup (I p))) [.l (jug cs t' r'), x1, x2, x3] by
    obtain ⟨p, t', r', x1, x2, x3, R, J, e⟩ := h
    refine ⟨p, t', r', R, J, ?_⟩
    generalize I p = w at *
    generalize jug cs tt r = j0 at *
    generalize jug cs t' r' = j1 at *
    simp [d__law_row, fnD, e]
  unfold b__law_row
  obtain ⟨t1, r1, J1, e1 | ⟨p, R, e1⟩⟩ := ev_row1 fu Jg (by omega) hcl
  · obtain ⟨t2, r2, x, J2, x0, bx, e2⟩ := ev_row2 fu J1 (by omega) hcl
    obtain ⟨p3, t3, r3, x1, x3, hx1, n3, l3, b3, len3, J3, hx3, e3⟩ := ev_row3 fu J2 (by omega) hcl x0 bx
    obtain ⟨p4, t4, r4, x1', hx1', n4, b4, len4, J4, e4⟩ := ev_row4 fu J3 (by omega) hcl n3 l3 b3 len3 x1 x3 hx1 hx3
    cases hp4 : p4 with
    | nil => exact absurd hp4 n4
    | cons a q =>
      subst hp4
      have e5 : st__law_row_5 fu [.l (jug cs t4 r4), x1', .v (.tup (I (a :: q))), x3] = .nx [.l (jug cs t4 r4), x1', .l (I (a :: q)), x3] := by
        generalize I (a :: q) = w at *
        generalize jug cs t4 r4 = j4 at *
        simp [st__law_row_5, fnD, ms, mseq, mbind, mret, mopt, mbad, mvar, res, strong, strongs, ress, mun, mbin, mbinR, mcb, mcons, mcond, mif, mandV, morV, mnotV, tob, truD, mfld, fldD, putO, mputf, stSet, stSetP, mfrz, mlst, mtup, mslice, mpart, intD, dSl, on1, on2, lenD, absD, TW.intOf, TW.listOf, TW.tupOf, dInt2, dCmp2, dNeg, dIx, dIsN, dNotN, D.isNon, dupFree, argsOf, argOf, Sl.some?, putBack, Opd.isS, Sl.own, Rv.sl, Rv.d, mwalk, walkD, itemsD, mrng, rng1, rng2, rng3, tgName, tgTup, tgCons, tgNil, masg, mpar2, stPar2, isiD, dTy, isiInt, isiBl, isiLst, isiTup, isiObj, or2, nm, List.findIdx?_cons, List.findIdx?_nil]
      obtain ⟨z, t6, r6, b6, J6, e6⟩ := ev_row6 fu J4 (by omega) hcl b4 x1' x3 hx1' hx3
      obtain ⟨p7, s7, R7, e7⟩ := ev_row7 fu (jug cs t6 r6) (p := (a + z) :: q) (by simp at len4 ⊢; omega) b6 x1' x3 hx1' hx3
      refine ⟨p7, t6, r6, x1', s7, x3, R7, J6.mono (by omega), ?_⟩
      refine seq_to e1 ?_
      refine seq_to e2 ?_
      refine seq_to e3 ?_
      refine seq_to e4 ?_
      refine seq_to e5 ?_
      exact seq_to e6 e7
  · exact ⟨p, t1, r1, _, _, _, R, J1.mono (by omega), seq_rt e1⟩
end K30

set_option linter.all false
set_option autoImplicit false
set_option maxRecDepth 100000
set_option maxHeartbeats 4000000
namespace K30
open PySem TW L2
theorem ev_jug (fu : Nat) (ns : List Int) (hl : ns.length ≤ 63) : d__law_jug fu [.v (.arg (I ns))] = .ret (.l (jug (ns.take 59) 0 0)) [.v (.arg (I ns))] := by
  have hcut : cutD (I ns) none (some 59) = I (ns.take 59) := by
    unfold cutD
    have e2 : HT.sIx (I ns).length (I ns).length (some 59) = min 59 ns.length := by
      unfold HT.sIx; rw [I_len]; rfl
    have e1 : HT.sIx (I ns).length 0 none = 0 := rfl
    rw [e1, e2, List.drop_zero, Nat.sub_zero]
    show (ns.map D.int).take _ = (ns.take 59).map D.int
    rw [List.map_take]
    apply List.ext_getElem?
    intro i
    rw [List.getElem?_take, List.getElem?_take]
    by_cases h1 : i < ns.length
    · by_cases h2 : i < 59
      · rw [if_pos (by omega), if_pos h2]
      · rw [if_neg (by omega), if_neg h2]
    · have : (ns.map D.int)[i]? = none := List.getElem?_eq_none (by rw [List.length_map]; omega)
      rw [this]; split <;> split <;> rfl
  have hm : ci__law_jug_1 fu [.v (.arg (I ns)), .no] = .ok (I (ns.take 59)) [.v (.arg (I ns)), .no] := by
    generalize I (ns.take 59) = w2 at *
    generalize I ns = w at *
    simp [ci__law_jug_1, fnD, ms, mseq, mbind, mret, mopt, mbad, mvar, res, strong, strongs, ress, mun, mbin, mbinR, mcb, mcons, mcond, mif, mandV, morV, mnotV, tob, truD, mfld, fldD, putO, mputf, stSet, stSetP, mfrz, mlst, mtup, mslice, mpart, intD, dSl, on1, on2, lenD, absD, TW.intOf, TW.listOf, TW.tupOf, dInt2, dCmp2, dNeg, dIx, dIsN, dNotN, D.isNon, dupFree, argsOf, argOf, Sl.some?, putBack, Opd.isS, Sl.own, Rv.sl, Rv.d, mwalk, walkD, itemsD, mrng, rng1, rng2, rng3, tgName, tgTup, tgCons, tgNil, masg, mpar2, stPar2, isiD, dTy, isiInt, isiBl, isiLst, isiTup, isiObj, or2, nm, List.findIdx?_cons, List.findIdx?_nil, hcut]
  obtain ⟨acc, s', e, ⟨rfl, rfl⟩, _⟩ := comp_ok (vs := [1]) (tm := tgName 1) (tt := ct__law_jug_1 fu) (te := ce__law_jug_1 fu) (fun i acc s => s = [.v (.arg (I ns)), .no] ∧ acc = I ((ns.take 59).take i)) (I (ns.take 59)) 0 [] [.v (.arg (I ns)), .no] ⟨rfl, rfl⟩ (by rw [I_len]; simp; omega) fun j x acc s hj hP => by
    obtain ⟨rfl, rfl⟩ := hP
    obtain ⟨z, hz, rfl⟩ := I_at hj
    rw [Nat.zero_add]
    have hjl : j < (ns.take 59).length := (List.getElem?_eq_some_iff.mp hz).1
    have hzz : (ns.take 59)[j] = z := (List.getElem?_eq_some_iff.mp hz).2
    have hte : ce__law_jug_1 fu [.v (.arg (I ns)), .v (.int z)] = .ok (.int z) [.v (.arg (I ns)), .v (.int z)] := by
      simp [ce__law_jug_1, fnD, ms, mseq, mbind, mret, mopt, mbad, mvar, res, strong, strongs, ress, mun, mbin, mbinR, mcb, mcons, mcond, mif, mandV, morV, mnotV, tob, truD, mfld, fldD, putO, mputf, stSet, stSetP, mfrz, mlst, mtup, mslice, mpart, intD, dSl, on1, on2, lenD, absD, TW.intOf, TW.listOf, TW.tupOf, dInt2, dCmp2, dNeg, dIx, dIsN, dNotN, D.isNon, dupFree, argsOf, argOf, Sl.some?, putBack, Opd.isS, Sl.own, Rv.sl, Rv.d, mwalk, walkD, itemsD, mrng, rng1, rng2, rng3, tgName, tgTup, tgCons, tgNil, masg, mpar2, stPar2, isiD, dTy, isiInt, isiBl, isiLst, isiTup, isiObj, or2, nm, List.findIdx?_cons, List.findIdx?_nil]
    exact ⟨_, true, _, rfl, rfl, .inr ⟨_, _, rfl, hte, rfl, rfl, by rw [List.take_succ_eq_append_getElem hjl, hzz]; simp⟩⟩
  have ec : c__law_jug_1 fu [.v (.arg (I ns)), .no] = .ok (.l (I (ns.take 59))) [.v (.arg (I ns)), .no] := by
    unfold c__law_jug_1 mlc; rw [mb_k hm]
    rw [if_pos (by rfl)]
    have e' : compD [1] (tgName 1) (ct__law_jug_1 fu) (ce__law_jug_1 fu) (I (ns.take 59)) [] (wipeS [.v (.arg (I ns)), .no] [1]) = .ok (I ((ns.take 59).take (0 + (I (ns.take 59)).length))) [.v (.arg (I ns)), .no] := e
    rw [e', Nat.zero_add, I_len, List.take_length]; rfl
  show _ = OutF.ret (.l [.lst (I (ns.take 59)), .int 0, .int 0]) _
  generalize I (ns.take 59) = w2 at *
  generalize I ns = w at *
  simp [d__law_jug, b__law_jug, fnD, ms, mseq, mbind, mret, mopt, mbad, mvar, res, strong, strongs, ress, mun, mbin, mbinR, mcb, mcons, mcond, mif, mandV, morV, mnotV, tob, truD, mfld, fldD, putO, mputf, stSet, stSetP, mfrz, mlst, mtup, mslice, mpart, intD, dSl, on1, on2, lenD, absD, TW.intOf, TW.listOf, TW.tupOf, dInt2, dCmp2, dNeg, dIx, dIsN, dNotN, D.isNon, dupFree, argsOf, argOf, Sl.some?, putBack, Opd.isS, Sl.own, Rv.sl, Rv.d, mwalk, walkD, itemsD, mrng, rng1, rng2, rng3, tgName, tgTup, tgCons, tgNil, masg, mpar2, stPar2, isiD, dTy, isiInt, isiBl, isiLst, isiTup, isiObj, or2, nm, List.findIdx?_cons, List.findIdx?_nil, ec]
theorem ev_c_neg (fu : Nat) (d : D) (J : List D) (x2 : Sl) {p : List Int} (hl : p.length ≤ 100) : c_law_1 fu [.v d, .l J, x2, .v (.tup (I p)), .no, .no, .no, .no] = .ok (.l (I (p.map fun x => -x))) [.v d, .l J, x2, .v (.tup (I p)), .no, .no, .no, .no] := by
  have hm : ci_law_1 fu [.v d, .l J, x2, .v (.tup (I p)), .no, .no, .no, .no] = .ok (I p) [.v d, .l J, x2, .v (.tup (I p)), .no, .no, .no, .no] := by
    simp [ci_law_1, fnD, ms, mseq, mbind, mret, mopt, mbad, mvar, res, strong, strongs, ress, mun, mbin, mbinR, mcb, mcons, mcond, mif, mandV, morV, mnotV, tob, truD, mfld, fldD, putO, mputf, stSet, stSetP, mfrz, mlst, mtup, mslice, mpart, intD, dSl, on1, on2, lenD, absD, TW.intOf, TW.listOf, TW.tupOf, dInt2, dCmp2, dNeg, dIx, dIsN, dNotN, D.isNon, dupFree, argsOf, argOf, Sl.some?, putBack, Opd.isS, Sl.own, Rv.sl, Rv.d, mwalk, walkD, itemsD, mrng, rng1, rng2, rng3, tgName, tgTup, tgCons, tgNil, masg, mpar2, stPar2, isiD, dTy, isiInt, isiBl, isiLst, isiTup, isiObj, or2, nm, List.findIdx?_cons, List.findIdx?_nil]
  obtain ⟨acc, s', e, ⟨rfl, rfl⟩, _⟩ := comp_ok (vs := [4]) (tm := tgName 4) (tt := ct_law_1 fu) (te := ce_law_1 fu) (fun i acc s => s = [.v d, .l J, x2, .v (.tup (I p)), .no, .no, .no, .no] ∧ acc = I ((p.take i).map fun x => -x)) (I p) 0 [] [.v d, .l J, x2, .v (.tup (I p)), .no, .no, .no, .no] ⟨rfl, rfl⟩ (by rw [I_len]; simp; omega) fun j x acc s hj hP => by
    obtain ⟨rfl, rfl⟩ := hP
    obtain ⟨z, hz, rfl⟩ := I_at hj
    rw [Nat.zero_add]
    have hjl : j < p.length := (List.getElem?_eq_some_iff.mp hz).1
    have hzz : p[j] = z := (List.getElem?_eq_some_iff.mp hz).2
    have hte : ce_law_1 fu [.v d, .l J, x2, .v (.tup (I p)), .v (.int z), .no, .no, .no] = .ok (.int (-z)) [.v d, .l J, x2, .v (.tup (I p)), .v (.int z), .no, .no, .no] := by
      simp [ce_law_1, fnD, ms, mseq, mbind, mret, mopt, mbad, mvar, res, strong, strongs, ress, mun, mbin, mbinR, mcb, mcons, mcond, mif, mandV, morV, mnotV, tob, truD, mfld, fldD, putO, mputf, stSet, stSetP, mfrz, mlst, mtup, mslice, mpart, intD, dSl, on1, on2, lenD, absD, TW.intOf, TW.listOf, TW.tupOf, dInt2, dCmp2, dNeg, dIx, dIsN, dNotN, D.isNon, dupFree, argsOf, argOf, Sl.some?, putBack, Opd.isS, Sl.own, Rv.sl, Rv.d, mwalk, walkD, itemsD, mrng, rng1, rng2, rng3, tgName, tgTup, tgCons, tgNil, masg, mpar2, stPar2, isiD, dTy, isiInt, isiBl, isiLst, isiTup, isiObj, or2, nm, List.findIdx?_cons, List.findIdx?_nil]
    exact ⟨_, true, _, rfl, rfl, .inr ⟨_, _, rfl, hte, rfl, rfl, by rw [List.take_succ_eq_append_getElem hjl, hzz]; simp⟩⟩
  unfold c_law_1 mlc; rw [mb_k hm]
  rw [if_pos (by rfl)]
  have e' : compD [4] (tgName 4) (ct_law_1 fu) (ce_law_1 fu) (I p) [] (wipeS [.v d, .l J, x2, .v (.tup (I p)), .no, .no, .no, .no] [4]) = .ok (I ((p.take (0 + (I p).length)).map fun x => -x)) [.v d, .l J, x2, .v (.tup (I p)), .no, .no, .no, .no] := e
  rw [e', Nat.zero_add, I_len, List.take_length]; rfl
theorem ev_lb_law (fu : Nat) (hf : 2 ^ 1003 < fu) {cs : List Int} {tt n κ : Nat} {r : Int} (Jg : Jug κ cs tt r n) (hn : n ≤ 600000) (hcl : cs.length ≤ 59) (d : D) (x2 : Int) (x3 : Sl) (hx3 : x3 = .no ∨ ∃ z, x3 = .v z) :
    ∃ (p : List Int) (t' : Nat) (r' : Int), Jug κ cs t' r' (n + 46) ∧ lb_law_2 fu [.v d, .l (jug cs tt r), .v (.int x2), x3, .no, .no, .no, .no] = .nx [.v d, .l (jug cs t' r'), .v (.int x2), .v (.tup (I p)), .no, .no, .no, .no] := by
  obtain ⟨p, t1, r1, R, J1, e1⟩ := ev_row fu Jg (by omega) hcl
  obtain ⟨t2, r2, J2, e2⟩ := ev_told_right fu hf J1 (by omega) hcl R
  have hRl := R.len
  have ec := ev_c_neg fu d (jug cs t2 r2) (.v (.int x2)) (p := p) (by omega)
  obtain ⟨q, hq, e3⟩ := ev_cut fu (p := p.map fun x => -x) (by simp; omega)
  have R2 : Row q := by
    have hs := hq.sub
    refine ⟨by have := hs.1; simp at this; omega, fun x hx => ?_, hq.2⟩
    obtain ⟨y, hy, rfl⟩ := List.mem_map.mp (hs.2 x hx)
    have := R.bits y hy
    unfold bd at *; omega
  obtain ⟨t3, r3, J3, e4⟩ := ev_told_right fu hf J2 (by omega) hcl R2
  refine ⟨p, t3, r3, J3, ?_⟩
  generalize I (p.map fun x => -x) = w3 at *
  generalize I q = w2 at *
  generalize I p = w at *
  generalize jug cs tt r = j0 at *
  generalize jug cs t1 r1 = j1 at *
  generalize jug cs t2 r2 = j2 at *
  generalize jug cs t3 r3 = j3 at *
  rcases hx3 with rfl | ⟨z, rfl⟩ <;> simp [lb_law_2, mcall, fnD, ms, mseq, mbind, mret, mopt, mbad, mvar, res, strong, strongs, ress, mun, mbin, mbinR, mcb, mcons, mcond, mif, mandV, morV, mnotV, tob, truD, mfld, fldD, putO, mputf, stSet, stSetP, mfrz, mlst, mtup, mslice, mpart, intD, dSl, on1, on2, lenD, absD, TW.intOf, TW.listOf, TW.tupOf, dInt2, dCmp2, dNeg, dIx, dIsN, dNotN, D.isNon, dupFree, argsOf, argOf, Sl.some?, putBack, Opd.isS, Sl.own, Rv.sl, Rv.d, mwalk, walkD, itemsD, mrng, rng1, rng2, rng3, tgName, tgTup, tgCons, tgNil, masg, mpar2, stPar2, isiD, dTy, isiInt, isiBl, isiLst, isiTup, isiObj, or2, nm, List.findIdx?_cons, List.findIdx?_nil, e1, e2, ec, e3, e4]
end K30

set_option linter.all false
set_option autoImplicit false
set_option maxRecDepth 100000
set_option maxHeartbeats 4000000
namespace K30
open PySem TW L2
abbrev odds : List D := [.non, .int 5, .lst [.int 1, .int 2], .tup [.int 0, .int 1], .str "1", .bl true]
theorem ev_need_bad (fu : Nat) {d : D} (h : d ∈ odds) (x : Str) : d_need_polynomial fu [.v d, .v (.str x)] = .ex 101 [.str x] [.v d, .v (.str x)] := by
  simp only [odds, List.mem_cons, List.not_mem_nil, or_false] at h
  rcases h with rfl | rfl | rfl | rfl | rfl | rfl <;> simp [d_need_polynomial, b_need_polynomial, mraise, fnD, ms, mseq, mbind, mret, mopt, mbad, mvar, res, strong, strongs, ress, mun, mbin, mbinR, mcb, mcons, mcond, mif, mandV, morV, mnotV, tob, truD, mfld, fldD, putO, mputf, stSet, stSetP, mfrz, mlst, mtup, mslice, mpart, intD, dSl, on1, on2, lenD, absD, TW.intOf, TW.listOf, TW.tupOf, dInt2, dCmp2, dNeg, dIx, dIsN, dNotN, D.isNon, dupFree, argsOf, argOf, Sl.some?, putBack, Opd.isS, Sl.own, Rv.sl, Rv.d, mwalk, walkD, itemsD, mrng, rng1, rng2, rng3, tgName, tgTup, tgCons, tgNil, masg, mpar2, stPar2, isiD, dTy, isiInt, isiBl, isiLst, isiTup, isiObj, or2, nm, List.findIdx?_cons, List.findIdx?_nil]
theorem ev_above_bad (fu : Nat) {d : D} (h : d ∈ odds) : d_above_from fu [.v d] = .ex 101 [.str "polynomial"] [.v d] := by
  have e := ev_need_bad fu h "polynomial"
  simp [d_above_from, b_above_from, mcall, fnD, ms, mseq, mbind, mret, mopt, mbad, mvar, res, strong, strongs, ress, mun, mbin, mbinR, mcb, mcons, mcond, mif, mandV, morV, mnotV, tob, truD, mfld, fldD, putO, mputf, stSet, stSetP, mfrz, mlst, mtup, mslice, mpart, intD, dSl, on1, on2, lenD, absD, TW.intOf, TW.listOf, TW.tupOf, dInt2, dCmp2, dNeg, dIx, dIsN, dNotN, D.isNon, dupFree, argsOf, argOf, Sl.some?, putBack, Opd.isS, Sl.own, Rv.sl, Rv.d, mwalk, walkD, itemsD, mrng, rng1, rng2, rng3, tgName, tgTup, tgCons, tgNil, masg, mpar2, stPar2, isiD, dTy, isiInt, isiBl, isiLst, isiTup, isiObj, or2, nm, List.findIdx?_cons, List.findIdx?_nil, e]
theorem ev_law3 (fu : Nat) {cs : List Int} {tt n κ : Nat} {r : Int} (Jg : Jug κ cs tt r n) (hn : n ≤ 600000) (hcl : cs.length ≤ 59) (d0 : D) (x2 x3 : D) :
    ∃ (d : D) (t' : Nat) (r' : Int), d ∈ odds ∧ st_law_3 fu [.v d0, .l (jug cs tt r), .v x2, .v x3, .no, .no, .no, .no] = .nx [.v d0, .l (jug cs t' r'), .v x2, .v x3, .no, .v d, .v .non, .no] := by
  obtain ⟨d, t1, r1, hd', J1, e1⟩ := ev_of fu Jg (by omega) hcl (ds := odds) (by simp) (by simp)
  refine ⟨d, t1, r1, hd', ?_⟩
  clear hd'
  generalize jug cs tt r = j0 at *
  generalize jug cs t1 r1 = j1 at *
  simp [st_law_3, mcall, fnD, ms, mseq, mbind, mret, mopt, mbad, mvar, res, strong, strongs, ress, mun, mbin, mbinR, mcb, mcons, mcond, mif, mandV, morV, mnotV, tob, truD, mfld, fldD, putO, mputf, stSet, stSetP, mfrz, mlst, mtup, mslice, mpart, intD, dSl, on1, on2, lenD, absD, TW.intOf, TW.listOf, TW.tupOf, dInt2, dCmp2, dNeg, dIx, dIsN, dNotN, D.isNon, dupFree, argsOf, argOf, Sl.some?, putBack, Opd.isS, Sl.own, Rv.sl, Rv.d, mwalk, walkD, itemsD, mrng, rng1, rng2, rng3, tgName, tgTup, tgCons, tgNil, masg, mpar2, stPar2, isiD, dTy, isiInt, isiBl, isiLst, isiTup, isiObj, or2, nm, List.findIdx?_cons, List.findIdx?_nil, e1]
theorem ev_law4 (fu : Nat) (d0 : D) (J : List D) (x2 x3 : D) {d : D} (h : d ∈ odds) : st_law_4 fu [.v d0, .l J, .v x2, .v x3, .no, .v d, .v .non, .no] = .nx [.v d0, .l J, .v x2, .v x3, .no, .v d, .v (.str "polynomial"), .no] := by
  have e := ev_above_bad fu h
  simp [st_law_4, mtry, mcall, fnD, ms, mseq, mbind, mret, mopt, mbad, mvar, res, strong, strongs, ress, mun, mbin, mbinR, mcb, mcons, mcond, mif, mandV, morV, mnotV, tob, truD, mfld, fldD, putO, mputf, stSet, stSetP, mfrz, mlst, mtup, mslice, mpart, intD, dSl, on1, on2, lenD, absD, TW.intOf, TW.listOf, TW.tupOf, dInt2, dCmp2, dNeg, dIx, dIsN, dNotN, D.isNon, dupFree, argsOf, argOf, Sl.some?, putBack, Opd.isS, Sl.own, Rv.sl, Rv.d, mwalk, walkD, itemsD, mrng, rng1, rng2, rng3, tgName, tgTup, tgCons, tgNil, masg, mpar2, stPar2, isiD, dTy, isiInt, isiBl, isiLst, isiTup, isiObj, or2, nm, List.findIdx?_cons, List.findIdx?_nil, e, mxf, clr, clrS]
theorem eqP_str (x y : Str) (h1 : SeqAt.shaped (.str x) = true) (h2 : SeqAt.shaped (.str y) = true) : dEq (.str x) (.str y) = some (.bl (x == y)) := by
  unfold dEq eqP toPy; dsimp only; rw [h1, h2]; simp [PyData.eqv]
theorem least1 : Least [1] 2 := ⟨by decide, by decide, fun m h1 h2 => by omega⟩
theorem least2 : Least [10, -6, 1] 3 := ⟨by decide, by decide, fun m h1 h2 => by
  have : m = 2 := by omega
  subst this; decide⟩
theorem ev_law5 (fu : Nat) (hf : 2 ^ 1003 < fu) (d0 : D) (J : List D) (x2 x3 d : D) : ∃ s', st_law_5 fu [.v d0, .l J, .v x2, .v x3, .no, .v d, .v (.str "polynomial"), .no] = .rt (.v (.bl true)) s' := by
  have hpow : ∀ k, k ≤ 1000 → 2 ^ (k + 3) < fu := fun k hk => Nat.lt_of_le_of_lt (Nat.pow_le_pow_right (by decide) (by omega)) hf
  have hf2 : 1000 < fu := by
    have := hpow 10 (by omega)
    have e : 2 ^ (10 + 3) = 8192 := by decide
    omega
  have b1 : bdl 10 [1] := fun x hx => by simp at hx; subst hx; unfold bd; decide
  have b2 : bdl 10 [10, -6, 1] := fun x hx => by
    simp only [List.mem_cons, List.not_mem_nil, or_false] at hx
    rcases hx with rfl | rfl | rfl <;> unfold bd <;> decide
  obtain ⟨t1, L1, _, A1⟩ := abv_of fu (r := [1]) (by simp) b1 (by omega) (by simp) (by decide) (hpow 10 (by omega))
  obtain ⟨t2, L2', _, A2⟩ := abv_of fu (r := [10, -6, 1]) (by simp) b2 (by omega) (by simp) (by decide) (hpow 10 (by omega))
  have e1 := L1.uniq least1
  have e2 := L2'.uniq least2
  subst e1; subst e2
  have M1 : Mks fu (.lst (I [1])) [1] := mks_of fu (.inr rfl) (IsTrim.of (.inr (by decide))) (by simp) hf2
  have M2 : Mks fu (.lst (I [10, -6, 1])) [10, -6, 1] := mks_of fu (.inr rfl) (IsTrim.of (.inr (by decide))) (by simp) hf2
  have hs : dEq (.str "polynomial") (.str "polynomial") = some (.bl true) := by rw [eqP_str _ _ (by decide +kernel) (by decide +kernel)]; simp
  unfold Mks Abv at *
  have M1' : d_PolynomialX_initX fu [.o 0 [], .v (.lst [.int 1])] = .ret (.v .non) [.o 0 [.tup [.int 1], .int 0], .v (.lst [.int 1])] := M1
  have A1' : d_above_from fu [.v (.obj 0 [.tup [.int 1], .int 0])] = .ret (.v (.int 2)) [.v (.obj 0 [.tup [.int 1], .int 0])] := A1
  have M2' : d_PolynomialX_initX fu [.o 0 [], .v (.lst [.int 10, .int (-6), .int 1])] = .ret (.v .non) [.o 0 [.tup [.int 10, .int (-6), .int 1], .int 2], .v (.lst [.int 10, .int (-6), .int 1])] := M2
  have A2' : d_above_from fu [.v (.obj 0 [.tup [.int 10, .int (-6), .int 1], .int 2])] = .ret (.v (.int 3)) [.v (.obj 0 [.tup [.int 10, .int (-6), .int 1], .int 2])] := A2
  refine ⟨[.v d0, .l J, .v x2, .v x3, .no, .v d, .v (.str "polynomial"), .no], ?_⟩
  simp [st_law_5, mcall, mmake, fnD, ms, mseq, mbind, mret, mopt, mbad, mvar, res, strong, strongs, ress, mun, mbin, mbinR, mcb, mcons, mcond, mif, mandV, morV, mnotV, tob, truD, mfld, fldD, putO, mputf, stSet, stSetP, mfrz, mlst, mtup, mslice, mpart, intD, dSl, on1, on2, lenD, absD, TW.intOf, TW.listOf, TW.tupOf, dInt2, dCmp2, dNeg, dIx, dIsN, dNotN, D.isNon, dupFree, argsOf, argOf, Sl.some?, putBack, Opd.isS, Sl.own, Rv.sl, Rv.d, mwalk, walkD, itemsD, mrng, rng1, rng2, rng3, tgName, tgTup, tgCons, tgNil, masg, mpar2, stPar2, isiD, dTy, isiInt, isiBl, isiLst, isiTup, isiObj, or2, nm, List.findIdx?_cons, List.findIdx?_nil, hs, M1', A1', M2', A2', dEq_int]
theorem math (ns : List Int) (hl : ns.length ≤ 63) (hb : ∀ z ∈ ns, Builtin.Int.intBits z ≤ 1048576) : ∃ fu post, d_law fu [.v (.arg (ns.map D.int))] = .ret (.v (.bl true)) post := by
  obtain ⟨fu, hf⟩ : ∃ fu, 2 ^ 1003 < fu := ⟨2 ^ 1003 + 1, Nat.lt_succ_self _⟩
  have J0 : Jug 1048577 (ns.take 59) 0 0 0 := ⟨by omega, fun x hx => by
    have h := hb x (List.mem_of_mem_take hx)
    have hlog : x.natAbs.log2 < 1048577 := by
      unfold Builtin.Int.intBits at h
      split at h
      · rename_i h0; have : x = 0 := by simpa using h0
        subst this; simp
      · omega
    unfold bd
    by_cases h0 : x.natAbs = 0
    · rw [h0]; exact Nat.two_pow_pos _
    · exact (Nat.log2_lt h0).mp hlog, Nat.le_refl _, Int.le_refl _, Nat.two_pow_pos _⟩
  have hcl : (ns.take 59).length ≤ 59 := by simp; omega
  have e1 := ev_jug fu ns hl
  generalize (1048577 : Nat) = κ at J0
  generalize ns.take 59 = cs at *
  have s1 : st_law_1 fu [.v (.arg (I ns)), .no, .no, .no, .no, .no, .no, .no] = .nx [.v (.arg (I ns)), .l (jug cs 0 0), .no, .no, .no, .no, .no, .no] := by
    generalize jug cs 0 0 = j0 at *
    generalize I ns = w at *
    simp [st_law_1, mcall, fnD, ms, mseq, mbind, mret, mopt, mbad, mvar, res, strong, strongs, ress, mun, mbin, mbinR, mcb, mcons, mcond, mif, mandV, morV, mnotV, tob, truD, mfld, fldD, putO, mputf, stSet, stSetP, mfrz, mlst, mtup, mslice, mpart, intD, dSl, on1, on2, lenD, absD, TW.intOf, TW.listOf, TW.tupOf, dInt2, dCmp2, dNeg, dIx, dIsN, dNotN, D.isNon, dupFree, argsOf, argOf, Sl.some?, putBack, Opd.isS, Sl.own, Rv.sl, Rv.d, mwalk, walkD, itemsD, mrng, rng1, rng2, rng3, tgName, tgTup, tgCons, tgNil, masg, mpar2, stPar2, isiD, dTy, isiInt, isiBl, isiLst, isiTup, isiObj, or2, nm, List.findIdx?_cons, List.findIdx?_nil, e1]
  have hi : li_law_2 fu [.v (.arg (I ns)), .l (jug cs 0 0), .no, .no, .no, .no, .no, .no] = .ok (rangeD 0 5) [.v (.arg (I ns)), .l (jug cs 0 0), .no, .no, .no, .no, .no, .no] := by
    have ok : okR 5 = true := by decide
    simp [li_law_2, fnD, ms, mseq, mbind, mret, mopt, mbad, mvar, res, strong, strongs, ress, mun, mbin, mbinR, mcb, mcons, mcond, mif, mandV, morV, mnotV, tob, truD, mfld, fldD, putO, mputf, stSet, stSetP, mfrz, mlst, mtup, mslice, mpart, intD, dSl, on1, on2, lenD, absD, TW.intOf, TW.listOf, TW.tupOf, dInt2, dCmp2, dNeg, dIx, dIsN, dNotN, D.isNon, dupFree, argsOf, argOf, Sl.some?, putBack, Opd.isS, Sl.own, Rv.sl, Rv.d, mwalk, walkD, itemsD, mrng, rng1, rng2, rng3, tgName, tgTup, tgCons, tgNil, masg, mpar2, stPar2, isiD, dTy, isiInt, isiBl, isiLst, isiTup, isiObj, or2, nm, List.findIdx?_cons, List.findIdx?_nil, ok]
  obtain ⟨s', e, t', r', x2, x3, rfl, J, h5⟩ := for_ok (tm := tgName 2) (bd := lb_law_2 fu) (fun i s => ∃ (t' : Nat) (r' : Int) (x2 x3 : Sl), s = [.v (.arg (I ns)), .l (jug cs t' r'), x2, x3, .no, .no, .no, .no] ∧ Jug κ cs t' r' (i * 46) ∧ ((i = 0 ∧ x2 = .no ∧ x3 = .no) ∨ ∃ z2 z3, x2 = .v z2 ∧ x3 = .v z3)) hi ⟨0, 0, .no, .no, rfl, J0, .inl ⟨rfl, rfl, rfl⟩⟩ fun i d s hi hP => by
    obtain ⟨t', r', x2, x3, rfl, J, hx⟩ := hP
    obtain ⟨hin, rfl⟩ := rangeD_get hi
    have hx3 : x3 = .no ∨ ∃ z, x3 = .v z := by
      rcases hx with ⟨_, _, h⟩ | ⟨_, z, _, h⟩
      · exact .inl h
      · exact .inr ⟨z, h⟩
    obtain ⟨p, t2, r2, J2, e2⟩ := ev_lb_law fu hf J (by omega) hcl (.arg (I ns)) (0 + (i : Nat)) x3 hx3
    exact ⟨_, _, rfl, e2, t2, r2, _, _, rfl, J2.mono (by omega), .inr ⟨_, _, rfl, rfl⟩⟩
  have hr : (rangeD 0 5).length = 5 := by unfold rangeD; simp
  rw [hr] at J h5
  rcases h5 with ⟨h, _⟩ | ⟨z2, z3, rfl, rfl⟩
  · cases h
  · obtain ⟨d, t3, r3, hd', e3⟩ := ev_law3 fu J (by omega) hcl (.arg (I ns)) z2 z3
    have e4 := ev_law4 fu (.arg (I ns)) (jug cs t3 r3) z2 z3 hd'
    obtain ⟨s5, e5⟩ := ev_law5 fu hf (.arg (I ns)) (jug cs t3 r3) z2 z3 d
    have eb : b_law fu [.v (.arg (I ns)), .no, .no, .no, .no, .no, .no, .no] = .rt (.v (.bl true)) s5 := by
      unfold b_law
      refine seq_to s1 ?_
      refine seq_to e ?_
      refine seq_to e3 ?_
      exact seq_to e4 e5
    refine ⟨fu, s5.take 1, ?_⟩
    show d_law fu [.v (.arg (I ns))] = _
    generalize I ns = w at *
    simp [d_law, fnD, eb]
end K30

set_option Elab.async false
set_option linter.all false
set_option autoImplicit false
set_option maxRecDepth 100000
set_option maxHeartbeats 4000000
namespace K30
open PySem PySem.Spec PyProof.Rows L2 TW
def Math : Prop := ∀ ns : List Int, ns.length ≤ 63 → (∀ z ∈ ns, Builtin.Int.intBits z ≤ 1048576) → ∃ fu post, d_law fu [.v (.arg (ns.map D.int))] = .ret (.v (.bl true)) post
def spLaw (K : PySem.W.Frag) : Sp := fun vs H Q _ => ∃ (a : Addr) (ns : List Int), vs = [.ref a] ∧ SqL K H a (ns.map V.int) ∧ ns.length ≤ 63 ∧ (∀ z ∈ ns, Builtin.Int.intBits z ≤ 1048576) ∧ ∀ H', Q (.bl true) H'
theorem dens_ints {g : G} {B : Hp} : ∀ ns : List Int, Dens g B (ns.map D.int) (ns.map V.int)
  | [] => rfl
  | n :: ns => ⟨.int n, _, rfl, rfl, dens_ints ns⟩
theorem law_sp {P : Program} {w : World} {K : PySem.W.Frag} {mg : Str → Option Value} {cn : Nat → Addr} {base : Heap} {f : Addr} {fd : FuncData} {k : Nat} {ps : List Str} (F : ∀ fu, FnOk P w K mg base (L2.CX P w) k f fd ps (spD (gOf K mg cn) (d_law fu))) (hm : Math) : FnOk P w K mg base (L2.CX P w) k f fd ps (spLaw K) := by
  have key : ∀ vs H Q E, spLaw K vs H Q E → ∃ fu, spD (gOf K mg cn) (d_law fu) vs H Q E := fun vs H Q E h => by
    obtain ⟨a, ns, rfl, hS, hl, hb, q⟩ := h
    obtain ⟨fu, post, e⟩ := hm ns hl hb
    refine ⟨fu, H, [.v (.arg (ns.map D.int))], Evl.Ex.refl H, ⟨rfl, fun i x v h1 h2 => ?_, fun i j x y a' h1 _ h3 => ?_⟩, ?_⟩
    · match i, h1, h2 with
      | 0, h1, h2 => cases h1; cases h2; exact ⟨_, rfl, a, _, rfl, hS, dens_ints ns⟩
      | i + 1, h1, h2 => simp at h1
    · match i, h1 with
      | 0, h1 => cases h1; cases h3
      | i + 1, h1 => simp at h1
    · rw [e]
      intro v B' H' _ hv
      cases hv
      exact q H'
  refine ⟨fun vs H Q E h => ?_, fun A outer s H args us vs Q E hr e0 hb r h => ?_⟩
  · obtain ⟨fu, h'⟩ := key vs H Q E h
    exact (F fu).len vs H Q E h'
  · obtain ⟨fu, h'⟩ := key vs H Q E h
    exact (F fu).run A outer s H args us vs Q E hr e0 hb r h'
abbrev s_BadPolynomial : Stmt := inClass (top 4) 0
theorem sc_bp : FnScope ["self", "part"] ["self", "part"] (defScope s_BadPolynomial) := ⟨rfl, rfl, rfl, by decide +kernel, rfl, by decide +kernel, by decide +kernel⟩
theorem ok_bp {P : Program} {w : World} {K : PySem.W.Frag} {mg : Str → Option Value} {base : Heap} {f C : Addr} {fd : FuncData} (F : Fun K "__init__" "BadPolynomial.__init__" s_BadPolynomial f fd) (T : OexC K C) (hno : PySem.W.findIn K (.ref C) "part" = some none) : FnOk P w K mg base CX0 1 f fd ["self", "part"] (spI1 C "part") := by
  refine F.ok sc_bp (fun vs H Q E h => ?_) (fun cdv A outer s H vs Q E hr h => ?_)
  · obtain ⟨a, u, rfl, _⟩ := h
    rfl
  · obtain ⟨a, u, rfl, ha, k⟩ := h
    exact ⟨_, pss_one (ps_ost (pv 0) (pv 1)), u, rfl, .ref a, rfl, a, C, rfl, T, hno, .inl ⟨ha, fun dx h1 h2 => k dx h1 h2⟩⟩
theorem nm_poly {c : Nat} (h : ("numbers" : Str) ∈ nm c ∨ ("degree" : Str) ∈ nm c) : c = 0 := by
  unfold nm at h
  split at h
  · rfl
  · revert h; decide +kernel
  · rcases h with h | h <;> cases h
def isTyV : Value → Bool
  | .type _ => true
  | _ => false
theorem kit_other {K : PySem.W.Frag} {C : Addr} {n : String} (h1 : PySem.W.isClsIn K C = true) (h2 : PySem.W.typeIn K (.ref C) = some (.type "type")) (h3 : (PySem.fastBuiltinMro n).map (·.all isTyV) = some true) : PySem.W.kitOne K (.type n) (.ref C) = some false := by
  have e2 : ((PySem.W.clsIn K C).isSome && PySem.W.typeIn K (.ref C) == some (.type "type")) = true := by
    have h2' : (PySem.W.clsIn K C).isSome = true := h1
    rw [h2', h2] <;> rfl
  unfold PySem.W.kitOne
  rw [if_neg (by intro z; exact Value.noConfusion (beq_iff_eq.mp z))]
  show (if ((PySem.W.clsIn K C).isSome && PySem.W.typeIn K (.ref C) == some (.type "type")) = true then PySem.W.subIn K (.type n) (.ref C) else none) = some false
  rw [if_pos e2]
  show (PySem.fastBuiltinMro n).map (·.contains (.ref C)) = some false
  cases e : PySem.fastBuiltinMro n with
  | none => rw [e] at h3; cases h3
  | some l =>
    rw [e] at h3
    have h4 : l.all isTyV = true := Option.some.inj h3
    show some (l.contains (Value.ref C)) = some false
    congr 1
    rw [Bool.eq_false_iff]
    intro hc
    have := List.all_eq_true.mp h4 _ (List.contains_iff_mem.mp hc)
    cases this
theorem exm_self {K : PySem.W.Frag} {S : Addr} (h1 : PySem.W.subIn K (.ref S) (.type "BaseException") = some true) (h2 : PySem.W.isClsIn K S = true) (h3 : PySem.W.typeIn K (.ref S) = some (.type "type")) (h4 : PySem.W.subIn K (.ref S) (.ref S) = some true) :
    PySem.W.exmOne K (.ref S) (.ref S) = some true := by
  have e1 : (PySem.W.subIn K (.ref S) (.type "BaseException") == some true) = true := by rw [h1] <;> rfl
  have e2 : ((PySem.W.clsIn K S).isSome && PySem.W.typeIn K (.ref S) == some (.type "type")) = true := by
    have h2' : (PySem.W.clsIn K S).isSome = true := h2
    rw [h2', h3] <;> rfl
  show (if (PySem.W.subIn K (.ref S) (.type "BaseException") == some true) = true then (if ((PySem.W.clsIn K S).isSome && PySem.W.typeIn K (.ref S) == some (.type "type")) = true then PySem.W.subIn K (.ref S) (.ref S) else none) else none) = some true
  rw [if_pos e1, if_pos e2]
  exact h4
theorem all_mk {l : PySem.W.OpenLaw} {w : World} {K : PySem.W.Frag} {h : Heap} {mg : Str → Option Value} {fa C0 C101 fiC101 CTC101 f_is_integer f_are_integers f_need_polynomial f_trimmed f_shifted_by f_PolynomialX_initX f_is_above f_least_above f_above_from f__law_jug f__law_pour f__law_of f__law_cut f__law_worth f__law_power f__law_times f__law_choose f__law_moved f__law_is_above f__law_row f__law_told_right f_law : Addr} (X : K.In h) (G : h.Ns mainGlobals mg) (hfa : mg "law" = some (.ref fa))
    {nmC101 qC101 : Str} {NC101 : Addr} {bsC101 : List Value} {snC101 : List Str} {subC101 : List Value} {abC101 : Bool} {colC101 : Option Bool} {m0C101 : Option Addr} {m1C101 m2C101 m3C101 m4C101 m5C101 : Option Value}
    {odC101 od_is_integer od_are_integers od_need_polynomial od_trimmed od_shifted_by od_PolynomialX_initX od_is_above od_least_above od_above_from od__law_jug od__law_pour od__law_of od__law_cut od__law_worth od__law_power od__law_times od__law_choose od__law_moved od__law_is_above od__law_row od__law_told_right od_law anC101 an_is_integer an_are_integers an_need_polynomial an_trimmed an_shifted_by an_PolynomialX_initX an_is_above an_least_above an_above_from an__law_jug an__law_pour an__law_of an__law_cut an__law_worth an__law_power an__law_times an__law_choose an__law_moved an__law_is_above an__law_row an__law_told_right an_law : Option Addr} {slC101 sl_is_integer sl_are_integers sl_need_polynomial sl_trimmed sl_shifted_by sl_PolynomialX_initX sl_is_above sl_least_above sl_above_from sl__law_jug sl__law_pour sl__law_of sl__law_cut sl__law_worth sl__law_power sl__law_times sl__law_choose sl__law_moved sl__law_is_above sl__law_row sl__law_told_right sl_law : Array (Option Value)} {ocC101 oc_is_integer oc_are_integers oc_need_polynomial oc_trimmed oc_shifted_by oc_PolynomialX_initX oc_is_above oc_least_above oc_above_from oc__law_jug oc__law_pour oc__law_of oc__law_cut oc__law_worth oc__law_power oc__law_times oc__law_choose oc__law_moved oc__law_is_above oc__law_row oc__law_told_right oc_law kVC101 kV_is_integer kV_are_integers kV_need_polynomial kV_trimmed kV_shifted_by kV_PolynomialX_initX kV_is_above kV_least_above kV_above_from kV__law_jug kV__law_pour kV__law_of kV__law_cut kV__law_worth kV__law_power kV__law_times kV__law_choose kV__law_moved kV__law_is_above kV__law_row kV__law_told_right kV_law dcC101 dc_is_integer dc_are_integers dc_need_polynomial dc_trimmed dc_shifted_by dc_PolynomialX_initX dc_is_above dc_least_above dc_above_from dc__law_jug dc__law_pour dc__law_of dc__law_cut dc__law_worth dc__law_power dc__law_times dc__law_choose dc__law_moved dc__law_is_above dc__law_row dc__law_told_right dc_law pmC101 pm_is_integer pm_are_integers pm_need_polynomial pm_trimmed pm_shifted_by pm_PolynomialX_initX pm_is_above pm_least_above pm_above_from pm__law_jug pm__law_pour pm__law_of pm__law_cut pm__law_worth pm__law_power pm__law_times pm__law_choose pm__law_moved pm__law_is_above pm__law_row pm__law_told_right pm_law cdC101 cd_is_integer cd_are_integers cd_need_polynomial cd_trimmed cd_shifted_by cd_PolynomialX_initX cd_is_above cd_least_above cd_above_from cd__law_jug cd__law_pour cd__law_of cd__law_cut cd__law_worth cd__law_power cd__law_times cd__law_choose cd__law_moved cd__law_is_above cd__law_row cd__law_told_right cd_law ctC101 ct_is_integer ct_are_integers ct_need_polynomial ct_trimmed ct_shifted_by ct_PolynomialX_initX ct_is_above ct_least_above ct_above_from ct__law_jug ct__law_pour ct__law_of ct__law_cut ct__law_worth ct__law_power ct__law_times ct__law_choose ct__law_moved ct__law_is_above ct__law_row ct__law_told_right ct_law : Value} {tk_LEAST_M : Tok}
    (aC0 : PySem.W.nsIn K mainGlobals "Polynomial" = some (some (.ref C0)))
    (pgC0 : PySem.W.plainGet K C0 Str.empty = true)
    (hdC0 : PySem.W.hasDictIn K C0 = true)
    (poC0 : PySem.W.plainOver K C0 = true)
    (saC0 : PySem.W.findIn K (.ref C0) "__setattr__" = some (some (.builtin "object.__setattr__")))
    (haC0 : PySem.W.findIn K (.ref C0) "__class__" = some (some (.builtin "object.__class__")))
    (hnC0 : PySem.W.specialIn K (.builtin "object.__class__") "__get__" = some (some (.builtin "getset_descriptor.__get__")))
    (htC0 : PySem.W.takesIn K (.builtin "object.__class__") = some true)
    (hmC0 : PySem.W.mroIn K C0 (.type "object") = some true)
    (mkC0 : PySem.W.makesIn K C0 = true)
    (kcC0 : PySem.W.keepIn K (.ref C0) = true)
    (noC0_numbers : PySem.W.findIn K (.ref C0) "numbers" = some none)
    (noC0_degree : PySem.W.findIn K (.ref C0) "degree" = some none)
    (icC0 : PySem.W.isClsIn K C0 = true)
    (tyC0 : PySem.W.typeIn K (.ref C0) = some (.type "type"))
    (aC101 : PySem.W.nsIn K mainGlobals "BadPolynomial" = some (some (.ref C101)))
    (xLC101 : K.lookup C101 = some (excClassObj nmC101 qC101 C101 NC101 bsC101 [.ref CTC101, .type "ValueError", .type "Exception", .type "BaseException", .type "object"] true snC101 subC101 abC101 colC101 m0C101 m1C101 m2C101 m3C101 m4C101 m5C101 "ValueError.__new__"))
    (saC101 : PySem.W.findIn K (.ref C101) "__setattr__" = some (some (.builtin "object.__setattr__")))
    (gaC101 : PySem.W.findIn K (.ref C101) "__getattribute__" = some (some (.builtin "BaseException.__getattribute__")))
    (ggC101 : PySem.W.findIn K (.ref C101) "__getattr__" = some none)
    (noC101_part : PySem.W.findIn K (.ref C101) "part" = some none)
    (iC101 : PySem.W.findIn K (.ref C101) "__init__" = some (some (.ref fiC101)))
    (tC101 : PySem.W.typeIn K (.ref fiC101) = some (.type "function"))
    (lC101 : K.lookup fiC101 = some ⟨ocC101, odC101, .func (PySem.W.fnOf "__init__" "BadPolynomial.__init__" (defArgs s_BadPolynomial) (defBody s_BadPolynomial) (defScope s_BadPolynomial) .none kVC101 dcC101 pmC101 anC101 cdC101 ctC101), slC101⟩)
    (cC101 : PySem.W.codeIn K cdC101 "BadPolynomial.__init__" = true)
    (kfC101 : PySem.W.keepIn K (.ref fiC101) = true)
    (kCC101 : PySem.W.keepIn K (.ref C101) = true)
    (eCC101 : PySem.W.subIn K (.ref C101) (.type "BaseException") = some true)
    (tCC101 : PySem.W.typeIn K (.ref C101) = some (.type "type"))
    (hCC101 : PySem.W.hasDictIn K C101 = true)
    (iCC101 : PySem.W.isClsIn K C101 = true)
    (sCC101 : PySem.W.subIn K (.ref C101) (.ref C101) = some true)
    (z_abs : PySem.W.nsIn K mainGlobals "abs" = some none)
    (z_all : PySem.W.nsIn K mainGlobals "all" = some none)
    (z_bool : PySem.W.nsIn K mainGlobals "bool" = some none)
    (z_enumerate : PySem.W.nsIn K mainGlobals "enumerate" = some none)
    (z_int : PySem.W.nsIn K mainGlobals "int" = some none)
    (z_isinstance : PySem.W.nsIn K mainGlobals "isinstance" = some none)
    (z_len : PySem.W.nsIn K mainGlobals "len" = some none)
    (z_list : PySem.W.nsIn K mainGlobals "list" = some none)
    (z_max : PySem.W.nsIn K mainGlobals "max" = some none)
    (z_min : PySem.W.nsIn K mainGlobals "min" = some none)
    (z_range : PySem.W.nsIn K mainGlobals "range" = some none)
    (z_sum : PySem.W.nsIn K mainGlobals "sum" = some none)
    (z_tuple : PySem.W.nsIn K mainGlobals "tuple" = some none)
    (v_LEAST_M : PySem.W.nsIn K mainGlobals "LEAST_M" = some (some (.int 2 tk_LEAST_M)))
    (a_is_integer : PySem.W.nsIn K mainGlobals "is_integer" = some (some (.ref f_is_integer)))
    (l_is_integer : K.lookup f_is_integer = some ⟨oc_is_integer, od_is_integer, .func (PySem.W.fnOf "is_integer" "is_integer" (defArgs s_is_integer) (defBody s_is_integer) (defScope s_is_integer) .none kV_is_integer dc_is_integer pm_is_integer an_is_integer cd_is_integer ct_is_integer), sl_is_integer⟩)
    (c_is_integer : PySem.W.codeIn K cd_is_integer "is_integer" = true)
    (k_is_integer : PySem.W.keepIn K (.ref f_is_integer) = true)
    (a_are_integers : PySem.W.nsIn K mainGlobals "are_integers" = some (some (.ref f_are_integers)))
    (l_are_integers : K.lookup f_are_integers = some ⟨oc_are_integers, od_are_integers, .func (PySem.W.fnOf "are_integers" "are_integers" (defArgs s_are_integers) (defBody s_are_integers) (defScope s_are_integers) .none kV_are_integers dc_are_integers pm_are_integers an_are_integers cd_are_integers ct_are_integers), sl_are_integers⟩)
    (c_are_integers : PySem.W.codeIn K cd_are_integers "are_integers" = true)
    (k_are_integers : PySem.W.keepIn K (.ref f_are_integers) = true)
    (a_need_polynomial : PySem.W.nsIn K mainGlobals "need_polynomial" = some (some (.ref f_need_polynomial)))
    (l_need_polynomial : K.lookup f_need_polynomial = some ⟨oc_need_polynomial, od_need_polynomial, .func (PySem.W.fnOf "need_polynomial" "need_polynomial" (defArgs s_need_polynomial) (defBody s_need_polynomial) (defScope s_need_polynomial) .none kV_need_polynomial dc_need_polynomial pm_need_polynomial an_need_polynomial cd_need_polynomial ct_need_polynomial), sl_need_polynomial⟩)
    (c_need_polynomial : PySem.W.codeIn K cd_need_polynomial "need_polynomial" = true)
    (k_need_polynomial : PySem.W.keepIn K (.ref f_need_polynomial) = true)
    (a_trimmed : PySem.W.nsIn K mainGlobals "trimmed" = some (some (.ref f_trimmed)))
    (l_trimmed : K.lookup f_trimmed = some ⟨oc_trimmed, od_trimmed, .func (PySem.W.fnOf "trimmed" "trimmed" (defArgs s_trimmed) (defBody s_trimmed) (defScope s_trimmed) .none kV_trimmed dc_trimmed pm_trimmed an_trimmed cd_trimmed ct_trimmed), sl_trimmed⟩)
    (c_trimmed : PySem.W.codeIn K cd_trimmed "trimmed" = true)
    (k_trimmed : PySem.W.keepIn K (.ref f_trimmed) = true)
    (a_shifted_by : PySem.W.nsIn K mainGlobals "shifted_by" = some (some (.ref f_shifted_by)))
    (l_shifted_by : K.lookup f_shifted_by = some ⟨oc_shifted_by, od_shifted_by, .func (PySem.W.fnOf "shifted_by" "shifted_by" (defArgs s_shifted_by) (defBody s_shifted_by) (defScope s_shifted_by) .none kV_shifted_by dc_shifted_by pm_shifted_by an_shifted_by cd_shifted_by ct_shifted_by), sl_shifted_by⟩)
    (c_shifted_by : PySem.W.codeIn K cd_shifted_by "shifted_by" = true)
    (k_shifted_by : PySem.W.keepIn K (.ref f_shifted_by) = true)
    (a_PolynomialX_initX : PySem.W.findIn K (.ref C0) "__init__" = some (some (.ref f_PolynomialX_initX)))
    (i_PolynomialX_initX : PySem.W.isFn K (.ref f_PolynomialX_initX) = true)
    (l_PolynomialX_initX : K.lookup f_PolynomialX_initX = some ⟨oc_PolynomialX_initX, od_PolynomialX_initX, .func (PySem.W.fnOf "__init__" "Polynomial.__init__" (defArgs s_PolynomialX_initX) (defBody s_PolynomialX_initX) (defScope s_PolynomialX_initX) .none kV_PolynomialX_initX dc_PolynomialX_initX pm_PolynomialX_initX an_PolynomialX_initX cd_PolynomialX_initX ct_PolynomialX_initX), sl_PolynomialX_initX⟩)
    (c_PolynomialX_initX : PySem.W.codeIn K cd_PolynomialX_initX "Polynomial.__init__" = true)
    (k_PolynomialX_initX : PySem.W.keepIn K (.ref f_PolynomialX_initX) = true)
    (a_is_above : PySem.W.nsIn K mainGlobals "is_above" = some (some (.ref f_is_above)))
    (l_is_above : K.lookup f_is_above = some ⟨oc_is_above, od_is_above, .func (PySem.W.fnOf "is_above" "is_above" (defArgs s_is_above) (defBody s_is_above) (defScope s_is_above) .none kV_is_above dc_is_above pm_is_above an_is_above cd_is_above ct_is_above), sl_is_above⟩)
    (c_is_above : PySem.W.codeIn K cd_is_above "is_above" = true)
    (k_is_above : PySem.W.keepIn K (.ref f_is_above) = true)
    (a_least_above : PySem.W.nsIn K mainGlobals "least_above" = some (some (.ref f_least_above)))
    (l_least_above : K.lookup f_least_above = some ⟨oc_least_above, od_least_above, .func (PySem.W.fnOf "least_above" "least_above" (defArgs s_least_above) (defBody s_least_above) (defScope s_least_above) .none kV_least_above dc_least_above pm_least_above an_least_above cd_least_above ct_least_above), sl_least_above⟩)
    (c_least_above : PySem.W.codeIn K cd_least_above "least_above" = true)
    (k_least_above : PySem.W.keepIn K (.ref f_least_above) = true)
    (a_above_from : PySem.W.nsIn K mainGlobals "above_from" = some (some (.ref f_above_from)))
    (l_above_from : K.lookup f_above_from = some ⟨oc_above_from, od_above_from, .func (PySem.W.fnOf "above_from" "above_from" (defArgs s_above_from) (defBody s_above_from) (defScope s_above_from) .none kV_above_from dc_above_from pm_above_from an_above_from cd_above_from ct_above_from), sl_above_from⟩)
    (c_above_from : PySem.W.codeIn K cd_above_from "above_from" = true)
    (k_above_from : PySem.W.keepIn K (.ref f_above_from) = true)
    (a__law_jug : PySem.W.nsIn K mainGlobals "_law_jug" = some (some (.ref f__law_jug)))
    (l__law_jug : K.lookup f__law_jug = some ⟨oc__law_jug, od__law_jug, .func (PySem.W.fnOf "_law_jug" "_law_jug" (defArgs s__law_jug) (defBody s__law_jug) (defScope s__law_jug) .none kV__law_jug dc__law_jug pm__law_jug an__law_jug cd__law_jug ct__law_jug), sl__law_jug⟩)
    (c__law_jug : PySem.W.codeIn K cd__law_jug "_law_jug" = true)
    (k__law_jug : PySem.W.keepIn K (.ref f__law_jug) = true)
    (a__law_pour : PySem.W.nsIn K mainGlobals "_law_pour" = some (some (.ref f__law_pour)))
    (l__law_pour : K.lookup f__law_pour = some ⟨oc__law_pour, od__law_pour, .func (PySem.W.fnOf "_law_pour" "_law_pour" (defArgs s__law_pour) (defBody s__law_pour) (defScope s__law_pour) .none kV__law_pour dc__law_pour pm__law_pour an__law_pour cd__law_pour ct__law_pour), sl__law_pour⟩)
    (c__law_pour : PySem.W.codeIn K cd__law_pour "_law_pour" = true)
    (k__law_pour : PySem.W.keepIn K (.ref f__law_pour) = true)
    (a__law_of : PySem.W.nsIn K mainGlobals "_law_of" = some (some (.ref f__law_of)))
    (l__law_of : K.lookup f__law_of = some ⟨oc__law_of, od__law_of, .func (PySem.W.fnOf "_law_of" "_law_of" (defArgs s__law_of) (defBody s__law_of) (defScope s__law_of) .none kV__law_of dc__law_of pm__law_of an__law_of cd__law_of ct__law_of), sl__law_of⟩)
    (c__law_of : PySem.W.codeIn K cd__law_of "_law_of" = true)
    (k__law_of : PySem.W.keepIn K (.ref f__law_of) = true)
    (a__law_cut : PySem.W.nsIn K mainGlobals "_law_cut" = some (some (.ref f__law_cut)))
    (l__law_cut : K.lookup f__law_cut = some ⟨oc__law_cut, od__law_cut, .func (PySem.W.fnOf "_law_cut" "_law_cut" (defArgs s__law_cut) (defBody s__law_cut) (defScope s__law_cut) .none kV__law_cut dc__law_cut pm__law_cut an__law_cut cd__law_cut ct__law_cut), sl__law_cut⟩)
    (c__law_cut : PySem.W.codeIn K cd__law_cut "_law_cut" = true)
    (k__law_cut : PySem.W.keepIn K (.ref f__law_cut) = true)
    (a__law_worth : PySem.W.nsIn K mainGlobals "_law_worth" = some (some (.ref f__law_worth)))
    (l__law_worth : K.lookup f__law_worth = some ⟨oc__law_worth, od__law_worth, .func (PySem.W.fnOf "_law_worth" "_law_worth" (defArgs s__law_worth) (defBody s__law_worth) (defScope s__law_worth) .none kV__law_worth dc__law_worth pm__law_worth an__law_worth cd__law_worth ct__law_worth), sl__law_worth⟩)
    (c__law_worth : PySem.W.codeIn K cd__law_worth "_law_worth" = true)
    (k__law_worth : PySem.W.keepIn K (.ref f__law_worth) = true)
    (a__law_power : PySem.W.nsIn K mainGlobals "_law_power" = some (some (.ref f__law_power)))
    (l__law_power : K.lookup f__law_power = some ⟨oc__law_power, od__law_power, .func (PySem.W.fnOf "_law_power" "_law_power" (defArgs s__law_power) (defBody s__law_power) (defScope s__law_power) .none kV__law_power dc__law_power pm__law_power an__law_power cd__law_power ct__law_power), sl__law_power⟩)
    (c__law_power : PySem.W.codeIn K cd__law_power "_law_power" = true)
    (k__law_power : PySem.W.keepIn K (.ref f__law_power) = true)
    (a__law_times : PySem.W.nsIn K mainGlobals "_law_times" = some (some (.ref f__law_times)))
    (l__law_times : K.lookup f__law_times = some ⟨oc__law_times, od__law_times, .func (PySem.W.fnOf "_law_times" "_law_times" (defArgs s__law_times) (defBody s__law_times) (defScope s__law_times) .none kV__law_times dc__law_times pm__law_times an__law_times cd__law_times ct__law_times), sl__law_times⟩)
    (c__law_times : PySem.W.codeIn K cd__law_times "_law_times" = true)
    (k__law_times : PySem.W.keepIn K (.ref f__law_times) = true)
    (a__law_choose : PySem.W.nsIn K mainGlobals "_law_choose" = some (some (.ref f__law_choose)))
    (l__law_choose : K.lookup f__law_choose = some ⟨oc__law_choose, od__law_choose, .func (PySem.W.fnOf "_law_choose" "_law_choose" (defArgs s__law_choose) (defBody s__law_choose) (defScope s__law_choose) .none kV__law_choose dc__law_choose pm__law_choose an__law_choose cd__law_choose ct__law_choose), sl__law_choose⟩)
    (c__law_choose : PySem.W.codeIn K cd__law_choose "_law_choose" = true)
    (k__law_choose : PySem.W.keepIn K (.ref f__law_choose) = true)
    (a__law_moved : PySem.W.nsIn K mainGlobals "_law_moved" = some (some (.ref f__law_moved)))
    (l__law_moved : K.lookup f__law_moved = some ⟨oc__law_moved, od__law_moved, .func (PySem.W.fnOf "_law_moved" "_law_moved" (defArgs s__law_moved) (defBody s__law_moved) (defScope s__law_moved) .none kV__law_moved dc__law_moved pm__law_moved an__law_moved cd__law_moved ct__law_moved), sl__law_moved⟩)
    (c__law_moved : PySem.W.codeIn K cd__law_moved "_law_moved" = true)
    (k__law_moved : PySem.W.keepIn K (.ref f__law_moved) = true)
    (a__law_is_above : PySem.W.nsIn K mainGlobals "_law_is_above" = some (some (.ref f__law_is_above)))
    (l__law_is_above : K.lookup f__law_is_above = some ⟨oc__law_is_above, od__law_is_above, .func (PySem.W.fnOf "_law_is_above" "_law_is_above" (defArgs s__law_is_above) (defBody s__law_is_above) (defScope s__law_is_above) .none kV__law_is_above dc__law_is_above pm__law_is_above an__law_is_above cd__law_is_above ct__law_is_above), sl__law_is_above⟩)
    (c__law_is_above : PySem.W.codeIn K cd__law_is_above "_law_is_above" = true)
    (k__law_is_above : PySem.W.keepIn K (.ref f__law_is_above) = true)
    (a__law_row : PySem.W.nsIn K mainGlobals "_law_row" = some (some (.ref f__law_row)))
    (l__law_row : K.lookup f__law_row = some ⟨oc__law_row, od__law_row, .func (PySem.W.fnOf "_law_row" "_law_row" (defArgs s__law_row) (defBody s__law_row) (defScope s__law_row) .none kV__law_row dc__law_row pm__law_row an__law_row cd__law_row ct__law_row), sl__law_row⟩)
    (c__law_row : PySem.W.codeIn K cd__law_row "_law_row" = true)
    (k__law_row : PySem.W.keepIn K (.ref f__law_row) = true)
    (a__law_told_right : PySem.W.nsIn K mainGlobals "_law_told_right" = some (some (.ref f__law_told_right)))
    (l__law_told_right : K.lookup f__law_told_right = some ⟨oc__law_told_right, od__law_told_right, .func (PySem.W.fnOf "_law_told_right" "_law_told_right" (defArgs s__law_told_right) (defBody s__law_told_right) (defScope s__law_told_right) .none kV__law_told_right dc__law_told_right pm__law_told_right an__law_told_right cd__law_told_right ct__law_told_right), sl__law_told_right⟩)
    (c__law_told_right : PySem.W.codeIn K cd__law_told_right "_law_told_right" = true)
    (k__law_told_right : PySem.W.keepIn K (.ref f__law_told_right) = true)
    (a_law : PySem.W.nsIn K mainGlobals "law" = some (some (.ref f_law)))
    (l_law : K.lookup f_law = some ⟨oc_law, od_law, .func (PySem.W.fnOf "law" "law" (defArgs s_law) (defBody s_law) (defScope s_law) .none kV_law dc_law pm_law an_law cd_law ct_law), sl_law⟩)
    (c_law : PySem.W.codeIn K cd_law "law" = true)
    (k_law : PySem.W.keepIn K (.ref f_law) = true)
    (hlaw : Math) : ∃ fd : FuncData, (∀ (s : Shared) (v : Value), BindsTo s fd ⟨[v], []⟩ [("_law_script", v)]) ∧ ∀ base : Heap, K.In base → base.Ns mainGlobals mg → FnOk l.prog w K mg base (L2.CX l.prog w) 6 fa fd ["_law_script"] (spLaw K) := by
  have e := hfa.symm.trans (PySem.W.mg_of X G a_law)
  cases e
  let cn : Nat → Addr := fun n => if n = 101 then C101 else C0
  have cn0 : ∀ c, c < 100 → cn c = C0 := fun c hc => if_neg (by omega)
  have cn101 : cn 101 = C101 := if_pos rfl
  have cl0 : Cls K C0 := ⟨pgC0, hdC0, poC0, saC0⟩
  have oex : OexC K C101 := ⟨⟨nmC101, qC101, NC101, bsC101, _, snC101, subC101, abC101, colC101, m0C101, m1C101, m2C101, m3C101, m4C101, m5C101, xLC101, rfl⟩, saC101, eCC101, tCC101, kCC101⟩
  have FI := fun_mk (st := s_BadPolynomial) lC101 cC101 kfC101
  have bI := FI.binds (ps := ["self", "part"]) fun _ _ _ _ _ _ us hl => match us, hl with | [_, _], _ => rfl
  have T : Txt K mg cn := {
    hI := fun c hc => by rw [cn0 c hc]; exact ⟨cl0, haC0, hnC0, htC0, hmC0⟩
    nmlen := fun c => by unfold nm; split <;> decide
    n_abs := PySem.W.mg_none_of X G z_abs
    n_all := PySem.W.mg_none_of X G z_all
    n_bool := PySem.W.mg_none_of X G z_bool
    n_enumerate := PySem.W.mg_none_of X G z_enumerate
    n_int := PySem.W.mg_none_of X G z_int
    n_isinstance := PySem.W.mg_none_of X G z_isinstance
    n_len := PySem.W.mg_none_of X G z_len
    n_list := PySem.W.mg_none_of X G z_list
    n_max := PySem.W.mg_none_of X G z_max
    n_min := PySem.W.mg_none_of X G z_min
    n_range := PySem.W.mg_none_of X G z_range
    n_sum := PySem.W.mg_none_of X G z_sum
    n_tuple := PySem.W.mg_none_of X G z_tuple
    m_Polynomial := PySem.W.mg_of X G aC0
    isi_Polynomial := fun n hn => by
      have e : cn 0 = C0 := cn0 0 (by decide)
      rw [e]
      simp only [List.mem_cons, List.not_mem_nil, or_false] at hn
      rcases hn with rfl | rfl | rfl | rfl | rfl | rfl
      · exact kit_other icC0 tyC0 (by decide +kernel)
      · exact kit_other icC0 tyC0 (by decide +kernel)
      · exact kit_other icC0 tyC0 (by decide +kernel)
      · exact kit_other icC0 tyC0 (by decide +kernel)
      · exact kit_other icC0 tyC0 (by decide +kernel)
      · exact kit_other icC0 tyC0 (by decide +kernel)
    c_LEAST_M := ⟨_, PySem.W.mg_of X G v_LEAST_M⟩
    F_degree := fun c hc => by
      have e : c = 0 := nm_poly (.inr hc)
      subst e
      exact ⟨cl0, noC0_degree⟩
    F_numbers := fun c hc => by
      have e : c = 0 := nm_poly (.inl hc)
      subst e
      exact ⟨cl0, noC0_numbers⟩
    BadPolynomial := ⟨oex, PySem.W.mg_of X G aC101, fiC101, iC101, tC101, fun P w base => ⟨_, _, ok_bp FI oex noC101_part, bI⟩⟩
    X_BadPolynomial := ⟨gaC101, ggC101, eCC101, hCC101⟩
    no_part := noC101_part
    ex_BadPolynomial := exm_self eCC101 iCC101 tCC101 sCC101 }
  have F_is_integer := fun_mk (st := s_is_integer) l_is_integer c_is_integer k_is_integer
  have b_is_integer := F_is_integer.binds (ps := p_is_integer) fun _ _ _ _ _ _ us hl => match us, hl with | [_], _ => rfl
  have F_are_integers := fun_mk (st := s_are_integers) l_are_integers c_are_integers k_are_integers
  have b_are_integers := F_are_integers.binds (ps := p_are_integers) fun _ _ _ _ _ _ us hl => match us, hl with | [_], _ => rfl
  have F_need_polynomial := fun_mk (st := s_need_polynomial) l_need_polynomial c_need_polynomial k_need_polynomial
  have b_need_polynomial := F_need_polynomial.binds (ps := p_need_polynomial) fun _ _ _ _ _ _ us hl => match us, hl with | [_, _], _ => rfl
  have F_trimmed := fun_mk (st := s_trimmed) l_trimmed c_trimmed k_trimmed
  have b_trimmed := F_trimmed.binds (ps := p_trimmed) fun _ _ _ _ _ _ us hl => match us, hl with | [_], _ => rfl
  have F_shifted_by := fun_mk (st := s_shifted_by) l_shifted_by c_shifted_by k_shifted_by
  have b_shifted_by := F_shifted_by.binds (ps := p_shifted_by) fun _ _ _ _ _ _ us hl => match us, hl with | [_, _], _ => rfl
  have F_PolynomialX_initX := fun_mk (st := s_PolynomialX_initX) l_PolynomialX_initX c_PolynomialX_initX k_PolynomialX_initX
  have b_PolynomialX_initX := F_PolynomialX_initX.binds (ps := p_PolynomialX_initX) fun _ _ _ _ _ _ us hl => match us, hl with | [_, _], _ => rfl
  have F_is_above := fun_mk (st := s_is_above) l_is_above c_is_above k_is_above
  have b_is_above := F_is_above.binds (ps := p_is_above) fun _ _ _ _ _ _ us hl => match us, hl with | [_, _], _ => rfl
  have F_least_above := fun_mk (st := s_least_above) l_least_above c_least_above k_least_above
  have b_least_above := F_least_above.binds (ps := p_least_above) fun _ _ _ _ _ _ us hl => match us, hl with | [_], _ => rfl
  have F_above_from := fun_mk (st := s_above_from) l_above_from c_above_from k_above_from
  have b_above_from := F_above_from.binds (ps := p_above_from) fun _ _ _ _ _ _ us hl => match us, hl with | [_], _ => rfl
  have F__law_jug := fun_mk (st := s__law_jug) l__law_jug c__law_jug k__law_jug
  have b__law_jug := F__law_jug.binds (ps := p__law_jug) fun _ _ _ _ _ _ us hl => match us, hl with | [_], _ => rfl
  have F__law_pour := fun_mk (st := s__law_pour) l__law_pour c__law_pour k__law_pour
  have b__law_pour := F__law_pour.binds (ps := p__law_pour) fun _ _ _ _ _ _ us hl => match us, hl with | [_, _], _ => rfl
  have F__law_of := fun_mk (st := s__law_of) l__law_of c__law_of k__law_of
  have b__law_of := F__law_of.binds (ps := p__law_of) fun _ _ _ _ _ _ us hl => match us, hl with | [_, _], _ => rfl
  have F__law_cut := fun_mk (st := s__law_cut) l__law_cut c__law_cut k__law_cut
  have b__law_cut := F__law_cut.binds (ps := p__law_cut) fun _ _ _ _ _ _ us hl => match us, hl with | [_], _ => rfl
  have F__law_worth := fun_mk (st := s__law_worth) l__law_worth c__law_worth k__law_worth
  have b__law_worth := F__law_worth.binds (ps := p__law_worth) fun _ _ _ _ _ _ us hl => match us, hl with | [_, _], _ => rfl
  have F__law_power := fun_mk (st := s__law_power) l__law_power c__law_power k__law_power
  have b__law_power := F__law_power.binds (ps := p__law_power) fun _ _ _ _ _ _ us hl => match us, hl with | [_, _], _ => rfl
  have F__law_times := fun_mk (st := s__law_times) l__law_times c__law_times k__law_times
  have b__law_times := F__law_times.binds (ps := p__law_times) fun _ _ _ _ _ _ us hl => match us, hl with | [_, _], _ => rfl
  have F__law_choose := fun_mk (st := s__law_choose) l__law_choose c__law_choose k__law_choose
  have b__law_choose := F__law_choose.binds (ps := p__law_choose) fun _ _ _ _ _ _ us hl => match us, hl with | [_, _], _ => rfl
  have F__law_moved := fun_mk (st := s__law_moved) l__law_moved c__law_moved k__law_moved
  have b__law_moved := F__law_moved.binds (ps := p__law_moved) fun _ _ _ _ _ _ us hl => match us, hl with | [_, _], _ => rfl
  have F__law_is_above := fun_mk (st := s__law_is_above) l__law_is_above c__law_is_above k__law_is_above
  have b__law_is_above := F__law_is_above.binds (ps := p__law_is_above) fun _ _ _ _ _ _ us hl => match us, hl with | [_, _], _ => rfl
  have F__law_row := fun_mk (st := s__law_row) l__law_row c__law_row k__law_row
  have b__law_row := F__law_row.binds (ps := p__law_row) fun _ _ _ _ _ _ us hl => match us, hl with | [_], _ => rfl
  have F__law_told_right := fun_mk (st := s__law_told_right) l__law_told_right c__law_told_right k__law_told_right
  have b__law_told_right := F__law_told_right.binds (ps := p__law_told_right) fun _ _ _ _ _ _ us hl => match us, hl with | [_, _], _ => rfl
  have F_law := fun_mk (st := s_law) l_law c_law k_law
  have b_law := F_law.binds (ps := p_law) fun _ _ _ _ _ _ us hl => match us, hl with | [_], _ => rfl
  refine ⟨PySem.W.fnOf "law" "law" (defArgs s_law) (defBody s_law) (defScope s_law) .none kV_law dc_law pm_law an_law cd_law ct_law, fun s v => .of_eq rfl, fun base _ _ => law_sp (cn := cn) (fun fu => ?_) hlaw⟩
  have C_is_integer : Cl l.prog w (gOf K mg cn) base 1 "is_integer" p_is_integer (d_is_integer fu) := ⟨⟨f_is_integer, _, ok_is_integer F_is_integer T, PySem.W.mg_of X G a_is_integer, k_is_integer, b_is_integer, fun us hl s => match us, hl with | [_], _ => .of_eq rfl⟩⟩
  have C_are_integers : Cl l.prog w (gOf K mg cn) base 2 "are_integers" p_are_integers (d_are_integers fu) := ⟨⟨f_are_integers, _, ok_are_integers F_are_integers T C_is_integer, PySem.W.mg_of X G a_are_integers, k_are_integers, b_are_integers, fun us hl s => match us, hl with | [_], _ => .of_eq rfl⟩⟩
  have C_need_polynomial : Cl l.prog w (gOf K mg cn) base 3 "need_polynomial" p_need_polynomial (d_need_polynomial fu) := ⟨⟨f_need_polynomial, _, ok_need_polynomial F_need_polynomial T, PySem.W.mg_of X G a_need_polynomial, k_need_polynomial, b_need_polynomial, fun us hl s => match us, hl with | [_, _], _ => .of_eq rfl⟩⟩
  have C_trimmed : Cl l.prog w (gOf K mg cn) base 1 "trimmed" p_trimmed (d_trimmed fu) := ⟨⟨f_trimmed, _, ok_trimmed F_trimmed T, PySem.W.mg_of X G a_trimmed, k_trimmed, b_trimmed, fun us hl s => match us, hl with | [_], _ => .of_eq rfl⟩⟩
  have C_shifted_by : Cl l.prog w (gOf K mg cn) base 1 "shifted_by" p_shifted_by (d_shifted_by fu) := ⟨⟨f_shifted_by, _, ok_shifted_by F_shifted_by T, PySem.W.mg_of X G a_shifted_by, k_shifted_by, b_shifted_by, fun us hl s => match us, hl with | [_, _], _ => .of_eq rfl⟩⟩
  have C_PolynomialX_initX : Cm l.prog w (gOf K mg cn) base 3 "Polynomial" 0 p_PolynomialX_initX (d_PolynomialX_initX fu) := ⟨⟨f_PolynomialX_initX, _, ⟨mkC0, a_PolynomialX_initX, i_PolynomialX_initX, kcC0⟩, ok_PolynomialX_initX F_PolynomialX_initX T C_are_integers C_trimmed, PySem.W.mg_of X G aC0, b_PolynomialX_initX⟩⟩
  have C_is_above : Cl l.prog w (gOf K mg cn) base 2 "is_above" p_is_above (d_is_above fu) := ⟨⟨f_is_above, _, ok_is_above F_is_above T C_shifted_by, PySem.W.mg_of X G a_is_above, k_is_above, b_is_above, fun us hl s => match us, hl with | [_, _], _ => .of_eq rfl⟩⟩
  have C_least_above : Cl l.prog w (gOf K mg cn) base 3 "least_above" p_least_above (d_least_above fu) := ⟨⟨f_least_above, _, ok_least_above F_least_above T C_is_above, PySem.W.mg_of X G a_least_above, k_least_above, b_least_above, fun us hl s => match us, hl with | [_], _ => .of_eq rfl⟩⟩
  have C_above_from : Cl l.prog w (gOf K mg cn) base 4 "above_from" p_above_from (d_above_from fu) := ⟨⟨f_above_from, _, ok_above_from F_above_from T C_need_polynomial C_least_above, PySem.W.mg_of X G a_above_from, k_above_from, b_above_from, fun us hl s => match us, hl with | [_], _ => .of_eq rfl⟩⟩
  have C__law_jug : Cl l.prog w (gOf K mg cn) base 1 "_law_jug" p__law_jug (d__law_jug fu) := ⟨⟨f__law_jug, _, ok__law_jug F__law_jug T, PySem.W.mg_of X G a__law_jug, k__law_jug, b__law_jug, fun us hl s => match us, hl with | [_], _ => .of_eq rfl⟩⟩
  have C__law_pour : Cl l.prog w (gOf K mg cn) base 1 "_law_pour" p__law_pour (d__law_pour fu) := ⟨⟨f__law_pour, _, ok__law_pour F__law_pour T, PySem.W.mg_of X G a__law_pour, k__law_pour, b__law_pour, fun us hl s => match us, hl with | [_, _], _ => .of_eq rfl⟩⟩
  have C__law_of : Cl l.prog w (gOf K mg cn) base 2 "_law_of" p__law_of (d__law_of fu) := ⟨⟨f__law_of, _, ok__law_of F__law_of T C__law_pour, PySem.W.mg_of X G a__law_of, k__law_of, b__law_of, fun us hl s => match us, hl with | [_, _], _ => .of_eq rfl⟩⟩
  have C__law_cut : Cl l.prog w (gOf K mg cn) base 1 "_law_cut" p__law_cut (d__law_cut fu) := ⟨⟨f__law_cut, _, ok__law_cut F__law_cut T, PySem.W.mg_of X G a__law_cut, k__law_cut, b__law_cut, fun us hl s => match us, hl with | [_], _ => .of_eq rfl⟩⟩
  have C__law_worth : Cl l.prog w (gOf K mg cn) base 1 "_law_worth" p__law_worth (d__law_worth fu) := ⟨⟨f__law_worth, _, ok__law_worth F__law_worth T, PySem.W.mg_of X G a__law_worth, k__law_worth, b__law_worth, fun us hl s => match us, hl with | [_, _], _ => .of_eq rfl⟩⟩
  have C__law_power : Cl l.prog w (gOf K mg cn) base 1 "_law_power" p__law_power (d__law_power fu) := ⟨⟨f__law_power, _, ok__law_power F__law_power T, PySem.W.mg_of X G a__law_power, k__law_power, b__law_power, fun us hl s => match us, hl with | [_, _], _ => .of_eq rfl⟩⟩
  have C__law_times : Cl l.prog w (gOf K mg cn) base 2 "_law_times" p__law_times (d__law_times fu) := ⟨⟨f__law_times, _, ok__law_times F__law_times T C__law_cut, PySem.W.mg_of X G a__law_times, k__law_times, b__law_times, fun us hl s => match us, hl with | [_, _], _ => .of_eq rfl⟩⟩
  have C__law_choose : Cl l.prog w (gOf K mg cn) base 1 "_law_choose" p__law_choose (d__law_choose fu) := ⟨⟨f__law_choose, _, ok__law_choose F__law_choose T, PySem.W.mg_of X G a__law_choose, k__law_choose, b__law_choose, fun us hl s => match us, hl with | [_, _], _ => .of_eq rfl⟩⟩
  have C__law_moved : Cl l.prog w (gOf K mg cn) base 2 "_law_moved" p__law_moved (d__law_moved fu) := ⟨⟨f__law_moved, _, ok__law_moved F__law_moved T C__law_power C__law_choose, PySem.W.mg_of X G a__law_moved, k__law_moved, b__law_moved, fun us hl s => match us, hl with | [_, _], _ => .of_eq rfl⟩⟩
  have C__law_is_above : Cl l.prog w (gOf K mg cn) base 3 "_law_is_above" p__law_is_above (d__law_is_above fu) := ⟨⟨f__law_is_above, _, ok__law_is_above F__law_is_above T C__law_moved, PySem.W.mg_of X G a__law_is_above, k__law_is_above, b__law_is_above, fun us hl s => match us, hl with | [_, _], _ => .of_eq rfl⟩⟩
  have C__law_row : Cl l.prog w (gOf K mg cn) base 3 "_law_row" p__law_row (d__law_row fu) := ⟨⟨f__law_row, _, ok__law_row F__law_row T C__law_pour C__law_of C__law_cut C__law_times, PySem.W.mg_of X G a__law_row, k__law_row, b__law_row, fun us hl s => match us, hl with | [_], _ => .of_eq rfl⟩⟩
  have C__law_told_right : Cl l.prog w (gOf K mg cn) base 5 "_law_told_right" p__law_told_right (d__law_told_right fu) := ⟨⟨f__law_told_right, _, ok__law_told_right F__law_told_right T C_PolynomialX_initX C_above_from C__law_pour C__law_of C__law_worth C__law_times C__law_is_above, PySem.W.mg_of X G a__law_told_right, k__law_told_right, b__law_told_right, fun us hl s => match us, hl with | [_, _], _ => .of_eq rfl⟩⟩
  exact ok_law F_law T C_PolynomialX_initX C_above_from C__law_jug C__law_of C__law_cut C__law_row C__law_told_right
theorem walk {l : PySem.W.OpenLaw} {q : Program} {loose : List Str} {XP : (Str → Option Value) → Heap → Prop} {YP : World → Heap → Prop} {d : DefRec} {K : Params → PySem.W.Frag} (hn : l.most = some 63) (hdf : d.params.defaults = [])
    (hY : ∀ (w : World) (h : Heap), YP w h → (K w.params).In h)
    (F : ∀ (w : World) (mg : Str → Option Value) (fa : Addr) (h : Heap), (K w.params).In h → h.Ns mainGlobals mg → mg d.name = some (.ref fa) →
      ∃ fd : FuncData, (∀ (s : Shared) (u : Value), BindsTo s fd ⟨[u], []⟩ [("_law_script", u)]) ∧ ∀ base : Heap, (K w.params).In base → base.Ns mainGlobals mg → FnOk l.prog w (K w.params) mg base (L2.CX l.prog w) 6 fa fd ["_law_script"] (spLaw (K w.params))) :
    PySem.W.WalkO q loose XP YP l.row.toRowW d [] (fun f vs => PySem.call f vs) :=
  L2.walk_ofB (n := 63) (k := 6) (x := "_law_script") (CX := fun w => L2.CX l.prog w) (sp := fun w => spLaw (K w.params)) hn (by decide) hdf ⟨rfl, by decide, by decide⟩ hY F (fun _ _ a ns hl hb _ hS => ⟨a, ns, rfl, hS, hl, hb, fun _ => rfl⟩) fun _ _ _ _ _ ⟨_, _, _, _, _, _, _, _, _, _, _, _, z⟩ => z
end K30
open PySem PySem.W PyProof.Rows in
set_option maxRecDepth 100000 in
set_option maxHeartbeats 0 in
theorem PySem.Challenge.cw_thincoins_k30_above_from_some_m_on_holds : PySem.Challenge.rw_thincoins_k30_above_from_some_m_on.Holds := by
  w_on; o_law; k_head; (case hw => w_witness2)
  k_fill
  refine K30.walk (l := PySem.Challenge.rw_thincoins_k30_above_from_some_m_on) rfl rfl (fun w h Y => PySem.W.kIn_of Y) ?F
  case F =>
    intro w mg fa h KX G hmg
    refine' K30.all_mk KX G hmg ?aC0 ?pgC0 ?hdC0 ?poC0 ?saC0 ?haC0 ?hnC0 ?htC0 ?hmC0 ?mkC0 ?kcC0 ?noC0_numbers ?noC0_degree ?icC0 ?tyC0 ?aC101 ?xLC101 ?saC101 ?gaC101 ?ggC101 ?noC101_part ?iC101 ?tC101 ?lC101 ?cC101 ?kfC101 ?kCC101 ?eCC101 ?tCC101 ?hCC101 ?iCC101 ?sCC101 ?z_abs ?z_all ?z_bool ?z_enumerate ?z_int ?z_isinstance ?z_len ?z_list ?z_max ?z_min ?z_range ?z_sum ?z_tuple ?v_LEAST_M ?a_is_integer ?l_is_integer ?c_is_integer ?k_is_integer ?a_are_integers ?l_are_integers ?c_are_integers ?k_are_integers ?a_need_polynomial ?l_need_polynomial ?c_need_polynomial ?k_need_polynomial ?a_trimmed ?l_trimmed ?c_trimmed ?k_trimmed ?a_shifted_by ?l_shifted_by ?c_shifted_by ?k_shifted_by ?a_PolynomialX_initX ?i_PolynomialX_initX ?l_PolynomialX_initX ?c_PolynomialX_initX ?k_PolynomialX_initX ?a_is_above ?l_is_above ?c_is_above ?k_is_above ?a_least_above ?l_least_above ?c_least_above ?k_least_above ?a_above_from ?l_above_from ?c_above_from ?k_above_from ?a__law_jug ?l__law_jug ?c__law_jug ?k__law_jug ?a__law_pour ?l__law_pour ?c__law_pour ?k__law_pour ?a__law_of ?l__law_of ?c__law_of ?k__law_of ?a__law_cut ?l__law_cut ?c__law_cut ?k__law_cut ?a__law_worth ?l__law_worth ?c__law_worth ?k__law_worth ?a__law_power ?l__law_power ?c__law_power ?k__law_power ?a__law_times ?l__law_times ?c__law_times ?k__law_times ?a__law_choose ?l__law_choose ?c__law_choose ?k__law_choose ?a__law_moved ?l__law_moved ?c__law_moved ?k__law_moved ?a__law_is_above ?l__law_is_above ?c__law_is_above ?k__law_is_above ?a__law_row ?l__law_row ?c__law_row ?k__law_row ?a__law_told_right ?l__law_told_right ?c__law_told_right ?k__law_told_right ?a_law ?l_law ?c_law ?k_law ?hlaw
    (case hlaw => exact K30.math)
    (case aC0 => k_is)
    (case pgC0 => k_is)
    (case hdC0 => k_is)
    (case poC0 => k_is)
    (case saC0 => k_is)
    (case haC0 => k_is)
    (case hnC0 => k_is)
    (case htC0 => k_is)
    (case hmC0 => k_is)
    (case mkC0 => k_is)
    (case kcC0 => k_is)
    (case noC0_numbers => k_is)
    (case noC0_degree => k_is)
    (case icC0 => k_is)
    (case tyC0 => k_is)
    (case aC101 => k_is)
    (case xLC101 => k_is)
    (case saC101 => k_is)
    (case gaC101 => k_is)
    (case ggC101 => k_is)
    (case noC101_part => k_is)
    (case iC101 => k_is)
    (case tC101 => k_is)
    (case lC101 => k_is)
    (case cC101 => k_is)
    (case kfC101 => k_is)
    (case kCC101 => k_is)
    (case eCC101 => k_is)
    (case tCC101 => k_is)
    (case hCC101 => k_is)
    (case iCC101 => k_is)
    (case sCC101 => k_is)
    (case z_abs => k_is)
    (case z_all => k_is)
    (case z_bool => k_is)
    (case z_enumerate => k_is)
    (case z_int => k_is)
    (case z_isinstance => k_is)
    (case z_len => k_is)
    (case z_list => k_is)
    (case z_max => k_is)
    (case z_min => k_is)
    (case z_range => k_is)
    (case z_sum => k_is)
    (case z_tuple => k_is)
    (case v_LEAST_M => k_is)
    (case a_is_integer => k_is)
    (case l_is_integer => k_is)
    (case c_is_integer => k_is)
    (case k_is_integer => k_is)
    (case a_are_integers => k_is)
    (case l_are_integers => k_is)
    (case c_are_integers => k_is)
    (case k_are_integers => k_is)
    (case a_need_polynomial => k_is)
    (case l_need_polynomial => k_is)
    (case c_need_polynomial => k_is)
    (case k_need_polynomial => k_is)
    (case a_trimmed => k_is)
    (case l_trimmed => k_is)
    (case c_trimmed => k_is)
    (case k_trimmed => k_is)
    (case a_shifted_by => k_is)
    (case l_shifted_by => k_is)
    (case c_shifted_by => k_is)
    (case k_shifted_by => k_is)
    (case a_PolynomialX_initX => k_is)
    (case i_PolynomialX_initX => k_is)
    (case l_PolynomialX_initX => k_is)
    (case c_PolynomialX_initX => k_is)
    (case k_PolynomialX_initX => k_is)
    (case a_is_above => k_is)
    (case l_is_above => k_is)
    (case c_is_above => k_is)
    (case k_is_above => k_is)
    (case a_least_above => k_is)
    (case l_least_above => k_is)
    (case c_least_above => k_is)
    (case k_least_above => k_is)
    (case a_above_from => k_is)
    (case l_above_from => k_is)
    (case c_above_from => k_is)
    (case k_above_from => k_is)
    (case a__law_jug => k_is)
    (case l__law_jug => k_is)
    (case c__law_jug => k_is)
    (case k__law_jug => k_is)
    (case a__law_pour => k_is)
    (case l__law_pour => k_is)
    (case c__law_pour => k_is)
    (case k__law_pour => k_is)
    (case a__law_of => k_is)
    (case l__law_of => k_is)
    (case c__law_of => k_is)
    (case k__law_of => k_is)
    (case a__law_cut => k_is)
    (case l__law_cut => k_is)
    (case c__law_cut => k_is)
    (case k__law_cut => k_is)
    (case a__law_worth => k_is)
    (case l__law_worth => k_is)
    (case c__law_worth => k_is)
    (case k__law_worth => k_is)
    (case a__law_power => k_is)
    (case l__law_power => k_is)
    (case c__law_power => k_is)
    (case k__law_power => k_is)
    (case a__law_times => k_is)
    (case l__law_times => k_is)
    (case c__law_times => k_is)
    (case k__law_times => k_is)
    (case a__law_choose => k_is)
    (case l__law_choose => k_is)
    (case c__law_choose => k_is)
    (case k__law_choose => k_is)
    (case a__law_moved => k_is)
    (case l__law_moved => k_is)
    (case c__law_moved => k_is)
    (case k__law_moved => k_is)
    (case a__law_is_above => k_is)
    (case l__law_is_above => k_is)
    (case c__law_is_above => k_is)
    (case k__law_is_above => k_is)
    (case a__law_row => k_is)
    (case l__law_row => k_is)
    (case c__law_row => k_is)
    (case k__law_row => k_is)
    (case a__law_told_right => k_is)
    (case l__law_told_right => k_is)
    (case c__law_told_right => k_is)
    (case k__law_told_right => k_is)
    (case a_law => k_is)
    (case l_law => k_is)
    (case c_law => k_is)
    (case k_law => k_is)
#print axioms PySem.Challenge.cw_thincoins_k30_above_from_some_m_on_holds

